import PyProof.Rows.All
import Wide.All
import OpenK.AllK
import Wide.FinOn
import PyProof.EqAt
import PyProof.EqKinds
import PyProof.TupleCall
import HandS.ForMost
import HandS.ForExc
import HandS.TryMany
import HandS.IsInst
import HandS.Flow
import HandS.Small
import HandS.CallSlots
import HandS.ExcIs
import HandS.Defaults
import HandS.Head0
import HandS.Head1
import HandS.Head2
import HandS.HeadEnd
import HandS.HeadHook1
import HandS.HeadHook2
import HandS.WideBits
import Lean
import HandS.StrMore
import HandS.DictComp
import HandS.Conv
import KE.GoesEnum
import KE.GoesMore
import HandS.ExcInit
import HandS.ExcField
import HandS.HeadHook4
import HandS.Deep
import HandS.Steps
import HandS.Text
import HandS.TupAny
import HandS.TupLen
import PyProof.P3Eq
import PyProof.P3In
import PyProof.NeData
import HandS.Replace
import HandS.More
import HandS.SetFor
import HandS.Strs
import HandS.Style
import HandS.SetBool
import HandS.SortInts
import HandS.Star
import PyProof.ReprRoads
import PyProof.ReprText
import HandS.Nested
import KE.KExcSuper
import HandS.Dict
import HandS.Property
import HandS.ReplaceLit
import HandS.ReplaceList
import KE.KIntText
import PySem.Challenge.RW_tongues_k44_expressions
set_option Elab.async false
set_option linter.all false
set_option maxRecDepth 100000
section
set_option maxHeartbeats 4000000
namespace Co
open PySem PySem.Spec PyProof.Rows L2
section
variable {X : Cx} {a b : Expr} {ta tb : TE} {pos : Pos}
theorem PE.imp {e : Expr} {t t' : TE} (h : PE X e t) (i : ∀ σ H Q, t' σ H Q → t σ H Q) : PE X e t' := ⟨fun pins s σ H Q I q => h.run pins s σ H Q I (i σ H Q q)⟩
theorem PT.imp {e : Expr} {t t' : TT} (h : PT X e t) (i : ∀ σ H Q, t' σ H Q → t σ H Q) : PT X e t' := ⟨fun pins s σ H Q I q => h.run pins s σ H Q I (i σ H Q q)⟩
theorem PW.imp {e : Expr} {t t' : TT} (h : PW X e t) (i : ∀ σ H Q, t' σ H Q → t σ H Q) : PW X e t' := ⟨fun wh pins s σ H Q I q => h.run wh pins s σ H Q I (i σ H Q q)⟩
theorem PS.imp {st : Stmt} {t t' : TS} (h : PS X st t) (i : ∀ D σ H, t' D σ H → t D σ H) : PS X st t' := ⟨fun pins s σ H D I q => h.run pins s σ H D I (i D σ H q)⟩
def tV (i : Nat) : TE := fun σ H Q => match σ[i]? with
  | some (some v) => Q v H
  | _ => False
theorem v_of {i : Nat} {σ : L2.St} {H : Hp} {Q : VK} (h : tV i σ H Q) : tVar i σ H Q := by
  unfold tV at h
  split at h
  · exact ⟨_, by assumption, h⟩
  · exact h.elim
theorem va (i : Nat) {x : Str} {pos : Pos} (hN : X.N[i]? = some x := by rfl) (hv : Vis X.env.scope x := by first | exact Or.inl rfl | exact Or.inr (Or.inl rfl) | exact Or.inr (Or.inr rfl)) (hd : (x == ("__debug__" : Str)) = false := by decide)
    (hcd : (x == ("__classdict__" : Str)) = false := by decide) : PE X (.Name x pos) (tV i) := PE.imp (pe_var hN hv hd hcd) fun _ _ _ => v_of
theorem OpR.imp {f : Value → Value → Sem Value} {r r' : R2} (h : OpR X f r) (i : ∀ x y H Q, r' x y H Q → r x y H Q) : OpR X f r' := fun pins s σ H x y v u Q I rx ry q => h pins s σ H x y v u Q I rx ry (i _ _ _ _ q)
theorem CallR.imp {f : Value} {r r' : List V → Hp → VK → Prop} (h : CallR X f r) (i : ∀ xs H Q, r' xs H Q → r xs H Q) : CallR X f r' := fun pins s σ H xs us Q I rx q => h pins s σ H xs us Q I rx (i _ _ _ q)
def fII (g : Int → Int → V) : R2 := fun x y H Q => match x, y with
  | .int i, .int j => Q (g i j) H
  | _, _ => False
theorem fII_of {g : Int → Int → V} {x y : V} {H : Hp} {Q : VK} (h : fII g x y H Q) : rI0 g x y H Q := by
  unfold fII at h
  split at h
  · exact ⟨_, _, rfl, rfl, h⟩
  · exact h.elim
def fIC (C : Int → Int → Prop) (g : Int → Int → V) : R2 := fun x y H Q => match x, y with
  | .int i, .int j => C i j ∧ Q (g i j) H
  | _, _ => False
theorem fIC_of {C : Int → Int → Prop} {g : Int → Int → V} {x y : V} {H : Hp} {Q : VK} (h : fIC C g x y H Q) : rI C g x y H Q := by
  unfold fIC at h
  split at h
  · exact ⟨_, _, rfl, rfl, h.1, h.2⟩
  · exact h.elim
def fAdd : R2 := fII fun i j => .int (i + j)
def fSub : R2 := fII fun i j => .int (i - j)
def CMulL (i j : Int) : Prop := (-(2 ^ 64) < i ∧ i < 2 ^ 64) ∨ (-(2 ^ 64) < j ∧ j < 2 ^ 64) ∨ (i.natAbs < 2 ^ 250 ∧ j.natAbs < 2 ^ 250)
theorem CMulL.ok {i j : Int} (h : CMulL i j) : IntMulOk i j := by
  rcases h with h | h | ⟨h1, h2⟩
  · exact CMul.ok (.inl h)
  · exact CMul.ok (.inr h)
  · refine CMulX.ok ?_
    have a := intBits_le h1
    have b := intBits_le h2
    unfold CMulX
    omega
def fMul : R2 := fIC CMulL fun i j => .int (i * j)
def fMod : R2 := fIC (fun _ j => 0 < j) fun i j => .int (i % j)
def CDivL (i j : Int) : Prop := 0 < j ∧ j < 2 ^ 250
theorem noPy {i j : Int} (h : CDivL i j) : Builtin.divisionGoesByPylong i j = false := by
  obtain ⟨h1, h2⟩ := h
  have h3 : j.natAbs < 2 ^ 250 := by omega
  have h4 : j.natAbs ≠ 0 := by omega
  have h5 : j.natAbs.log2 < 250 := (Nat.log2_lt h4).mpr h3
  have h6 : (j == 0) = false := by simp; omega
  have h7 : ¬ j.natAbs.log2 / 30 + 1 > 300 := by omega
  unfold Builtin.divisionGoesByPylong
  simp only [h6, Bool.false_eq_true, if_false, Bool.and_eq_false_iff, decide_eq_false_iff_not]
  exact .inl h7
def fDiv : R2 := fIC CDivL fun i j => .int (i / j)
def fPow : R2 := fIC CPow fun i j => .int (i ^ j.toNat)
theorem o_add : OpR X (binaryOp .Add) fAdd := OpR.imp op_add fun _ _ _ _ => fII_of
theorem o_sub : OpR X (binaryOp .Sub) fSub := OpR.imp op_sub fun _ _ _ _ => fII_of
theorem o_mul : OpR X (binaryOp .Mult) fMul := OpR.imp (r := rI CMulL fun i j => .int (i * j)) (opI fun _ _ _ _ _ _ _ hc q => mul_int q hc.ok) fun _ _ _ _ => fIC_of
theorem o_mod : OpR X (binaryOp .Mod) fMod := OpR.imp op_mod fun _ _ _ _ => fIC_of
theorem o_div : OpR X (binaryOp .FloorDiv) fDiv := OpR.imp (r := rI CDivL fun i j => .int (i / j)) (opI fun i j _ _ _ _ _ hc q => by
  have hj : (0 : Int) < j := hc.1
  rw [← Int.fdiv_eq_ediv_of_nonneg i (Int.le_of_lt hj)] at q
  exact floordiv_int (by omega) q (.inl (noPy hc))) fun _ _ _ _ => fIC_of
theorem o_pow : OpR X (binaryOp .Pow) fPow := OpR.imp op_pow fun _ _ _ _ => fIC_of
def fLt : R2 := fII fun i j => .bl (decide (i < j))
def fGt : R2 := fII fun i j => .bl (decide (j < i))
def fGe : R2 := fII fun i j => .bl (decide (j ≤ i))
theorem o_lt : OpR X (compareOp .Lt) fLt := OpR.imp op_lt fun _ _ _ _ => fII_of
theorem o_gt : OpR X (compareOp .Gt) fGt := OpR.imp op_gt fun _ _ _ _ => fII_of
theorem o_ge : OpR X (compareOp .GtE) fGe := OpR.imp op_ge fun _ _ _ _ => fII_of
def fAddS : R2 := fun x y H Q => match x, y with
  | .str i, .str j => i.length + j.length ≤ sizeLine ∧ Q (.str (i ++ j)) H
  | _, _ => False
theorem o_addS : OpR X (binaryOp .Add) fAddS := OpR.imp op_add_str fun x y H Q h => by
  unfold fAddS at h
  split at h
  · exact ⟨_, _, rfl, rfl, h.1, h.2⟩
  · exact h.elim
def eqS : V → V → Option Bool
  | .non, .non => some true | .non, .int _ => some false | .int _, .non => some false | .non, .bl _ => some false | .bl _, .non => some false | .non, .str _ => some false | .str _, .non => some false
  | .int i, .int j => some (decide (i = j)) | .bl i, .bl j => some (decide (i = j)) | .str i, .str j => some (decide (i = j))
  | .int _, .str _ => some false | .str _, .int _ => some false | .bl _, .str _ => some false | .str _, .bl _ => some false
  | _, _ => none
theorem eqS_of {x y : V} {b : Bool} (h : eqS x y = some b) : scal x y = true ∧ decide (x = y) = b := by
  cases x <;> cases y <;> simp only [eqS, Option.some.injEq, reduceCtorEq] at h <;> subst h <;> simp [scal]
def fEq : R2 := fun x y H Q => match eqS x y with
  | some b => Q (.bl b) H
  | none => False
def fNe : R2 := fun x y H Q => match eqS x y with
  | some b => Q (.bl (!b)) H
  | none => False
theorem o_eq : OpR X (compareOp .Eq) fEq := OpR.imp op_eq fun x y H Q h => by
  unfold fEq at h
  split at h
  · rename_i b e
    obtain ⟨h1, h2⟩ := eqS_of e
    exact ⟨h1, by rw [h2]; exact h⟩
  · exact h.elim
theorem o_ne : OpR X (compareOp .NotEq) fNe := OpR.imp op_ne fun x y H Q h => by
  unfold fNe at h
  split at h
  · rename_i b e
    obtain ⟨h1, h2⟩ := eqS_of e
    exact ⟨h1, by rw [h2]; exact h⟩
  · exact h.elim
def fNeg : V → Hp → VK → Prop := fun x H Q => match x with
  | .int i => Q (.int (-i)) H
  | _ => False
theorem u_neg : UnR X (unaryOp .USub) fNeg := fun pins s σ H x v Q I r h => by
  unfold fNeg at h
  split at h
  · exact un_neg pins s σ H _ v Q I r ⟨_, rfl, h⟩
  · exact h.elim
def tBo (t : TE) : TT := fun σ H Q => t σ H fun x H1 => match x with
  | .bl c => Q c H1
  | _ => False
theorem bl_fun {Q : Bool → Hp → Prop} : (fun (x : V) (H1 : Hp) => ∃ c, x = .bl c ∧ Q c H1) = fun x H1 => match x with
  | .bl c => Q c H1
  | _ => False := by
  funext x H1
  cases x <;> simp
theorem t_cmp {op : CmpOp} {r : R2} (ho : OpR X (compareOp op) r) (ha : PE X a ta) (hb : PE X b tb) (hm : behindInMarks op b = false) : PT X (.Compare a [op] [b] pos) (tBo (tOp r ta tb)) := PT.imp (pt_cmpR ho ha hb hm) fun σ H Q h => by
  unfold tTest
  rw [bl_fun]
  exact h
def two (c : Bool) (p q : Prop) : Prop := (c = true → p) ∧ (c = false → q)
theorem two_eq {c : Bool} {p q : Prop} : (if c = true then p else q) = two c p q := by
  cases c <;> simp [two]
theorem twoT {p q : Prop} (h : p) : two true p q := ⟨fun _ => h, fun e => nomatch e⟩
theorem twoF {p q : Prop} (h : q) : two false p q := ⟨fun e => (nomatch e), fun _ => h⟩
def uAnd (t u : TT) : TT := fun σ H Q => t σ H fun c H1 => two c (u σ H1 Q) (Q false H1)
def uOr (t u : TT) : TT := fun σ H Q => t σ H fun c H1 => two c (Q true H1) (u σ H1 Q)
theorem w_and {tA tB' : TT} {rest : List Expr} (ha : PT X a tA) (hb : PW X (.BoolOp .And (b :: rest) pos) tB') : PW X (.BoolOp .And (a :: b :: rest) pos) (uAnd tA tB') := PW.imp (pw_and ha hb) fun σ H Q h => by
  unfold tAnd
  simp only [two_eq]
  exact h
theorem w_or {tA tB' : TT} {rest : List Expr} (ha : PT X a tA) (hb : PW X (.BoolOp .Or (b :: rest) pos) tB') : PW X (.BoolOp .Or (a :: b :: rest) pos) (uOr tA tB') := PW.imp (pw_or ha hb) fun σ H Q h => by
  unfold tOr
  simp only [two_eq]
  exact h
def uIf (t : TT) (ta tb : TE) : TE := fun σ H Q => t σ H fun c H1 => two c (ta σ H1 Q) (tb σ H1 Q)
theorem e_if {c : Expr} {tA : TT} (hc : PT X c tA) (ha : PE X a ta) (hb : PE X b tb) : PE X (.IfExp c a b pos) (uIf tA ta tb) := PE.imp (pe_ifExp hc ha hb) fun σ H Q h => by
  unfold tIf
  simp only [two_eq]
  exact h
def uIfS (c : TT) (t u : TS) : TS := fun D σ H => c σ H fun b H1 => two b (t D σ H1) (u D σ H1)
theorem s_if {c : Expr} {p q : List Stmt} {tc : TT} {t u : TS} (hc : PT X c tc) (ha : PSs X p t) (hb : PSs X q u) : PS X (.If c p q pos) (uIfS tc t u) := PS.imp (ps_if hc ha hb) fun D σ H h => by
  unfold tIfS
  simp only [two_eq]
  exact h
def cInt : List V → Hp → VK → Prop := fun xs H Q => match xs with
  | [.int i] => Q (.int i) H
  | [.bl k] => Q (.int (if k then 1 else 0)) H
  | _ => False
theorem c_int : CallR X (.type "int") cInt := CallR.imp call_int1 fun xs H Q h => by
  unfold cInt at h
  split at h
  · exact .inl ⟨_, rfl, h⟩
  · exact .inr ⟨_, rfl, h⟩
  · exact h.elim
end
structure Def (P : Program) (w : World) (K : PySem.W.Frag) (mg : Str → Option Value) (base : Heap) (k : Nat) (f : Addr) (ps : List Str) (sp : Sp) : Prop where
  ex : ∃ fd, FnOk P w K mg base (L2.CX P w) k f fd ps sp ∧ Binds K fd ps []
  kp : PySem.W.keepIn K (.ref f) = true
section
variable {P : Program} {w : World} {K : PySem.W.Frag} {mg : Str → Option Value} {base : Heap} {k : Nat} {f : Addr} {ps : List Str} {sp : Sp}
theorem Def.mono {j : Nat} (d : Def P w K mg base j f ps sp) (h : j ≤ k) : Def P w K mg base k f ps sp := ⟨let ⟨fd, F, b⟩ := d.ex; ⟨fd, F.mono h, b⟩, d.kp⟩
theorem Def.imp {sp' : Sp} (d : Def P w K mg base k f ps sp) (h : ∀ vs H Q E, sp' vs H Q E → sp vs H Q E) : Def P w K mg base k f ps sp' := ⟨let ⟨fd, F, b⟩ := d.ex; ⟨fd, F.imp h, b⟩, d.kp⟩
theorem Def.of {x qual : Str} {params : Arguments} {body : List Stmt} {scope : Scope} {fd : FuncData} {N : List Str} (F : FunD K x qual params body scope [] [] f fd) (S : FnScope N ps scope)
    (hb : ∀ (kV doc pm : Value) (an : Option Addr) (cdv ct : Value) (us : List Value), us.length = ps.length → bindArgs (PySem.W.fnOf x qual params body scope .none kV doc pm an cdv ct) ⟨us, []⟩ = pure (ps.zip us))
    (len : ∀ vs H Q E, sp vs H Q E → vs.length = ps.length)
    (hbody : ∀ (cdv : Value) (A : Around) (outer : List Env) (s : Shared) (H : Hp) (vs : List V) (Q : VK) (E : XK), Room k (A.deeper (envOfC qual scope s.heap.objs.size f cdv)) → sp vs H Q E →
      ∃ t, PSs (cxOf (L2.CX P w) P w K mg base N qual scope f cdv A outer s H E) body t ∧ t { nx := fun _ H' => Q .non H', rt := Q } (start N vs) H) : Def P w K mg base (k + 1) f ps sp :=
  ⟨⟨fd, F.ok S len hbody, FunD.bindsN F hb⟩, F.kp⟩
theorem Def.zero {x qual : Str} {params : Arguments} {body : List Stmt} {scope : Scope} {fd : FuncData} (F : FunD K x qual params body scope [] [] f fd)
    (hb : ∀ (kV doc pm : Value) (an : Option Addr) (cdv ct : Value) (us : List Value), us.length = ps.length → bindArgs (PySem.W.fnOf x qual params body scope .none kV doc pm an cdv ct) ⟨us, []⟩ = pure (ps.zip us)) : Def P w K mg base 0 f ps (fun _ _ _ _ => False) :=
  ⟨⟨fd, ⟨fun _ _ _ _ h => h.elim, fun _ _ _ _ _ _ _ _ _ _ _ _ _ h => h.elim⟩, FunD.bindsN F hb⟩, F.kp⟩
end
section
variable {X : Cx} {k : Nat} {f C : Addr} {ps : List Str} {sp : Sp} {E : XK} {x m : Str} {p pos apos : Pos} {e o : Expr} {es : List Expr} {ta : TE} {t : TA}
def uCall (sp : Sp) (E : XK) (t : TA) : TE := fun σ H Q => t σ H fun vs H1 => sp vs H1 Q E
theorem e_call (d : Def X.prog X.w X.K X.mg X.base k f ps sp) (hr : Room k X.A) (hg : Gl X x) (hm : X.mg x = some (.ref f)) (hx : Passes (L2.CX X.prog X.w) X E)
    (ha : PA X (e :: es) t) (hdb : (x == ("__debug__" : Str)) = false := by decide) (he : starEach (e :: es) X.env = (false, eval e X.env) :: starEach es X.env := by rfl) (hpl : (backTo pos (starEach es X.env)).any (·.1) = false := by rfl) :
    PE X (.Call (.Name x p) (e :: es) [] pos) (uCall sp E t) := by
  obtain ⟨fd, F, b⟩ := d.ex
  refine PE.imp (pe_call (pos := pos) (p := p) F hr hg hm d.kp b .nil hx ha hdb he hpl) fun σ H Q h => ?_
  unfold tCall
  simp only [List.append_nil]
  exact h
theorem e_call0 (d : Def X.prog X.w X.K X.mg X.base k f ps sp) (hr : Room k X.A) (hg : Gl X x) (hm : X.mg x = some (.ref f)) (hx : Passes (L2.CX X.prog X.w) X E)
    (hdb : (x == ("__debug__" : Str)) = false := by decide) : PE X (.Call (.Name x p) [] [] pos) (uCall sp E tNil) := by
  obtain ⟨fd, F, b⟩ := d.ex
  exact PE.imp (pe_call0 F hr hg hm d.kp b .nil hx hdb) fun σ H Q h => h
def uCallS (sp : Sp) (E : L2.St → XK) (t : TA) : TE := fun σ H Q => t σ H fun vs H1 => sp vs H1 Q (E σ)
theorem e_callS {E : L2.St → XK} (d : Def X.prog X.w X.K X.mg X.base k f ps sp) (hr : Room k X.A) (hg : Gl X x) (hm : X.mg x = some (.ref f)) (hx : ∀ σ, PassesAt (L2.CX X.prog X.w) X σ (E σ))
    (ha : PA X (e :: es) t) (hdb : (x == ("__debug__" : Str)) = false := by decide) (he : starEach (e :: es) X.env = (false, eval e X.env) :: starEach es X.env := by rfl) (hpl : (backTo pos (starEach es X.env)).any (·.1) = false := by rfl) :
    PE X (.Call (.Name x p) (e :: es) [] pos) (uCallS sp E t) := by
  obtain ⟨fd, F, b⟩ := d.ex
  exact pe_callS F hr hg hm d.kp b hx ha hdb he hpl
def uMeth (C : Addr) (m : Str) (sp : Sp) (E : L2.St → XK) (ta : TE) (t : TA) : TE := fun σ H Q => ta σ H fun x H1 => ∃ a dx fs, x = .ref a ∧ H1 a = some (.ins C dx fs) ∧ fs.lookup m = none ∧ t σ H1 fun vs H2 => sp (x :: vs) H2 Q (E σ)
theorem e_meth {pl : Sem Bool} {E : L2.St → XK} (he : PE X o ta) (c : Cls X.K C) (hm : Meth X.K C m f) (d : Def X.prog X.w X.K X.mg X.base k f ps sp) (hr : Room k X.A) (hx : ∀ σ, PassesAt (L2.CX X.prog X.w) X σ (E σ)) (ha : PA X (e :: es) t)
    (hst : starEach (e :: es) X.env = (false, eval e X.env) :: starEach es X.env := by rfl) (hpl : (backTo pos (starEach es X.env)).any (·.1) = false := by rfl)
    (ht : eval (.Call (.Attribute o m apos) (e :: es) [] pos) X.env = (do
      let ov ← eval o X.env
      standAt apos.atName
      let (f, first) ← holding [ov] (getMethod ov m pl)
      callWith pos f first (backTo pos (starEach (e :: es) X.env)) (backToKw pos (keywordEach [] X.env))) := by rfl) :
    PE X (.Call (.Attribute o m apos) (e :: es) [] pos) (uMeth C m sp E ta t) := by
  obtain ⟨fd, F, b⟩ := d.ex
  refine ⟨fun pins s σ H Q I h => ?_⟩
  refine PySem.W.methodCall_KW (pl := pl) (thn (he.run pins s σ H _ I h) fun u s1 ⟨x, H1, I1, rx, a, dx, fs, ex, ea, l, q⟩ => ?_) ht
  subst ex
  obtain rfl : u = Value.ref a := rx
  refine getmeth_ok I1 ea c hm l ?_
  refine PySem.W.callWith_K (first := [.ref a]) (h₀ := X.base) I.ok.mod.kin hm.kp (thn (ha.run pos pins s1 σ H1 _ I1 q) fun us s2 ⟨vs, H2, I2, r, q2⟩ => ⟨I2.kIn, ?_⟩) hst hpl
  exact run_fnS (us := .ref a :: us) (vs := .ref a :: vs) F hr b (hx σ) I2 (.cons rfl r) q2
theorem e_meth0 {pl : Sem Bool} {E : L2.St → XK} (he : PE X o ta) (c : Cls X.K C) (hm : Meth X.K C m f) (d : Def X.prog X.w X.K X.mg X.base k f ps sp) (hr : Room k X.A) (hx : ∀ σ, PassesAt (L2.CX X.prog X.w) X σ (E σ))
    (ht : eval (.Call (.Attribute o m apos) [] [] pos) X.env = (do
      let ov ← eval o X.env
      standAt apos.atName
      let (f, first) ← holding [ov] (getMethod ov m pl)
      callWith pos f first (backTo pos (starEach [] X.env)) (backToKw pos (keywordEach [] X.env))) := by rfl) :
    PE X (.Call (.Attribute o m apos) [] [] pos) (uMeth C m sp E ta tNil) := by
  obtain ⟨fd, F, b⟩ := d.ex
  refine ⟨fun pins s σ H Q I h => ?_⟩
  refine PySem.W.methodCall_KW (pl := pl) (thn (he.run pins s σ H _ I h) fun u s1 ⟨x, H1, I1, rx, a, dx, fs, ex, ea, l, q⟩ => ?_) ht
  subst ex
  obtain rfl : u = Value.ref a := rx
  refine getmeth_ok I1 ea c hm l ?_
  exact PySem.W.callWith_K0 (first := [.ref a]) I1.kIn hm.kp (run_fnS (us := [.ref a]) (vs := [.ref a]) F hr b (hx σ) I1 (.cons rfl .nil) q)
theorem pass_none {σ : L2.St} {W : L2.St → XK} (h : ∀ σ c d H, ¬ W σ c d H) : PassesAt (L2.CX X.prog X.w) X σ (W σ) := fun _ _ _ _ _ _ c => by
  obtain ⟨_, _, _, _, _, _, _, _, _, _, _, _, z⟩ := c
  exact (h _ _ _ _ z).elim
end
end Co
end

section
set_option maxHeartbeats 4000000
namespace Co
open PySem PySem.Spec PyProof.Rows L2
abbrev St := L2.St
section
variable {X : Cx} {a b : Expr} {ta tb : TE} {pos : Pos}
def rTupOf (K : PySem.W.Frag) : List V → Hp → VK → Prop := fun xs H Q => ∃ p ys, xs = [.ref p] ∧ ((SqL K H p ys ∧ ∀ l, H l = none → Q (.ref l) (upd H l (.tup ys))) ∨ (SqT K H p ys ∧ Q (.ref p) H))
def rListOf (K : PySem.W.Frag) : List V → Hp → VK → Prop := fun xs H Q => ∃ p ys, xs = [.ref p] ∧ (SqL K H p ys ∨ SqT K H p ys) ∧ ∀ l, H l = none → Q (.ref l) (upd H l (.lst ys))
def isiS : V → String → Option Bool
  | .non, c => if c = "tuple" ∨ c = "list" ∨ c = "dict" ∨ c = "int" ∨ c = "str" ∨ c = "bool" then some false else none
  | .bl _, c => if c = "bool" ∨ c = "int" then some true else if c = "tuple" ∨ c = "list" ∨ c = "dict" ∨ c = "str" then some false else none
  | .int _, c => if c = "int" then some true else if c = "tuple" ∨ c = "list" ∨ c = "dict" ∨ c = "str" ∨ c = "bool" then some false else none
  | .str _, c => if c = "str" then some true else if c = "tuple" ∨ c = "list" ∨ c = "dict" ∨ c = "int" ∨ c = "bool" then some false else none
  | _, _ => none
def isiR (t c : String) : Prop := (t = "list" ∨ t = "tuple" ∨ t = "dict") ∧ (c = "tuple" ∨ c = "list" ∨ c = "dict" ∨ c = "int" ∨ c = "str" ∨ c = "bool")
def cIsi (K : PySem.W.Frag) : List V → Hp → VK → Prop := fun xs H Q => match xs with
  | [.ref p, .ty c] => ∃ t, TyX K H (.ref p) (.type t) ∧ isiR t c ∧ Q (.bl (decide (t = c))) H
  | [x, .ty c] => (match isiS x c with
    | some b => Q (.bl b) H
    | none => False)
  | _ => False
theorem isi_kit {K : PySem.W.Frag} {t c : String} (h : isiR t c) : PySem.W.kitOne K (.type t) (.type c) = some (decide (t = c)) := by
  obtain ⟨h1, h2⟩ := h
  rcases h1 with rfl | rfl | rfl <;> rcases h2 with rfl | rfl | rfl | rfl | rfl | rfl <;> exact kit_ty (by decide +kernel)
theorem isiS_ok {K : PySem.W.Frag} {H : Hp} {x : V} {c : String} {b : Bool} (h : isiS x c = some b) : ∃ t, TyX K H x (.type t) ∧ PySem.W.kitOne K (.type t) (.type c) = some b := by
  cases x <;> simp only [isiS] at h
  case non =>
    split at h
    · rename_i q
      cases h
      rcases q with rfl | rfl | rfl | rfl | rfl | rfl <;> exact ⟨"NoneType", .base .non, kit_ty (by decide +kernel)⟩
    · cases h
  case bl v =>
    split at h
    · rename_i q
      cases h
      rcases q with rfl | rfl <;> exact ⟨"bool", .base (.bl v), kit_ty (by decide +kernel)⟩
    · split at h
      · rename_i q
        cases h
        rcases q with rfl | rfl | rfl | rfl <;> exact ⟨"bool", .base (.bl v), kit_ty (by decide +kernel)⟩
      · cases h
  case int v =>
    split at h
    · rename_i q
      cases h
      subst q
      exact ⟨"int", .base (.int v), kit_ty (by decide +kernel)⟩
    · split at h
      · rename_i q
        cases h
        rcases q with rfl | rfl | rfl | rfl | rfl <;> exact ⟨"int", .base (.int v), kit_ty (by decide +kernel)⟩
      · cases h
  case str v =>
    split at h
    · rename_i q
      cases h
      subst q
      exact ⟨"str", .base (.str v), kit_ty (by decide +kernel)⟩
    · split at h
      · rename_i q
        cases h
        rcases q with rfl | rfl | rfl | rfl | rfl <;> exact ⟨"str", .base (.str v), kit_ty (by decide +kernel)⟩
      · cases h
  all_goals cases h
theorem c_isi : CallR X (.builtin "isinstance") (cIsi X.K) := CallR.imp call_isi fun xs H Q h => by
  unfold cIsi at h
  split at h
  · obtain ⟨t, ty, r, q⟩ := h
    exact ⟨_, _, _, _, _, rfl, .ty _, ty, isi_kit r, q⟩
  · split at h
    · rename_i b e
      obtain ⟨t, ty, k⟩ := isiS_ok (K := X.K) (H := H) e
      exact ⟨_, _, _, _, _, rfl, .ty _, ty, k, h⟩
    · exact h.elim
  · exact h.elim
theorem tyx_l {K : PySem.W.Frag} {H : Hp} {p : Addr} {xs : List V} (h : SqL K H p xs) : TyX K H (.ref p) (.type "list") := by
  rcases h with (h | ⟨o, h⟩) | ⟨o, its, n, h, c, _⟩
  · exact .base (.lst h)
  · exact .base (.frz h)
  · exact .kList h c
theorem tyx_t {K : PySem.W.Frag} {H : Hp} {p : Addr} {xs : List V} (h : SqT K H p xs) : TyX K H (.ref p) (.type "tuple") := by
  rcases h with (h | ⟨o, h⟩) | ⟨o, its, n, h, c, _⟩
  · exact .base (.tup h)
  · exact .fTuple h
  · exact .kTuple h c
def SqA (K : PySem.W.Frag) (H : Hp) (a : Addr) (xs : List V) : Prop := SqL K H a xs ∨ SqT K H a xs
def iSeq (K : PySem.W.Frag) (tl : TE) : TI := fun σ H R => tl σ H fun x H1 => ∃ a, x = .ref a ∧ (((∃ xs, SqL K H1 a xs) ∧ R (Itl K a) H1) ∨ ((∃ xs, SqT K H1 a xs) ∧ R (Itt K a) H1))
theorem pi_seq {tg l : Expr} {tl : TE} (hl : PE X l tl) : PI X tg l (iSeq X.K tl) := by
  refine ⟨fun pins s σ H R I h => ?_⟩
  refine thn (hl.run pins s σ H _ I h) fun v s1 ⟨x, H1, I1, r1, q1⟩ => ?_
  obtain ⟨a, e, q⟩ := q1
  subst e
  cases r1
  rcases q with ⟨⟨xs, hq⟩, q⟩ | ⟨⟨xs, hq⟩, q⟩
  · obtain ⟨its, rv, p, hz⟩ := I1.list hq
    refine wpAny_pyIter_list p.isList ?_
    refine ⟨s1.heap.objs.size, [s1.heap.objs.size], _, _, H1, rfl, I1.kept (t' := s1.toks) fun b o e => Heap.get?_push_of_some _ e, turn_list a _, ⟨_, Heap.get?_push_size _ rfl, rfl, rfl⟩, fun b hb => ?_, q⟩
    have e : b = s1.heap.objs.size := by simpa using hb
    subst e
    exact I1.fpOk (Nat.le_refl _) (I1.hok.fresh (Nat.le_refl _))
  · obtain ⟨its, rv, p, hz⟩ := I1.tuple hq
    refine wpAny_pyIter_tuple (show s1.heap.IsTuple a its.toArray from p) ?_
    refine ⟨s1.heap.objs.size, [s1.heap.objs.size], _, _, H1, rfl, I1.kept (t' := s1.toks) fun b o e => Heap.get?_push_of_some _ e, turn_tuple a _, ⟨_, Heap.get?_push_size _ rfl, rfl, rfl⟩, fun b hb => ?_, q⟩
    have e : b = s1.heap.objs.size := by simpa using hb
    subst e
    exact I1.fpOk (Nat.le_refl _) (I1.hok.fresh (Nat.le_refl _))
end
structure Fx (fa : List He.Fa) (fn : List He.DefD) (K : PySem.W.Frag) (mg : Str → Option Value) : Prop where
  ex : ∃ h : Heap, K.In h ∧ h.Ns mainGlobals mg
  c : He.SaysD fa fn K
section
variable {fa : List He.Fa} {fn : List He.DefD} {K : PySem.W.Frag} {mg : Str → Option Value}
theorem Fx.glo (T : Fx fa fn K mg) (i : Nat) {x : Str} (h : fa[i]? = some (.glo x) := by rfl) : mg x = some (.ref (He.ga K x)) := let ⟨_, KX, G⟩ := T.ex; He.glo_ok KX G (T.c.fact i h)
theorem Fx.free (T : Fx fa fn K mg) (i : Nat) {x : Str} (h : fa[i]? = some (.free x) := by rfl) : mg x = none := let ⟨_, KX, G⟩ := T.ex; He.free_ok KX G (T.c.fact i h)
theorem Fx.cls (T : Fx fa fn K mg) (i : Nat) {x : Str} (h : fa[i]? = some (.cls x) := by rfl) : Cls K (He.ga K x) := He.cls_ok (T.c.fact i h)
end
end Co
end

section
set_option maxHeartbeats 4000000
namespace Co
open PySem PySem.Spec PyProof.Rows L2
section
variable {fa : List He.Fa} {fn : List He.DefD} {K : PySem.W.Frag} {mg : Str → Option Value}
theorem Fx.noat (T : Fx fa fn K mg) (i : Nat) {x f : Str} (h : fa[i]? = some (.noat x f) := by rfl) : NoAttr K (He.ga K x) f := He.noat_ok (T.c.fact i h)
theorem Fx.meth (T : Fx fa fn K mg) (i : Nat) {x m : Str} (h : fa[i]? = some (.meth x m) := by rfl) : Meth K (He.ga K x) m (He.ma K (He.ga K x) m) := He.meth_ok (T.c.fact i h)
theorem Fx.mkr (T : Fx fa fn K mg) (i : Nat) {x : Str} (h : fa[i]? = some (.mkr x) := by rfl) : Mk K (He.ga K x) (He.ma K (He.ga K x) "__init__") := He.mkr_ok (T.c.fact i h)
theorem Fx.exm (T : Fx fa fn K mg) (i : Nat) {x y : Str} {b : Bool} (h : fa[i]? = some (.exm x y b) := by rfl) : PySem.W.exmOne K (.ref (He.ga K x)) (.ref (He.ga K y)) = some b := He.exm_ok (T.c.fact i h)
end
def uLc (wi : TI) (g : TG) (tt : TT) (te : TE) (vs : List Nat) : TE := fun σ H Q => wi σ H fun J H1 => ∀ D, H1 D = none → ∃ W : Nat → Nat → Hp → Prop, (∃ m, W 0 m (upd H1 D (.lst []))) ∧ ∀ i m H, W i m H →
  (J.stop i H ∧ Q (.ref D) H) ∨ (J.go i H ∧ ∃ Nx : Hp → Prop, (∀ H', Nx H' → ∃ m', m' < m ∧ W (i + 1) m' H') ∧ ∀ x H', J.yld i H x H' → g x (wipe σ vs) H' fun σ2 H2 => wipe σ2 vs = wipe σ vs ∧ tt σ2 H2 fun b H3 =>
    two b (te σ2 H3 fun y H4 => ∃ acc, H4 D = some (.lst acc) ∧ acc.length < sizeLine ∧ Nx (upd H4 D (.lst (acc ++ [y])))) (Nx H3))
theorem lc_eq {wi : TI} {g : TG} {tt : TT} {te : TE} {vs : List Nat} : tLc wi g tt te vs = uLc wi g tt te vs := by
  unfold tLc uLc
  simp only [two_eq]
section
variable {X : Cx}
theorem e_lc {elt tg iter : Expr} {ifs : List Expr} {scope : Scope} {own : List (Str × Nat)} {pos : Pos} {wi : TI} {g : TG} {tt : TT} {te : TE} (hc : X.calm = true) (hN : X.N.Nodup) (hi : PI X tg iter wi) (ok : BlkOk X.N X.env.scope scope own)
    (hg : ∀ (s : Shared) (H : Hp) (C : Addr) (cl : List (Str × Addr)) (fp : List Addr), PG (X.blk s H scope (compEnvC scope cl C X.env) fp) tg g) (ht : ∀ (s : Shared) (H : Hp) (C : Addr) (cl : List (Str × Addr)) (fp : List Addr), PTs (X.blk s H scope (compEnvC scope cl C X.env) fp) ifs tt)
    (he : ∀ (s : Shared) (H : Hp) (C : Addr) (cl : List (Str × Addr)) (fp : List Addr), PE (X.blk s H scope (compEnvC scope cl C X.env) fp) elt te) (hs : ∀ x, foldedSetIterable iter X.env x = pure x := by intro _; rfl) :
    PE X (.ListComp elt [⟨tg, iter, ifs, 0⟩] scope pos) (uLc wi g tt te (own.map (·.2))) := lc_eq ▸ pe_lc hc hN hi ok hg ht he hs
end
def LcTurn (g : TG) (tt : TT) (te : TE) (vs : List Nat) (σ : St) (D : Addr) (x : V) (H : Hp) (Nx : Hp → Prop) : Prop :=
  g x (wipe σ vs) H fun σ2 H2 => wipe σ2 vs = wipe σ vs ∧ tt σ2 H2 fun b H3 =>
    two b (te σ2 H3 fun y H4 => ∃ acc, H4 D = some (.lst acc) ∧ acc.length < sizeLine ∧ Nx (upd H4 D (.lst (acc ++ [y])))) (Nx H3)
theorem lcL {K : PySem.W.Frag} {tl : TE} {g : TG} {tt : TT} {te : TE} {vs : List Nat} {σ : St} {H : Hp} {Q : VK} (h : tl σ H fun x H1 => ∃ a xs, x = .ref a ∧ SqL K H1 a xs ∧ ∀ D, H1 D = none → ∃ Pv : Nat → Hp → Prop, Pv 0 (upd H1 D (.lst [])) ∧
      (∀ i H, i ≤ xs.length → Pv i H → SqL K H a xs) ∧ (∀ i x H, xs[i]? = some x → Pv i H → LcTurn g tt te vs σ D x H (Pv (i + 1))) ∧ ∀ H, Pv xs.length H → Q (.ref D) H)
    (mono : ∀ Q Q' : VK, (∀ v H1, Q v H1 → Q' v H1) → tl σ H Q → tl σ H Q') : uLc (iList K tl) g tt te vs σ H Q := by
  refine mono _ _ (fun v H1 q => ?_) h
  obtain ⟨a, xs, e, hx, k⟩ := q
  subst e
  refine ⟨a, rfl, ⟨xs, hx⟩, fun D hD => ?_⟩
  obtain ⟨Pv, h0, hl, hs, hd⟩ := k D hD
  refine ⟨fun i m H => m = xs.length - i ∧ i ≤ xs.length ∧ Pv i H, ⟨xs.length, by simp, Nat.zero_le _, h0⟩, ?_⟩
  rintro i m H ⟨rfl, hi, p⟩
  have q := hl i H hi p
  by_cases hlt : i < xs.length
  · refine .inr ⟨⟨xs, xs[i], q, by simp [hlt]⟩, Pv (i + 1), fun H' p' => ⟨xs.length - (i + 1), by omega, rfl, hlt, p'⟩, fun x H' y => ?_⟩
    obtain ⟨e, y⟩ := y
    subst e
    exact hs i x _ (y xs q) p
  · have e : i = xs.length := by omega
    subst e
    exact .inl ⟨⟨xs, q, Nat.le_refl _⟩, hd H p⟩
def Fr (S : List Addr) (H H' : Hp) : Prop := ∀ b o, H b = some o → b ∉ S → H' b = some o
theorem Fr.refl (S : List Addr) (H : Hp) : Fr S H H := fun _ _ h _ => h
theorem Fr.trans {S : List Addr} {H H1 H2 : Hp} (a : Fr S H H1) (b : Fr S H1 H2) : Fr S H H2 := fun c o h n => b c o (a c o h n) n
theorem Fr.mono {S S' : List Addr} {H H1 : Hp} (a : Fr S H H1) (h : ∀ b ∈ S, b ∈ S') : Fr S' H H1 := fun c o e n => a c o e fun z => n (h c z)
theorem Fr.of {S : List Addr} {H H' : Hp} (a : Same H H') : Fr S H H' := fun b o h _ => a b o h
theorem Fr.at1 {p q : Addr} {H H' : Hp} {o : HO} (a : Fr [p] H H') (h : H q = some o) (n : q ≠ p) : H' q = some o := a q o h (by simp [n])
theorem Fr.same {H H' : Hp} (a : Fr [] H H') : Same H H' := fun b o h => a b o h (by simp)
theorem Fr.new {S : List Addr} {H H' : Hp} {p : Addr} {o : HO} (a : Fr S H H') (h : H' p = none) : Fr S H (upd H' p o) := fun b u e n => by
  have q := a b u e n
  rw [upd_ne (ne_of_none q h)]
  exact q
theorem Fr.wr {S : List Addr} {H H' : Hp} {p : Addr} {o : HO} (a : Fr S H H') (h : p ∈ S) : Fr S H (upd H' p o) := fun b u e n => by
  rw [upd_ne (show b ≠ p from fun z => n (by rw [z]; exact h))]
  exact a b u e n
theorem Fr.loc {S : List Addr} {H H' : Hp} {p : Addr} {o : HO} (a : Fr S H H') (h : H p = none) : Fr S H (upd H' p o) := fun b u e n => by
  rw [upd_ne (ne_of_none e h)]
  exact a b u e n
theorem same_new {H H' : Hp} {p : Addr} {o : HO} (a : Same H H') (h : H' p = none) : Same H (upd H' p o) := fun b u e => by
  rw [upd_ne (ne_of_none (a b u e) h)]
  exact a b u e
theorem same_loc {H H' : Hp} {p : Addr} {o : HO} (a : Same H H') (h : H p = none) : Same H (upd H' p o) := fun b u e => by
  rw [upd_ne (ne_of_none e h)]
  exact a b u e
theorem same_grow0 {M : Hp} {p : Addr} {o : HO} (h : M p = none) : Same M (upd M p o) := fun b u e => by
  rw [upd_ne (ne_of_none e h)]
  exact e
theorem keep_new {H : Hp} {p q : Addr} {o o' : HO} (h : H p = none) (e : H q = some o) : upd H p o' q = some o := by
  rw [upd_ne (ne_of_none e h)]
  exact e
theorem keep_ne {H : Hp} {p q : Addr} {o o' : HO} (n : q ≠ p) (e : H q = some o) : upd H p o' q = some o := by
  rw [upd_ne n]
  exact e
theorem sqT_same {K : PySem.W.Frag} {H H' : Hp} {a : Addr} {xs : List V} (e : Same H H') (h : SqT K H a xs) : SqT K H' a xs := by
  rcases h with (h | ⟨o, h⟩) | h
  · exact .inl (.inl (e _ _ h))
  · exact .inl (.inr ⟨o, e _ _ h⟩)
  · exact .inr h
theorem atNat {α : Type} {xs : List α} {i : Int} {v : α} (h0 : 0 ≤ i) (h : xs[i.toNat]? = some v) : atI xs i = some v := by
  have e : i = ((i.toNat : Nat) : Int) := by omega
  rw [e]
  exact atI_nat h
end Co
end

section
set_option maxHeartbeats 4000000
namespace Co
open PySem PySem.Spec PyProof.Rows L2
section
variable {X : Cx}
def LenR (K : PySem.W.Frag) (H : Hp) (p : Addr) (n : Nat) : Prop := (∃ ys, SqA K H p ys ∧ n = ys.length) ∨ ∃ kvs, H p = some (.dK kvs) ∧ n = kvs.length
def cLenA (K : PySem.W.Frag) : List V → Hp → VK → Prop := fun xs H Q => match xs with
  | [.str z] => z.length ≤ sizeLine ∧ Q (.int z.length) H
  | [.ref p] => ∃ n, LenR K H p n ∧ Q (.int (n : Nat)) H
  | _ => False
theorem c_lenA : CallR X (.builtin "len") (cLenA X.K) := CallR.imp (CallR.or call_len_seq (CallR.or call_len_str call_lenD)) fun xs H Q h => by
  unfold cLenA at h
  split at h
  · exact .inr (.inl ⟨_, rfl, h⟩)
  · obtain ⟨n, ⟨ys, hs, rfl⟩ | ⟨kvs, hs, rfl⟩, q⟩ := h
    · exact .inl ⟨_, _, rfl, hs, q⟩
    · exact .inr (.inr ⟨_, _, rfl, hs, q⟩)
  · exact h.elim
end
theorem lenL {K : PySem.W.Frag} {H : Hp} {p : Addr} {ys : List V} (h : H p = some (.lst ys)) : LenR K H p ys.length := .inl ⟨_, .inl (SqL.of h), rfl⟩
structure Pool (H : Hp) (p q : Addr) (ns : List Int) (i d s : Int) : Prop where
  hp : H p = some (.lst [.ref q, .int i, .int d, .int s])
  hq : H q = some (.lst (ns.map V.int))
  ne : q ≠ p
  nn : ∀ n ∈ ns, 0 ≤ n
  hi : 0 ≤ i
  hd : 0 ≤ d
  hs : 0 ≤ s
  hs2 : s < 2147483647
def PoolAt (H : Hp) (p q : Addr) : Prop := ∃ ns i d s, Pool H p q ns i d s
def sp_pool (K : PySem.W.Frag) : Sp := fun vs H Q _ => match vs with
  | [.ref a] => ∃ ns : List Int, SqL K H a (ns.map V.int) ∧ ns.length ≤ 63 ∧ ∀ p q H', H p = none → H q = none → PoolAt H' p q → Same H H' → Q (.ref p) H'
  | _ => False
def sp_take (n : Nat) : Sp := fun vs H Q _ => match vs with
  | [.ref p, .int m] => 0 < n ∧ ∃ q, (∃ ns i d s, Pool H p q ns i d s ∧ (n = 1 → 0 < d)) ∧ 0 < m ∧ m < 2 ^ 250 ∧ ∀ (r : Int) H', 0 ≤ r → r < m → PoolAt H' p q → Fr [p] H H' → Q (.int r) H'
  | _ => False
def t_Lpool (K : PySem.W.Frag) : TS :=
 (tRet (tLst (tCons (uLc (iList K (tV 0)) (gName 1) tYes (uIf (tBo (tOp fGe (tV 1) (tC (.int 0)))) (tOp fMul (tC (.int 2)) (tV 1)) (tOp fSub (tOp fMul (tUn fNeg (tC (.int 2))) (tV 1)) (tC (.int 1)))) ([("_law_cell", 1)].map (·.2))) (tCons (tC (.int 0)) (tCons (tC (.int 0)) (tCons (tC (.int 17)) tNil))))))
def t_Ltake (K : PySem.W.Frag) (sp : Sp) : TS :=
 (tSeq (uIfS (tBo (tOp fGt (tOp (rIxL K) (tV 0) (tC (.int 2))) (tC (.int 0)))) (tSeq (tAsg (tOp fMod (tCB cInt (tCons (tOp (rIxL K) (tV 0) (tC (.int 2))) tNil)) (tV 1)) (gName 2))
 (tSeq (tAsg (tOp fDiv (tOp (rIxL K) (tV 0) (tC (.int 2))) (tV 1)) (gSub (tV 0) (tC (.int 2)) rSetL))
 (tRet (tV 2)))) tNext)
 (tSeq (tAsg (tC (.int 0)) (gName 3))
 (tSeq (uIfS (tBo (tOp fLt (tOp (rIxL K) (tV 0) (tC (.int 1))) (tCB (cLenA K) (tCons (tOp (rIxL K) (tV 0) (tC (.int 0))) tNil)))) (tAsg (tOp (rIx K) (tOp (rIxL K) (tV 0) (tC (.int 0))) (tOp (rIxL K) (tV 0) (tC (.int 1)))) (gName 3)) tNext)
 (tSeq (tAsg (tOp fAdd (tOp (rIxL K) (tV 0) (tC (.int 1))) (tC (.int 1))) (gSub (tV 0) (tC (.int 1)) rSetL))
 (tSeq (uIfS (tBo (tOp fGe (tV 3) (tOp fPow (tC (.int 10)) (tC (.int 18))))) (tSeq (tAsg (tOp fDiv (tV 3) (tC (.int 2))) (gSub (tV 0) (tC (.int 2)) rSetL))
 (tRet (uCall sp E0 (tCons (tV 0) (tCons (tV 1) tNil))))) tNext)
 (tSeq (tAsg (tOp fMod (tCB cInt (tCons (tOp fAdd (tOp fAdd (tOp fMul (tOp (rIxL K) (tV 0) (tC (.int 3))) (tC (.int 48271))) (tOp fMul (tV 3) (tC (.int 69621)))) (tOp fMul (tOp (rIxL K) (tV 0) (tC (.int 1))) (tC (.int 613)))) tNil)) (tC (.int 2147483647))) (gSub (tV 0) (tC (.int 3)) rSetL))
 (tSeq (tAsg (tOp fMod (tCB cInt (tCons (tOp fAdd (tOp fAdd (tOp fMul (tOp (rIxL K) (tV 0) (tC (.int 3))) (tOp (rIxL K) (tV 0) (tC (.int 3)))) (tOp fMul (tOp (rIxL K) (tV 0) (tC (.int 3))) (tC (.int 7919)))) (tC (.int 104729))) tNil)) (tC (.int 1000000007))) (gName 4))
 (tRet (tOp fMod (tCB cInt (tCons (tOp fDiv (tV 4) (tC (.int 3))) tNil)) (tV 1))))))))))
abbrev Dn (Q : VK) : Ends := { nx := fun _ H' => Q .non H', rt := Q }
theorem PoolAt.fr {H H' : Hp} {p q : Addr} {S : List Addr} (h : PoolAt H p q) (f : Fr S H H') (n1 : p ∉ S) (n2 : q ∉ S) : PoolAt H' p q := by
  obtain ⟨ns, i, d, s, P⟩ := h
  exact ⟨ns, i, d, s, ⟨f _ _ P.hp n1, f _ _ P.hq n2, P.ne, P.nn, P.hi, P.hd, P.hs, P.hs2⟩⟩
theorem PoolAt.same {H H' : Hp} {p q : Addr} (h : PoolAt H p q) (f : Same H H') : PoolAt H' p q := h.fr (S := []) (Fr.of f) (by simp) (by simp)
theorem PoolAt.take {H : Hp} {p q : Addr} (h : PoolAt H p q) : ∃ ns i d s, Pool H p q ns i d s ∧ (2 = 1 → 0 < d) := by
  obtain ⟨ns, i, d, s, P⟩ := h
  exact ⟨ns, i, d, s, P, fun e => absurd e (by decide)⟩
theorem PoolAt.ex {H : Hp} {p q : Addr} (h : PoolAt H p q) : (∃ o, H p = some o) ∧ (∃ o, H q = some o) ∧ p ≠ q := by
  obtain ⟨ns, i, d, s, P⟩ := h
  exact ⟨⟨_, P.hp⟩, ⟨_, P.hq⟩, P.ne.symm⟩
theorem mapInt_get {ns : List Int} {i : Nat} {x : V} (h : (ns.map V.int)[i]? = some x) : ∃ z, x = .int z ∧ ns[i]? = some z := by
  rw [List.getElem?_map] at h
  cases e : ns[i]? with
  | none => rw [e] at h; cases h
  | some z => rw [e] at h; exact ⟨z, (Option.some.inj h).symm, rfl⟩
theorem r_Lpool {K : PySem.W.Frag} {vs : List V} {H : Hp} {Q : VK} {E : XK} (h : sp_pool K vs H Q E) : t_Lpool K (Dn Q) (start ["_law_script", "_law_cell"] vs) H := by
  unfold sp_pool at h
  split at h
  · rename_i a
    obtain ⟨ns, hs, hl, k⟩ := h
    unfold t_Lpool tRet tLst tCons
    refine lcL ?_ (fun Q Q' i q => i _ _ q)
    refine ⟨a, _, rfl, hs, fun D hD => ?_⟩
    refine ⟨fun i H' => ∃ ms : List Int, H' D = some (.lst (ms.map V.int)) ∧ (∀ n ∈ ms, 0 ≤ n) ∧ ms.length ≤ i ∧ Same H H', ⟨[], upd_same, by simp, Nat.le_refl _, same_new (Same.refl H) hD⟩, fun i H' _ ⟨_, _, _, _, s⟩ => s.seq hs, ?_, ?_⟩
    · rintro i x H' hx ⟨ms, h1, h2, h3, s⟩
      have hil : i < ns.length := by
        have := (List.getElem?_eq_some_iff.mp hx).1
        simpa using this
      obtain ⟨z, rfl, -⟩ := mapInt_get hx
      refine ⟨rfl, ⟨fun _ => ?_, fun e => nomatch e⟩⟩
      have fin : ∀ w : Int, 0 ≤ w → ∃ acc, H' D = some (.lst acc) ∧ acc.length < sizeLine ∧ ∃ ms : List Int, (upd H' D (.lst (acc ++ [V.int w]))) D = some (.lst (ms.map V.int)) ∧ (∀ n ∈ ms, 0 ≤ n) ∧ ms.length ≤ i + 1 ∧ Same H (upd H' D (.lst (acc ++ [V.int w]))) := fun w hw => by
        refine ⟨_, h1, ?_, ms ++ [w], ?_, ?_, ?_, same_loc s hD⟩
        · rw [List.length_map]
          exact small1000 (by omega)
        · rw [upd_same, List.map_append]
          rfl
        · intro n hn
          rcases List.mem_append.mp hn with hn | hn
          · exact h2 n hn
          · simp at hn
            omega
        · simp
          omega
      refine ⟨fun e => ?_, fun e => ?_⟩
      · have e' : 0 ≤ z := of_decide_eq_true e
        exact ⟨.inl ⟨by decide, by decide⟩, fin _ (by omega)⟩
      · have e' : ¬ 0 ≤ z := of_decide_eq_false e
        exact ⟨.inl ⟨by decide, by decide⟩, fin _ (by omega)⟩
    · rintro H' ⟨ms, h1, h2, h3, s⟩
      refine ⟨by show 4 ≤ sizeLine; rw [sizeLine_eq]; omega, fun p hp => ?_⟩
      refine k p D _ (s.free hp) hD ⟨ms, 0, 0, 17, ⟨upd_same, keep_new hp h1, ne_of_none h1 hp, h2, by decide, by decide, by decide, by decide⟩⟩ (same_new s hp)
  · exact h.elim
theorem r_Ltake {K : PySem.W.Frag} {n : Nat} {vs : List V} {H : Hp} {Q : VK} {E : XK} (h : sp_take (n + 1) vs H Q E) : t_Ltake K (sp_take n) (Dn Q) (start ["_law_pool_here", "_law_many", "_law_digit", "_law_cell", "_law_mixed"] vs) H := by
  unfold sp_take at h
  split at h
  · rename_i p m
    obtain ⟨_, q, ⟨ns, i, d, s, P, hd1⟩, hm, hm2, k⟩ := h
    refine ⟨_, _, _, _, rfl, rfl, SqL.of P.hp, rfl, ⟨fun e => ?_, fun e => ?_⟩⟩
    · have e' : 0 < d := of_decide_eq_true e
      refine ⟨_, _, _, _, rfl, rfl, SqL.of P.hp, rfl, ⟨hm, ?_⟩⟩
      refine ⟨_, _, _, _, rfl, rfl, SqL.of P.hp, rfl, ⟨⟨hm, hm2⟩, ?_⟩⟩
      refine ⟨_, _, _, _, rfl, rfl, P.hp, rfl, ?_⟩
      refine k _ _ (Int.emod_nonneg _ (by omega)) (Int.emod_lt_of_pos _ hm) ⟨ns, i, d / m, s, ⟨upd_same, keep_ne P.ne P.hq, P.ne, P.nn, P.hi, Int.ediv_nonneg P.hd (by omega), P.hs, P.hs2⟩⟩ ?_
      exact (Fr.refl _ _).wr (by simp)
    · have e' : ¬ 0 < d := of_decide_eq_false e
      have hn : n ≠ 0 := fun z => by
        subst z
        exact e' (hd1 rfl)
      refine ⟨_, _, _, _, rfl, rfl, SqL.of P.hp, rfl, ?_⟩
      refine ⟨_, _, _, _, rfl, rfl, SqL.of P.hp, rfl, ⟨_, lenL P.hq, ?_⟩⟩
      have tail : ∀ c : Int, 0 ≤ c → ∀ σ' : St, σ' = [some (.ref p), some (.int m), none, some (.int c), none] →
          (tSeq (tAsg (tOp fAdd (tOp (rIxL K) (tV 0) (tC (.int 1))) (tC (.int 1))) (gSub (tV 0) (tC (.int 1)) rSetL))
 (tSeq (uIfS (tBo (tOp fGe (tV 3) (tOp fPow (tC (.int 10)) (tC (.int 18))))) (tSeq (tAsg (tOp fDiv (tV 3) (tC (.int 2))) (gSub (tV 0) (tC (.int 2)) rSetL))
 (tRet (uCall (sp_take n) E0 (tCons (tV 0) (tCons (tV 1) tNil))))) tNext)
 (tSeq (tAsg (tOp fMod (tCB cInt (tCons (tOp fAdd (tOp fAdd (tOp fMul (tOp (rIxL K) (tV 0) (tC (.int 3))) (tC (.int 48271))) (tOp fMul (tV 3) (tC (.int 69621)))) (tOp fMul (tOp (rIxL K) (tV 0) (tC (.int 1))) (tC (.int 613)))) tNil)) (tC (.int 2147483647))) (gSub (tV 0) (tC (.int 3)) rSetL))
 (tSeq (tAsg (tOp fMod (tCB cInt (tCons (tOp fAdd (tOp fAdd (tOp fMul (tOp (rIxL K) (tV 0) (tC (.int 3))) (tOp (rIxL K) (tV 0) (tC (.int 3)))) (tOp fMul (tOp (rIxL K) (tV 0) (tC (.int 3))) (tC (.int 7919)))) (tC (.int 104729))) tNil)) (tC (.int 1000000007))) (gName 4))
 (tRet (tOp fMod (tCB cInt (tCons (tOp fDiv (tV 4) (tC (.int 3))) tNil)) (tV 1))))))) (Dn Q) σ' H := by
        rintro c hc σ' rfl
        refine ⟨_, _, _, _, rfl, rfl, SqL.of P.hp, rfl, ?_⟩
        refine ⟨_, _, _, _, rfl, rfl, P.hp, rfl, ?_⟩
        refine ⟨⟨by decide, by decide, by decide⟩, ⟨fun e2 => ?_, fun e2 => ?_⟩⟩
        · have e3 : (10 : Int) ^ (Int.toNat 18) ≤ c := of_decide_eq_true e2
          have e4 : (10 : Int) ^ (Int.toNat 18) = 1000000000000000000 := by decide
          refine ⟨⟨by decide, by decide⟩, ?_⟩
          refine ⟨_, _, _, _, rfl, rfl, upd_same, rfl, ?_⟩
          refine ⟨by omega, q, ⟨ns, i + 1, c / 2, s, ⟨upd_same, keep_ne P.ne (keep_ne P.ne P.hq), P.ne, P.nn, by have := P.hi; omega, by omega, P.hs, P.hs2⟩, fun _ => by omega⟩, hm, hm2, fun r H' h0 h1 h2 h3 => ?_⟩
          exact k r H' h0 h1 h2 ((((Fr.refl [p] H).wr (by simp)).wr (by simp)).trans h3)
        · refine ⟨_, _, _, _, rfl, rfl, SqL.of upd_same, rfl, ⟨.inr (.inl ⟨by decide, by decide⟩), ⟨.inr (.inl ⟨by decide, by decide⟩), ?_⟩⟩⟩
          refine ⟨_, _, _, _, rfl, rfl, SqL.of upd_same, rfl, ⟨.inr (.inl ⟨by decide, by decide⟩), ⟨(show (0 : Int) < 2147483647 by decide), ?_⟩⟩⟩
          refine ⟨_, _, _, _, rfl, rfl, upd_same, rfl, ?_⟩
          have hs1 : 0 ≤ (s * 48271 + c * 69621 + (i + 1) * 613) % 2147483647 ∧ (s * 48271 + c * 69621 + (i + 1) * 613) % 2147483647 < 2147483647 := by omega
          refine ⟨_, _, _, _, rfl, rfl, SqL.of upd_same, rfl, ?_⟩
          refine ⟨_, _, _, _, rfl, rfl, SqL.of upd_same, rfl, ⟨.inl ⟨by show -(2 ^ 64) < (s * 48271 + c * 69621 + (i + 1) * 613) % 2147483647; omega, by show (s * 48271 + c * 69621 + (i + 1) * 613) % 2147483647 < 2 ^ 64; omega⟩, ?_⟩⟩
          refine ⟨_, _, _, _, rfl, rfl, SqL.of upd_same, rfl, ⟨.inr (.inl ⟨by decide, by decide⟩), ⟨(show (0 : Int) < 1000000007 by decide), ?_⟩⟩⟩
          refine ⟨⟨by decide, by decide⟩, ⟨hm, ?_⟩⟩
          refine k _ _ (Int.emod_nonneg _ (by omega)) (Int.emod_lt_of_pos _ hm) ⟨ns, i + 1, d, (s * 48271 + c * 69621 + (i + 1) * 613) % 2147483647, ⟨upd_same, keep_ne P.ne (keep_ne P.ne P.hq), P.ne, P.nn, by have := P.hi; omega, P.hd, hs1.1, hs1.2⟩⟩ ?_
          exact ((Fr.refl [p] H).wr (by simp)).wr (by simp)
      refine ⟨fun e2 => ?_, fun e2 => ?_⟩
      · have e3 : i < ((ns.map V.int).length : Nat) := of_decide_eq_true e2
        rw [List.length_map] at e3
        have hi := P.hi
        have hil : i.toNat < ns.length := by omega
        refine ⟨_, _, _, _, rfl, rfl, SqL.of P.hp, rfl, ?_⟩
        refine ⟨_, _, _, _, rfl, rfl, SqL.of P.hp, rfl, ?_⟩
        refine .inl ⟨_, _, _, .int ns[i.toNat], rfl, rfl, SqL.of P.hq, atNat hi (by rw [List.getElem?_map, List.getElem?_eq_getElem hil]; rfl), ?_⟩
        exact tail _ (P.nn _ (List.getElem_mem hil)) _ rfl
      · exact tail 0 (by decide) _ rfl
  · exact h.elim
end Co
end

section
set_option maxHeartbeats 4000000
namespace Co
open PySem PySem.Spec PyProof.Rows L2
theorem isi_l {K : PySem.W.Frag} {H : Hp} {p : Addr} {xs : List V} {c : String} {Q : VK} (h : SqL K H p xs) (hc : c = "tuple" ∨ c = "list" ∨ c = "dict" ∨ c = "int" ∨ c = "str" ∨ c = "bool") (q : Q (.bl (decide ("list" = c))) H) : cIsi K [.ref p, .ty c] H Q := ⟨"list", tyx_l h, ⟨.inl rfl, hc⟩, q⟩
theorem isi_t {K : PySem.W.Frag} {H : Hp} {p : Addr} {xs : List V} {c : String} {Q : VK} (h : SqT K H p xs) (hc : c = "tuple" ∨ c = "list" ∨ c = "dict" ∨ c = "int" ∨ c = "str" ∨ c = "bool") (q : Q (.bl (decide ("tuple" = c))) H) : cIsi K [.ref p, .ty c] H Q := ⟨"tuple", tyx_t h, ⟨.inr (.inl rfl), hc⟩, q⟩
local macro_rules | `(tactic| walk_at "no") => `(tactic| refine ⟨fun e => absurd e (by decide), fun _ => ?_⟩)
local macro_rules | `(tactic| walk_at "yes") => `(tactic| refine ⟨fun _ => ?_, fun e => absurd e (by decide)⟩)
local macro_rules | `(tactic| walk_at "isl") => `(tactic| refine ⟨"list", tyx_l (by assumption), ⟨.inl rfl, by decide⟩, ?_⟩)
local macro_rules | `(tactic| walk_at "ist") => `(tactic| refine ⟨"tuple", tyx_t (by assumption), ⟨.inr (.inl rfl), by decide⟩, ?_⟩)
end Co
end

section
set_option maxHeartbeats 4000000
namespace Co
open PySem PySem.Spec PyProof.Rows L2
def uWhile (c : TT) (tb : TS) : TS := fun D σ H => ∃ W : Nat → St → Hp → Prop, (∃ m, W m σ H) ∧ ∀ m σ H, W m σ H →
  c σ H fun b H1 => two b (tb { D with nx := fun σ' H' => ∃ m', m' < m ∧ W m' σ' H', ct := fun σ' H' => ∃ m', m' < m ∧ W m' σ' H', bk := D.nx } σ H1) (D.nx σ H1)
theorem s_while {X : Cx} {pos : Pos} {c : Expr} {body : List Stmt} {tc : TT} {tb : TS} (hp : PassesOwn (model X.prog X.w) X.A X.env X.xe) (hc : PT X c tc) (hb : PSs X body tb) : PS X (.While c body [] pos) (uWhile tc tb) := by
  have hc' : PT X c fun σ H Q => tc σ H Q := hc
  refine ⟨fun pins s σ H D I h => ?_⟩
  obtain ⟨W, ⟨m0, w0⟩, turn⟩ := h
  refine wpAny_While (codeAny_whileLoop (fun n s' => ∃ σ' H', Inv X pins σ' H' s' ∧ W n σ' H') ?_ m0 ⟨σ, H, I, w0⟩)
  rintro n s1 ⟨σ1, H1, I1, w1⟩
  refine wpAny_passesOwn hp (thn (hc.run pins s1 σ1 H1 _ I1 (turn n σ1 H1 w1)) fun b s2 ⟨H2, I2, q2⟩ => ?_)
  cases b with
  | true =>
    rw [if_pos rfl]
    refine wpAny_passesOwn hp (thn (hb.run pins s2 σ1 H2 _ I2 (q2.1 rfl)) fun f s3 q3 => ?_)
    cases f with
    | next =>
      obtain ⟨σ3, H3, I3, m', hm, w3⟩ := q3
      exact ⟨m', hm, σ3, H3, I3, w3⟩
    | cont =>
      obtain ⟨σ3, H3, I3, m', hm, w3⟩ := q3
      exact ⟨m', hm, σ3, H3, I3, w3⟩
    | brk => exact q3
    | ret v => exact q3
  | false =>
    rw [if_neg Bool.false_ne_true]
    exact wpAny_execs_nil ⟨σ1, H2, I2, q2.2 rfl⟩
theorem fn_to0 {P : Program} {w : World} {K : PySem.W.Frag} {mg : Str → Option Value} {base : Heap} {k : Nat} {f : Addr} {fd : FuncData} {ps : List Str} {sp : Sp} (F : FnOk P w K mg base (L2.CX P w) k f fd ps sp) (hE : ∀ vs H Q E, sp vs H Q E → sp vs H Q E0) : FnOk P w K mg base CX0 k f fd ps sp :=
  ⟨F.len, fun A outer s H args us vs Q E hr he hb hv hs => codeAny_mono (F.run A outer s H args us vs Q E0 hr he hb hv (hE _ _ _ _ hs)) fun r s' hq => by
    cases r with
    | error e =>
      obtain ⟨_, _, _, _, _, _, _, _, _, _, _, _, z⟩ := (show L2.CX P w outer H s E0 e s' from hq)
      exact z.elim
    | ok fl => cases fl <;> exact hq⟩
theorem fn_by {P : Program} {w : World} {K : PySem.W.Frag} {mg : Str → Option Value} {base : Heap} {k : Nat} {f : Addr} {ps : List Str} {sp : Sp} {x qual : Str} {params : Arguments} {body : List Stmt} {scope : Scope} {fd : FuncData} {N : List Str} (F : FunD K x qual params body scope [] [] f fd) (S : FnScope N ps scope)
    (len : ∀ vs H Q E, sp vs H Q E → vs.length = ps.length)
    (hbody : ∀ (cdv : Value) (A : Around) (outer : List Env) (s : Shared) (H : Hp) (vs : List V) (Q : VK) (E : XK), Room k (A.deeper (envOfC qual scope s.heap.objs.size f cdv)) → sp vs H Q E →
      ∃ t, PSs (cxOf (L2.CX P w) P w K mg base N qual scope f cdv A outer s H E) body t ∧ t { nx := fun _ H' => Q .non H', rt := Q } (start N vs) H) : FnOk P w K mg base (L2.CX P w) (k + 1) f fd ps sp := F.ok S len hbody
end Co
end

section
set_option maxHeartbeats 4000000
namespace Co
open PySem PySem.Spec PyProof.Rows L2
abbrev S (l : List Nat) : Str := ⟨l.toArray⟩
theorem S_len (l : List Nat) : (S l).length = l.length := by show l.toArray.size = _; simp
theorem S_inj {a b : List Nat} (h : S a = S b) : a = b := by
  have := congrArg (fun z => z.cps.toList) h
  simpa using this
section
variable {X : Cx}
theorem MtR.imp {id : String} {r r' : V → List V → Hp → VK → Prop} (h : MtR X id r) (i : ∀ x xs H Q, r' x xs H Q → r x xs H Q) : MtR X id r' := fun pins s σ H x xs v us Q I rx rs q => h pins s σ H x xs v us Q I rx rs (i _ _ _ _ q)
def rJoinS (K : PySem.W.Frag) : V → List V → Hp → VK → Prop := fun x xs H Q => match x, xs with
  | .str a, [.ref p] => ∃ ys : List Str, SqA K H p (ys.map V.str) ∧ (ys.map (·.length)).sum + ys.length * a.length ≤ 16777216 ∧ Q (.str (Txt.join a ys)) H
  | _, _ => False
theorem m_join : MtR X "str.join" (rJoinS X.K) := MtR.imp mt_join fun x xs H Q h => by
  unfold rJoinS at h
  split at h
  · obtain ⟨ys, h1, h2, h3⟩ := h
    exact ⟨_, _, ys, rfl, rfl, h1, h2, h3⟩
  · exact h.elim
end
theorem S_app (a b : List Nat) : S a ++ S b = S (a ++ b) := by
  show Str.append _ _ = _
  unfold Str.append
  simp
theorem cutS_to {l : List Nat} {b : Nat} (h : b ≤ l.length) : cutS (S l) none (some (b : Int)) = S (l.take b) := by
  unfold cutS
  rw [HT.sIx_nat, HT.sIx_none, S_len, Nat.min_eq_left h]
  simp
theorem oneD {p : Prop} [Decidable p] {T E : Prop} (h : p → T) (k : ¬ p → E) : two (decide p) T E := ⟨fun e => h (of_decide_eq_true e), fun e => k (of_decide_eq_false e)⟩
theorem notD {p : Prop} [Decidable p] {T E : Prop} (h : ¬ p → T) (k : p → E) : two (!decide p) T E := by
  by_cases z : p
  · rw [decide_eq_true z]
    exact ⟨fun e => (nomatch e), fun _ => k z⟩
  · rw [decide_eq_false z]
    exact ⟨fun _ => h z, fun e => (nomatch e)⟩
section
variable {X : Cx}
end
theorem PIp.imp {X : Cx} {op : Operator} {t t' : TIp} (h : PIp X op t) (i : ∀ x y H Q, t' x y H Q → t x y H Q) : PIp X op t' := fun pins s σ H x y v u Q I r1 r2 q => h pins s σ H x y v u Q I r1 r2 (i _ _ _ _ q)
section
variable {X : Cx} {i : Nat} {x : Str} {e : Expr} {te : TE} {pos pos' : Pos}
end
structure Walks (J : It) (P : Hp → Prop) (xs : List V) : Prop where
  stop : ∀ i H, P H → xs.length ≤ i → J.stop i H
  go : ∀ i H, P H → i < xs.length → J.go i H
  yld : ∀ i H x H', P H → i < xs.length → J.yld i H x H' → H' = H ∧ xs[i]? = some x
structure Rw {α : Type} (f : α → List V) (H : Hp) (vs : List V) (as : List α) : Prop where
  len : vs.length = as.length
  at_ : ∀ (i : Nat) (a : α), as[i]? = some a → ∃ l, vs[i]? = some (V.ref l) ∧ H l = some (.tup (f a))
theorem Rw.nil {α : Type} {f : α → List V} {H : Hp} : Rw f H [] [] := ⟨rfl, fun i a h => by simp at h⟩
theorem Rw.app {α : Type} {f : α → List V} {H : Hp} {vs ws : List V} {as bs : List α} (h : Rw f H vs as) (k : Rw f H ws bs) : Rw f H (vs ++ ws) (as ++ bs) := by
  refine ⟨by simp [h.len, k.len], fun i a e => ?_⟩
  rw [List.getElem?_append] at e
  rw [List.getElem?_append, h.len]
  split at e
  · rename_i hi
    rw [if_pos hi]
    exact h.at_ i a e
  · rename_i hi
    rw [if_neg hi]
    exact k.at_ _ a e
theorem Rw.one {α : Type} {f : α → List V} {H : Hp} {l : Addr} {a : α} (h : H l = some (.tup (f a))) : Rw f H [.ref l] [a] := ⟨rfl, fun i b e => by
  cases i with
  | zero =>
    simp at e
    subst e
    exact ⟨l, rfl, h⟩
  | succ n => simp at e⟩
def Kt (H H' : Hp) : Prop := ∀ b ys, H b = some (.tup ys) → H' b = some (.tup ys)
theorem Kt.refl (H : Hp) : Kt H H := fun _ _ h => h
theorem Kt.trans {H H1 H2 : Hp} (a : Kt H H1) (b : Kt H1 H2) : Kt H H2 := fun c ys h => b c ys (a c ys h)
theorem Kt.same {H H' : Hp} (a : Same H H') : Kt H H' := fun c ys h => a c _ h
theorem Kt.new {H : Hp} {p : Addr} {o : HO} (h : H p = none) : Kt H (upd H p o) := fun b ys e => keep_new h e
theorem Kt.lst {H : Hp} {p : Addr} {o : HO} {xs : List V} (h : H p = some (.lst xs)) : Kt H (upd H p o) := fun b ys e => keep_ne (fun z => by subst z; rw [h] at e; cases e) e
theorem Kt.fr {H H' : Hp} {S : List Addr} (a : Fr S H H') (h : ∀ p ∈ S, ∀ ys, H p ≠ some (.tup ys)) : Kt H H' := fun b ys e => a b _ e fun z => h b z ys e
theorem Rw.get {α : Type} {f : α → List V} {H : Hp} {vs : List V} {as : List α} {i : Nat} {x : V} (h : Rw f H vs as) (e : vs[i]? = some x) : ∃ a l, as[i]? = some a ∧ x = .ref l ∧ H l = some (.tup (f a)) := by
  have hi := (List.getElem?_eq_some_iff.mp e).1
  rw [h.len] at hi
  obtain ⟨l, h1, h2⟩ := h.at_ i as[i] (by simp [hi])
  rw [e] at h1
  cases h1
  exact ⟨_, l, by simp [hi], rfl, h2⟩
theorem Rw.take {α : Type} {f : α → List V} {H : Hp} {vs : List V} {as : List α} {i : Nat} {l : Addr} {a : α} (h : Rw f H vs (as.take i)) (e : as[i]? = some a) (k : H l = some (.tup (f a))) : Rw f H (vs ++ [.ref l]) (as.take (i + 1)) := by
  rw [List.take_add_one, e]
  exact h.app (Rw.one k)
def toD : V → PyData
  | .int i => .int i
  | .str s => .str s
  | .bl b => .bool b
  | _ => .none
section
variable {K : PySem.W.Frag} {H : Hp} {QB : Hp → Prop}
end
end Co
end

section
set_option maxHeartbeats 4000000
namespace Co
open PySem PySem.Spec PyProof.Rows L2
section
variable {prog : Program} {w : World} {A : Around} {E : Value → Shared → Prop} {s : Shared}
end
section
variable {X : Cx} {a b c d : Expr} {ta tb tc td : TE} {pos : Pos}
end
end Co
end

section
set_option maxHeartbeats 4000000
namespace Co
open PySem PySem.Spec PyProof.Rows L2
section
variable {X : Cx}
end
def DcBody (J : It) (g : TG) (tt : TT) (tk tv : TE) (vs : List Nat) (σ : St) (H1 : Hp) (QD : Addr → Hp → Prop) : Prop :=
  ∀ D, H1 D = none → ∃ W : Nat → Nat → Hp → Prop, (∃ m, W 0 m (upd H1 D (.dK []))) ∧ ∀ i m H, W i m H →
  (J.stop i H ∧ QD D H) ∨ (J.go i H ∧ ∃ Nx : Hp → Prop, (∀ H', Nx H' → ∃ m', m' < m ∧ W (i + 1) m' H') ∧ ∀ x H', J.yld i H x H' → g x (wipe σ vs) H' fun σ2 H2 => wipe σ2 vs = wipe σ vs ∧ tt σ2 H2 fun b H3 =>
    two b (tk σ2 H3 fun y H4 => tv σ2 H4 fun z H5 => ∃ kvs k, y = kV k ∧ H5 D = some (.dK kvs) ∧ kvs.length < sizeLine ∧ Nx (upd H5 D (.dK (putK kvs k z)))) (Nx H3))
theorem dcW {J : It} {P : Hp → Prop} {xs : List V} {g : TG} {tt : TT} {tk tv : TE} {vs : List Nat} {σ : St} {H1 : Hp} {QD : Addr → Hp → Prop} (w : Walks J P xs) (h : ∀ D, H1 D = none → ∃ Pv : Nat → Hp → Prop, Pv 0 (upd H1 D (.dK [])) ∧ (∀ i H, i ≤ xs.length → Pv i H → P H) ∧
      (∀ (i : Nat) x H, xs[i]? = some x → Pv i H → g x (wipe σ vs) H fun σ2 H2 => wipe σ2 vs = wipe σ vs ∧ tt σ2 H2 fun b H3 => two b (tk σ2 H3 fun y H4 => tv σ2 H4 fun z H5 => ∃ kvs k, y = kV k ∧ H5 D = some (.dK kvs) ∧ kvs.length < sizeLine ∧ Pv (i + 1) (upd H5 D (.dK (putK kvs k z)))) (Pv (i + 1) H3)) ∧
      ∀ H, Pv xs.length H → QD D H) : DcBody J g tt tk tv vs σ H1 QD := by
  intro D hD
  obtain ⟨Pv, h0, hl, hs, hd⟩ := h D hD
  refine ⟨fun i m H => m = xs.length - i ∧ i ≤ xs.length ∧ Pv i H, ⟨xs.length, by simp, Nat.zero_le _, h0⟩, ?_⟩
  rintro i m H ⟨rfl, hi, p⟩
  have q := hl i H hi p
  by_cases hlt : i < xs.length
  · refine .inr ⟨w.go i H q hlt, Pv (i + 1), fun H' p' => ⟨xs.length - (i + 1), by omega, rfl, hlt, p'⟩, fun x H' y => ?_⟩
    obtain ⟨e, y2⟩ := w.yld i H x H' q hlt y
    subst e
    exact hs i x _ y2 p
  · have e : i = xs.length := by omega
    subst e
    exact .inl ⟨w.stop _ H q (Nat.le_refl _), hd H p⟩
end Co
end

section
set_option maxHeartbeats 4000000
namespace PySem.W
open PySem PySem.Spec PySem.Calls PyProof.Rows
section
variable {prog : Program} {w : World} {A : Around} {E : Value → Shared → Prop} {s : Shared} {K : Frag} {x D : Addr} {ox : Obj} {od : Option Obj}
theorem findObj_dataA {C : Addr} {name : Str} {a g : Value} (hc : (clsIn K C).isSome = true) (ha : findIn K (.ref C) name = some (some a)) (hg : specialIn K a "__get__" = some (some g)) (ht : takesIn K a = some true) : findObj K C od name = some (.bind g a) := by
  obtain ⟨cd, hc⟩ := Option.isSome_iff_exists.mp hc
  unfold findObj
  rw [hc, Option.bind_some, ha, Option.bind_some]
  simp [hg, ht]
theorem kin_classA {Q : Option Value → Shared → Prop} (C : L2.ExcC K D) (X : K.In s.heap) (I : InstAt s.heap x ox D od) (h : Q (some (.ref D)) { s with toks := s.toks + 1 }) : wpAny (model prog w) A (getAttr? (.ref x) "__class__") Q E s := by
  have hf : findObj K D od "__class__" = some (.bind (.builtin "getset_descriptor.__get__") (.builtin "object.__class__")) := findObj_dataA (by obtain ⟨cd, hc, _⟩ := any_some C.hd; rw [hc]; rfl) C.ha C.hn C.ht
  obtain ⟨hp, g, d, t, os⟩ := s
  have L0 := I.type (M := model prog w)
  have L1 := looks_findIn (M := model prog w) X C.hg
  have L2 := looks_findIn (M := model prog w) X C.hk
  have L3 := looks_find (M := model prog w) X I hf
  have sub : Looks (model prog w) hp (isInstance (.ref x) (.type "BaseException")) true := L0.andThen (looks_subIn X C.hs)
  have hx2 : (Value.builtin "BaseException.__getattribute__" == Value.builtin "object.__getattribute__") = false := by decide +kernel
  have hx1 : (onTheHeap (Value.ref D) && Value.builtin "BaseException.__getattribute__" == Value.builtin "object.__getattribute__") = false := by rw [hx2]; rfl
  unfold getAttr? getAttrBy? getAttrBy
  refine wpAny_bind (wpAny_mkText (wpAny_bind (wpAny_attempt (wpAny_holding (wpAny_bind (L0.at (wpAny_bind (L1.at ?_))))))))
  show wpAny _ _ (if (onTheHeap (Value.ref D) && Value.builtin "BaseException.__getattribute__" == Value.builtin "object.__getattribute__") = true then _ else _) _ _ _
  rw [hx1, if_neg Bool.false_ne_true]
  unfold getAttrByItsOwn hookBefore
  refine wpAny_bind ?_
  rw [if_pos (show onTheHeap (Value.ref D) = true from rfl)]
  refine L2.at ?_
  refine wpAny_bind (wpAny_attempt (wpAny_holding ?_))
  unfold callGetattribute
  rw [show (false && onTheHeap (Value.builtin "BaseException.__getattribute__")) = false from rfl, if_neg Bool.false_ne_true]
  unfold boundAndCalled
  rw [PySem.F.excAttr_ValueError.ga.bind (.ref x)]
  refine wpAny_bind (wpAny_pure ?_)
  show wpAny _ _ (call (.builtin "BaseException.__getattribute__") [.ref x, .str "__class__" t]) _ _ _
  refine wpAny_call (codeAny_call_builtin PySem.F.excAttr_ValueError.ga.plain PySem.F.entry_bexc_ga ?_)
  refine @check_slot (model prog w) _ _ ⟨hp, g, d, t + 1, os⟩ "BaseException.__getattribute__" "BaseException" "__getattribute__" (.ref x) [.str "__class__" t] [] _ (by decide +kernel) (by decide +kernel) sub (PySem.F.args_bexc_ga (.ref x) (.str "__class__" t)) ?_
  unfold Builtin.«object.__getattribute__»
  refine wpAny_bind (wpAny_of_eq (a := ((Value.ref x : Value), [Value.str "__class__" t])) (by first | rfl | (simp only [slotArgs]; rfl)) ?_)
  refine wpAny_bind (wpAny_pure (wpAny_bind (L0.at (wpAny_bind (L3.at ?_)))))
  show wpAny _ _ (holding [Value.builtin "object.__class__"] (call (.builtin "getset_descriptor.__get__") [.builtin "object.__class__", .ref x, .ref D]) >>= ret) _ _ _
  refine wpAny_bind (wpAny_holding (wpAny_call (class_get (s := ⟨hp, g, d, t + 1, os⟩) (ox := ox) (od := od) X I C.hm ?_)))
  refine wpAny_pure ?_
  show wpAny _ _ (handedOut (.ref D)) _ _ _
  rw [handedOut_of (v := .ref D) rfl]
  first
    | exact wpAny_pure (wpAny_pure h)
    | exact wpAny_pure h
    | exact wpAny_pure (wpAny_bind (wpAny_pure (wpAny_pure h)))
theorem kitx_excA (C : L2.ExcC K D) : KitX K (.ref x) (.ref D) (fun h => ∃ ox od, InstAt h x ox D od) where
  ty := fun _ _ _ ⟨_, _, I⟩ => I.type
  it := fun _ _ X _ => by
    obtain ⟨cdD, hcD, _⟩ := any_some C.hd
    unfold clsIn at hcD
    split at hcD
    · rename_i c' d' cd' sl' ho
      intro A' Q' E' s' k q
      unfold isType loadHead
      exact wpAny_bind (wpAny_loadPart (k _ _ (X _ _ ho)) (wpAny_pure q))
    · cases hcD
  ne := fun h tp dd its n sl X htp => by
    obtain ⟨cdD, hcD, _⟩ := any_some C.hd
    refine Bool.eq_false_iff.mpr fun q => ?_
    have e : D = tp := Value.ref.inj (beq_iff_eq.mp q)
    subst e
    unfold clsIn at hcD
    split at hcD
    · rename_i c' d' cd' sl' ho
      have z := (X _ _ ho).symm.trans htp
      cases z
    · cases hcD
  ca := fun X ⟨_, _, I⟩ k => kin_classA C X I k
end
end PySem.W
namespace Co
open PySem PySem.Spec PyProof.Rows L2
def rIsD (K : PySem.W.Frag) (D a : Addr) (cls : Value) (d : Option Addr) : List V → Hp → VK → Prop := fun xs H Q => ∃ (c : V) (cv : Value) (b : Bool) (dd : Addr) (fs : List (Str × V)), xs = [.ref a, c] ∧ cls = .ref D ∧ d = some dd ∧ H dd = some (.xd fs) ∧ (∀ u, RelV c u → u = cv) ∧ PySem.W.kitOne K (.ref D) cv = some b ∧ Q (.bl b) H
theorem call_isD {X : Cx} {a D : Addr} {oe : Obj} {cls : Value} {d : Option Addr} {pn : List (Addr × Obj)} (C : ExcC X.K D) (hz : Zc cls d oe) (hf : ∃ vs, oe.data = .fields vs) : CallR (X.suite a ((a, oe) :: pn)) (.builtin "isinstance") (rIsD X.K D a cls d) := by
  intro pins s σ H xs us Q I r h
  obtain ⟨c, cv, b, dd, fs, rfl, rfl, rfl, ed, hcv, e, q⟩ := h
  cases r with
  | cons rx rr =>
    cases rr with
    | cons rt rr =>
      cases rr
      cases rx
      have ec := hcv _ rt
      subst ec
      obtain ⟨hget, _⟩ := I.pin (a, oe) (List.mem_append.mpr (.inl List.mem_cons_self))
      obtain ⟨vs, hv⟩ := hf
      have hx : ObjOk X.prog X.w H s.heap dd (.xd fs) := I.hok dd _ ed
      obtain ⟨mA, hns, hr⟩ := hx
      obtain ⟨od, ho, hl⟩ := lookIn_ns hns
      have J : PySem.W.InstAt s.heap a oe D (some od) := ⟨hget, hz.1, by unfold PySem.W.notCls; rw [hv] <;> rfl, by rw [hz.2]; exact ho⟩
      exact PySem.W.kia_one (PySem.W.kitx_excA C) I.kIn ⟨_, _, J⟩ e (fun z => nomatch z) fun tk => ⟨.bl b, H, I.kept (t' := tk) fun _ _ z => z, rfl, q⟩
inductive Ex where
  | oex (x : Str)
  | init (x : Str)
  | nofld (x f : Str)
  | isc (x : Str)
  | kit (x y : Str) (b : Bool)
  | kitT (x : Str) (t : String) (b : Bool)
  | tup (x : Str) (vs : List He.Dv)
  | lst (x : Str) (vs : List He.Dv)
def oexB (K : PySem.W.Frag) (C : Addr) : Bool := match K.lookup C with
  | some ⟨.type "type", _, .cls cd, sl⟩ => (match cd.mro, sl.toList with
    | .ref C' :: bm, [_, _, _, _, some (.builtin n), _] => C' == C && (n == "ValueError.__new__" && (!cd.hasDel && (cd.hasDict && PySem.HandSPX.refsVE bm)))
    | _, _ => false)
  | _ => false
def Ex.ok (K : PySem.W.Frag) : Ex → Bool
  | .oex x => oexB K (He.ga K x) && (He.eqO (PySem.W.findIn K (.ref (He.ga K x)) "__setattr__") (some (some (.builtin "object.__setattr__"))) && (decide (PySem.W.subIn K (.ref (He.ga K x)) (.type "BaseException") = some true) &&
      (decide (PySem.W.typeIn K (.ref (He.ga K x)) = some (.type "type")) && PySem.W.keepIn K (.ref (He.ga K x)))))
  | .init x => He.eqO (PySem.W.findIn K (.ref (He.ga K x)) "__init__") (some (some (.ref (He.ma K (He.ga K x) "__init__")))) && decide (PySem.W.typeIn K (.ref (He.ma K (He.ga K x) "__init__")) = some (.type "function"))
  | .nofld x f => He.eqO (PySem.W.findIn K (.ref (He.ga K x)) f) (some none)
  | .isc x => He.eqO (PySem.W.findIn K (.ref (He.ga K x)) "__getattribute__") (some (some (.builtin "BaseException.__getattribute__"))) && (He.eqO (PySem.W.findIn K (.ref (He.ga K x)) "__getattr__") (some none) &&
      (decide (PySem.W.subIn K (.ref (He.ga K x)) (.type "BaseException") = some true) && (PySem.W.hasDictIn K (He.ga K x) && (He.eqO (PySem.W.findIn K (.ref (He.ga K x)) "__class__") (some (some (.builtin "object.__class__"))) &&
      (He.eqO (PySem.W.specialIn K (.builtin "object.__class__") "__get__") (some (some (.builtin "getset_descriptor.__get__"))) && (decide (PySem.W.takesIn K (.builtin "object.__class__") = some true) && decide (PySem.W.mroIn K (He.ga K x) (.type "object") = some true)))))))
  | .kit x y b => decide (PySem.W.kitOne K (.ref (He.ga K x)) (.ref (He.ga K y)) = some b)
  | .kitT x t b => decide (PySem.W.kitOne K (.ref (He.ga K x)) (.type t) = some b)
  | .tup x vs => He.tupB K x vs
  | .lst x vs => He.lstB K x vs
section
variable {K : PySem.W.Frag} {x y f : Str}
theorem oexB_ok {C : Addr} (h : oexB K C = true) : ∃ nm q N bs bm sn sub ab col dd k0 k1 k2 k3 k5, K.lookup C = some (excClassObj nm q C N bs bm true sn sub ab col dd k0 k1 k2 k3 k5 "ValueError.__new__") ∧ PySem.HandSPX.refsVE bm = true := by
  unfold oexB at h
  split at h
  · rename_i dd cd sl ho
    split at h
    · rename_i C' bm k0 k1 k2 k3 n k5 hm hs
      simp only [Bool.and_eq_true, beq_iff_eq, Bool.not_eq_true'] at h
      obtain ⟨rfl, rfl, hdel, hd, hr⟩ := h
      obtain ⟨nm, bs, mro, ns, qn, hdc, sn, sub, ab, col, del⟩ := cd
      dsimp only at hm hdel hd
      subst hm hdel hd
      have hsl : sl = #[k0, k1, k2, k3, some (.builtin "ValueError.__new__"), k5] := by
        obtain ⟨l⟩ := sl
        simp only at hs
        rw [hs]
      subst hsl
      exact ⟨nm, qn, ns, bs, bm, sn, sub, ab, col, dd, k0, k1, k2, k3, k5, ho, hr⟩
    · cases h
  · cases h
theorem ex_oex (h : (Ex.oex x).ok K = true) : OexC K (He.ga K x) := by
  obtain ⟨h1, h⟩ := He.ba h
  obtain ⟨h2, h⟩ := He.ba h
  obtain ⟨h3, h⟩ := He.ba h
  obtain ⟨h4, h5⟩ := He.ba h
  exact ⟨oexB_ok h1, He.eqO_ok h2, of_decide_eq_true h3, of_decide_eq_true h4, h5⟩
theorem ex_init (h : (Ex.init x).ok K = true) : PySem.W.findIn K (.ref (He.ga K x)) "__init__" = some (some (.ref (He.ma K (He.ga K x) "__init__"))) ∧ PySem.W.typeIn K (.ref (He.ma K (He.ga K x) "__init__")) = some (.type "function") := by
  obtain ⟨h1, h2⟩ := He.ba h
  exact ⟨He.eqO_ok h1, of_decide_eq_true h2⟩
theorem ex_nofld (h : (Ex.nofld x f).ok K = true) : PySem.W.findIn K (.ref (He.ga K x)) f = some none := He.eqO_ok h
theorem ex_isc (h : (Ex.isc x).ok K = true) : ExcC K (He.ga K x) := by
  obtain ⟨h1, h⟩ := He.ba h
  obtain ⟨h2, h⟩ := He.ba h
  obtain ⟨h3, h⟩ := He.ba h
  obtain ⟨h4, h⟩ := He.ba h
  obtain ⟨h5, h⟩ := He.ba h
  obtain ⟨h6, h⟩ := He.ba h
  obtain ⟨h7, h8⟩ := He.ba h
  exact ⟨He.eqO_ok h1, He.eqO_ok h2, of_decide_eq_true h3, h4, He.eqO_ok h5, He.eqO_ok h6, of_decide_eq_true h7, of_decide_eq_true h8⟩
theorem xfc_of {C : Addr} (h : ExcC K C) : XfC K C := ⟨h.hg, h.hk, h.hs, h.hd⟩
theorem ex_kitT {t : String} {b : Bool} (h : (Ex.kitT x t b).ok K = true) : PySem.W.kitOne K (.ref (He.ga K x)) (.type t) = some b := of_decide_eq_true h
end
theorem Fx.intg {fa : List He.Fa} {fn : List He.DefD} {K : PySem.W.Frag} {mg : Str → Option Value} (T : Fx fa fn K mg) (i : Nat) {x : Str} {n : Int} (h : fa[i]? = some (.int x n) := by rfl) : ∃ t, mg x = some (.int n t) := let ⟨_, KX, G⟩ := T.ex; He.int_ok KX G (T.c.fact i h)
theorem Fx.strg {fa : List He.Fa} {fn : List He.DefD} {K : PySem.W.Frag} {mg : Str → Option Value} (T : Fx fa fn K mg) (i : Nat) {x z : Str} (h : fa[i]? = some (.str x z) := by rfl) : ∃ t, mg x = some (.str z t) := let ⟨_, KX, G⟩ := T.ex; He.str_ok KX G (T.c.fact i h)
theorem e_gint {X : Cx} {x : Str} {n : Int} {pos : Pos} (hg : Gl X x) (h : ∃ t, X.mg x = some (.int n t)) (hd : (x == ("__debug__" : Str)) = false := by decide) : PE X (.Name x pos) (tC (.int n)) := let ⟨t, e⟩ := h; pe_glob hg e ⟨t, rfl⟩ hd
theorem e_gstr {X : Cx} {x z : Str} {pos : Pos} (hg : Gl X x) (h : ∃ t, X.mg x = some (.str z t)) (hd : (x == ("__debug__" : Str)) = false := by decide) : PE X (.Name x pos) (tC (.str z)) := let ⟨t, e⟩ := h; pe_glob hg e ⟨t, rfl⟩ hd
structure Fy (fa : List He.Fa) (fn : List He.DefD) (xs : List Ex) (K : PySem.W.Frag) (mg : Str → Option Value) : Prop extends Fx fa fn K mg where
  m : (xs.all fun e => e.ok K) = true
theorem Fy.more {fa : List He.Fa} {fn : List He.DefD} {xs : List Ex} {K : PySem.W.Frag} {mg : Str → Option Value} (T : Fy fa fn xs K mg) (i : Nat) {e : Ex} (h : xs[i]? = some e := by rfl) : e.ok K = true := List.all_eq_true.mp T.m e (List.mem_of_getElem? h)
def sRaiseO (W : WX) (C : Addr) (sp : Sp) (ta : TA) : TS := fun _ σ H => ta σ H fun vs H1 => vs.length ≤ 1000 ∧ ∀ a, H1 a = none → sp (.ref a :: vs) (upd H1 a (exo a C none))
  (fun v H2 => v = .non ∧ ∃ (d : Addr) (fs : List (Str × V)), H2 a = some (exo a C (some d)) ∧ H2 d = some (exd d fs) ∧ H1 d = none ∧ W (.ref C) (some d) σ (upd (del H2 a) d (.xd fs))) (fun _ _ _ => False)
theorem s_raiseO {X : Cx} {W : WX} {x : Str} {p pos pos' : Pos} {e : Expr} {es : List Expr} {C fI : Addr} {k : Nat} {ps : List Str} {sp : Sp} {ta : TA} (hc : X.calm = true) (tk : Takes X W) (T : OexC X.K C)
    (i : PySem.W.findIn X.K (.ref C) "__init__" = some (some (.ref fI)) ∧ PySem.W.typeIn X.K (.ref fI) = some (.type "function")) (d : Def X.prog X.w X.K X.mg X.base k fI ps sp) (hr : Room (k + 1) X.A) (hg : Gl X x) (hm : X.mg x = some (.ref C)) (ha : PA X (e :: es) ta)
    (hdb : (x == ("__debug__" : Str)) = false := by decide) (he : starEach (e :: es) X.env = (false, eval e X.env) :: starEach es X.env := by rfl) (hpl : (backTo pos (starEach es X.env)).any (·.1) = false := by rfl) :
    PS X (.Raise (some (.Call (.Name x p) (e :: es) [] pos)) none pos') (sRaiseO W C sp ta) := by
  obtain ⟨fd, F, b⟩ := d.ex
  refine PS.imp (ps_raise hc tk (pmk_oex (dvs := []) T i.1 i.2 F hr b .nil passL hg hm ha hdb he hpl)) fun D σ H h => ?_
  unfold sRaiseO at h
  unfold tMkO
  simp only [List.append_nil]
  exact h
end Co
end

section
set_option maxHeartbeats 4000000
namespace Co
open PySem PySem.Spec PyProof.Rows L2
section
variable {X : Cx}
def repL (l : List Nat) (n : Int) : List Nat := (List.replicate n.toNat l).flatten
def rCatW (K : PySem.W.Frag) : R2 := fun x y H Q => ∃ a b xs ys, x = .ref a ∧ y = .ref b ∧ SqT K H a xs ∧ SqT K H b ys ∧ xs.length + ys.length ≤ sizeLine ∧
  (xs = [] → Q (.ref b) H) ∧ (xs ≠ [] → ys = [] → Q (.ref a) H) ∧ (xs ≠ [] → ys ≠ [] → ∀ p, H p = none → Q (.ref p) (upd H p (.tup (xs ++ ys))))
theorem cat_tup0 {prog : Program} {w : World} {A : Around} {E : Value → Shared → Prop} {s : Shared} {t b : Addr} {ws : List Value} {Q : Value → Shared → Prop} (ht : IsTup s.heap t ([] : List Value).toArray) (hb : IsTup s.heap b ws.toArray)
    (h : Q (.ref b) s) : wpAny (model prog w) A (binaryOp .Add (.ref t) (.ref b)) Q E s := by
  obtain ⟨⟨cls, dd, data, sl⟩, ho, hc, n, hd⟩ := id ht
  obtain ⟨⟨cls2, dd2, data2, sl2⟩, ho2, hc2, n2, hd2⟩ := id hb
  simp only at hc hd hc2 hd2
  subst hc hd hc2 hd2
  exact concat_meets ⟨_, ho, rfl⟩ ⟨_, ho2, rfl⟩ noFill_tuple_add seq_tuple_add PySem.F.slot_tuple_add PySem.F.entry_tuple_add (PySem.F.args_tuple_add_2 _ _)
      (tuple_addW0 t b ([] : List Value).toArray ws.toArray n n2 dd dd2 sl sl2 (by simp)) ⟨ho, ho2, h⟩
theorem op_catW : OpR X (binaryOp .Add) (rCatW X.K) := by
  intro pins s σ H x y v u Q I rx ry h
  obtain ⟨a, b, xs, ys, rfl, rfl, ha, hb, hz, q0, q1, q2⟩ := h
  by_cases hx : xs = []
  · subst hx
    obtain ⟨its, r1, p1, _⟩ := I.tuple ha
    obtain ⟨its2, r2, p2, _⟩ := I.tuple hb
    have e := r1.nil_iff.mpr rfl
    subst e
    cases rx
    cases ry
    exact cat_tup0 p1 p2 ⟨.ref b, H, I, rfl, q0 rfl⟩
  · exact op_catT pins s σ H _ _ v u Q I rx ry ⟨a, b, xs, ys, rfl, rfl, ha, hb, hx, hz, q1 hx, q2 hx⟩
def cStrI : List V → Hp → VK → Prop := fun xs H Q => match xs with
  | [.int i] => i.natAbs.log2 < 1920 ∧ Q (.str (toString i)) H
  | _ => False
theorem c_strI : CallR X (.type "str") cStrI := CallR.imp call_str_int fun xs H Q h => by
  unfold cStrI at h
  split at h
  · exact ⟨_, rfl, h.1, h.2⟩
  · exact h.elim
def cIntS : List V → Hp → VK → Prop := fun xs H Q => match xs with
  | [.str a] => ∃ n, PySem.intText? a = some n ∧ a.length ≤ 640 ∧ Q (.int n) H
  | _ => False
theorem c_intS : CallR X (.type "int") cIntS := CallR.imp call_int_str fun xs H Q h => by
  unfold cIntS at h
  split at h
  · obtain ⟨n, h1, h2, h3⟩ := h
    exact ⟨_, n, rfl, h1, h2, h3⟩
  · exact h.elim
def cAbs : List V → Hp → VK → Prop := fun xs H Q => match xs with
  | [.int i] => Q (.int (i.natAbs : Int)) H
  | _ => False
theorem c_abs : CallR X (.builtin "abs") cAbs := CallR.imp call_abs fun xs H Q h => by
  unfold cAbs at h
  split at h
  · rename_i i
    refine ⟨i, rfl, ?_⟩
    have : (if i < 0 then -i else i) = (i.natAbs : Int) := by split <;> omega
    rw [this]
    exact h
  · exact h.elim
def fAddA : R2 := fun x y H Q => match x, y with
  | .int i, .int j => Q (.int (i + j)) H
  | .str i, .str j => i.length + j.length ≤ sizeLine ∧ Q (.str (i ++ j)) H
  | _, _ => False
theorem o_addA : OpR X (binaryOp .Add) fAddA := by
  intro pins s σ H x y v u Q I rx ry h
  unfold fAddA at h
  split at h
  · exact o_add pins s σ H _ _ v u Q I rx ry h
  · exact o_addS pins s σ H _ _ v u Q I rx ry h
  · exact h.elim
end
end Co
theorem L2.Room.units65 {k : Nat} {A : PySem.Around} (r : L2.Room k A) : A.units + 65 < PySem.cLine := by
  have := r.un
  omega
end

section
set_option maxHeartbeats 4000000
namespace Dl
open PySem PySem.Spec PyProof.Rows L2 Co
inductive D where
  | non | bl (b : Bool) | int (i : Int) | str (x : Str) | ty (n : String) | glo (x : Str)
  | tup (ds : List D) | lst (ds : List D) | dct (ks : List Key) (ds : List D) | dcT (ks : List (List Key)) (ds : List D) | ins (C : Str) (ns : List Str) (ds : List D) | scr (ns : List Int)
  | exc (a dd : Addr) (C : Str) (ns : List Str) (ds : List D)
inductive W where
  | im (d : D) | loc (n : Nat) | dead
inductive Ob where
  | lst (ds : List D) | dct (ks : List Key) (ds : List D) | dcT (ks : List (List Key)) (ds : List D) | ins (C : Str) (fs : List (Str × W)) | lsW (ws : List W) | dcW (ks : List Key) (ws : List W) | pool | fz (d : D) | gone
abbrev Sl := List (Option W)
abbrev Sto := List Ob
structure Kn where
  K : PySem.W.Frag
  b : Bool
def isDct : HO → Bool
  | .dK _ => true
  | .dT _ => true
  | _ => false
def Sub (M H : Hp) : Prop := ∀ b u, M b = some u → H b = some u ∨ (isDct u = true ∧ ∃ o, H b = some (.frz o u))
def SqC (N : Kn) (M : Hp) (p : Addr) (xs : List V) : Prop := M p = some (.tup xs) ∨ (N.b = true ∧ SqT N.K M p xs)
mutual
def Rp (N : Kn) (M : Hp) : D → V → Prop
  | .non, v => v = .non
  | .bl b, v => v = .bl b
  | .int i, v => v = .int i
  | .str x, v => v = .str x
  | .ty n, v => v = .ty n
  | .glo x, v => v = .ref (He.ga N.K x)
  | .scr ns, v => ∃ p, v = .ref p ∧ SqL N.K M p (ns.map V.int)
  | .tup ds, v => ∃ p xs, v = .ref p ∧ SqC N M p xs ∧ Rps N M ds xs
  | .lst ds, v => ∃ p xs, v = .ref p ∧ M p = some (.lst xs) ∧ Rps N M ds xs
  | .dct ks ds, v => ∃ p kvs, v = .ref p ∧ M p = some (.dK kvs) ∧ kvs.map (·.1) = ks ∧ Rps N M ds (kvs.map (·.2))
  | .dcT ks ds, v => ∃ p kvs, v = .ref p ∧ M p = some (.dT kvs) ∧ kvs.map (·.1) = ks ∧ Rps N M ds (kvs.map (·.2))
  | .ins C ns ds, v => ∃ p dx fs, v = .ref p ∧ M p = some (.ins (He.ga N.K C) dx fs) ∧ fs.map (·.1) = ns ∧ Rps N M ds (fs.map (·.2))
  | .exc a dd _ ns ds, v => v = .ref a ∧ ∃ fxs, M dd = some (.xd fxs) ∧ fxs.map (·.1) = ns ∧ Rps N M ds (fxs.map (·.2))
def Rps (N : Kn) (M : Hp) : List D → List V → Prop
  | [], xs => xs = []
  | d :: ds, xs => ∃ x r, xs = x :: r ∧ Rp N M d x ∧ Rps N M ds r
end
section
variable {N : Kn} {M M' H H' : Hp}
theorem SqC.mono {p : Addr} {xs : List V} (h : SqC N M p xs) (e : Same M M') : SqC N M' p xs := h.elim (fun h => .inl (e _ _ h)) fun h => .inr ⟨h.1, sqT_same e h.2⟩
mutual
theorem Rp.mono (e : Same M M') : ∀ {d : D} {v : V}, Rp N M d v → Rp N M' d v
  | .non, _, h => h
  | .bl _, _, h => h
  | .int _, _, h => h
  | .str _, _, h => h
  | .ty _, _, h => h
  | .glo _, _, h => h
  | .scr _, _, ⟨p, h1, h2⟩ => ⟨p, h1, e.seq h2⟩
  | .tup _, _, ⟨p, xs, h1, h2, h3⟩ => ⟨p, xs, h1, h2.mono e, Rps.mono e h3⟩
  | .lst _, _, ⟨p, xs, h1, h2, h3⟩ => ⟨p, xs, h1, e _ _ h2, Rps.mono e h3⟩
  | .dct _ _, _, ⟨p, kvs, h1, h2, h3, h4⟩ => ⟨p, kvs, h1, e _ _ h2, h3, Rps.mono e h4⟩
  | .dcT _ _, _, ⟨p, kvs, h1, h2, h3, h4⟩ => ⟨p, kvs, h1, e _ _ h2, h3, Rps.mono e h4⟩
  | .ins _ _ _, _, ⟨p, dx, fs, h1, h2, h3, h4⟩ => ⟨p, dx, fs, h1, e _ _ h2, h3, Rps.mono e h4⟩
  | .exc _ _ _ _ _, _, ⟨h1, fxs, h2, h3, h4⟩ => ⟨h1, fxs, e _ _ h2, h3, Rps.mono e h4⟩
theorem Rps.mono (e : Same M M') : ∀ {ds : List D} {vs : List V}, Rps N M ds vs → Rps N M' ds vs
  | [], _, h => h
  | _ :: _, _, ⟨x, r, h1, h2, h3⟩ => ⟨x, r, h1, Rp.mono e h2, Rps.mono e h3⟩
end
theorem Rps.nil : Rps N M [] [] := rfl
theorem Rps.cons {d : D} {ds : List D} {v : V} {vs : List V} (h : Rp N M d v) (t : Rps N M ds vs) : Rps N M (d :: ds) (v :: vs) := ⟨v, vs, rfl, h, t⟩
theorem Rps.length : ∀ {ds : List D} {vs : List V}, Rps N M ds vs → vs.length = ds.length
  | [], _, h => by rw [show _ = [] from h]; rfl
  | _ :: _, _, ⟨_, _, h1, _, h3⟩ => by rw [h1, List.length_cons, List.length_cons, Rps.length h3]
theorem Rps.get : ∀ {ds : List D} {vs : List V} {i : Nat} {d : D}, Rps N M ds vs → ds[i]? = some d → ∃ v, vs[i]? = some v ∧ Rp N M d v
  | [], _, _, _, _, e => by simp at e
  | d :: ds, _, 0, _, ⟨x, r, h1, h2, _⟩, e => by
    subst h1
    simp at e
    subst e
    exact ⟨x, rfl, h2⟩
  | d :: ds, _, i + 1, _, ⟨x, r, h1, _, h3⟩, e => by
    subst h1
    obtain ⟨v, h4, h5⟩ := Rps.get (i := i) h3 (by simpa using e)
    exact ⟨v, by simpa using h4, h5⟩
theorem Rps.get2 : ∀ {ds : List D} {vs : List V} {i : Nat} {v : V}, Rps N M ds vs → vs[i]? = some v → ∃ d, ds[i]? = some d ∧ Rp N M d v
  | [], vs, _, _, h, e => by rw [show vs = [] from h] at e; simp at e
  | d :: ds, _, 0, _, ⟨x, r, h1, h2, _⟩, e => by
    subst h1
    simp at e
    subst e
    exact ⟨d, rfl, h2⟩
  | d :: ds, _, i + 1, _, ⟨x, r, h1, _, h3⟩, e => by
    subst h1
    obtain ⟨v, h4, h5⟩ := Rps.get2 (i := i) h3 (by simpa using e)
    exact ⟨v, by simpa using h4, h5⟩
theorem Rps.append : ∀ {ds es : List D} {vs ws : List V}, Rps N M ds vs → Rps N M es ws → Rps N M (ds ++ es) (vs ++ ws)
  | [], _, _, _, h, t => by rw [show _ = [] from h]; exact t
  | _ :: _, _, _, _, ⟨x, r, h1, h2, h3⟩, t => by
    subst h1
    exact ⟨x, r ++ _, rfl, h2, Rps.append h3 t⟩
theorem Rps.take : ∀ {ds : List D} {vs : List V} (n : Nat), Rps N M ds vs → Rps N M (ds.take n) (vs.take n)
  | _, _, 0, _ => rfl
  | [], _, _ + 1, h => by rw [show _ = [] from h]; rfl
  | _ :: _, _, n + 1, ⟨x, r, h1, h2, h3⟩ => by
    subst h1
    exact ⟨x, r.take n, rfl, h2, Rps.take n h3⟩
theorem Rps.drop : ∀ {ds : List D} {vs : List V} (n : Nat), Rps N M ds vs → Rps N M (ds.drop n) (vs.drop n)
  | _, _, 0, h => h
  | [], _, _ + 1, h => by rw [show _ = [] from h]; rfl
  | _ :: _, _, n + 1, ⟨x, r, h1, h2, h3⟩ => by
    subst h1
    exact Rps.drop n h3
theorem Rps.set : ∀ {ds : List D} {vs : List V} {d : D} {v : V} (i : Nat), Rps N M ds vs → Rp N M d v → Rps N M (ds.set i d) (vs.set i v)
  | [], _, _, _, _, h, _ => by rw [show _ = [] from h]; rfl
  | _ :: _, _, _, _, 0, ⟨x, r, h1, h2, h3⟩, q => by
    subst h1
    exact ⟨_, r, rfl, q, h3⟩
  | _ :: _, _, _, _, i + 1, ⟨x, r, h1, h2, h3⟩, q => by
    subst h1
    exact ⟨x, _, rfl, h2, Rps.set i h3 q⟩
theorem Sub.seq {a : Addr} {xs : List V} (s : Sub M H) (h : SqL N.K M a xs) : SqL N.K H a xs := by
  rcases h with (h | ⟨o, h⟩) | h
  · rcases s _ _ h with h | ⟨h, _⟩
    · exact .inl (.inl h)
    · cases h
  · rcases s _ _ h with h | ⟨h, _⟩
    · exact .inl (.inr ⟨o, h⟩)
    · cases h
  · exact .inr h
theorem Sub.tup {a : Addr} {xs : List V} (s : Sub M H) (h : SqC N M a xs) : SqT N.K H a xs := by
  have g : ∀ u, M a = some u → isDct u = false → H a = some u := fun u e n => by
    rcases s _ _ e with h | ⟨h, _⟩
    · exact h
    · rw [n] at h; cases h
  rcases h with h | ⟨_, (h | ⟨o, h⟩) | h⟩
  · exact .inl (.inl (g _ h rfl))
  · exact .inl (.inl (g _ h rfl))
  · exact .inl (.inr ⟨o, g _ h rfl⟩)
  · exact .inr h
theorem Sub.ins {a : Addr} {C dx : Addr} {fs : List (Str × V)} (s : Sub M H) (h : M a = some (.ins C dx fs)) : H a = some (.ins C dx fs) := by
  rcases s _ _ h with h | ⟨h, _⟩
  · exact h
  · cases h
theorem Sub.tup1 {a : Addr} {xs : List V} (s : Sub M H) (h : M a = some (.tup xs)) : H a = some (.tup xs) := by
  rcases s _ _ h with h | ⟨h, _⟩
  · exact h
  · cases h
theorem Sub.lst1 {a : Addr} {xs : List V} (s : Sub M H) (h : M a = some (.lst xs)) : H a = some (.lst xs) := by
  rcases s _ _ h with h | ⟨h, _⟩
  · exact h
  · cases h
theorem Sub.dK {a : Addr} {kvs : List (Key × V)} (s : Sub M H) (h : M a = some (.dK kvs)) : Rd H a (.dK kvs) := by
  rcases s _ _ h with h | ⟨_, o, h⟩
  · exact .inl h
  · exact .inr ⟨o, h⟩
theorem Sub.dT {a : Addr} {kvs : List (List Key × V)} (s : Sub M H) (h : M a = some (.dT kvs)) : Rd H a (.dT kvs) := by
  rcases s _ _ h with h | ⟨_, o, h⟩
  · exact .inl h
  · exact .inr ⟨o, h⟩
theorem Sub.isSome {a : Addr} {u : HO} (s : Sub M H) (h : M a = some u) : H a ≠ none := by
  rcases s _ _ h with h | ⟨_, o, h⟩ <;> rw [h] <;> exact fun z => nomatch z
end
def Pre (ρ ρ' : List Addr) : Prop := ∃ r, ρ' = ρ ++ r
theorem Pre.refl (ρ : List Addr) : Pre ρ ρ := ⟨[], by simp⟩
theorem Pre.trans {a b c : List Addr} (h : Pre a b) (k : Pre b c) : Pre a c := by
  obtain ⟨r, rfl⟩ := h
  obtain ⟨q, rfl⟩ := k
  exact ⟨r ++ q, by simp⟩
theorem Pre.get {ρ ρ' : List Addr} (h : Pre ρ ρ') {i : Nat} {a : Addr} (e : ρ[i]? = some a) : ρ'[i]? = some a := by
  obtain ⟨r, rfl⟩ := h
  have := (List.getElem?_eq_some_iff.mp e).1
  rw [List.getElem?_append_left this]
  exact e
theorem Pre.mem {ρ ρ' : List Addr} (h : Pre ρ ρ') {a : Addr} (e : a ∈ ρ) : a ∈ ρ' := by
  obtain ⟨r, rfl⟩ := h
  exact List.mem_append_left _ e
def Rw (N : Kn) (M : Hp) (ρ : List Addr) : W → V → Prop
  | .im d, v => Rp N M d v
  | .loc n, v => ∃ a, ρ[n]? = some a ∧ v = .ref a
  | .dead, _ => True
def Rws (N : Kn) (M : Hp) (ρ : List Addr) : List W → List V → Prop
  | [], xs => xs = []
  | d :: ds, xs => ∃ x r, xs = x :: r ∧ Rw N M ρ d x ∧ Rws N M ρ ds r
def PoolR (M H : Hp) (a : Addr) : Prop := ∃ (q : Addr) (ns : List Int) (i d s : Int), M q = some (.lst (ns.map V.int)) ∧ H a = some (.lst [.ref q, .int i, .int d, .int s]) ∧ (∀ n ∈ ns, 0 ≤ n) ∧ 0 ≤ i ∧ 0 ≤ d ∧ 0 ≤ s ∧ s < 2147483647
def RO (N : Kn) (M : Hp) (ρ : List Addr) (H : Hp) : Ob → Addr → Prop
  | .lst ds, a => M a = none ∧ ∃ xs, H a = some (.lst xs) ∧ Rps N M ds xs
  | .dct ks ds, a => M a = none ∧ ∃ kvs, H a = some (.dK kvs) ∧ kvs.map (·.1) = ks ∧ Rps N M ds (kvs.map (·.2))
  | .dcT ks ds, a => M a = none ∧ ∃ kvs, H a = some (.dT kvs) ∧ kvs.map (·.1) = ks ∧ Rps N M ds (kvs.map (·.2))
  | .ins C fs, a => M a = none ∧ ∃ dx fxs, H a = some (.ins (He.ga N.K C) dx fxs) ∧ fxs.map (·.1) = fs.map (·.1) ∧ Rws N M ρ (fs.map (·.2)) (fxs.map (·.2))
  | .lsW ws, a => M a = none ∧ ∃ xs, H a = some (.lst xs) ∧ Rws N M ρ ws xs
  | .dcW ks ws, a => M a = none ∧ ∃ kvs, H a = some (.dK kvs) ∧ kvs.map (·.1) = ks ∧ Rws N M ρ ws (kvs.map (·.2))
  | .pool, a => M a = none ∧ PoolR M H a
  | .fz d, a => Rp N M d (.ref a) ∧ H a ≠ none
  | .gone, a => H a ≠ none
section
variable {N : Kn} {M M' H H' : Hp} {ρ ρ' : List Addr}
theorem Rw.mono {w : W} {v : V} (h : Rw N M ρ w v) (e : Same M M') (p : Pre ρ ρ') : Rw N M' ρ' w v := by
  cases w with
  | im d => exact Rp.mono e h
  | loc n => obtain ⟨a, h1, h2⟩ := h; exact ⟨a, p.get h1, h2⟩
  | dead => trivial
theorem Rws.mono (e : Same M M') (p : Pre ρ ρ') : ∀ {ws : List W} {vs : List V}, Rws N M ρ ws vs → Rws N M' ρ' ws vs
  | [], _, h => h
  | _ :: _, _, ⟨x, r, h1, h2, h3⟩ => ⟨x, r, h1, h2.mono e p, Rws.mono e p h3⟩
theorem Rws.length : ∀ {ds : List W} {vs : List V}, Rws N M ρ ds vs → vs.length = ds.length
  | [], _, h => by rw [show _ = [] from h]; rfl
  | _ :: _, _, ⟨_, _, h1, _, h3⟩ => by rw [h1, List.length_cons, List.length_cons, Rws.length h3]
theorem Rws.get : ∀ {ds : List W} {vs : List V} {i : Nat} {d : W}, Rws N M ρ ds vs → ds[i]? = some d → ∃ v, vs[i]? = some v ∧ Rw N M ρ d v
  | [], _, _, _, _, e => by simp at e
  | d :: ds, _, 0, _, ⟨x, r, h1, h2, _⟩, e => by
    subst h1
    simp at e
    subst e
    exact ⟨x, rfl, h2⟩
  | d :: ds, _, i + 1, _, ⟨x, r, h1, _, h3⟩, e => by
    subst h1
    obtain ⟨v, h4, h5⟩ := Rws.get (i := i) h3 (by simpa using e)
    exact ⟨v, by simpa using h4, h5⟩
theorem Rws.get2 : ∀ {ds : List W} {vs : List V} {i : Nat} {v : V}, Rws N M ρ ds vs → vs[i]? = some v → ∃ d, ds[i]? = some d ∧ Rw N M ρ d v
  | [], vs, _, _, h, e => by rw [show vs = [] from h] at e; simp at e
  | d :: ds, _, 0, _, ⟨x, r, h1, h2, _⟩, e => by
    subst h1
    simp at e
    subst e
    exact ⟨d, rfl, h2⟩
  | d :: ds, _, i + 1, _, ⟨x, r, h1, _, h3⟩, e => by
    subst h1
    obtain ⟨v, h4, h5⟩ := Rws.get2 (i := i) h3 (by simpa using e)
    exact ⟨v, by simpa using h4, h5⟩
theorem Rws.of : ∀ {ds : List D} {vs : List V}, Rps N M ds vs → Rws N M ρ (ds.map W.im) vs
  | [], _, h => h
  | _ :: _, _, ⟨x, r, h1, h2, h3⟩ => ⟨x, r, h1, h2, Rws.of h3⟩
theorem RO.there {o : Ob} {a : Addr} (h : RO N M ρ H o a) : H a ≠ none := by
  cases o with
  | lst ds => obtain ⟨_, _, h, _⟩ := h; rw [h]; exact fun z => nomatch z
  | dct ks ds => obtain ⟨_, _, h, _⟩ := h; rw [h]; exact fun z => nomatch z
  | dcT ks ds => obtain ⟨_, _, h, _⟩ := h; rw [h]; exact fun z => nomatch z
  | ins C fs => obtain ⟨_, _, _, h, _⟩ := h; rw [h]; exact fun z => nomatch z
  | lsW ws => obtain ⟨_, _, h, _⟩ := h; rw [h]; exact fun z => nomatch z
  | dcW ks ws => obtain ⟨_, _, h, _⟩ := h; rw [h]; exact fun z => nomatch z
  | pool => obtain ⟨_, _, _, _, _, _, _, h, _⟩ := h; rw [h]; exact fun z => nomatch z
  | fz d => exact h.2
  | gone => exact h
theorem RO.mono {o : Ob} {a : Addr} (h : RO N M ρ H o a) (e : Same M M') (p : Pre ρ ρ') (hM : M a = none → M' a = none) (hH : ∀ u, H a = some u → H' a = some u) : RO N M' ρ' H' o a := by
  have hn : H a ≠ none → H' a ≠ none := fun n => by
    cases z : H a with
    | none => exact absurd z n
    | some u => rw [hH u z]; exact fun z => nomatch z
  cases o with
  | lst ds => obtain ⟨h0, xs, h, h1⟩ := h; exact ⟨hM h0, xs, hH _ h, h1.mono e⟩
  | dct ks ds => obtain ⟨h0, xs, h, h1, h2⟩ := h; exact ⟨hM h0, xs, hH _ h, h1, h2.mono e⟩
  | dcT ks ds => obtain ⟨h0, xs, h, h1, h2⟩ := h; exact ⟨hM h0, xs, hH _ h, h1, h2.mono e⟩
  | ins C fs => obtain ⟨h0, dx, xs, h, h1, h2⟩ := h; exact ⟨hM h0, dx, xs, hH _ h, h1, h2.mono e p⟩
  | lsW ws => obtain ⟨h0, xs, h, h1⟩ := h; exact ⟨hM h0, xs, hH _ h, Rws.mono e p h1⟩
  | dcW ks ws => obtain ⟨h0, xs, h, h1, h2⟩ := h; exact ⟨hM h0, xs, hH _ h, h1, Rws.mono e p h2⟩
  | pool => obtain ⟨h0, q, ns, i, d, s, h1, h2, h3⟩ := h; exact ⟨hM h0, q, ns, i, d, s, e _ _ h1, hH _ h2, h3⟩
  | fz d => exact ⟨h.1.mono e, hn h.2⟩
  | gone => exact hn h
structure Rep (N : Kn) (M : Hp) (ρ : List Addr) (st : Sto) (H : Hp) : Prop where
  sub : Sub M H
  len : ρ.length = st.length
  inj : ∀ (i j : Nat) a, ρ[i]? = some a → ρ[j]? = some a → i = j
  ob : ∀ (i : Nat) a o, ρ[i]? = some a → st[i]? = some o → RO N M ρ H o a
def Rs (N : Kn) (M : Hp) (ρ : List Addr) (σ : Sl) (σV : L2.St) : Prop := σ.length = σV.length ∧ ∀ (i : Nat) w, σ[i]? = some (some w) → ∃ v, σV[i]? = some (some v) ∧ Rw N M ρ w v
structure Ext (M : Hp) (ρ : List Addr) (H M' : Hp) (ρ' : List Addr) (H' : Hp) : Prop where
  mm : Same M M'
  pre : Pre ρ ρ'
  fr : Fr ρ H H'
  nw : ∀ a, M' a ≠ none → M a ≠ none ∨ H a = none ∨ a ∈ ρ
  rn : ∀ a ∈ ρ', a ∈ ρ ∨ H a = none
theorem Ext.refl : Ext M ρ H M ρ H := ⟨Same.refl _, Pre.refl _, Fr.refl _ _, fun _ h => .inl h, fun _ h => .inl h⟩
theorem Ext.trans {M2 H2 : Hp} {ρ2 : List Addr} (a : Ext M ρ H M' ρ' H') (b : Ext M' ρ' H' M2 ρ2 H2) : Ext M ρ H M2 ρ2 H2 := by
  have k : ∀ c, H' c = none → H c = none ∨ c ∈ ρ := fun c h => by
    by_cases z : c ∈ ρ
    · exact .inr z
    · left
      cases e : H c with
      | none => rfl
      | some o => rw [a.fr c o e z] at h; cases h
  refine ⟨a.mm.trans b.mm, a.pre.trans b.pre, fun c o h n => ?_, fun c h => ?_, fun c h => ?_⟩
  · refine b.fr c o (a.fr c o h n) fun z => ?_
    rcases a.rn c z with z | z
    · exact n z
    · rw [h] at z; cases z
  · rcases b.nw c h with h | h | h
    · exact a.nw c h
    · rcases k c h with h | h
      · exact .inr (.inl h)
      · exact .inr (.inr h)
    · rcases a.rn c h with h | h
      · exact .inr (.inr h)
      · exact .inr (.inl h)
  · rcases b.rn c h with h | h
    · exact a.rn c h
    · rcases k c h with h | h
      · exact .inr h
      · exact .inl h
theorem Rs.mono {σ : Sl} {σV : L2.St} (h : Rs N M ρ σ σV) (e : Same M M') (p : Pre ρ ρ') : Rs N M' ρ' σ σV := ⟨h.1, fun i w q => let ⟨v, h1, h2⟩ := h.2 i w q; ⟨v, h1, h2.mono e p⟩⟩
theorem Rs.ext {σ : Sl} {σV : L2.St} (h : Rs N M ρ σ σV) (e : Ext M ρ H M' ρ' H') : Rs N M' ρ' σ σV := h.mono e.mm e.pre
theorem Rw.ext {w : W} {v : V} (h : Rw N M ρ w v) (e : Ext M ρ H M' ρ' H') : Rw N M' ρ' w v := h.mono e.mm e.pre
theorem Rws.ext {w : List W} {v : List V} (h : Rws N M ρ w v) (e : Ext M ρ H M' ρ' H') : Rws N M' ρ' w v := Rws.mono e.mm e.pre h
theorem Rp.ext {w : D} {v : V} (h : Rp N M w v) (e : Ext M ρ H M' ρ' H') : Rp N M' w v := Rp.mono e.mm h
theorem Rps.ext {w : List D} {v : List V} (h : Rps N M w v) (e : Ext M ρ H M' ρ' H') : Rps N M' w v := Rps.mono e.mm h
theorem Rs.set {σ : Sl} {σV : L2.St} {w : W} {v : V} (h : Rs N M ρ σ σV) (k : Rw N M ρ w v) (i : Nat) : Rs N M ρ (σ.set i (some w)) (σV.set i (some v)) := by
  refine ⟨by rw [List.length_set, List.length_set]; exact h.1, fun j w' e => ?_⟩
  by_cases z : i = j
  · subst z
    have hj : i < σ.length := by
      have := (List.getElem?_eq_some_iff.mp e).1
      simpa using this
    rw [List.getElem?_set_self hj] at e
    cases e
    exact ⟨v, by rw [List.getElem?_set_self (by rw [← h.1]; exact hj)], k⟩
  · rw [List.getElem?_set_ne z] at e
    obtain ⟨v', h1, h2⟩ := h.2 j w' e
    exact ⟨v', by rw [List.getElem?_set_ne z]; exact h1, h2⟩
theorem Rs.unset {σ : Sl} {σV : L2.St} (h : Rs N M ρ σ σV) (i : Nat) (o : Option V) : Rs N M ρ (σ.set i none) (σV.set i o) := by
  refine ⟨by rw [List.length_set, List.length_set]; exact h.1, fun j w' e => ?_⟩
  by_cases z : i = j
  · subst z
    have hj : i < σ.length := by
      have := (List.getElem?_eq_some_iff.mp e).1
      simpa using this
    rw [List.getElem?_set_self hj] at e
    cases e
  · rw [List.getElem?_set_ne z] at e
    obtain ⟨v', h1, h2⟩ := h.2 j w' e
    exact ⟨v', by rw [List.getElem?_set_ne z]; exact h1, h2⟩
theorem Sub.new {p : Addr} {o : HO} (h : Sub M H) (hp : H p = none) : Sub (upd M p o) (upd H p o) ∧ Same M (upd M p o) := by
  have hm : M p = none := by
    cases e : M p with
    | none => rfl
    | some u => exact absurd hp (h.isSome e)
  refine ⟨fun b u e => ?_, same_grow0 hm⟩
  by_cases z : b = p
  · subst z
    rw [upd_same] at e
    cases e
    exact .inl upd_same
  · rw [upd_ne z] at e
    rw [upd_ne z]
    exact h b u e
theorem Rep.non {st : Sto} (r : Rep N M ρ st H) {p : Addr} (hp : H p = none) : M p = none := by
  cases e : M p with
  | none => rfl
  | some u => exact absurd hp (r.sub.isSome e)
theorem Rep.at_ {st : Sto} (r : Rep N M ρ st H) {i : Nat} {a : Addr} (e : ρ[i]? = some a) : ∃ o, st[i]? = some o ∧ RO N M ρ H o a := by
  have hi := (List.getElem?_eq_some_iff.mp e).1
  rw [r.len] at hi
  exact ⟨st[i], by simp [hi], r.ob i a _ e (by simp [hi])⟩
theorem Rep.mem {st : Sto} (r : Rep N M ρ st H) {a : Addr} (h : a ∈ ρ) : H a ≠ none := by
  obtain ⟨i, hi⟩ := List.getElem?_of_mem h
  obtain ⟨o, _, ho⟩ := r.at_ hi
  exact ho.there
theorem Rep.new {st : Sto} (r : Rep N M ρ st H) {p : Addr} {o : HO} (hp : H p = none) : Rep N (upd M p o) ρ st (upd H p o) := by
  obtain ⟨h1, h2⟩ := r.sub.new (o := o) hp
  refine ⟨h1, r.len, r.inj, fun i a ob e1 e2 => ?_⟩
  have q := r.ob i a ob e1 e2
  have hne : a ≠ p := fun z => q.there (by rw [z]; exact hp)
  exact q.mono h2 (Pre.refl _) (fun hm => by rw [upd_ne hne]; exact hm) fun u hu => by rw [upd_ne hne]; exact hu
theorem Ext.new {p : Addr} {o : HO} (r : Sub M H) (hp : H p = none) : Ext M ρ H (upd M p o) ρ (upd H p o) := by
  refine ⟨(r.new hp).2, Pre.refl _, (Fr.refl _ _).new hp, fun a h => ?_, fun a h => .inl h⟩
  by_cases z : a = p
  · exact .inr (.inl (by rw [z]; exact hp))
  · rw [upd_ne z] at h
    exact .inl h
theorem Rep.loc {st : Sto} (r : Rep N M ρ st H) {p : Addr} {u : HO} {o : Ob} (hp : H p = none) (ho : RO N M (ρ ++ [p]) (upd H p u) o p) : Rep N M (ρ ++ [p]) (st ++ [o]) (upd H p u) := by
  have hm := r.non hp
  have hs : Sub M (upd H p u) := fun b u' e => by
    rw [upd_ne (fun z => by rw [z, hm] at e; cases e)]
    exact r.sub b u' e
  have hmem : p ∉ ρ := fun z => r.mem z hp
  refine ⟨hs, by rw [List.length_append, List.length_append, r.len]; rfl, fun i j a e1 e2 => ?_, fun i a o' e1 e2 => ?_⟩
  · rw [List.getElem?_append] at e1 e2
    split at e1 <;> split at e2
    · exact r.inj i j a e1 e2
    · rename_i h1 h2
      exfalso
      have : a = p := by
        cases z : j - ρ.length with
        | zero => rw [z] at e2; simpa using e2.symm
        | succ n => rw [z] at e2; simp at e2
      rw [this] at e1
      exact hmem (List.mem_of_getElem? e1)
    · rename_i h1 h2
      exfalso
      have : a = p := by
        cases z : i - ρ.length with
        | zero => rw [z] at e1; simpa using e1.symm
        | succ n => rw [z] at e1; simp at e1
      rw [this] at e2
      exact hmem (List.mem_of_getElem? e2)
    · rename_i h1 h2
      have k1 : i - ρ.length = 0 := by
        have := (List.getElem?_eq_some_iff.mp e1).1
        simpa using this
      have k2 : j - ρ.length = 0 := by
        have := (List.getElem?_eq_some_iff.mp e2).1
        simpa using this
      omega
  · rw [List.getElem?_append] at e1 e2
    split at e1
    · rename_i h1
      rw [if_pos (by rw [← r.len]; exact h1)] at e2
      have q := r.ob i a o' e1 e2
      have hne : a ≠ p := fun z => q.there (by rw [z]; exact hp)
      exact q.mono (Same.refl _) ⟨[p], rfl⟩ (fun h => h) fun u hu => by rw [upd_ne hne]; exact hu
    · rename_i h1
      rw [if_neg (by rw [← r.len]; exact h1)] at e2
      have k1 : i - ρ.length = 0 := by
        have := (List.getElem?_eq_some_iff.mp e1).1
        simpa using this
      rw [k1] at e1
      rw [← r.len, k1] at e2
      cases e1
      cases e2
      exact ho
theorem Ext.loc {p : Addr} {o : HO} (hp : H p = none) : Ext M ρ H M (ρ ++ [p]) (upd H p o) := by
  refine ⟨Same.refl _, ⟨[p], rfl⟩, (Fr.refl _ _).new hp, fun a h => .inl h, fun a h => ?_⟩
  rcases List.mem_append.mp h with h | h
  · exact .inl h
  · rw [List.mem_singleton] at h
    rw [h]
    exact .inr hp
theorem Rep.wr {st : Sto} (r : Rep N M ρ st H) {n : Nat} {a : Addr} {u : HO} {o : Ob} (ha : ρ[n]? = some a) (hm : M a = none) (ho : RO N M ρ (upd H a u) o a) : Rep N M ρ (st.set n o) (upd H a u) := by
  have hs : Sub M (upd H a u) := fun b u' e => by
    rw [upd_ne (fun z => by rw [z, hm] at e; cases e)]
    exact r.sub b u' e
  refine ⟨hs, by rw [List.length_set]; exact r.len, r.inj, fun i b o' e1 e2 => ?_⟩
  by_cases z : n = i
  · subst z
    rw [ha] at e1
    cases e1
    have hn := (List.getElem?_eq_some_iff.mp ha).1
    rw [List.getElem?_set_self (by rw [← r.len]; exact hn)] at e2
    cases e2
    exact ho
  · rw [List.getElem?_set_ne z] at e2
    have hne : b ≠ a := fun w => z (r.inj _ _ _ ha (by rw [← w]; exact e1))
    exact (r.ob i b o' e1 e2).mono (Same.refl _) (Pre.refl _) (fun h => h) fun u hu => by rw [upd_ne hne]; exact hu
theorem Ext.wr {a : Addr} {o : HO} (ha : a ∈ ρ) : Ext M ρ H M ρ (upd H a o) := ⟨Same.refl _, Pre.refl _, (Fr.refl _ _).wr ha, fun a h => .inl h, fun a h => .inl h⟩
theorem Rep.fz {st : Sto} (r : Rep N M ρ st H) {n : Nat} {a : Addr} {u : HO} {d : D} (ha : ρ[n]? = some a) (hm : M a = Option.none) (hu : H a = some u) (hd : Rp N (upd M a u) d (.ref a)) : Rep N (upd M a u) ρ (st.set n (.fz d)) H := by
  have hs : Sub (upd M a u) H := fun b u' e => by
    by_cases z : b = a
    · subst z
      rw [upd_same] at e
      cases e
      exact .inl hu
    · rw [upd_ne z] at e
      exact r.sub b u' e
  refine ⟨hs, by rw [List.length_set]; exact r.len, r.inj, fun i b o' e1 e2 => ?_⟩
  by_cases z : n = i
  · subst z
    rw [ha] at e1
    cases e1
    have hn := (List.getElem?_eq_some_iff.mp ha).1
    rw [List.getElem?_set_self (by rw [← r.len]; exact hn)] at e2
    cases e2
    exact ⟨hd, by rw [hu]; exact fun z => nomatch z⟩
  · rw [List.getElem?_set_ne z] at e2
    have hne : b ≠ a := fun w => z (r.inj _ _ _ ha (by rw [← w]; exact e1))
    exact (r.ob i b o' e1 e2).mono (same_grow0 hm) (Pre.refl _) (fun h => by rw [upd_ne hne]; exact h) fun u hu => hu
theorem Ext.fz {a : Addr} {u : HO} (ha : a ∈ ρ) (hm : M a = none) : Ext M ρ H (upd M a u) ρ H := by
  refine ⟨same_grow0 hm, Pre.refl _, Fr.refl _ _, fun b h => ?_, fun a h => .inl h⟩
  by_cases z : b = a
  · exact .inr (.inr (by rw [z]; exact ha))
  · rw [upd_ne z] at h
    exact .inl h
end
end Dl
end

section
set_option maxHeartbeats 4000000
namespace Dl
open PySem PySem.Spec PyProof.Rows L2 Co
abbrev DX := Str → List (Str × D) → Sto → Prop
abbrev Lv (α : Type) := Sl → Sto → (α → Sto → Prop) → DX → Prop
abbrev DW := Lv W
abbrev DD := Lv D
abbrev DT := Lv Bool
abbrev DA := Lv (List W)
abbrev DAD := Lv (List D)
structure En where
  nx : Sl → Sto → Prop
  rt : W → Sto → Prop
  ex : Str → List (Str × D) → Sl → Sto → Prop
  bk : Sl → Sto → Prop := fun _ _ => False
  ct : Sl → Sto → Prop := fun _ _ => False
abbrev DS := En → Sl → Sto → Prop
def ErrOwn (N : Kn) (M : Hp) : Option Addr → List (Str × D) → Prop
  | none, fs => fs = []
  | some d, fs => ∃ fxs, M d = some (.xd fxs) ∧ fxs.map (·.1) = fs.map (·.1) ∧ Rps N M (fs.map (·.2)) (fxs.map (·.2))
def ExL (N : Kn) (Wx : WX) (M : Hp) (ρ : List Addr) (H : Hp) (σV : L2.St) (ex : DX) : Prop :=
  ∀ c fs st', ex c fs st' → ∀ o M' ρ' H', Ext M ρ H M' ρ' H' → Rep N M' ρ' st' H' → ErrOwn N M' o fs → Wx (.ref (He.ga N.K c)) o σV H'
structure Kx (N : Kn) (Wx : WX) (M : Hp) (ρ : List Addr) (σ : Sl) (st : Sto) (H : Hp) (σV : L2.St) (ex : DX) : Prop where
  rep : Rep N M ρ st H
  rs : Rs N M ρ σ σV
  xl : ExL N Wx M ρ H σV ex
theorem Kx.step {N : Kn} {Wx : WX} {M M' H H' : Hp} {ρ ρ' : List Addr} {σ : Sl} {st st' : Sto} {σV : L2.St} {ex : DX} (c : Kx N Wx M ρ σ st H σV ex) (e : Ext M ρ H M' ρ' H') (r : Rep N M' ρ' st' H') : Kx N Wx M' ρ' σ st' H' σV ex :=
  ⟨r, c.rs.ext e, fun c' fs st2 h o M2 ρ2 H2 e2 => c.xl c' fs st2 h o M2 ρ2 H2 (e.trans e2)⟩
def Lf {α β : Type} (N : Kn) (Wx : WX) (R : Hp → List Addr → α → β → Prop) (t : Lv α) : L2.St → Hp → (β → Hp → Prop) → Prop := fun σV H Q =>
  ∃ M ρ σ st k ex, Kx N Wx M ρ σ st H σV ex ∧ t σ st k ex ∧ ∀ w st', k w st' → ∀ v M' ρ' H', Ext M ρ H M' ρ' H' → Rep N M' ρ' st' H' → R M' ρ' w v → Q v H'
abbrev RW_ (N : Kn) : Hp → List Addr → W → V → Prop := fun M ρ w v => Rw N M ρ w v
abbrev RD_ (N : Kn) : Hp → List Addr → D → V → Prop := fun M _ d v => Rp N M d v
abbrev RB_ : Hp → List Addr → Bool → Bool → Prop := fun _ _ b c => c = b
abbrev RA_ (N : Kn) : Hp → List Addr → List W → List V → Prop := fun M ρ w v => Rws N M ρ w v
abbrev RAD_ (N : Kn) : Hp → List Addr → List D → List V → Prop := fun M _ d v => Rps N M d v
abbrev lW (N : Kn) (Wx : WX) (t : DW) : TE := Lf N Wx (RW_ N) t
abbrev lD (N : Kn) (Wx : WX) (t : DD) : TE := Lf N Wx (RD_ N) t
abbrev lT (N : Kn) (Wx : WX) (t : DT) : TT := Lf N Wx RB_ t
abbrev lA (N : Kn) (Wx : WX) (t : DA) : TA := Lf N Wx (RA_ N) t
abbrev lAD (N : Kn) (Wx : WX) (t : DAD) : TA := Lf N Wx (RAD_ N) t
class Mo {α β : Type} (R : Hp → List Addr → α → β → Prop) : Prop where
  mo : ∀ {M H M' H' : Hp} {ρ ρ' : List Addr} {w : α} {v : β}, Ext M ρ H M' ρ' H' → R M ρ w v → R M' ρ' w v
instance {N : Kn} : Mo (RW_ N) := ⟨fun e h => Rw.ext h e⟩
instance {N : Kn} : Mo (RD_ N) := ⟨fun e h => Rp.ext h e⟩
instance : Mo RB_ := ⟨fun _ h => h⟩
instance {N : Kn} : Mo (RA_ N) := ⟨fun e h => Rws.ext h e⟩
instance {N : Kn} : Mo (RAD_ N) := ⟨fun e h => Rps.ext h e⟩
section
variable {N : Kn} {Wx : WX} {M H : Hp} {ρ : List Addr} {σ : Sl} {st : Sto} {σV : L2.St} {ex : DX}
theorem Lf.of {α β : Type} {R : Hp → List Addr → α → β → Prop} {t : Lv α} {k : α → Sto → Prop} {Q : β → Hp → Prop} (c : Kx N Wx M ρ σ st H σV ex) (h : t σ st k ex)
    (q : ∀ w st', k w st' → ∀ v M' ρ' H', Ext M ρ H M' ρ' H' → Kx N Wx M' ρ' σ st' H' σV ex → R M' ρ' w v → Q v H') : Lf N Wx R t σV H Q :=
  ⟨M, ρ, σ, st, k, ex, c, h, fun w st' hk v M' ρ' H' e r rv => q w st' hk v M' ρ' H' e (c.step e r) rv⟩
theorem Lf.bin {α β α' β' : Type} {R : Hp → List Addr → α → β → Prop} [Mo R] {R' : Hp → List Addr → α' → β' → Prop} {t : Lv α} {t' : Lv α'} {g : α → α' → Sto → Prop} {Q : β → β' → Hp → Prop} (c : Kx N Wx M ρ σ st H σV ex)
    (h : t σ st (fun w st1 => t' σ st1 (fun w' st2 => g w w' st2) ex) ex)
    (q : ∀ w w' st', g w w' st' → ∀ v v' M' ρ' H', Ext M ρ H M' ρ' H' → Kx N Wx M' ρ' σ st' H' σV ex → R M' ρ' w v → R' M' ρ' w' v' → Q v v' H') :
    Lf N Wx R t σV H (fun v H1 => Lf N Wx R' t' σV H1 (fun v' H2 => Q v v' H2)) :=
  Lf.of c h fun w st1 h1 v M1 ρ1 H1 e1 c1 r1 => Lf.of c1 h1 fun w' st2 h2 v' M2 ρ2 H2 e2 c2 r2 => q w w' st2 h2 v v' M2 ρ2 H2 (e1.trans e2) c2 (Mo.mo e2 r1) r2
theorem Kx.open_ {α β : Type} {R : Hp → List Addr → α → β → Prop} {t : Lv α} {Q : β → Hp → Prop} (h : Lf N Wx R t σV H Q) :
    ∃ M ρ σ st k ex, Kx N Wx M ρ σ st H σV ex ∧ t σ st k ex ∧ ∀ w st', k w st' → ∀ v M' ρ' H', Ext M ρ H M' ρ' H' → Kx N Wx M' ρ' σ st' H' σV ex → R M' ρ' w v → Q v H' := by
  obtain ⟨M, ρ, σ, st, k, ex, c, ht, q⟩ := h
  exact ⟨M, ρ, σ, st, k, ex, c, ht, fun w st' hk v M' ρ' H' e c' r => q w st' hk v M' ρ' H' e c'.rep r⟩
theorem Kx.new (c : Kx N Wx M ρ σ st H σV ex) {p : Addr} {o : HO} (hp : H p = none) : Ext M ρ H (upd M p o) ρ (upd H p o) ∧ Kx N Wx (upd M p o) ρ σ st (upd H p o) σV ex :=
  ⟨Ext.new c.rep.sub hp, c.step (Ext.new c.rep.sub hp) (c.rep.new hp)⟩
theorem Kx.loc (c : Kx N Wx M ρ σ st H σV ex) {p : Addr} {u : HO} {o : Ob} (hp : H p = none) (ho : RO N M (ρ ++ [p]) (upd H p u) o p) : Ext M ρ H M (ρ ++ [p]) (upd H p u) ∧ Kx N Wx M (ρ ++ [p]) σ (st ++ [o]) (upd H p u) σV ex :=
  ⟨Ext.loc hp, c.step (Ext.loc hp) (c.rep.loc hp ho)⟩
theorem Kx.wr (c : Kx N Wx M ρ σ st H σV ex) {n : Nat} {a : Addr} {u : HO} {o : Ob} (ha : ρ[n]? = some a) (hm : M a = none) (ho : RO N M ρ (upd H a u) o a) : Ext M ρ H M ρ (upd H a u) ∧ Kx N Wx M ρ σ (st.set n o) (upd H a u) σV ex :=
  ⟨Ext.wr (List.mem_of_getElem? ha), c.step (Ext.wr (List.mem_of_getElem? ha)) (c.rep.wr ha hm ho)⟩
end
def dWs : List W → Option (List D)
  | [] => some []
  | .im d :: r => match dWs r with
    | some ds => some (d :: ds)
    | none => none
  | _ :: _ => none
def flat : Ob → Option D
  | .fz d => some d
  | .lst ds => some (.lst ds)
  | .dct ks ds => some (.dct ks ds)
  | .dcT ks ds => some (.dcT ks ds)
  | .ins C fs => match dWs (fs.map (·.2)) with
    | some ds => some (.ins C (fs.map (·.1)) ds)
    | none => none
  | _ => none
def fzFs (st : Sto) : List (Str × W) → Option (List (Str × W) × Sto)
  | [] => some ([], st)
  | (x, .im d) :: r => match fzFs st r with
    | some (r', st') => some ((x, .im d) :: r', st')
    | none => none
  | (x, .loc n) :: r => match st[n]? with
    | some o => (match flat o with
      | some d => (match fzFs (st.set n (.fz d)) r with
        | some (r', st') => some ((x, .im d) :: r', st')
        | none => none)
      | none => none)
    | none => none
  | (_, .dead) :: _ => none
def toD (w : W) (st : Sto) : Option (D × Sto) := match w with
  | .im d => some (d, st)
  | .loc n => match st[n]? with
    | some (.ins C fs) => (match fzFs st fs with
      | some (fs', st') => (match st'[n]? with
        | some (.ins _ _) => (match flat (.ins C fs') with
          | some d => some (d, st'.set n (.fz d))
          | none => none)
        | _ => none)
      | none => none)
    | some o => (match flat o with
      | some d => some (d, st.set n (.fz d))
      | none => none)
    | none => none
  | .dead => none
section
variable {N : Kn} {M H : Hp} {ρ : List Addr} {st : Sto}
theorem dWs_ok : ∀ {ws : List W} {ds : List D} {vs : List V}, dWs ws = some ds → Rws N M ρ ws vs → Rps N M ds vs
  | [], _, _, e, h => by cases e; exact h
  | .im d :: r, _, _, e, ⟨x, q, h1, h2, h3⟩ => by
    unfold dWs at e
    split at e
    · rename_i es e1
      cases e
      exact ⟨x, q, h1, h2, dWs_ok e1 h3⟩
    · cases e
  | .loc _ :: _, _, _, e, _ => by cases e
  | .dead :: _, _, _, e, _ => by cases e
theorem flat_ok (r : Rep N M ρ st H) {n : Nat} {a : Addr} {o : Ob} {d : D} (ha : ρ[n]? = some a) (ho : st[n]? = some o) (e : flat o = some d) :
    ∃ M', Ext M ρ H M' ρ H ∧ Rep N M' ρ (st.set n (.fz d)) H ∧ Rp N M' d (.ref a) := by
  have q := r.ob n a o ha ho
  have go : ∀ u, M a = none → H a = some u → (Rp N (upd M a u) d (.ref a)) → ∃ M', Ext M ρ H M' ρ H ∧ Rep N M' ρ (st.set n (.fz d)) H ∧ Rp N M' d (.ref a) := fun u hm hu hd =>
    ⟨_, Ext.fz (List.mem_of_getElem? ha) hm, r.fz ha hm hu hd, hd⟩
  cases o with
  | lst ds =>
    cases e
    obtain ⟨hm, xs, h1, h2⟩ := q
    exact go _ hm h1 ⟨a, xs, rfl, upd_same, h2.mono (same_grow0 hm)⟩
  | dct ks ds =>
    cases e
    obtain ⟨hm, xs, h1, h2, h3⟩ := q
    exact go _ hm h1 ⟨a, xs, rfl, upd_same, h2, h3.mono (same_grow0 hm)⟩
  | dcT ks ds =>
    cases e
    obtain ⟨hm, xs, h1, h2, h3⟩ := q
    exact go _ hm h1 ⟨a, xs, rfl, upd_same, h2, h3.mono (same_grow0 hm)⟩
  | ins C fs =>
    cases hz : dWs (fs.map (·.2)) with
    | none => simp only [flat, hz] at e; cases e
    | some ds =>
      simp only [flat, hz] at e
      cases e
      obtain ⟨hm, dx, xs, h1, h2, h3⟩ := q
      exact go _ hm h1 ⟨a, dx, xs, rfl, upd_same, h2, (dWs_ok hz h3).mono (same_grow0 hm)⟩
  | lsW ws => cases e
  | dcW ks ws => cases e
  | pool => cases e
  | fz d' =>
    cases e
    have : st.set n (.fz d) = st := by
      apply List.ext_getElem? 
      intro i
      by_cases z : n = i
      · subst z
        have hn := (List.getElem?_eq_some_iff.mp ho).1
        rw [List.getElem?_set_self hn, ho]
      · rw [List.getElem?_set_ne z]
    rw [this]
    exact ⟨M, Ext.refl, r, q.1⟩
  | gone => cases e
theorem fzFs_ok : ∀ {fs fs' : List (Str × W)} {vs : List V} {M : Hp} {st st' : Sto}, Rep N M ρ st H → fzFs st fs = some (fs', st') → Rws N M ρ (fs.map (·.2)) vs →
    ∃ M', Ext M ρ H M' ρ H ∧ Rep N M' ρ st' H ∧ Rws N M' ρ (fs'.map (·.2)) vs ∧ fs'.map (·.1) = fs.map (·.1)
  | [], _, _, M, _, _, r, e, h => by
    cases e
    exact ⟨M, Ext.refl, r, h, rfl⟩
  | (x, .im d) :: fs, _, _, M, st, _, r, e, ⟨v, q, h1, h2, h3⟩ => by
    unfold fzFs at e
    split at e
    · rename_i r' st1 e1
      cases e
      obtain ⟨M', E, R, h4, h5⟩ := fzFs_ok r e1 h3
      exact ⟨M', E, R, ⟨v, q, h1, h2.ext E, h4⟩, by rw [List.map_cons, List.map_cons, h5]⟩
    · cases e
  | (x, .loc n) :: fs, _, _, M, st, _, r, e, ⟨v, q, h1, ⟨a, h2, h2'⟩, h3⟩ => by
    unfold fzFs at e
    split at e
    · rename_i o ho
      split at e
      · rename_i d hd
        split at e
        · rename_i r' st1 e1
          cases e
          obtain ⟨M1, E1, R1, p1⟩ := flat_ok r h2 ho hd
          obtain ⟨M', E, R, h4, h5⟩ := fzFs_ok R1 e1 (Rws.ext h3 E1)
          refine ⟨M', E1.trans E, R, ⟨v, q, h1, ?_, h4⟩, by rw [List.map_cons, List.map_cons, h5]⟩
          rw [h2']
          exact Rp.ext p1 E
        · cases e
      · cases e
    · cases e
  | (x, .dead) :: fs, _, _, _, _, _, _, e, _ => by cases e
theorem toD_ok {w : W} {d : D} {st' : Sto} {v : V} (r : Rep N M ρ st H) (e : toD w st = some (d, st')) (h : Rw N M ρ w v) : ∃ M', Ext M ρ H M' ρ H ∧ Rep N M' ρ st' H ∧ Rp N M' d v := by
  cases w with
  | im d' => cases e; exact ⟨M, Ext.refl, r, h⟩
  | dead => cases e
  | loc n =>
    obtain ⟨a, ha, rfl⟩ := h
    have gen : ∀ o, st[n]? = some o → (match flat o with
      | some d => some (d, st.set n (.fz d))
      | none => none) = some (d, st') → ∃ M', Ext M ρ H M' ρ H ∧ Rep N M' ρ st' H ∧ Rp N M' d (.ref a) := fun o ho e => by
      cases hf : flat o with
      | none => rw [hf] at e; cases e
      | some d2 =>
        rw [hf] at e
        cases e
        exact flat_ok r ha ho hf
    cases ho : st[n]? with
    | none => simp only [toD, ho] at e; cases e
    | some o =>
      cases o with
      | ins C fs =>
        simp only [toD, ho] at e
        cases h1 : fzFs st fs with
        | none => rw [h1] at e; cases e
        | some p =>
          obtain ⟨fs', st1⟩ := p
          rw [h1] at e
          simp only at e
          cases h2 : st1[n]? with
          | none => rw [h2] at e; cases e
          | some o2 =>
            rw [h2] at e
            cases o2 with
            | ins C2 gs2 =>
              simp only at e
              obtain ⟨hm, dx, xs, q1, q2, q3⟩ := r.ob n a _ ha ho
              obtain ⟨M1, E1, R1, r1, r2⟩ := fzFs_ok r h1 q3
              obtain ⟨hm1, _⟩ := R1.ob n a _ ha h2
              cases h3 : flat (.ins C fs') with
              | none => rw [h3] at e; cases e
              | some d2 =>
                rw [h3] at e
                cases e
                cases h4 : dWs (fs'.map (·.2)) with
                | none => simp only [flat, h4] at h3; cases h3
                | some ds =>
                  simp only [flat, h4] at h3
                  cases h3
                  have hd : Rp N (upd M1 a (.ins (He.ga N.K C) dx xs)) (.ins C (fs'.map (·.1)) ds) (.ref a) := ⟨a, dx, xs, rfl, upd_same, by rw [q2, r2], (dWs_ok h4 r1).mono (same_grow0 hm1)⟩
                  exact ⟨_, E1.trans (Ext.fz (List.mem_of_getElem? ha) hm1), R1.fz ha hm1 q1 hd, hd⟩
            | _ => cases e
      | lst ds => exact gen _ ho (by simpa only [toD, ho] using e)
      | dct ks ds => exact gen _ ho (by simpa only [toD, ho] using e)
      | dcT ks ds => exact gen _ ho (by simpa only [toD, ho] using e)
      | lsW ws => exact gen _ ho (by simpa only [toD, ho] using e)
      | dcW ks ws => exact gen _ ho (by simpa only [toD, ho] using e)
      | pool => exact gen _ ho (by simpa only [toD, ho] using e)
      | fz d2 => exact gen _ ho (by simpa only [toD, ho] using e)
      | gone => exact gen _ ho (by simpa only [toD, ho] using e)
end
end Dl
end

section
set_option maxHeartbeats 4000000
namespace Dl
open PySem PySem.Spec PyProof.Rows L2 Co
def dV (i : Nat) : DW := fun σ st k _ => match σ[i]? with
  | some (some w) => k w st
  | _ => False
def dC (d : D) : DD := fun _ st k _ => k d st
def dD (t : DW) : DD := fun σ st k ex => t σ st (fun w st1 => match toD w st1 with
  | some (d, st2) => k d st2
  | none => False) ex
def dI (t : DD) : DW := fun σ st k ex => t σ st (fun d st1 => k (.im d) st1) ex
abbrev F2 := D → D → (D → Prop) → Prop
def dOp (f : F2) (ta tb : DD) : DD := fun σ st k ex => ta σ st (fun x st1 => tb σ st1 (fun y st2 => f x y fun d => k d st2) ex) ex
def dUn (f : D → (D → Prop) → Prop) (ta : DD) : DD := fun σ st k ex => ta σ st (fun x st1 => f x fun d => k d st1) ex
def seeW (w : W) (st : Sto) : Option D := match w with
  | .im d => some d
  | .loc n => (match st[n]? with
    | some o => flat o
    | none => none)
  | .dead => none
abbrev C2 := D → D → (Bool → Prop) → Prop
def dCmp (f : C2) (ta tb : DW) : DT := fun σ st k ex => ta σ st (fun x st1 => tb σ st1 (fun y st2 => match seeW x st2, seeW y st2 with
  | some d, some e => f d e fun b => k b st2
  | _, _ => False) ex) ex
def dB (t : DT) : DD := fun σ st k ex => t σ st (fun b st1 => k (.bl b) st1) ex
def dNot (t : DT) : DT := fun σ st k ex => t σ st (fun b st1 => k (!b) st1) ex
def dAnd (t u : DT) : DT := fun σ st k ex => t σ st (fun b st1 => two b (u σ st1 k ex) (k false st1)) ex
def dOr (t u : DT) : DT := fun σ st k ex => t σ st (fun b st1 => two b (k true st1) (u σ st1 k ex)) ex
def dIfE {α : Type} (c : DT) (t u : Lv α) : Lv α := fun σ st k ex => c σ st (fun b st1 => two b (t σ st1 k ex) (u σ st1 k ex)) ex
def truD (x : D) (k : Bool → Prop) : Prop := match x with
  | .non => k false
  | .bl b => k b
  | .int i => k (i != 0)
  | .str y => y.length ≤ sizeLine ∧ k ((y.length : Int) != 0)
  | .tup ds => k (!ds.isEmpty)
  | .lst ds => k (!ds.isEmpty)
  | .dct ks _ => k (!ks.isEmpty)
  | _ => False
def dTru (t : DW) : DT := fun σ st k ex => t σ st (fun w st1 => match seeW w st1 with
  | some d => truD d fun b => k b st1
  | none => False) ex
def aNil : DA := fun _ st k _ => k [] st
def aCons (t : DW) (r : DA) : DA := fun σ st k ex => t σ st (fun w st1 => r σ st1 (fun ws st2 => k (w :: ws) st2) ex) ex
def adNil : DAD := fun _ st k _ => k [] st
def adCons (t : DD) (r : DAD) : DAD := fun σ st k ex => t σ st (fun w st1 => r σ st1 (fun ws st2 => k (w :: ws) st2) ex) ex
def dTup (t : DAD) : DD := fun σ st k ex => t σ st (fun ds st1 => ds.length ≤ 1000000 ∧ k (.tup ds) st1) ex
def dLst (t : DAD) : DD := fun σ st k ex => t σ st (fun ds st1 => ds.length ≤ 1000000 ∧ k (.lst ds) st1) ex
def dLstM (t : DAD) : DW := fun σ st k ex => t σ st (fun ds st1 => ds.length ≤ 1000000 ∧ k (.loc st1.length) (st1 ++ [.lst ds])) ex
def fAdd : F2 := fun x y k => match x, y with
  | .int i, .int j => k (.int (i + j))
  | .str a, .str b => a.length + b.length ≤ sizeLine ∧ k (.str (a ++ b))
  | .tup a, .tup b => a.length + b.length ≤ 1000000 ∧ k (.tup (a ++ b))
  | .lst a, .lst b => a.length + b.length ≤ 1000000 ∧ k (.lst (a ++ b))
  | _, _ => False
def fSub : F2 := fun x y k => match x, y with
  | .int i, .int j => k (.int (i - j))
  | _, _ => False
def fMul : F2 := fun x y k => match x, y with
  | .int i, .int j => CMulL i j ∧ k (.int (i * j))
  | .str z, .int n => n * z.length ≤ 1000000 ∧ -(2 ^ 62) ≤ n ∧ n < 2 ^ 62 ∧ k (.str (S (repL z.cps.toList n)))
  | _, _ => False
def fMod : F2 := fun x y k => match x, y with
  | .int i, .int j => 0 < j ∧ k (.int (i % j))
  | _, _ => False
def fDiv : F2 := fun x y k => match x, y with
  | .int i, .int j => CDivL i j ∧ k (.int (i / j))
  | _, _ => False
def fPow : F2 := fun x y k => match x, y with
  | .int i, .int j => CPow i j ∧ k (.int (i ^ j.toNat))
  | _, _ => False
def fNeg : D → (D → Prop) → Prop := fun x k => match x with
  | .int i => k (.int (-i))
  | _ => False
def cLt : C2 := fun x y k => match x, y with
  | .int i, .int j => k (decide (i < j))
  | .str a, .str b => k (decide (a.cps.toList < b.cps.toList))
  | _, _ => False
def cGt : C2 := fun x y k => match x, y with
  | .int i, .int j => k (decide (j < i))
  | _, _ => False
section
variable {N : Kn} {Wx : WX} {M H : Hp} {ρ : List Addr} {σ : Sl} {st : Sto} {σV : L2.St} {ex : DX}
def Fv (M : Hp) (ρ : List Addr) (H : Hp) : Hp := fun b => match M b with
  | some u => some u
  | none => if b ∈ ρ then H b else none
theorem Fv.same (M : Hp) (ρ : List Addr) (H : Hp) : Same M (Fv M ρ H) := fun b u e => by
  unfold Fv
  rw [e]
theorem Fv.sub (s : Sub M H) : Sub (Fv M ρ H) H := fun b u e => by
  unfold Fv at e
  cases h : M b with
  | some u' =>
    rw [h] at e
    cases e
    exact s _ _ h
  | none =>
    rw [h] at e
    simp only at e
    split at e
    · exact .inl e
    · cases e
theorem Fv.at_ {n : Nat} {a : Addr} (ha : ρ[n]? = some a) (hm : M a = none) : Fv M ρ H a = H a := by
  unfold Fv
  rw [hm]
  simp only
  rw [if_pos (List.mem_of_getElem? ha)]
def RpC (N : Kn) (M F : Hp) : D → V → Prop
  | .lst ds, v => ∃ p xs, v = .ref p ∧ F p = some (.lst xs) ∧ Rps N M ds xs
  | .dct ks ds, v => ∃ p kvs, v = .ref p ∧ F p = some (.dK kvs) ∧ kvs.map (·.1) = ks ∧ Rps N M ds (kvs.map (·.2))
  | .dcT ks ds, v => ∃ p kvs, v = .ref p ∧ F p = some (.dT kvs) ∧ kvs.map (·.1) = ks ∧ Rps N M ds (kvs.map (·.2))
  | .ins C ns ds, v => ∃ p dx fs, v = .ref p ∧ F p = some (.ins (He.ga N.K C) dx fs) ∧ fs.map (·.1) = ns ∧ Rps N M ds (fs.map (·.2))
  | d, v => Rp N M d v
theorem RpC.of {d : D} {v : V} {F : Hp} (h : Rp N M d v) (s : Same M F) : RpC N M F d v := by
  cases d with
  | lst ds => obtain ⟨p, xs, h1, h2, h3⟩ := h; exact ⟨p, xs, h1, s _ _ h2, h3⟩
  | dct ks ds => obtain ⟨p, xs, h1, h2, h3⟩ := h; exact ⟨p, xs, h1, s _ _ h2, h3⟩
  | dcT ks ds => obtain ⟨p, xs, h1, h2, h3⟩ := h; exact ⟨p, xs, h1, s _ _ h2, h3⟩
  | ins C ns ds => obtain ⟨p, dx, fs, h1, h2, h3⟩ := h; exact ⟨p, dx, fs, h1, s _ _ h2, h3⟩
  | _ => exact h
theorem RpC.rp {d : D} {v : V} {F : Hp} (h : RpC N M F d v) (s : Same M F) : Rp N F d v := by
  cases d with
  | lst ds => obtain ⟨p, xs, h1, h2, h3⟩ := h; exact ⟨p, xs, h1, h2, h3.mono s⟩
  | dct ks ds => obtain ⟨p, xs, h1, h2, h3, h4⟩ := h; exact ⟨p, xs, h1, h2, h3, h4.mono s⟩
  | dcT ks ds => obtain ⟨p, xs, h1, h2, h3, h4⟩ := h; exact ⟨p, xs, h1, h2, h3, h4.mono s⟩
  | ins C ns ds => obtain ⟨p, dx, fs, h1, h2, h3, h4⟩ := h; exact ⟨p, dx, fs, h1, h2, h3, h4.mono s⟩
  | _ => exact Rp.mono s (show Rp N M _ v from h)
theorem see_ok {w : W} {d : D} {v : V} (r : Rep N M ρ st H) (e : seeW w st = some d) (h : Rw N M ρ w v) : RpC N M (Fv M ρ H) d v := by
  cases w with
  | im d' => cases e; exact RpC.of h (Fv.same M ρ H)
  | dead => cases e
  | loc n =>
    obtain ⟨a, ha, rfl⟩ := h
    cases ho : st[n]? with
    | none => simp only [seeW, ho] at e; cases e
    | some o =>
      simp only [seeW, ho] at e
      have q := r.ob n a o ha ho
      cases o with
      | lst ds => cases e; obtain ⟨hm, xs, h1, h2⟩ := q; exact ⟨a, xs, rfl, by rw [Fv.at_ ha hm]; exact h1, h2⟩
      | dct ks ds => cases e; obtain ⟨hm, xs, h1, h2⟩ := q; exact ⟨a, xs, rfl, by rw [Fv.at_ ha hm]; exact h1, h2⟩
      | dcT ks ds => cases e; obtain ⟨hm, xs, h1, h2⟩ := q; exact ⟨a, xs, rfl, by rw [Fv.at_ ha hm]; exact h1, h2⟩
      | ins C fs =>
        cases hz : dWs (fs.map (·.2)) with
        | none => simp only [flat, hz] at e; cases e
        | some ds =>
          simp only [flat, hz] at e
          cases e
          obtain ⟨hm, dx, xs, h1, h2, h3⟩ := q
          exact ⟨a, dx, xs, rfl, by rw [Fv.at_ ha hm]; exact h1, h2, dWs_ok hz h3⟩
      | lsW ws => cases e
      | dcW ks ws => cases e
      | pool => cases e
      | fz d2 => cases e; exact RpC.of q.1 (Fv.same M ρ H)
      | gone => cases e
end
abbrev XN (X : Cx) (b : Bool) : Kn := ⟨X.K, b⟩
section
variable {X : Cx} {b : Bool} {Wx : WX} {e e1 e2 : Expr} {pos : Pos}
theorem e_var (i : Nat) {x : Str} {N : Kn} (hN : X.N[i]? = some x := by rfl) (hv : Vis X.env.scope x := by first | exact Or.inl rfl | exact Or.inr (Or.inl rfl) | exact Or.inr (Or.inr rfl)) (hd : (x == ("__debug__" : Str)) = false := by decide)
    (hcd : (x == ("__classdict__" : Str)) = false := by decide) : PE X (.Name x pos) (lW N Wx (dV i)) := PE.imp (pe_var hN hv hd hcd) fun σV H Q h => by
  obtain ⟨M, ρ, σ, st, k, ex, c, ht, q⟩ := Kx.open_ h
  unfold dV at ht
  split at ht
  · rename_i w hw
    obtain ⟨v, h1, h2⟩ := c.rs.2 i w hw
    exact ⟨v, h1, q _ _ ht v M ρ H Ext.refl c h2⟩
  · exact ht.elim
theorem e_con {N : Kn} {d : D} {v : V} (h : PE X e (tC v)) (hv : ∀ M, Rp N M d v) : PE X e (lD N Wx (dC d)) := PE.imp h fun σV H Q h => by
  obtain ⟨M, ρ, σ, st, k, ex, c, ht, q⟩ := Kx.open_ h
  exact q _ _ ht v M ρ H Ext.refl c (hv M)
theorem e_D {N : Kn} {t : DW} (h : PE X e (lW N Wx t)) : PE X e (lD N Wx (dD t)) := PE.imp h fun σV H Q h => by
  obtain ⟨M, ρ, σ, st, k, ex, c, ht, q⟩ := Kx.open_ h
  refine Lf.of c ht fun w st' hk v M' ρ' H' E c' r => ?_
  cases hz : toD w st' with
  | none => rw [hz] at hk; exact hk.elim
  | some p =>
    obtain ⟨d, st2⟩ := p
    rw [hz] at hk
    obtain ⟨M2, E2, R2, r2⟩ := toD_ok c'.rep hz r
    exact q _ _ hk v M2 ρ' H' (E.trans E2) (c'.step E2 R2) r2
theorem e_I {N : Kn} {t : DD} (h : PE X e (lD N Wx t)) : PE X e (lW N Wx (dI t)) := PE.imp h fun σV H Q h => by
  obtain ⟨M, ρ, σ, st, k, ex, c, ht, q⟩ := Kx.open_ h
  exact Lf.of c ht fun d st' hk v M' ρ' H' E c' r => q _ _ hk v M' ρ' H' E c' r
def OpOk (N : Kn) (r : R2) (f : F2) : Prop := ∀ {Wx : WX} {M H : Hp} {ρ : List Addr} {σ : Sl} {st : Sto} {σV : L2.St} {ex : DX} {x y : D} {u v : V} {kd : D → Prop} {Q : VK}, Kx N Wx M ρ σ st H σV ex → Rp N M x u → Rp N M y v → f x y kd →
  (∀ d, kd d → ∀ w M' H', Ext M ρ H M' ρ H' → Kx N Wx M' ρ σ st H' σV ex → Rp N M' d w → Q w H') → r u v H Q
theorem op_lift {N : Kn} {r : R2} {f : F2} {ta tb : DD} (ok : OpOk N r f) {σV : L2.St} {H : Hp} {Q : VK} (h : lD N Wx (dOp f ta tb) σV H Q) : tOp r (lD N Wx ta) (lD N Wx tb) σV H Q := by
  obtain ⟨M, ρ, σ, st, k, ex, c, ht, q⟩ := Kx.open_ h
  exact Lf.bin c ht fun x y st' hk u v M' ρ' H' E c' r1 r2 => ok c' r1 r2 hk fun d hd w M2 H2 E2 c2 r => q _ _ hd w M2 ρ' H2 (E.trans E2) c2 r
theorem e_op {N : Kn} {op : Operator} {r : R2} {f : F2} {ta tb : DD} (ho : OpR X (binaryOp op) r) (ok : OpOk N r f) (ha : PE X e1 (lD N Wx ta)) (hb : PE X e2 (lD N Wx tb)) : PE X (.BinOp e1 op e2 pos) (lD N Wx (dOp f ta tb)) := PE.imp (pe_op ho ha hb) fun _ _ _ => op_lift ok
theorem e_un {N : Kn} {op : UnaryOp} {r : V → Hp → VK → Prop} {f : D → (D → Prop) → Prop} {ta : DD} (ho : UnR X (unaryOp op) r) (ok : ∀ {M H : Hp} {x : D} {u : V} {kd : D → Prop} {Q : VK}, Rp N M x u → f x kd → (∀ d w, kd d → Rp N M d w → Q w H) → r u H Q) (ha : PE X e1 (lD N Wx ta)) : PE X (.UnaryOp op e1 pos) (lD N Wx (dUn f ta)) := by
  refine PE.imp (pe_un ho ha) fun σV H Q h => ?_
  obtain ⟨M, ρ, σ, st, k, ex, c, ht, q⟩ := Kx.open_ h
  exact Lf.of c ht fun x st' hk v M' ρ' H' E c' r => ok r hk fun d w hd hw => q _ _ hd w M' ρ' H' E c' hw
theorem OpR.or {f : Value → Value → Sem Value} {r r' : R2} (h : OpR X f r) (h' : OpR X f r') : OpR X f (fun x y H Q => r x y H Q ∨ r' x y H Q) := fun pins s σ H x y v u Q I rx ry q => q.elim (h pins s σ H x y v u Q I rx ry) (h' pins s σ H x y v u Q I rx ry)
theorem lenL6 {n : Nat} (h : n ≤ 1000000) : n ≤ sizeLine := by rw [sizeLine_eq]; omega
theorem o_add' : OpR X (binaryOp .Add) (fun x y H Q => fAddA x y H Q ∨ rCatW X.K x y H Q ∨ rCat x y H Q) := OpR.or o_addA (OpR.or op_catW op_cat)
theorem ok_add : OpOk (XN X b) (fun x y H Q => fAddA x y H Q ∨ rCatW X.K x y H Q ∨ rCat x y H Q) fAdd := by
  intro Wx M H ρ σ st σV ex x y u v kd Q c hx hy h k
  cases x <;> cases y <;> try exact h.elim
  case int.int i j => cases hx; cases hy; exact .inl (k _ h _ M H Ext.refl c rfl)
  case str.str i j => cases hx; cases hy; exact .inl ⟨h.1, k _ h.2 _ M H Ext.refl c rfl⟩
  case tup.tup xs ys =>
    obtain ⟨p, us, rfl, h1, h2⟩ := hx
    obtain ⟨q, vs, rfl, h3, h4⟩ := hy
    obtain ⟨hl, hk⟩ := h
    have e1 := h2.length
    have e2 := h4.length
    refine .inr (.inl ⟨p, q, us, vs, rfl, rfl, c.rep.sub.tup h1, c.rep.sub.tup h3, lenL6 (by omega), fun z => ?_, fun z1 z2 => ?_, fun _ _ l hl' => ?_⟩)
    · subst z
      have : xs = [] := List.eq_nil_of_length_eq_zero (by rw [← e1]; rfl)
      subst this
      exact k _ hk _ M H Ext.refl c ⟨q, vs, rfl, h3, h4⟩
    · subst z2
      have : ys = [] := List.eq_nil_of_length_eq_zero (by rw [← e2]; rfl)
      subst this
      rw [List.append_nil] at hk
      exact k _ hk _ M H Ext.refl c ⟨p, us, rfl, h1, h2⟩
    · obtain ⟨E, c'⟩ := c.new (o := .tup (us ++ vs)) hl'
      exact k _ hk _ _ _ E c' ⟨l, us ++ vs, rfl, .inl upd_same, (h2.append h4).ext E⟩
  case lst.lst xs ys =>
    obtain ⟨p, us, rfl, h1, h2⟩ := hx
    obtain ⟨q, vs, rfl, h3, h4⟩ := hy
    obtain ⟨hl, hk⟩ := h
    have e1 := h2.length
    have e2 := h4.length
    refine .inr (.inr ⟨p, q, us, vs, rfl, rfl, c.rep.sub.lst1 h1, c.rep.sub.lst1 h3, lenL6 (by omega), fun l hl' => ?_⟩)
    obtain ⟨E, c'⟩ := c.new (o := .lst (us ++ vs)) hl'
    exact k _ hk _ _ _ E c' ⟨l, us ++ vs, rfl, upd_same, (h2.append h4).ext E⟩
theorem ok_sub {N : Kn} : OpOk N Co.fSub fSub := by
  intro Wx M H ρ σ st σV ex x y u v kd Q c hx hy h k
  cases x <;> cases y <;> try exact h.elim
  cases hx; cases hy; exact k _ h _ M H Ext.refl c rfl
theorem ok_neg {N : Kn} {M H : Hp} {x : D} {u : V} {kd : D → Prop} {Q : VK} (hx : Rp N M x u) (h : fNeg x kd) (k : ∀ d w, kd d → Rp N M d w → Q w H) : Co.fNeg u H Q := by
  cases x <;> try exact h.elim
  cases hx
  exact k _ _ h rfl
def CmpOk (N : Kn) (r : R2) (f : C2) : Prop := ∀ {F H : Hp} {x y : D} {u v : V} {kb : Bool → Prop} {Q : VK}, Sub F H → Rp N F x u → Rp N F y v → f x y kb → (∀ c, kb c → Q (.bl c) H) → r u v H Q
theorem cmp_lift {N : Kn} {r : R2} {f : C2} {ta tb : DW} (ok : CmpOk N r f) {σV : L2.St} {H : Hp} {Q : VK} {M : Hp} {ρ : List Addr} {σ : Sl} {st : Sto} {k : Bool → Sto → Prop} {ex : DX} (c : Kx N Wx M ρ σ st H σV ex) (ht : dCmp f ta tb σ st k ex)
    (q : ∀ c st', k c st' → ∀ M' ρ' H', Ext M ρ H M' ρ' H' → Kx N Wx M' ρ' σ st' H' σV ex → Q (.bl c) H') : tOp r (lW N Wx ta) (lW N Wx tb) σV H Q := by
  refine Lf.bin c ht fun x y st' hk u v M' ρ' H' E c' r1 r2 => ?_
  cases h1 : seeW x st' with
  | none => simp only [h1] at hk
  | some d =>
    cases h2 : seeW y st' with
    | none => simp only [h1, h2] at hk
    | some e =>
      simp only [h1, h2] at hk
      exact ok (Fv.sub c'.rep.sub) ((see_ok c'.rep h1 r1).rp (Fv.same _ _ _)) ((see_ok c'.rep h2 r2).rp (Fv.same _ _ _)) hk fun b hb => q _ _ hb M' ρ' H' E c'
theorem t_cmpD {N : Kn} {op : CmpOp} {r : R2} {f : C2} {ta tb : DW} (ho : OpR X (compareOp op) r) (ok : CmpOk N r f) (ha : PE X e1 (lW N Wx ta)) (hb : PE X e2 (lW N Wx tb)) (hm : behindInMarks op e2 = false) : PT X (.Compare e1 [op] [e2] pos) (lT N Wx (dCmp f ta tb)) := PT.imp (t_cmp ho ha hb hm) fun σV H Q h => by
  obtain ⟨M, ρ, σ, st, k, ex, c, ht, q⟩ := Kx.open_ h
  exact cmp_lift ok c ht fun b st' hb M' ρ' H' E c' => q _ _ hb b M' ρ' H' E c' rfl
theorem e_cmpD {N : Kn} {op : CmpOp} {r : R2} {f : C2} {ta tb : DW} (ho : OpR X (compareOp op) r) (ok : CmpOk N r f) (ha : PE X e1 (lW N Wx ta)) (hb : PE X e2 (lW N Wx tb)) (hm : behindInMarks op e2 = false) : PE X (.Compare e1 [op] [e2] pos) (lD N Wx (dB (dCmp f ta tb))) := PE.imp (pe_cmpR ho ha hb hm) fun σV H Q h => by
  obtain ⟨M, ρ, σ, st, k, ex, c, ht, q⟩ := Kx.open_ h
  exact cmp_lift ok c ht fun b st' hb M' ρ' H' E c' => q _ _ hb _ M' ρ' H' E c' rfl
def rLtS : R2 := fun x y H Q => ∃ i j, x = .str i ∧ y = .str j ∧ Q (.bl (decide (i.cps.toList < j.cps.toList))) H
theorem o_lt' : OpR X (compareOp .Lt) (fun x y H Q => fLt x y H Q ∨ rLtS x y H Q) := OpR.or o_lt op_lt_str
theorem ok_lt {N : Kn} : CmpOk N (fun x y H Q => fLt x y H Q ∨ rLtS x y H Q) cLt := by
  intro F H x y u v kb Q s hx hy h k
  cases x <;> cases y <;> try exact h.elim
  · cases hx; cases hy; exact .inl (k _ h)
  · cases hx; cases hy; exact .inr ⟨_, _, rfl, rfl, k _ h⟩
theorem ok_gt {N : Kn} : CmpOk N fGt cGt := by
  intro F H x y u v kb Q s hx hy h k
  cases x <;> cases y <;> try exact h.elim
  cases hx; cases hy; exact k _ h
end
end Dl
end

section
set_option maxHeartbeats 4000000
namespace PySem
open Sem (wp)
section
variable {prog : Program} {w : World} {K : Type} [DecidableEq K] {knd : HeapKind prog w K} {A : Around} {E : Value → Shared → Prop} {s : Shared}
theorem wpAny_truthy_dictH {d : Addr} {kvs : List (K × Addr × Value)} {Q : Bool → Shared → Prop} (hd : (d == sysModules) = false) (hm : s.heap.DictOfH knd d kvs) (hfit : (kvs.length : Int) < 2 ^ 63)
    (h : Q (!kvs.isEmpty) { s with toks := s.toks + 1 + 1 }) : wpAny (model prog w) A (truthy (.ref d)) Q E s := by
  have hne : ((kvs.length : Int) != 0) = !kvs.isEmpty := by cases kvs <;> simp <;> omega
  have key : wpAny (model prog w) A (runValue (.builtin "len" ⟨[.ref d], []⟩)) (fun r s' => r = .int kvs.length (s.toks + 1) ∧ Q (!kvs.isEmpty) s') E s := by
    refine wpAny_runValue (codeAny_builtin entry_len ?_)
    rw [Around.under_plainId plain_len _]
    exact wpAny_mono (wpAny_len_body_dictH (Q := fun r s' => r = .int kvs.length (s.toks + 1) ∧ Q (!kvs.isEmpty) s') hd hm hfit ⟨rfl, h⟩)
      (fun fin s' h' => by obtain ⟨r, rfl, hq⟩ := h'; exact hq) fun _ _ e => e
  unfold truthy
  first
    | refine wpAny_bind (wpAny_callSpecial?_none (name := Str.ofString "__bool__") hm.typeIs noBool_dict ?_)
    | refine wpAny_bind (wpAny_pure (wpAny_bind (wpAny_callSpecial?_none (name := Str.ofString "__bool__") hm.typeIs noBool_dict ?_)))
  first
    | refine wpAny_bind (wpAny_specialOf (name := Str.ofString "__len__") hm.typeIs F.slot_dict_len.lookup ?_)
    | refine wpAny_bind (wpAny_pure (wpAny_bind (wpAny_specialOf (name := Str.ofString "__len__") hm.typeIs F.slot_dict_len.lookup ?_)))
  first
    | exact wpAny_bind (wpAny_mono key (fun r s' h' => by obtain ⟨rfl, hq⟩ := h'; exact wpAny_pure (hne ▸ hq)) fun _ _ e => e)
    | exact wpAny_bind (wpAny_pure (wpAny_bind (wpAny_mono key (fun r s' h' => by obtain ⟨rfl, hq⟩ := h'; exact wpAny_pure (hne ▸ hq)) fun _ _ e => e)))
end
end PySem
namespace Dl
open PySem PySem.Spec PyProof.Rows L2 Co
section
variable {X : Cx} {b : Bool} {Wx : WX} {e e1 e2 e3 : Expr} {pos : Pos}
def TruW (K : PySem.W.Frag) (x : V) (H : Hp) (k : Bool) : Prop := TruV K x H k ∨ (∃ p kvs, x = .ref p ∧ Rd H p (.dK kvs) ∧ k = !kvs.isEmpty) ∨ ∃ p kvs, x = .ref p ∧ Rd H p (.dT kvs) ∧ k = !kvs.isEmpty
theorem KT_empty {H : Hp} {kvs : List (List Key × V)} {xs : List (List Key × Addr × Value)} (r : KT H kvs xs) : (!xs.isEmpty) = !kvs.isEmpty := by
  cases r <;> rfl
theorem truW_ok : TruR X (fun x H Q => ∃ k, TruW X.K x H k ∧ Q k H) := by
  intro pins s σ H x v Q I rx h
  obtain ⟨k, e | ⟨p, kvs, rfl, hx, rfl⟩ | ⟨p, kvs, rfl, hx, rfl⟩, q⟩ := h
  · exact tru_ok pins s σ H x v Q I rx ⟨k, e, q⟩
  · cases rx
    obtain ⟨hz, hS, vs, r, m⟩ := (show ObjOk X.prog X.w H s.heap p (.dK kvs) from hx.ok I.hok)
    have hlen : kvs.length = vs.length := Paired.length r
    have hs : sizeLine = 16777216 := sizeLine_eq
    exact wpAny_truthy_dict hS m (by omega) ⟨H, I.tok _, by rw [isEmpty_kv r]; exact q⟩
  · cases rx
    obtain ⟨z, hd, ys, rel, dd⟩ := dt_rd I.hok hx
    have hl : kvs.length = ys.length := Paired.length rel
    have hs : sizeLine = 16777216 := sizeLine_eq
    exact wpAny_truthy_dictH hd dd (by omega) ⟨H, I.tok _, by rw [KT_empty rel]; exact q⟩
theorem pt_truW {ta : TE} (ha : PE X e ta) (he : ∀ whole, isTrue e X.env whole = (do let v ← whole; standAt e.pos; holding [v] (truthy v))) :
    PT X e (fun σ H Q => ta σ H fun x H' => ∃ k, TruW X.K x H' k ∧ Q k H') := by
  refine ⟨fun pins s σ H Q I h => ?_⟩
  exact isTrue_plain (thn (ha.run pins s σ H _ I h) fun v s1 ⟨x, H1, I1, r1, q1⟩ => truW_ok pins s1 σ H1 x v Q I1 r1 q1) (he _)
theorem tru_of {N : Kn} {F H : Hp} {d : D} {v : V} {k : Bool → Prop} (s : Sub F H) (r : Rp N F d v) (h : truD d k) : ∃ c, TruW N.K v H c ∧ k c := by
  cases d with
  | non => cases r; exact ⟨_, .inl rfl, h⟩
  | bl c => cases r; exact ⟨_, .inl rfl, h⟩
  | int i => cases r; exact ⟨_, .inl rfl, h⟩
  | str y => cases r; exact ⟨_, .inl ⟨h.1, rfl⟩, h.2⟩
  | tup ds =>
    obtain ⟨p, xs, rfl, h1, h2⟩ := r
    have hl := h2.length
    refine ⟨_, .inl (.inr (.inl ⟨xs, s.tup h1, rfl⟩)), ?_⟩
    have : xs.isEmpty = ds.isEmpty := by cases xs <;> cases ds <;> first | rfl | (simp at hl)
    rw [this]; exact h
  | lst ds =>
    obtain ⟨p, xs, rfl, h1, h2⟩ := r
    have hl := h2.length
    refine ⟨_, .inl (.inl ⟨xs, SqL.of (s.lst1 h1), rfl⟩), ?_⟩
    have : xs.isEmpty = ds.isEmpty := by cases xs <;> cases ds <;> first | rfl | (simp at hl)
    rw [this]; exact h
  | dct ks ds =>
    obtain ⟨p, kvs, rfl, h1, h2, h3⟩ := r
    refine ⟨_, .inr (.inl ⟨p, kvs, rfl, s.dK h1, rfl⟩), ?_⟩
    have : kvs.isEmpty = ks.isEmpty := by rw [← h2]; cases kvs <;> rfl
    rw [this]; exact h
  | dcT ks ds => exact h.elim
  | ty n => exact h.elim
  | glo x => exact h.elim
  | scr x => exact h.elim
  | exc _ _ _ _ _ => exact h.elim
  | ins C ns ds => exact h.elim
theorem tru_lift {N : Kn} {t : DW} {σV : L2.St} {H M : Hp} {ρ : List Addr} {σ : Sl} {st : Sto} {ex : DX} {k : Bool → Sto → Prop} {Q : Bool → Hp → Prop} (c : Kx N Wx M ρ σ st H σV ex) (ht : dTru t σ st k ex)
    (q : ∀ b st', k b st' → ∀ M' ρ' H', Ext M ρ H M' ρ' H' → Kx N Wx M' ρ' σ st' H' σV ex → Q b H') : lW N Wx t σV H (fun x H1 => ∃ k, TruW N.K x H1 k ∧ Q k H1) := by
  refine Lf.of c ht fun w st' hk v M' ρ' H' E c' r => ?_
  cases hz : seeW w st' with
  | none => simp only [hz] at hk
  | some d =>
    simp only [hz] at hk
    obtain ⟨b, h1, h2⟩ := tru_of (Fv.sub c'.rep.sub) ((see_ok c'.rep hz r).rp (Fv.same _ _ _)) hk
    exact ⟨b, h1, q _ _ h2 M' ρ' H' E c'⟩
theorem t_tru {t : DW} (ha : PE X e (lW (XN X b) Wx t)) (he : ∀ whole, isTrue e X.env whole = (do let v ← whole; standAt e.pos; holding [v] (truthy v)) := by intro _; rfl) : PT X e (lT (XN X b) Wx (dTru t)) := PT.imp (pt_truW ha he) fun σV H Q h => by
  obtain ⟨M, ρ, σ, st, k, ex, c, ht, q⟩ := Kx.open_ h
  exact tru_lift (N := XN X b) c ht fun b st' hb M' ρ' H' E c' => q _ _ hb b M' ρ' H' E c' rfl
variable {N : Kn}
theorem w_and {t u : DT} {rest : List Expr} (ha : PT X e1 (lT N Wx t)) (hb : PW X (.BoolOp .And (e2 :: rest) pos) (lT N Wx u)) : PW X (.BoolOp .And (e1 :: e2 :: rest) pos) (lT N Wx (dAnd t u)) := PW.imp (Co.w_and ha hb) fun σV H Q h => by
  obtain ⟨M, ρ, σ, st, k, ex, c, ht, q⟩ := Kx.open_ h
  refine Lf.of c ht fun d st' hk v M' ρ' H' E c' r => ?_
  rw [show v = d from r]
  refine ⟨fun z => Lf.of c' (hk.1 z) fun d2 st2 hk2 v2 M2 ρ2 H2 E2 c2 r2 => q _ _ hk2 _ M2 ρ2 H2 (E.trans E2) c2 r2, fun z => q _ _ (hk.2 z) _ M' ρ' H' E c' rfl⟩
theorem w_or {t u : DT} {rest : List Expr} (ha : PT X e1 (lT N Wx t)) (hb : PW X (.BoolOp .Or (e2 :: rest) pos) (lT N Wx u)) : PW X (.BoolOp .Or (e1 :: e2 :: rest) pos) (lT N Wx (dOr t u)) := PW.imp (Co.w_or ha hb) fun σV H Q h => by
  obtain ⟨M, ρ, σ, st, k, ex, c, ht, q⟩ := Kx.open_ h
  refine Lf.of c ht fun d st' hk v M' ρ' H' E c' r => ?_
  rw [show v = d from r]
  refine ⟨fun z => q _ _ (hk.1 z) _ M' ρ' H' E c' rfl, fun z => Lf.of c' (hk.2 z) fun d2 st2 hk2 v2 M2 ρ2 H2 E2 c2 r2 => q _ _ hk2 _ M2 ρ2 H2 (E.trans E2) c2 r2⟩
theorem w_and1 {t : DT} (ha : PT X e1 (lT N Wx t)) : PW X (.BoolOp .And [e1] pos) (lT N Wx t) := pw_and1 ha
theorem w_or1 {t : DT} (ha : PT X e1 (lT N Wx t)) : PW X (.BoolOp .Or [e1] pos) (lT N Wx t) := pw_or1 ha
theorem e_ifW {c : DT} {t u : DW} (hc : PT X e1 (lT N Wx c)) (ha : PE X e2 (lW N Wx t)) (hb : PE X e3 (lW N Wx u)) : PE X (.IfExp e1 e2 e3 pos) (lW N Wx (dIfE c t u)) := PE.imp (e_if hc ha hb) fun σV H Q h => by
  obtain ⟨M, ρ, σ, st, k, ex, c, ht, q⟩ := Kx.open_ h
  refine Lf.of c ht fun d st' hk v M' ρ' H' E c' r => ?_
  rw [show v = d from r]
  exact ⟨fun z => Lf.of c' (hk.1 z) fun d2 st2 hk2 v2 M2 ρ2 H2 E2 c2 r2 => q _ _ hk2 _ M2 ρ2 H2 (E.trans E2) c2 r2, fun z => Lf.of c' (hk.2 z) fun d2 st2 hk2 v2 M2 ρ2 H2 E2 c2 r2 => q _ _ hk2 _ M2 ρ2 H2 (E.trans E2) c2 r2⟩
theorem a_nil : PA X [] (lA N Wx aNil) := ⟨fun pos pins s σ H Q I h => pa_nil.run pos pins s σ H Q I (by
  obtain ⟨M, ρ, σ, st, k, ex, c, ht, q⟩ := Kx.open_ h
  exact q _ _ ht _ M ρ H Ext.refl c rfl)⟩
theorem PA.imp {es : List Expr} {t t' : TA} (h : PA X es t) (i : ∀ σ H Q, t' σ H Q → t σ H Q) : PA X es t' := ⟨fun pos pins s σ H Q I q => h.run pos pins s σ H Q I (i σ H Q q)⟩
theorem a_cons {es : List Expr} {t : DW} {r : DA} (ha : PE X e (lW N Wx t)) (hr : PA X es (lA N Wx r)) (hs : starEach (e :: es) X.env = (false, eval e X.env) :: starEach es X.env := by rfl) : PA X (e :: es) (lA N Wx (aCons t r)) := PA.imp (pa_cons ha hr hs) fun σV H Q h => by
  obtain ⟨M, ρ, σ, st, k, ex, c, ht, q⟩ := Kx.open_ h
  exact Lf.bin c ht fun w ws st' hk v vs M' ρ' H' E c' r1 r2 => q _ _ hk _ M' ρ' H' E c' ⟨v, vs, rfl, r1, r2⟩
theorem ad_nil : PA X [] (lAD N Wx adNil) := ⟨fun pos pins s σ H Q I h => pa_nil.run pos pins s σ H Q I (by
  obtain ⟨M, ρ, σ, st, k, ex, c, ht, q⟩ := Kx.open_ h
  exact q _ _ ht _ M ρ H Ext.refl c rfl)⟩
theorem ad_cons {es : List Expr} {t : DD} {r : DAD} (ha : PE X e (lD N Wx t)) (hr : PA X es (lAD N Wx r)) (hs : starEach (e :: es) X.env = (false, eval e X.env) :: starEach es X.env := by rfl) : PA X (e :: es) (lAD N Wx (adCons t r)) := PA.imp (pa_cons ha hr hs) fun σV H Q h => by
  obtain ⟨M, ρ, σ, st, k, ex, c, ht, q⟩ := Kx.open_ h
  exact Lf.bin c ht fun w ws st' hk v vs M' ρ' H' E c' r1 r2 => q _ _ hk _ M' ρ' H' E c' ⟨v, vs, rfl, r1, r2⟩
theorem e_tup {es : List Expr} {kk : Nat} {t : DAD} (ha : PA X es (lAD N Wx t)) : PE X (.Tuple es kk pos) (lD N Wx (dTup t)) := PE.imp (pe_tup ha) fun σV H Q h => by
  obtain ⟨M, ρ, σ, st, k, ex, c, ht, q⟩ := Kx.open_ h
  refine Lf.of c ht fun ds st' hk vs M' ρ' H' E c' r => ⟨lenL6 (by rw [Rps.length r]; exact hk.1), fun p hp => ?_⟩
  obtain ⟨E2, c2⟩ := c'.new (o := .tup vs) hp
  exact q _ _ hk.2 _ _ ρ' _ (E.trans E2) c2 ⟨p, vs, rfl, .inl upd_same, Rps.ext r E2⟩
theorem e_lst {es : List Expr} {t : DAD} (ha : PA X es (lAD N Wx t)) : PE X (.List es pos) (lD N Wx (dLst t)) := PE.imp (pe_lst ha) fun σV H Q h => by
  obtain ⟨M, ρ, σ, st, k, ex, c, ht, q⟩ := Kx.open_ h
  refine Lf.of c ht fun ds st' hk vs M' ρ' H' E c' r => ⟨lenL6 (by rw [Rps.length r]; exact hk.1), fun p hp => ?_⟩
  obtain ⟨E2, c2⟩ := c'.new (o := .lst vs) hp
  exact q _ _ hk.2 _ _ ρ' _ (E.trans E2) c2 ⟨p, vs, rfl, upd_same, Rps.ext r E2⟩
theorem Rep.last {M H : Hp} {ρ : List Addr} {st : Sto} (r : Rep N M ρ st H) (p : Addr) : (ρ ++ [p])[st.length]? = some p := by rw [← r.len]; simp
theorem e_lstM {es : List Expr} {t : DAD} (ha : PA X es (lAD N Wx t)) : PE X (.List es pos) (lW N Wx (dLstM t)) := PE.imp (pe_lst ha) fun σV H Q h => by
  obtain ⟨M, ρ, σ, st, k, ex, c, ht, q⟩ := Kx.open_ h
  refine Lf.of c ht fun ds st' hk vs M' ρ' H' E c' r => ⟨lenL6 (by rw [Rps.length r]; exact hk.1), fun p hp => ?_⟩
  obtain ⟨E2, c2⟩ := c'.loc (u := .lst vs) (o := .lst ds) hp ⟨c'.rep.non hp, vs, upd_same, r⟩
  exact q _ _ hk.2 _ _ _ _ (E.trans E2) c2 ⟨p, c'.rep.last p, rfl⟩
end
end Dl
end

section
set_option maxHeartbeats 4000000
namespace Dl
open PySem PySem.Spec PyProof.Rows L2 Co
def atD (x i : D) (k : D → Prop) : Prop := match x, i with
  | .tup ds, .int j => (match atI ds j with
    | some d => k d
    | none => False)
  | .lst ds, .int j => (match atI ds j with
    | some d => k d
    | none => False)
  | .str z, .int j => z.length ≤ sizeLine ∧ (match atI z.cps.toList j with
    | some c => k (.str ⟨#[c]⟩)
    | none => False)
  | _, _ => False
def dIx (ta : DW) (ti : DD) : DD := fun σ st k ex => ta σ st (fun w st1 => ti σ st1 (fun i st2 => match seeW w st2 with
  | some x => atD x i fun d => k d st2
  | none => False) ex) ex
def getK {κ : Type} [DecidableEq κ] : List κ → List D → κ → Option D
  | a :: ks, d :: ds, q => if a = q then some d else getK ks ds q
  | _, _, _ => none
def keyD : D → Option Key
  | .int i => some (.inl i)
  | .str x => some (.inr x)
  | _ => none
def keysD : List D → Option (List Key)
  | [] => some []
  | d :: ds => match keyD d, keysD ds with
    | some q, some qs => some (q :: qs)
    | _, _ => none
def getD_ (T : Bool) (x i : D) (k : Option D → Prop) : Prop := match x with
  | .dct ks ds => (match keyD i with
    | some q => k (getK ks ds q)
    | none => False)
  | .dcT ks ds => (match i with
    | .tup es => (match keysD es with
      | some q => T = true ∧ k (getK ks ds q)
      | none => False)
    | _ => False)
  | _ => False
def dGet (T : Bool) (ta : DW) (ti : DD) : DD := fun σ st k ex => ta σ st (fun w st1 => ti σ st1 (fun i st2 => match seeW w st2 with
  | some x => getD_ T x i fun o => match o with
    | some d => k d st2
    | none => False
  | none => False) ex) ex
def seeWs : List W → Sto → Option (List D)
  | [], _ => some []
  | w :: r, st => match seeW w st, seeWs r st with
    | some d, some ds => some (d :: ds)
    | _, _ => none
abbrev FL := List D → (D → Prop) → Prop
def dCB (f : FL) (ta : DA) : DD := fun σ st k ex => ta σ st (fun ws st1 => match seeWs ws st1 with
  | some ds => f ds fun d => k d st1
  | none => False) ex
def isTy (T : String) : Option D → Prop
  | some (.str _) => T = "str"
  | some (.lst _) => T = "list"
  | some (.dct _ _) => T = "dict"
  | some (.dcT _ _) => T = "dict"
  | _ => False
def dBM (T : String) (f : D → FL) (to : DW) (ta : DA) : DD := fun σ st k ex => to σ st (fun w st1 => isTy T (seeW w st1) ∧ ta σ st1 (fun ws st2 => match seeW w st2, seeWs ws st2 with
  | some x, some ds => f x ds fun d => k d st2
  | _, _ => False) ex) ex
def lenD (x : D) (k : D → Prop) : Prop := match x with
  | .str z => z.length ≤ sizeLine ∧ k (.int z.length)
  | .tup ds => k (.int ds.length)
  | .lst ds => k (.int ds.length)
  | .dct ks _ => k (.int ks.length)
  | .dcT ks _ => k (.int ks.length)
  | _ => False
def fLen : FL := fun xs k => match xs with
  | [x] => lenD x k
  | _ => False
abbrev DO := Lv (Option Int)
def dNoPart : DO := fun _ st k _ => k none st
def dPart (t : DD) : DO := fun σ st k ex => t σ st (fun x st1 => match x with
  | .int i => k (some i) st1
  | _ => False) ex
def cutD (ds : List D) (lo hi : Option Int) : List D := (ds.drop (HT.sIx ds.length 0 lo)).take (HT.sIx ds.length ds.length hi - HT.sIx ds.length 0 lo)
def sliceD (x : D) (lo hi : Option Int) (k : D → Prop) : Prop := match x with
  | .str z => z.length ≤ sizeLine ∧ k (.str (cutS z lo hi))
  | .tup ds => k (.tup (cutD ds lo hi))
  | .lst ds => k (.lst (cutD ds lo hi))
  | _ => False
def dSl (ta : DW) (tl th : DO) : DD := fun σ st k ex => ta σ st (fun w st1 => tl σ st1 (fun l st2 => th σ st2 (fun h st3 => match seeW w st3 with
  | some x => sliceD x l h fun d => k d st3
  | none => False) ex) ex) ex
def fldD (C f : Str) (w : W) (st : Sto) (k : W → Prop) : Prop := match w with
  | .im (.ins C' ns ds) => C' = C ∧ (match getK ns ds f with
    | some d => k (.im d)
    | none => False)
  | .loc n => (match st[n]? with
    | some (.ins C' fs) => C' = C ∧ (match fs.lookup f with
      | some w' => k w'
      | none => False)
    | some (.fz (.ins C' ns ds)) => C' = C ∧ (match getK ns ds f with
      | some d => k (.im d)
      | none => False)
    | _ => False)
  | _ => False
def dFld (C f : Str) (ta : DW) : DW := fun σ st k ex => ta σ st (fun w st1 => fldD C f w st1 fun w' => k w' st1) ex
section
variable {X : Cx} {b : Bool} {Wx : WX} {e e1 e2 e3 : Expr} {pos : Pos} {N : Kn}
theorem atI_rps {M : Hp} {ds : List D} {vs : List V} {j : Int} {d : D} (h : Rps N M ds vs) (e : atI ds j = some d) : ∃ v, atI vs j = some v ∧ Rp N M d v := by
  unfold atI at e ⊢
  rw [h.length]
  cases z : ixN ds.length j with
  | none => rw [z] at e; cases e
  | some n =>
    rw [z] at e
    exact h.get e
theorem e_ix {ta : DW} {ti : DD} (ha : PE X e1 (lW (XN X b) Wx ta)) (hi : PE X e2 (lD (XN X b) Wx ti)) (hs : PlainIx e2 := by exact fun _ _ => rfl) : PE X (.Subscript e1 e2 pos) (lD (XN X b) Wx (dIx ta ti)) := PE.imp (pe_ix ix_seq ha hi hs) fun σV H Q h => by
  obtain ⟨M, ρ, σ, st, k, ex, c, ht, q⟩ := Kx.open_ h
  refine Lf.bin c ht fun w i st' hk u v M' ρ' H' E c' r1 r2 => ?_
  cases hz : seeW w st' with
  | none => simp only [hz] at hk
  | some x =>
    simp only [hz] at hk
    have r := see_ok c'.rep hz r1
    have s := Fv.sub (ρ := ρ') c'.rep.sub
    cases x <;> cases i <;> try exact False.elim hk
    · rename_i z j
      cases r; cases r2
      obtain ⟨h1, h2⟩ := hk
      refine .inr (.inr ?_)
      cases hj : atI z.cps.toList j with
      | none => rw [hj] at h2; exact False.elim h2
      | some cc =>
        rw [hj] at h2
        exact ⟨z, j, cc, rfl, rfl, h1, hj, q _ _ h2 _ M' ρ' H' E c' rfl⟩
    · rename_i ds j
      obtain ⟨p, xs, rfl, h1, h2⟩ := (show Rp (XN X b) M' (.tup ds) u from r)
      cases r2
      refine .inr (.inl ?_)
      cases hj : atI ds j with
      | none => simp only [atD, hj] at hk
      | some d =>
        simp only [atD, hj] at hk
        obtain ⟨v, h3, h4⟩ := atI_rps h2 hj
        exact ⟨p, xs, j, v, rfl, rfl, c'.rep.sub.tup h1, h3, q _ _ hk _ M' ρ' H' E c' h4⟩
    · rename_i ds j
      obtain ⟨p, xs, rfl, h1, h2⟩ := r
      cases r2
      refine .inl ?_
      cases hj : atI ds j with
      | none => simp only [atD, hj] at hk
      | some d =>
        simp only [atD, hj] at hk
        obtain ⟨v, h3, h4⟩ := atI_rps h2 hj
        exact ⟨p, xs, j, v, rfl, rfl, SqL.of (s.lst1 h1), h3, q _ _ hk _ M' ρ' H' E c' h4⟩
theorem getK_val {κ : Type} [DecidableEq κ] {M : Hp} : ∀ {kvs : List (κ × V)} {ds : List D}, Rps N M ds (kvs.map (·.2)) → ∀ q, match getK (kvs.map (·.1)) ds q with
    | some d => ∃ v, valV kvs q = some v ∧ Rp N M d v
    | none => valV kvs q = none
  | [], ds, h, q => by
    have : ds = [] := List.eq_nil_of_length_eq_zero (by have := h.length; simpa using this.symm)
    subst this
    rfl
  | (a, v) :: kvs, [], h, q => by have := h.length; simp at this
  | (a, v) :: kvs, d :: ds, ⟨x, r, h1, h2, h3⟩, q => by
    cases h1
    by_cases z : a = q
    · simp only [List.map_cons, getK, if_pos z]
      exact ⟨v, valV_pos z, h2⟩
    · simp only [List.map_cons, getK, if_neg z]
      have := getK_val h3 q
      rw [valV_neg (show ¬ ((a, v) : κ × V).1 = q from z)]
      exact this
theorem keyD_rp {M : Hp} {i : D} {q : Key} {v : V} (e : keyD i = some q) (h : Rp N M i v) : v = kV q := by
  cases i <;> simp only [keyD, Option.some.injEq, reduceCtorEq] at e <;> subst e <;> exact h
theorem keysD_rp {M : Hp} : ∀ {is : List D} {qs : List Key} {vs : List V}, keysD is = some qs → Rps N M is vs → vs = qs.map kV
  | [], qs, vs, e, h => by cases e; exact h
  | d :: ds, qs, vs, e, ⟨x, r, h1, h2, h3⟩ => by
    cases h4 : keyD d with
    | none => simp only [keysD, h4] at e; cases e
    | some q =>
      cases h5 : keysD ds with
      | none => simp only [keysD, h4, h5] at e; cases e
      | some qs' =>
        simp only [keysD, h4, h5, Option.some.injEq] at e
        subst e h1
        rw [keyD_rp h4 h2, keysD_rp h5 h3]
        rfl
theorem get_ok {T : Bool} {M F H : Hp} {x i : D} {u y : V} {ko : Option D → Prop} (s : Sub F H) (sM : Sub M H) (hT : T = true → N.b = false) (h1 : RpC N M F x u) (h2 : Rp N M i y) (h : getD_ T x i ko) :
    ∃ a o, u = .ref a ∧ IsD H a ∧ (∃ ov, DGet H a y ov ∧ ko o ∧ match o with
      | some d => ∃ v, ov = some v ∧ Rp N M d v
      | none => ov = none) := by
  cases x <;> try exact False.elim h
  · rename_i ks ds
    obtain ⟨p, kvs, rfl, h3, h4, h5⟩ := h1
    subst h4
    cases hq : keyD i with
    | none => simp only [getD_, hq] at h
    | some q =>
      simp only [getD_, hq] at h
      have e := keyD_rp hq h2
      have r := s.dK h3
      have g := getK_val h5 q
      exact ⟨p, _, rfl, .inl ⟨kvs, r⟩, _, .inl ⟨kvs, q, r, e, rfl⟩, h, by
        cases z : getK (kvs.map (·.1)) ds q with
        | none => rw [z] at g; exact g
        | some d => rw [z] at g; obtain ⟨v, g1, g2⟩ := g; exact ⟨v, g1, g2⟩⟩
  · rename_i ks ds
    obtain ⟨p, kvs, rfl, h3, h4, h5⟩ := h1
    subst h4
    cases i <;> try exact False.elim h
    rename_i es
    cases hq : keysD es with
    | none => simp only [getD_, hq] at h
    | some q =>
      simp only [getD_, hq] at h
      obtain ⟨hT', h⟩ := h
      obtain ⟨t, xs, rfl, g1, g2⟩ := h2
      have e := keysD_rp hq g2
      subst e
      have g1 : M t = some (.tup (q.map kV)) := g1.elim (fun z => z) fun z => by
        have := hT hT'
        rw [this] at z
        cases z.1
      have r := s.dT h3
      have g := getK_val h5 q
      exact ⟨p, _, rfl, .inr ⟨kvs, r⟩, _, .inr ⟨kvs, q, t, r, rfl, sM.tup1 g1, rfl⟩, h, by
        cases z : getK (kvs.map (·.1)) ds q with
        | none => rw [z] at g; exact g
        | some d => rw [z] at g; obtain ⟨v, g1, g2⟩ := g; exact ⟨v, g1, g2⟩⟩
theorem e_get {T : Bool} {ta : DW} {ti : DD} (hu : X.A.units + 1 < cLine) (hT : T = true → N.b = false) (ha : PE X e1 (lW N Wx ta)) (hi : PE X e2 (lD N Wx ti)) (hs : NoSl e2 := by exact fun _ _ => rfl) : PE X (.Subscript e1 e2 pos) (lD N Wx (dGet T ta ti)) := PE.imp (pe_dget hu ha hi hs) fun σV H Q h => by
  obtain ⟨M, ρ, σ, st, k, ex, c, ht, q⟩ := Kx.open_ h
  refine Lf.bin c ht fun w i st' hk u v M' ρ' H' E c' r1 r2 => ?_
  cases hz : seeW w st' with
  | none => simp only [hz] at hk
  | some x =>
    simp only [hz] at hk
    obtain ⟨a, o, rfl, _, ov, g1, g2, g3⟩ := get_ok (Fv.sub (ρ := ρ') c'.rep.sub) c'.rep.sub hT (see_ok c'.rep hz r1) r2 hk
    cases o with
    | none => exact False.elim g2
    | some d =>
      obtain ⟨v', rfl, g4⟩ := g3
      exact ⟨a, v', rfl, g1, q _ _ g2 _ M' ρ' H' E c' g4⟩
def RpCs (N : Kn) (M F : Hp) : List D → List V → Prop
  | [], vs => vs = []
  | d :: ds, vs => ∃ x r, vs = x :: r ∧ RpC N M F d x ∧ RpCs N M F ds r
theorem sees_ok {M H : Hp} {ρ : List Addr} {st : Sto} (r : Rep N M ρ st H) : ∀ {ws : List W} {ds : List D} {vs : List V}, seeWs ws st = some ds → Rws N M ρ ws vs → RpCs N M (Fv M ρ H) ds vs
  | [], _, _, e, h => by cases e; exact h
  | w :: ws, ds, vs, e, ⟨x, q, h1, h2, h3⟩ => by
    cases e1 : seeW w st with
    | none => simp only [seeWs, e1] at e; cases e
    | some d =>
      cases e2 : seeWs ws st with
      | none => simp only [seeWs, e1, e2] at e; cases e
      | some ds' =>
        simp only [seeWs, e1, e2, Option.some.injEq] at e
        subst e
        exact ⟨x, q, h1, see_ok r e1 h2, sees_ok r e2 h3⟩
def CallOk (N : Kn) (r : List V → Hp → VK → Prop) (f : FL) : Prop := ∀ {Wx : WX} {M H : Hp} {ρ : List Addr} {σ : Sl} {st : Sto} {σV : L2.St} {ex : DX} {ds : List D} {us : List V} {kd : D → Prop} {Q : VK}, Kx N Wx M ρ σ st H σV ex → RpCs N M (Fv M ρ H) ds us → f ds kd →
  (∀ d, kd d → ∀ w M' H', Ext M ρ H M' ρ H' → Kx N Wx M' ρ σ st H' σV ex → Rp N M' d w → Q w H') → r us H Q
theorem cb_lift {r : List V → Hp → VK → Prop} {f : FL} {ta : DA} (ok : CallOk N r f) {σV : L2.St} {H : Hp} {Q : VK} (h : lD N Wx (dCB f ta) σV H Q) : tCB r (lA N Wx ta) σV H Q := by
  obtain ⟨M, ρ, σ, st, k, ex, c, ht, q⟩ := Kx.open_ h
  refine Lf.of c ht fun ws st' hk vs M' ρ' H' E c' r => ?_
  cases hz : seeWs ws st' with
  | none => simp only [hz] at hk
  | some ds =>
    simp only [hz] at hk
    exact ok c' (sees_ok c'.rep hz r) hk fun d hd w M2 H2 E2 c2 r2 => q _ _ hd w M2 ρ' H2 (E.trans E2) c2 r2
theorem e_cb {id : String} {r : List V → Hp → VK → Prop} {f : FL} {ta : DA} {x : Str} {p : Pos} {es : List Expr} (hc : CallR X (.builtin id) r) (ok : CallOk N r f) (hg : Gl X x) (hm : X.mg x = none) (hv : bootBuiltins x = some (.builtin id)) (ha : PA X (e :: es) (lA N Wx ta)) (hn : x ≠ "__name__" := by decide) (hdb : (x == ("__debug__" : Str)) = false := by decide)
    (he : starEach (e :: es) X.env = (false, eval e X.env) :: starEach es X.env := by rfl) (hpl : (backTo pos (starEach es X.env)).any (·.1) = false := by rfl) : PE X (.Call (.Name x p) (e :: es) [] pos) (lD N Wx (dCB f ta)) := PE.imp (pe_callB hc hg hm hv ha hn hdb he hpl) fun _ _ _ => cb_lift ok
theorem e_cty {T : String} {r : List V → Hp → VK → Prop} {f : FL} {ta : DA} {x : Str} {p : Pos} {es : List Expr} (hc : CallR X (.type T) r) (ok : CallOk N r f) (hg : Gl X x) (hm : X.mg x = none) (hv : bootBuiltins x = some (.type T)) (ha : PA X (e :: es) (lA N Wx ta)) (hn : x ≠ "__name__" := by decide) (hdb : (x == ("__debug__" : Str)) = false := by decide)
    (he : starEach (e :: es) X.env = (false, eval e X.env) :: starEach es X.env := by rfl) (hpl : (backTo pos (starEach es X.env)).any (·.1) = false := by rfl) : PE X (.Call (.Name x p) (e :: es) [] pos) (lD N Wx (dCB f ta)) := PE.imp (pe_callTy hc hg hm hv ha hn hdb he hpl) fun _ _ _ => cb_lift ok
theorem CallR.or {f : Value} {r r' : List V → Hp → VK → Prop} (h : CallR X f r) (h' : CallR X f r') : CallR X f (fun xs H Q => r xs H Q ∨ r' xs H Q) := fun pins s σ H xs us Q I rx q => q.elim (h pins s σ H xs us Q I rx) (h' pins s σ H xs us Q I rx)
theorem RpCs.one {M F : Hp} {d : D} {us : List V} (h : RpCs N M F [d] us) : ∃ u, us = [u] ∧ RpC N M F d u := by
  obtain ⟨x, r, h1, h2, h3⟩ := h
  rw [show r = [] from h3] at h1
  exact ⟨x, h1, h2⟩
theorem RpCs.two {M F : Hp} {d d' : D} {us : List V} (h : RpCs N M F [d, d'] us) : ∃ u u', us = [u, u'] ∧ RpC N M F d u ∧ RpC N M F d' u' := by
  obtain ⟨x, r, h1, h2, h3⟩ := h
  obtain ⟨u, rfl, h4⟩ := RpCs.one h3
  exact ⟨x, u, h1, h2, h4⟩
def rLenW (K : PySem.W.Frag) : List V → Hp → VK → Prop := fun xs H Q => cLenA K xs H Q ∨ (∃ a kvs, xs = [V.ref a] ∧ Rd H a (.dK kvs) ∧ Q (.int kvs.length) H) ∨ ∃ a kvs, xs = [V.ref a] ∧ Rd H a (.dT kvs) ∧ Q (.int kvs.length) H
theorem c_lenW : CallR X (.builtin "len") (rLenW X.K) := by
  intro pins s σ H xs us Q I r h
  rcases h with h | ⟨a, kvs, rfl, ha, q⟩ | ⟨p, kvs, rfl, hp, q⟩
  · exact c_lenA pins s σ H xs us Q I r h
  · obtain ⟨u, rfl, ru⟩ := vals1 r
    cases ru
    exact d_len I ha fun t s' I' => ⟨.int kvs.length, H, I', ⟨t, rfl⟩, q⟩
  · obtain ⟨u, rfl, rx⟩ := vals1 r
    obtain rfl : u = .ref p := rx
    obtain ⟨z, hd, ys, rel, dd⟩ := dt_rd I.hok hp
    have hl : kvs.length = ys.length := Paired.length rel
    refine call_len_dictH hd dd (by rw [← hl]; rw [sizeLine_eq] at z; omega) ?_
    rw [← hl]
    exact ⟨.int ((kvs.length : Nat) : Int), H, I.tok _, ⟨_, rfl⟩, q⟩
theorem ok_len : CallOk N (rLenW N.K) fLen := by
  intro Wx M H ρ σ st σV ex ds us kd Q c hd h k
  unfold fLen at h
  split at h
  · rename_i x
    obtain ⟨u, rfl, r⟩ := RpCs.one hd
    have s := Fv.sub (ρ := ρ) c.rep.sub
    cases x <;> try exact False.elim h
    · cases r; exact .inl ⟨h.1, k _ h.2 _ M H Ext.refl c rfl⟩
    · obtain ⟨p, xs, rfl, h1, h2⟩ := (show Rp N M _ u from r)
      exact .inl ⟨_, .inl ⟨xs, .inr (c.rep.sub.tup h1), rfl⟩, by rw [h2.length]; exact k _ h _ M H Ext.refl c rfl⟩
    · obtain ⟨p, xs, rfl, h1, h2⟩ := r
      exact .inl ⟨_, .inl ⟨xs, .inl (SqL.of (s.lst1 h1)), rfl⟩, by rw [h2.length]; exact k _ h _ M H Ext.refl c rfl⟩
    · obtain ⟨p, kvs, rfl, h1, h2, h3⟩ := r
      refine .inr (.inl ⟨p, kvs, rfl, s.dK h1, ?_⟩)
      rw [show (kvs.length : Int) = ((kvs.map (·.1)).length : Int) by simp, h2]
      exact k _ h _ M H Ext.refl c rfl
    · obtain ⟨p, kvs, rfl, h1, h2, h3⟩ := r
      refine .inr (.inr ⟨p, kvs, rfl, s.dT h1, ?_⟩)
      rw [show (kvs.length : Int) = ((kvs.map (·.1)).length : Int) by simp, h2]
      exact k _ h _ M H Ext.refl c rfl
  · exact h.elim
def fInt : FL := fun xs k => match xs with
  | [.int i] => k (.int i)
  | [.bl b] => k (.int (if b then 1 else 0))
  | [.str a] => ∃ n, PySem.intText? a = some n ∧ a.length ≤ 640 ∧ k (.int n)
  | _ => False
theorem c_intA : CallR X (.type "int") (fun xs H Q => cInt xs H Q ∨ cIntS xs H Q) := CallR.or c_int c_intS
theorem ok_int : CallOk N (fun xs H Q => cInt xs H Q ∨ cIntS xs H Q) fInt := by
  intro Wx M H ρ σ st σV ex ds us kd Q c hd h k
  unfold fInt at h
  split at h
  · obtain ⟨u, rfl, r⟩ := RpCs.one hd; cases r; exact .inl (k _ h _ M H Ext.refl c rfl)
  · obtain ⟨u, rfl, r⟩ := RpCs.one hd; cases r; exact .inl (k _ h _ M H Ext.refl c rfl)
  · obtain ⟨u, rfl, r⟩ := RpCs.one hd; cases r
    obtain ⟨n, h1, h2, h3⟩ := h
    exact .inr ⟨n, h1, h2, k _ h3 _ M H Ext.refl c rfl⟩
  · exact h.elim
def fStrI : FL := fun xs k => match xs with
  | [.int i] => i.natAbs.log2 < 1920 ∧ k (.str (toString i))
  | _ => False
theorem ok_strI : CallOk N cStrI fStrI := by
  intro Wx M H ρ σ st σV ex ds us kd Q c hd h k
  unfold fStrI at h
  split at h
  · obtain ⟨u, rfl, r⟩ := RpCs.one hd; cases r; exact ⟨h.1, k _ h.2 _ M H Ext.refl c rfl⟩
  · exact h.elim
def fAbs : FL := fun xs k => match xs with
  | [.int i] => k (.int (i.natAbs : Int))
  | _ => False
theorem ok_abs : CallOk N cAbs fAbs := by
  intro Wx M H ρ σ st σV ex ds us kd Q c hd h k
  unfold fAbs at h
  split at h
  · obtain ⟨u, rfl, r⟩ := RpCs.one hd; cases r; exact k _ h _ M H Ext.refl c rfl
  · exact h.elim
theorem Rps.strs {M : Hp} : ∀ {ns : List Str} {vs : List V}, Rps N M (ns.map D.str) vs → vs = ns.map V.str
  | [], _, h => h
  | n :: ns, _, ⟨x, r, h1, h2, h3⟩ => by
    subst h1
    cases h2
    rw [Rps.strs h3]
    rfl
def fTuple : FL := fun xs k => match xs with
  | [.lst ds] => k (.tup ds)
  | [.tup ds] => k (.tup ds)
  | _ => False
def fList : FL := fun xs k => match xs with
  | [.lst ds] => k (.lst ds)
  | [.tup ds] => k (.lst ds)
  | _ => False
end
end Dl
end

section
set_option maxHeartbeats 4000000
namespace Dl
open PySem PySem.Spec PyProof.Rows L2 Co
section
variable {X : Cx} {b : Bool} {Wx : WX} {e e1 e2 e3 : Expr} {pos : Pos} {N : Kn}
theorem ok_tuple : CallOk N (rTupOf N.K) fTuple := by
  intro Wx M H ρ σ st σV ex ds us kd Q c hd h k
  unfold fTuple at h
  split at h
  · obtain ⟨u, rfl, p, xs, rfl, h1, h2⟩ := RpCs.one hd
    refine ⟨p, xs, rfl, .inl ⟨SqL.of ((Fv.sub (ρ := ρ) c.rep.sub).lst1 h1), fun l hl => ?_⟩⟩
    obtain ⟨E, c'⟩ := c.new (o := .tup xs) hl
    exact k _ h _ _ _ E c' ⟨l, xs, rfl, .inl upd_same, h2.ext E⟩
  · obtain ⟨u, rfl, p, xs, rfl, h1, h2⟩ := RpCs.one hd
    exact ⟨p, xs, rfl, .inr ⟨c.rep.sub.tup h1, k _ h _ M H Ext.refl c ⟨p, xs, rfl, h1, h2⟩⟩⟩
  · exact h.elim
theorem ok_list : CallOk N (rListOf N.K) fList := by
  intro Wx M H ρ σ st σV ex ds us kd Q c hd h k
  unfold fList at h
  split at h
  · obtain ⟨u, rfl, p, xs, rfl, h1, h2⟩ := RpCs.one hd
    refine ⟨p, xs, rfl, .inl (SqL.of ((Fv.sub (ρ := ρ) c.rep.sub).lst1 h1)), fun l hl => ?_⟩
    obtain ⟨E, c'⟩ := c.new (o := .lst xs) hl
    exact k _ h _ _ _ E c' ⟨l, xs, rfl, upd_same, h2.ext E⟩
  · obtain ⟨u, rfl, p, xs, rfl, h1, h2⟩ := RpCs.one hd
    refine ⟨p, xs, rfl, .inr (c.rep.sub.tup h1), fun l hl => ?_⟩
    obtain ⟨E, c'⟩ := c.new (o := .lst xs) hl
    exact k _ h _ _ _ E c' ⟨l, xs, rfl, upd_same, h2.ext E⟩
  · exact h.elim
def lO (N : Kn) (Wx : WX) (t : DO) : TO := Lf N Wx (fun _ _ (a b : Option Int) => b = a) t
instance : Mo (fun _ _ (a b : Option Int) => b = a) := ⟨fun _ h => h⟩
theorem PO.imp {eo : Option Expr} {t t' : TO} (h : PO X eo t) (i : ∀ σ H Q, t' σ H Q → t σ H Q) : PO X eo t' := ⟨fun pins s σ H Q I q => h.run pins s σ H Q I (i σ H Q q)⟩
theorem o_none : PO X none (lO N Wx dNoPart) := PO.imp po_none fun σV H Q h => by
  obtain ⟨M, ρ, σ, st, k, ex, c, ht, q⟩ := Kx.open_ h
  exact q _ _ ht _ M ρ H Ext.refl c rfl
theorem o_some {t : DD} (h : PE X e (lD N Wx t)) : PO X (some e) (lO N Wx (dPart t)) := PO.imp (po_some h) fun σV H Q h => by
  obtain ⟨M, ρ, σ, st, k, ex, c, ht, q⟩ := Kx.open_ h
  refine Lf.of c ht fun x st' hk v M' ρ' H' E c' r => ?_
  cases x <;> try exact False.elim hk
  cases r
  exact ⟨_, rfl, q _ _ hk _ M' ρ' H' E c' rfl⟩
theorem cut_rps {M : Hp} {ds : List D} {vs : List V} (h : Rps N M ds vs) (lo hi : Option Int) : Rps N M (cutD ds lo hi) (cutV vs lo hi) := by
  unfold cutD cutV
  rw [h.length]
  exact Rps.take _ (Rps.drop _ h)
theorem sl_all : SlR X (fun x lo hi H Q => rSlS x lo hi H Q ∨ rSlA X.K x lo hi H Q ∨ rSlL X.K x lo hi H Q) := SlR.or sl_str (SlR.or sl_tupA sl_list)
theorem e_sl {ta : DW} {tl th : DO} {lo hi : Option Expr} {p2 : Pos} (ha : PE X e (lW (XN X b) Wx ta)) (hl : PO X lo (lO (XN X b) Wx tl)) (hh : PO X hi (lO (XN X b) Wx th)) : PE X (.Subscript e (.Slice lo hi none p2) pos) (lD (XN X b) Wx (dSl ta tl th)) := PE.imp (pe_slice sl_all ha hl hh) fun σV H Q h => by
  obtain ⟨M, ρ, σ, st, k, ex, c, ht, q⟩ := Kx.open_ h
  refine Lf.of c ht fun w st1 hk1 u M1 ρ1 H1 E1 c1 r1 => Lf.bin c1 hk1 fun l h st' hk l' h' M' ρ' H' E c' r2 r3 => ?_
  rw [show l' = l from r2, show h' = h from r3]
  have E := E1.trans E
  have r1 := Rw.ext r1 ‹Ext M1 ρ1 H1 M' ρ' H'›
  cases hz : seeW w st' with
  | none => simp only [hz] at hk
  | some x =>
    simp only [hz] at hk
    have g := see_ok c'.rep hz r1
    cases x <;> try exact False.elim hk
    · cases g; exact .inl ⟨_, rfl, hk.1, q _ _ hk.2 _ M' ρ' H' E c' rfl⟩
    · obtain ⟨p, xs, rfl, h1, h2⟩ := (show Rp (XN X b) M' _ u from g)
      have hc := cut_rps h2 l h
      refine .inr (.inl ⟨p, xs, rfl, c'.rep.sub.tup h1, fun z => ?_, fun _ l' hl' => ?_⟩)
      · have e1 : cutV xs l h = xs := by
          unfold cutV
          rw [z.1, z.2]
          simp
        rw [e1] at hc
        exact q _ _ hk _ M' ρ' H' E c' ⟨p, xs, rfl, h1, hc⟩
      · obtain ⟨E2, c2⟩ := c'.new (o := .tup (cutV xs l h)) hl'
        exact q _ _ hk _ _ _ _ (E.trans E2) c2 ⟨l', _, rfl, .inl upd_same, hc.ext E2⟩
    · obtain ⟨p, xs, rfl, h1, h2⟩ := g
      have hc := cut_rps h2 l h
      refine .inr (.inr ⟨p, xs, rfl, SqL.of ((Fv.sub (ρ := ρ') c'.rep.sub).lst1 h1), fun l' hl' => ?_⟩)
      obtain ⟨E2, c2⟩ := c'.new (o := .lst (cutV xs l h)) hl'
      exact q _ _ hk _ _ _ _ (E.trans E2) c2 ⟨l', _, rfl, upd_same, hc.ext E2⟩
theorem lookup_rps {M : Hp} : ∀ {fs : List (Str × V)} {ds : List D} {f : Str} {d : D}, Rps N M ds (fs.map (·.2)) → getK (fs.map (·.1)) ds f = some d → ∃ v, fs.lookup f = some v ∧ Rp N M d v
  | [], _, _, _, _, e => by cases e
  | (a, v) :: fs, [], f, d, h, e => by cases e
  | (a, v) :: fs, d' :: ds, f, d, ⟨x, r, h1, h2, h3⟩, e => by
    cases h1
    by_cases z : a = f
    · simp only [List.map_cons, getK, if_pos z, Option.some.injEq] at e
      subst e
      refine ⟨v, ?_, h2⟩
      rw [List.lookup_cons, show (f == a) = true by rw [z]; exact beq_self_eq_true f]
    · simp only [List.map_cons, getK, if_neg z] at e
      obtain ⟨v', h4, h5⟩ := lookup_rps h3 e
      refine ⟨v', ?_, h5⟩
      rw [List.lookup_cons, show (f == a) = false from beq_eq_false_iff_ne.mpr fun w => z w.symm]
      exact h4
theorem lookup_rws {M : Hp} {ρ : List Addr} : ∀ {fs : List (Str × V)} {gs : List (Str × W)} {f : Str} {w : W}, fs.map (·.1) = gs.map (·.1) → Rws N M ρ (gs.map (·.2)) (fs.map (·.2)) → gs.lookup f = some w → ∃ v, fs.lookup f = some v ∧ Rw N M ρ w v
  | [], [], _, _, _, _, e => by cases e
  | [], _ :: _, _, _, e, _, _ => by cases e
  | _ :: _, [], _, _, e, _, _ => by cases e
  | (a, v) :: fs, (a', w') :: gs, f, w, e0, ⟨x, r, h1, h2, h3⟩, e => by
    cases h1
    rw [List.map_cons, List.map_cons, List.cons.injEq] at e0
    obtain ⟨e1, e2⟩ := e0
    have e1 : a = a' := e1
    subst e1
    rw [List.lookup_cons] at e ⊢
    cases z : f == a with
    | true => rw [z] at e; cases e; exact ⟨v, rfl, h2⟩
    | false =>
      rw [z] at e
      exact lookup_rws e2 h3 e
theorem fld_ok {M H : Hp} {ρ : List Addr} {st : Sto} {C f : Str} {w : W} {u : V} {k : W → Prop} (r : Rep N M ρ st H) (h : fldD C f w st k) (hr : Rw N M ρ w u) : ∃ a dx fs v w', u = .ref a ∧ H a = some (.ins (He.ga N.K C) dx fs) ∧ fs.lookup f = some v ∧ k w' ∧ Rw N M ρ w' v := by
  have im : ∀ {C' : Str} {ns : List Str} {ds : List D} {v : V}, Rp N M (.ins C' ns ds) v → (C' = C ∧ (match getK ns ds f with
      | some d => k (.im d)
      | none => False)) → ∃ a dx fs x w', v = .ref a ∧ H a = some (.ins (He.ga N.K C) dx fs) ∧ fs.lookup f = some x ∧ k w' ∧ Rw N M ρ w' x := by
    rintro C' ns ds v ⟨p, dx, fs, rfl, h1, h2, h3⟩ ⟨rfl, h4⟩
    subst h2
    cases hz : getK (fs.map (·.1)) ds f with
    | none => rw [hz] at h4; exact h4.elim
    | some d =>
      rw [hz] at h4
      obtain ⟨x, h5, h6⟩ := lookup_rps h3 hz
      exact ⟨p, dx, fs, x, .im d, rfl, r.sub.ins h1, h5, h4, h6⟩
  cases w with
  | dead => exact False.elim h
  | im d =>
    cases d <;> try exact False.elim h
    exact im hr h
  | loc n =>
    obtain ⟨a, ha, rfl⟩ := hr
    cases ho : st[n]? with
    | none => simp only [fldD, ho] at h
    | some o =>
      simp only [fldD, ho] at h
      have q := r.ob n a o ha ho
      cases o <;> try exact False.elim h
      · rename_i C' fs
        simp only at h
        obtain ⟨rfl, h⟩ := h
        cases hl : fs.lookup f with
        | none => rw [hl] at h; exact h.elim
        | some w' =>
          rw [hl] at h
          obtain ⟨hm, dx, fxs, h1, h2, h3⟩ := q
          obtain ⟨v, h4, h5⟩ := lookup_rws h2 h3 hl
          exact ⟨a, dx, fxs, v, w', rfl, h1, h4, h, h5⟩
      · rename_i d
        cases d <;> try exact False.elim h
        exact im q.1 h
theorem e_fld {C f : Str} {ta : DW} (hc : Cls X.K (He.ga X.K C)) (hn : NoAttr X.K (He.ga X.K C) f) (ha : PE X e (lW (XN X b) Wx ta)) (hb : attributeBase e f X.env (eval e X.env) = eval e X.env := by rfl) : PE X (.Attribute e f pos) (lW (XN X b) Wx (dFld C f ta)) := PE.imp (pe_fld ha hb) fun σV H Q h => by
  obtain ⟨M, ρ, σ, st, k, ex, c, ht, q⟩ := Kx.open_ h
  refine Lf.of c ht fun w st' hk u M' ρ' H' E c' r => ?_
  obtain ⟨a, dx, fs, v, w', rfl, h1, h2, h3, h4⟩ := fld_ok c'.rep hk r
  exact ⟨a, _, dx, fs, v, rfl, h1, hc, hn, h2, q _ _ h3 _ M' ρ' H' E c' h4⟩
def MtOk (N : Kn) (r : V → List V → Hp → VK → Prop) (f : D → FL) : Prop := ∀ {Wx : WX} {M H : Hp} {ρ : List Addr} {σ : Sl} {st : Sto} {σV : L2.St} {ex : DX} {x : D} {u : V} {ds : List D} {us : List V} {kd : D → Prop} {Q : VK}, Kx N Wx M ρ σ st H σV ex → RpC N M (Fv M ρ H) x u → RpCs N M (Fv M ρ H) ds us → f x ds kd →
  (∀ d, kd d → ∀ w M' H', Ext M ρ H M' ρ H' → Kx N Wx M' ρ σ st H' σV ex → Rp N M' d w → Q w H') → r u us H Q
theorem e_m1 {id : String} {name : Str} {apos : Pos} {r : V → List V → Hp → VK → Prop} {f : D → FL} {to ta : DW} (slot : Slot "str" name id) (ty : typeOf (.builtin id) = pure (.type "method_descriptor")) (rule : MtR X id r) (ok : MtOk N r f) (ho : PE X e1 (lW N Wx to)) (he : PE X e2 (lW N Wx ta))
    (hs : starEach [e2] X.env = [(false, eval e2 X.env)] := by rfl) (hbase : attributeBase e1 name X.env (eval e1 X.env) = eval e1 X.env := by rfl) (hline : (apos.endLine == pos.line) = true := by rfl) : PE X (.Call (.Attribute e1 name apos) [e2] [] pos) (lD N Wx (dBM "str" f to (aCons ta aNil))) := PE.imp (pe_m1 slot ty rule ho he hs hbase hline) fun σV H Q h => by
  obtain ⟨M, ρ, σ, st, k, ex, c, ht, q⟩ := Kx.open_ h
  refine Lf.of c ht fun w st1 hk u M1 ρ1 H1 E1 c1 r1 => ?_
  obtain ⟨ht, hk⟩ := hk
  refine ⟨?_, Lf.of c1 hk fun y st2 hk2 v M2 ρ2 H2 E2 c2 r2 => ?_⟩
  · cases hz : seeW w st1 with
    | none => rw [hz] at ht; exact False.elim ht
    | some x =>
      rw [hz] at ht
      have g := see_ok c1.rep hz r1
      cases x <;> first | exact False.elim ht | exact absurd (show "str" = "list" from ht) (by decide) | exact absurd (show "str" = "dict" from ht) (by decide) | (cases g; exact ⟨_, rfl⟩)
  · have hk2 : (match seeW w st2, seeWs [y] st2 with
      | some x, some ds => f x ds fun d => k d st2
      | _, _ => False) := hk2
    cases hz : seeW w st2 with
    | none => rw [hz] at hk2; exact False.elim hk2
    | some x =>
      cases hy : seeWs [y] st2 with
      | none => rw [hz, hy] at hk2; exact False.elim hk2
      | some ds =>
        rw [hz, hy] at hk2
        refine ok c2 (see_ok c2.rep hz (Rw.ext r1 E2)) (sees_ok c2.rep hy ⟨v, [], rfl, r2, rfl⟩) hk2 fun d hd w M3 H3 E3 c3 r3 => q _ _ hd w M3 ρ2 H3 (E1.trans (E2.trans E3)) c3 r3
def mJoin : D → FL := fun x xs k => match x, xs with
  | .str a, [.lst ds] => ∃ ys : List Str, ds = ys.map D.str ∧ (ys.map (·.length)).sum + ys.length * a.length ≤ 16777216 ∧ k (.str (Txt.join a ys))
  | .str a, [.tup ds] => ∃ ys : List Str, ds = ys.map D.str ∧ (ys.map (·.length)).sum + ys.length * a.length ≤ 16777216 ∧ k (.str (Txt.join a ys))
  | _, _ => False
theorem ok_join : MtOk N (rJoinS N.K) mJoin := by
  intro Wx M H ρ σ st σV ex x u ds us kd Q c hx hd h k
  unfold mJoin at h
  split at h
  · cases hx
    obtain ⟨u, rfl, p, xs, rfl, h1, h2⟩ := RpCs.one hd
    obtain ⟨ys, rfl, h3, h4⟩ := h
    have := h2.strs
    subst this
    exact ⟨ys, .inl (SqL.of ((Fv.sub (ρ := ρ) c.rep.sub).lst1 h1)), h3, k _ h4 _ M H Ext.refl c rfl⟩
  · cases hx
    obtain ⟨u, rfl, p, xs, rfl, h1, h2⟩ := RpCs.one hd
    obtain ⟨ys, rfl, h3, h4⟩ := h
    have := h2.strs
    subst this
    exact ⟨ys, .inr (c.rep.sub.tup h1), h3, k _ h4 _ M H Ext.refl c rfl⟩
  · exact h.elim
end
end Dl
end

section
set_option maxHeartbeats 4000000
namespace Dl
open PySem PySem.Spec PyProof.Rows L2 Co
structure Lk (N : Kn) (Wx : WX) (M : Hp) (ρ : List Addr) (H : Hp) (D : Ends) (E : En) : Prop where
  nx : ∀ σ' st', E.nx σ' st' → ∀ M' ρ' H' σV', Ext M ρ H M' ρ' H' → Rep N M' ρ' st' H' → Rs N M' ρ' σ' σV' → D.nx σV' H'
  rt : ∀ w st', E.rt w st' → ∀ v M' ρ' H', Ext M ρ H M' ρ' H' → Rep N M' ρ' st' H' → Rw N M' ρ' w v → D.rt v H'
  ex : ∀ c fs σ' st', E.ex c fs σ' st' → ∀ o M' ρ' H' σV', Ext M ρ H M' ρ' H' → Rep N M' ρ' st' H' → Rs N M' ρ' σ' σV' → ErrOwn N M' o fs → Wx (.ref (He.ga N.K c)) o σV' H'
  bk : ∀ σ' st', E.bk σ' st' → ∀ M' ρ' H' σV', Ext M ρ H M' ρ' H' → Rep N M' ρ' st' H' → Rs N M' ρ' σ' σV' → D.bk σV' H'
  ct : ∀ σ' st', E.ct σ' st' → ∀ M' ρ' H' σV', Ext M ρ H M' ρ' H' → Rep N M' ρ' st' H' → Rs N M' ρ' σ' σV' → D.ct σV' H'
def lS (N : Kn) (Wx : WX) (t : DS) : TS := fun D σV H => ∃ M ρ σ st E, Rep N M ρ st H ∧ Rs N M ρ σ σV ∧ t E σ st ∧ Lk N Wx M ρ H D E
def exE (E : En) (σ : Sl) : DX := fun c fs st' => E.ex c fs σ st'
def sNext : DS := fun E σ st => E.nx σ st
def sSeq (t u : DS) : DS := fun E σ st => t { E with nx := fun σ' st' => u E σ' st' } σ st
def sAsg (i : Nat) (t : DW) : DS := fun E σ st => t σ st (fun w st1 => E.nx (σ.set i (some w)) st1) (exE E σ)
def sDrop (t : DW) : DS := fun E σ st => t σ st (fun _ st1 => E.nx σ st1) (exE E σ)
def sRet (t : DW) : DS := fun E σ st => t σ st (fun w st1 => E.rt w st1) (exE E σ)
def sIf (c : DT) (t u : DS) : DS := fun E σ st => c σ st (fun b st1 => two b (t E σ st1) (u E σ st1)) (exE E σ)
def sBrk : DS := fun E σ st => E.bk σ st
section
variable {N : Kn} {Wx : WX} {M H M' H' : Hp} {ρ ρ' : List Addr} {σ : Sl} {st : Sto} {σV : L2.St} {D : Ends} {E : En}
theorem Lk.step (l : Lk N Wx M ρ H D E) (e : Ext M ρ H M' ρ' H') : Lk N Wx M' ρ' H' D E :=
  ⟨fun σ' st' h M2 ρ2 H2 σV' e2 => l.nx σ' st' h M2 ρ2 H2 σV' (e.trans e2), fun w st' h v M2 ρ2 H2 e2 => l.rt w st' h v M2 ρ2 H2 (e.trans e2), fun c fs σ' st' h o M2 ρ2 H2 σV' e2 => l.ex c fs σ' st' h o M2 ρ2 H2 σV' (e.trans e2),
   fun σ' st' h M2 ρ2 H2 σV' e2 => l.bk σ' st' h M2 ρ2 H2 σV' (e.trans e2), fun σ' st' h M2 ρ2 H2 σV' e2 => l.ct σ' st' h M2 ρ2 H2 σV' (e.trans e2)⟩
theorem Lk.kx (l : Lk N Wx M ρ H D E) (r : Rep N M ρ st H) (s : Rs N M ρ σ σV) : Kx N Wx M ρ σ st H σV (exE E σ) :=
  ⟨r, s, fun c fs st' h o M' ρ' H' e r' eo => l.ex c fs σ st' h o M' ρ' H' σV e r' (s.ext e) eo⟩
theorem lS.of {t : DS} (l : Lk N Wx M ρ H D E) (r : Rep N M ρ st H) (s : Rs N M ρ σ σV) (h : t E σ st) : lS N Wx t D σV H := ⟨M, ρ, σ, st, E, r, s, h, l⟩
end
section
variable {X : Cx} {b : Bool} {Wx : WX} {e e1 e2 e3 : Expr} {pos : Pos} {N : Kn} {s s1 s2 : Stmt} {ss : List Stmt}
theorem PSs.imp {t t' : TS} (h : PSs X ss t) (i : ∀ D σ H, t' D σ H → t D σ H) : PSs X ss t' := ⟨fun pins s σ H D I q => h.run pins s σ H D I (i D σ H q)⟩
theorem ss_nil : PSs X [] (lS N Wx sNext) := PSs.imp pss_nil fun D σV H h => by
  obtain ⟨M, ρ, σ, st, E, r, s, h, l⟩ := h
  exact l.nx _ _ h M ρ H σV Ext.refl r s
theorem ss_one {t : DS} (h : PS X s (lS N Wx t)) : PSs X [s] (lS N Wx t) := pss_one h
theorem ss_cons {t u : DS} (h : PS X s (lS N Wx t)) (h2 : PSs X (s1 :: ss) (lS N Wx u)) : PSs X (s :: s1 :: ss) (lS N Wx (sSeq t u)) := PSs.imp (pss_cons h h2) fun D σV H q => by
  obtain ⟨M, ρ, σ, st, E, r, s, h, l⟩ := q
  refine lS.of (E := { E with nx := fun σ' st' => u E σ' st' }) ⟨fun σ' st' h' M' ρ' H' σV' e' r' s' => lS.of (l.step e') r' s' h', l.rt, l.ex, l.bk, l.ct⟩ r s h
theorem s_brk : PS X (.Break pos) (lS N Wx sBrk) := PS.imp ps_break fun D σV H h => by
  obtain ⟨M, ρ, σ, st, E, r, s, h, l⟩ := h
  exact l.bk _ _ h M ρ H σV Ext.refl r s
theorem s_ret {t : DW} (h : PE X e (lW N Wx t)) : PS X (.Return (some e) pos) (lS N Wx (sRet t)) := PS.imp (ps_ret h) fun D σV H h => by
  obtain ⟨M, ρ, σ, st, E, r, s, h, l⟩ := h
  exact Lf.of (l.kx r s) h fun w st' hk v M' ρ' H' e' c' rv => l.rt _ _ hk v M' ρ' H' e' c'.rep rv
theorem s_drop {t : DW} (h : PS X (.Expr e pos) (tDrop (lW N Wx t))) : PS X (.Expr e pos) (lS N Wx (sDrop t)) := PS.imp h fun D σV H h => by
  obtain ⟨M, ρ, σ, st, E, r, s, h, l⟩ := h
  exact Lf.of (l.kx r s) h fun w st' hk v M' ρ' H' e' c' rv => l.nx _ _ hk M' ρ' H' σV e' c'.rep c'.rs
theorem s_asg {t : DW} {i : Nat} (h : PS X s (tAsg (lW N Wx t) (gName i))) : PS X s (lS N Wx (sAsg i t)) := PS.imp h fun D σV H h => by
  obtain ⟨M, ρ, σ, st, E, r, s, h, l⟩ := h
  exact Lf.of (l.kx r s) h fun w st' hk v M' ρ' H' e' c' rv => l.nx _ _ hk M' ρ' H' _ e' c'.rep (c'.rs.set rv i)
theorem s_if {c : DT} {t u : DS} {p q : List Stmt} (hc : PT X e (lT N Wx c)) (ha : PSs X p (lS N Wx t)) (hb : PSs X q (lS N Wx u)) : PS X (.If e p q pos) (lS N Wx (sIf c t u)) := PS.imp (Co.s_if hc ha hb) fun D σV H h => by
  obtain ⟨M, ρ, σ, st, E, r, s, h, l⟩ := h
  refine Lf.of (l.kx r s) h fun b st' hk v M' ρ' H' e' c' rv => ?_
  rw [show v = b from rv]
  exact ⟨fun z => lS.of (l.step e') c'.rep c'.rs (hk.1 z), fun z => lS.of (l.step e') c'.rep c'.rs (hk.2 z)⟩
def putW (f : Str) (w : W) : List (Str × W) → List (Str × W)
  | [] => [(f, w)]
  | (g, x) :: r => if g = f then (g, w) :: r else (g, x) :: putW f w r
def sFldS (C f : Str) (to t : DW) : DS := fun E σ st => t σ st (fun w st1 => to σ st1 (fun o st2 => match o with
  | .loc n => (match st2[n]? with
    | some (.ins C' fs) => C' = C ∧ fs.length < 1000 ∧ E.nx σ (st2.set n (.ins C' (putW f w fs)))
    | _ => False)
  | _ => False) (exE E σ)) (exE E σ)
theorem putW_ok {M : Hp} {ρ : List Addr} {f : Str} {w : W} {v : V} (hw : Rw N M ρ w v) : ∀ {gs : List (Str × W)} {fs : List (Str × V)}, fs.map (·.1) = gs.map (·.1) → Rws N M ρ (gs.map (·.2)) (fs.map (·.2)) →
    (putF f v fs).map (·.1) = (putW f w gs).map (·.1) ∧ Rws N M ρ ((putW f w gs).map (·.2)) ((putF f v fs).map (·.2))
  | [], [], _, _ => ⟨rfl, ⟨v, [], rfl, hw, rfl⟩⟩
  | [], _ :: _, e, _ => by cases e
  | _ :: _, [], e, _ => by cases e
  | (a, x) :: gs, (a', y) :: fs, e0, ⟨x', r, h1, h2, h3⟩ => by
    cases h1
    rw [List.map_cons, List.map_cons, List.cons.injEq] at e0
    obtain ⟨e1, e2⟩ := e0
    have e1 : a' = a := e1
    subst e1
    by_cases z : a' = f
    · simp only [putF, putW, if_pos z, List.map_cons]
      exact ⟨by rw [e2], ⟨v, _, rfl, hw, h3⟩⟩
    · simp only [putF, putW, if_neg z, List.map_cons]
      obtain ⟨g1, g2⟩ := putW_ok hw e2 h3
      exact ⟨by rw [g1], ⟨y, _, rfl, h2, g2⟩⟩
theorem s_fld {C f : Str} {to t : DW} {pos' : Pos} (hc : Cls X.K (He.ga X.K C)) (hn : NoAttr X.K (He.ga X.K C) f) (ho : PE X e1 (lW (XN X b) Wx to)) (hv : PE X e2 (lW (XN X b) Wx t)) (hs : swapsWith e2 (some (.Attribute e1 f pos')) pos.line X.env = pure false := by rfl) :
    PS X (.Assign [.Attribute e1 f pos'] e2 pos) (lS (XN X b) Wx (sFldS C f to t)) := PS.imp (ps_fld ho hv hs) fun D σV H h => by
  obtain ⟨M, ρ, σ, st, E, r, s, h, l⟩ := h
  refine Lf.bin (l.kx r s) h fun w o st' hk v u M' ρ' H' e' c' rv ro => ?_
  cases o <;> try exact False.elim hk
  rename_i n
  obtain ⟨a, ha, rfl⟩ := ro
  cases hz : st'[n]? with
  | none => simp only [hz] at hk
  | some ob =>
    simp only [hz] at hk
    cases ob <;> try exact False.elim hk
    rename_i C' fs
    obtain ⟨rfl, hl, hk⟩ := hk
    obtain ⟨hm, dx, fxs, h1, h2, h3⟩ := c'.rep.ob n a _ ha hz
    obtain ⟨g1, g2⟩ := putW_ok (f := f) rv h2 h3
    refine ⟨a, _, dx, fxs, rfl, h1, hc, hn, ?_, ?_⟩
    · have := congrArg List.length h2
      rw [List.length_map, List.length_map] at this
      omega
    · obtain ⟨E2, c2⟩ := c'.wr (o := .ins C' (putW f w fs)) ha hm (u := .ins (He.ga X.K C') dx (putF f v fxs)) ⟨hm, dx, _, upd_same, g1, g2⟩
      exact l.nx _ _ hk _ _ _ σV (e'.trans E2) c2.rep c2.rs
def sApp (to : DW) (t : DD) : DS := fun E σ st => to σ st (fun o st1 => (∃ ds, seeW o st1 = some (.lst ds)) ∧ t σ st1 (fun d st2 => match o with
  | .loc n => (match st2[n]? with
    | some (.lst ds) => ds.length ≤ 1000000 ∧ E.nx σ (st2.set n (.lst (ds ++ [d])))
    | _ => False)
  | _ => False) (exE E σ)) (exE E σ)
theorem see_lst {w : W} {M H : Hp} {ρ : List Addr} {st : Sto} {ds : List D} {u : V} (r : Rep N M ρ st H) (e : seeW w st = some (.lst ds)) (h : Rw N M ρ w u) : ∃ p xs, u = .ref p ∧ H p = some (.lst xs) ∧ Rps N M ds xs := by
  obtain ⟨p, xs, h1, h2, h3⟩ := see_ok r e h
  exact ⟨p, xs, h1, (Fv.sub (ρ := ρ) r.sub).lst1 h2, h3⟩
theorem s_app {to : DW} {t : DD} (h : PS X s (tDrop (tBM X.K "list" rAppend (lW N Wx to) (tCons (lD N Wx t) tNil)))) : PS X s (lS N Wx (sApp to t)) := PS.imp h fun D σV H h => by
  obtain ⟨M, ρ, σ, st, E, r, s, h, l⟩ := h
  refine Lf.of (l.kx r s) h fun o st1 hk u M1 ρ1 H1 e1 c1 ro => ?_
  obtain ⟨⟨ds0, hs0⟩, hk⟩ := hk
  obtain ⟨p0, xs0, rfl, q1, q2⟩ := see_lst c1.rep hs0 ro
  refine ⟨.inl ⟨rfl, xs0, SqL.of q1⟩, Lf.of c1 hk fun d st2 hk v M2 ρ2 H2 e2 c2 rd => ?_⟩
  obtain ⟨n, rfl⟩ : ∃ n, o = .loc n := by cases o <;> first | exact False.elim hk | exact ⟨_, rfl⟩
  obtain ⟨a, ha, e⟩ := Rw.ext ro e2
  cases e
  cases hz : st2[n]? with
  | none => simp only [hz] at hk
  | some ob =>
    simp only [hz] at hk
    cases ob <;> try exact False.elim hk
    rename_i ds
    obtain ⟨hm, xs, h1, h2⟩ := c2.rep.ob n _ _ ha hz
    obtain ⟨hl, hk⟩ := hk
    refine ⟨_, xs, v, rfl, rfl, h1, ?_, ?_⟩
    · rw [h2.length, sizeLine_eq]; omega
    · obtain ⟨E2, c3⟩ := c2.wr (o := .lst (ds ++ [d])) ha hm (u := .lst (xs ++ [v])) ⟨hm, _, upd_same, h2.append (Rps.cons rd .nil)⟩
      exact l.nx _ _ hk _ _ _ σV ((e1.trans e2).trans E2) c3.rep c3.rs
def rExtendA (K : PySem.W.Frag) : V → List V → Hp → VK → Prop := fun x vs H Q => rExtend x vs H Q ∨ ∃ l b xs zs, x = .ref l ∧ vs = [.ref b] ∧ H l = some (.lst xs) ∧ SqT K H b zs ∧ xs.length + zs.length ≤ sizeLine ∧ Q .non (upd H l (.lst (xs ++ zs)))
theorem list_extend_tupG (l : Addr) (items : Array Value) (n : Nat) (b : Addr) (o : Obj) (items2 : Array Value) (n2 : Nat) (hs0 : ¬(!items.isEmpty && Builtin.List.listTooLong (items.size + items2.size)) = true) (hs1 : items.size ≤ sizeLine) (hs2 : items.size + items2.size ≤ sizeLine + 1) :
    Meets (Builtin.«list.extend» ⟨[.ref l, .ref b], []⟩) (fun _ R s => s.heap.get? l = some { cls := .type "list", dict := none, data := .seq items n, slots := #[] } ∧ s.heap.get? b = some o ∧ o.cls = .type "tuple" ∧ o.data = .seq items2 n2 ∧ R (.ok (.ret Value.none)) { s with heap := s.heap.update l (Obj.mapSeq fun x => x ++ items2), toks := s.toks }) :=
  .of_wp fun prog w A R s ⟨hl, hb, hc, hd, h⟩ => by
    show wpAny _ A.in1 (Builtin.List.listExtendWith (.ref l) (.ref b) .none) _ _ s
    unfold Builtin.List.listExtendWith
    refine wpAny_bind (wpAny_typeOf ⟨o, hb, hc⟩ ?_)
    have h1 : (Builtin.List.listSameRef (.ref l) (.ref b) || Value.type "tuple" == Value.type "list" || Value.type "tuple" == Value.type "tuple") = true := by simp
    simp only [h1, if_true]
    refine wpAny_bind ?_
    unfold Builtin.List.listItems
    refine wpAny_bind (wpAny_seqItems hb hd (wpAny_pure ?_))
    refine wpAny_bind ?_
    refine wpAny_bind (wpAny_seqItems hl rfl (wpAny_pure ?_))
    rw [if_neg hs0]
    show wpAny _ A.in1 (updateSeq l (· ++ items2) >>= fun _ => ret Value.none) _ _ s
    refine wpAny_bind (wpAny_updateSeq hl rfl ?_ hs1 (by rw [Array.size_append]; exact hs2))
    exact wpAny_pure ⟨_, rfl, h⟩
theorem mt_extendA : MtM X "list.extend" (rExtendA X.K) := by
  intro pins s σ H x vs v us Q I rx rv h
  rcases h with h | ⟨l, b, xs, zs, rfl, rfl, hH, hB, hz, q⟩
  · exact mt_extend pins s σ H x vs v us Q I rx rv h
  cases rx
  obtain ⟨u, rfl, ru⟩ := rv.one
  cases ru
  obtain ⟨z, its, n, r, hl, e⟩ := I.lstM hH
  obtain ⟨its2, r2, ⟨o2, e2, e3, n2, e4⟩, hl2⟩ := I.tuple hB
  have r2l := r2.length
  have hsz : its.toArray.size + its2.toArray.size ≤ sizeLine := by rw [List.size_toArray, List.size_toArray]; omega
  have hlong : ¬ (!its.toArray.isEmpty && Builtin.List.listTooLong (its.toArray.size + its2.toArray.size)) = true := by
    rw [notLongL hsz, Bool.and_false]
    exact Bool.false_ne_true
  refine call_meets F.slot_list_extend ⟨_, e, rfl⟩ F.entry_list_extend (F.args_list_extend_2 _ _)
    (list_extend_tupG l its.toArray n b o2 its2.toArray n2 hlong (by rw [List.size_toArray]; omega) (by omega)) ⟨e, e2, e3, e4, ?_⟩
  refine ⟨.non, _, I.lset (its' := its ++ its2) hH e (by simp) (r.append r2) ?_, rfl, q⟩
  rw [List.length_append]
  omega
def seqD : Option D → Option (List D)
  | some (.lst es) => some es
  | some (.tup es) => some es
  | _ => none
def sExt (to : DW) (t : DW) : DS := fun E σ st => to σ st (fun o st1 => (∃ ds, seeW o st1 = some (.lst ds)) ∧ t σ st1 (fun w st2 => match o, seqD (seeW w st2) with
  | .loc n, some es => (match st2[n]? with
    | some (.lst ds) => ds.length + es.length ≤ 1000000 ∧ E.nx σ (st2.set n (.lst (ds ++ es)))
    | _ => False)
  | _, _ => False) (exE E σ)) (exE E σ)
theorem see_tup {w : W} {M H : Hp} {ρ : List Addr} {st : Sto} {ds : List D} {u : V} (r : Rep N M ρ st H) (e : seeW w st = some (.tup ds)) (h : Rw N M ρ w u) : ∃ p xs, u = .ref p ∧ SqT N.K H p xs ∧ Rps N M ds xs := by
  obtain ⟨p, xs, h1, h2, h3⟩ := (show Rp N M _ u from see_ok r e h)
  exact ⟨p, xs, h1, r.sub.tup h2, h3⟩
theorem s_ext {to : DW} {t : DW} (h : PS X s (tDrop (tBM X.K "list" (rExtendA X.K) (lW (XN X b) Wx to) (tCons (lW (XN X b) Wx t) tNil)))) : PS X s (lS (XN X b) Wx (sExt to t)) := PS.imp h fun D σV H h => by
  obtain ⟨M, ρ, σ, st, E, r, s, h, l⟩ := h
  refine Lf.of (l.kx r s) h fun o st1 hk u M1 ρ1 H1 e1 c1 ro => ?_
  obtain ⟨⟨ds0, hs0⟩, hk⟩ := hk
  obtain ⟨p0, xs0, rfl, q1, q2⟩ := see_lst c1.rep hs0 ro
  refine ⟨.inl ⟨rfl, xs0, SqL.of q1⟩, Lf.of c1 hk fun w st2 hk v M2 ρ2 H2 e2 c2 rd => ?_⟩
  obtain ⟨n, rfl⟩ : ∃ n, o = .loc n := by cases o <;> first | exact False.elim hk | exact ⟨_, rfl⟩
  cases hy : seeW w st2 with
  | none => simp only [hy, seqD] at hk
  | some y =>
    simp only [hy] at hk
    cases y <;> try exact False.elim hk
    case lst es =>
      simp only [seqD] at hk
      obtain ⟨a, ha, e⟩ := Rw.ext ro e2
      cases e
      obtain ⟨p2, ys, rfl, w1, w2⟩ := see_lst c2.rep hy rd
      cases hz : st2[n]? with
      | none => simp only [hz] at hk
      | some ob =>
        simp only [hz] at hk
        cases ob <;> try exact False.elim hk
        rename_i ds
        obtain ⟨hm, xs, h1, h2⟩ := c2.rep.ob n _ _ ha hz
        obtain ⟨hl, hk⟩ := hk
        refine .inl ⟨_, p2, xs, ys, rfl, rfl, h1, w1, ?_, ?_⟩
        · rw [h2.length, w2.length]; exact lenL6 hl
        · obtain ⟨E2, c3⟩ := c2.wr (o := .lst (ds ++ es)) ha hm (u := .lst (xs ++ ys)) ⟨hm, _, upd_same, h2.append w2⟩
          exact l.nx _ _ hk _ _ _ σV ((e1.trans e2).trans E2) c3.rep c3.rs
    case tup es =>
      simp only [seqD] at hk
      obtain ⟨a, ha, e⟩ := Rw.ext ro e2
      cases e
      obtain ⟨p2, ys, rfl, w1, w2⟩ := see_tup c2.rep hy rd
      cases hz : st2[n]? with
      | none => simp only [hz] at hk
      | some ob =>
        simp only [hz] at hk
        cases ob <;> try exact False.elim hk
        rename_i ds
        obtain ⟨hm, xs, h1, h2⟩ := c2.rep.ob n _ _ ha hz
        obtain ⟨hl, hk⟩ := hk
        refine .inr ⟨_, p2, xs, ys, rfl, rfl, h1, w1, ?_, ?_⟩
        · rw [h2.length, w2.length]; exact lenL6 hl
        · obtain ⟨E2, c3⟩ := c2.wr (o := .lst (ds ++ es)) ha hm (u := .lst (xs ++ ys)) ⟨hm, _, upd_same, h2.append w2⟩
          exact l.nx _ _ hk _ _ _ σV ((e1.trans e2).trans E2) c3.rep c3.rs
end
end Dl
end

section
set_option maxHeartbeats 4000000
namespace Dl
open PySem PySem.Spec PyProof.Rows L2 Co
abbrev Pf := List W → Sto → (W → Sto → Prop) → DX → Prop
def idx (n : Nat) : List Nat → Option Nat
  | [] => none
  | m :: r => if m = n then some 0 else (idx n r).map (· + 1)
def wl : W → List Nat
  | .loc n => [n]
  | _ => []
def addN (l : List Nat) : List Nat → List Nat
  | [] => l
  | n :: r => match idx n l with
    | some _ => addN l r
    | none => addN (l ++ [n]) r
def locsO (st : Sto) (n : Nat) : List Nat := match st[n]? with
  | some (.ins _ fs) => fs.flatMap fun p => wl p.2
  | some (.lsW ws) => ws.flatMap wl
  | some (.dcW _ ws) => ws.flatMap wl
  | _ => []
def reach1 (st : Sto) (l : List Nat) : List Nat := addN l (l.flatMap (locsO st))
def reach (st : Sto) (ws : List W) : List Nat := match addN [] (ws.flatMap wl) with
  | [] => []
  | l => reach1 st (reach1 st (reach1 st l))
def ren (ls : List Nat) : W → W
  | .loc n => (match idx n ls with
    | some j => .loc j
    | none => .dead)
  | w => w
def renO (ls : List Nat) : Ob → Ob
  | .ins C fs => .ins C (fs.map fun p => (p.1, ren ls p.2))
  | .lsW ws => .lsW (ws.map (ren ls))
  | .dcW ks ws => .dcW ks (ws.map (ren ls))
  | o => o
def subS (st : Sto) : List Nat → List Nat → Sto
  | _, [] => []
  | ls, n :: r => (match st[n]? with
    | some o => renO ls o
    | none => .gone) :: subS st ls r
def unW (ls : List Nat) (n0 : Nat) : W → W
  | .loc j => (match ls[j]? with
    | some n => .loc n
    | none => .loc (n0 + (j - ls.length)))
  | w => w
def unO (ls : List Nat) (n0 : Nat) : Ob → Ob
  | .ins C fs => .ins C (fs.map fun p => (p.1, unW ls n0 p.2))
  | .lsW ws => .lsW (ws.map (unW ls n0))
  | .dcW ks ws => .dcW ks (ws.map (unW ls n0))
  | o => o
def backO (ls : List Nat) (n0 : Nat) (st2 : Sto) : Nat → Sto → Sto
  | _, [] => []
  | i, o :: r => (match idx i ls with
    | some j => (match st2[j]? with
      | some o2 => unO ls n0 o2
      | none => .gone)
    | none => o) :: backO ls n0 st2 (i + 1) r
def back (ls : List Nat) (st st2 : Sto) : Sto := match ls, st2 with
  | [], [] => st
  | ls, st2 => backO ls st.length st2 0 st ++ (st2.drop ls.length).map (unO ls st.length)
def lsOk (ls : List Nat) (n : Nat) : Bool := ls.all fun i => decide (i < n)
structure callD (f : Pf) (ls : List Nat) (ws : List W) (st : Sto) (k : W → Sto → Prop) (ex : DX) : Prop where
  ok : lsOk ls st.length = true
  run : f (ws.map (ren ls)) (subS st ls ls) (fun w st2 => k (unW ls st.length w) (back ls st st2)) (fun c fs st2 => ex c fs (back ls st st2))
def dCall (f : Pf) (ta : DA) : DW := fun σ st k ex => ta σ st (fun ws st1 => callD f (reach st1 ws) ws st1 k ex) ex
def dNew (C : Str) (f : Pf) (ta : DA) : DW := fun σ st k ex => ta σ st (fun ws st1 => match st1.length, st1 ++ [Ob.ins C []] with
  | n, st2 => callD f (reach st2 (.loc n :: ws)) (.loc n :: ws) st2 (fun w st3 => (match w with
    | .im .non => k (.loc n) st3
    | _ => False)) ex) ex
def clsW (C m : Str) (w : W) (st : Sto) : Prop := match w with
  | .im (.ins C' ns ds) => C' = C ∧ getK ns ds m = none
  | .loc n => (match st[n]? with
    | some (.ins C' fs) => C' = C ∧ fs.lookup m = none
    | some (.fz (.ins C' ns ds)) => C' = C ∧ getK ns ds m = none
    | _ => False)
  | _ => False
def dMeth (C m : Str) (f : Pf) (to : DW) (ta : DA) : DW := fun σ st k ex => to σ st (fun o st1 => clsW C m o st1 ∧ ta σ st1 (fun ws st2 => callD f (reach st2 (o :: ws)) (o :: ws) st2 k ex) ex) ex
def spD (N : Kn) (f : Pf) : Sp := fun vs H Q E => ∃ M ρ ws st k ex, Rep N M ρ st H ∧ Rws N M ρ ws vs ∧ f ws st k ex ∧
  (∀ w st', k w st' → ∀ v M' ρ' H', Ext M ρ H M' ρ' H' → Rep N M' ρ' st' H' → Rw N M' ρ' w v → Q v H') ∧
  (∀ c fs st', ex c fs st' → ∀ o M' ρ' H', Ext M ρ H M' ρ' H' → Rep N M' ρ' st' H' → ErrOwn N M' o fs → E (.ref (He.ga N.K c)) o H')
section
variable {N : Kn} {Wx : WX} {M H M' H' : Hp} {ρ ρ' : List Addr} {σ : Sl} {st : Sto} {σV : L2.St}
theorem idx_get : ∀ {ls : List Nat} {n j : Nat}, idx n ls = some j → ls[j]? = some n
  | [], _, _, e => by cases e
  | m :: r, n, j, e => by
    unfold idx at e
    split at e
    · rename_i h
      cases e
      rw [h]
      rfl
    · cases z : idx n r with
      | none => rw [z] at e; cases e
      | some i =>
        rw [z] at e
        cases e
        simpa using idx_get z
theorem idx_none : ∀ {ls : List Nat} {n : Nat}, idx n ls = none → n ∉ ls
  | [], _, _, h => by cases h
  | m :: r, n, e, h => by
    unfold idx at e
    split at e
    · cases e
    · rename_i hm
      rcases List.mem_cons.mp h with h | h
      · exact hm h.symm
      · refine idx_none ?_ h
        cases z : idx n r with
        | none => rfl
        | some i => rw [z] at e; cases e
def pickA (ρ : List Addr) (ls : List Nat) : List Addr := ls.map fun n => ρ.getD n 0
theorem pick_get {ls : List Nat} (hl : lsOk ls ρ.length = true) {j n : Nat} (h : ls[j]? = some n) : (pickA ρ ls)[j]? = ρ[n]? ∧ n < ρ.length := by
  have hm := List.mem_of_getElem? h
  have := of_decide_eq_true (List.all_eq_true.mp hl n hm)
  refine ⟨?_, this⟩
  unfold pickA
  rw [List.getElem?_map, h]
  simp [List.getD, this]
theorem ren_ok {ls : List Nat} (hl : lsOk ls ρ.length = true) {w : W} {v : V} (h : Rw N M ρ w v) : Rw N M (pickA ρ ls) (ren ls w) v := by
  cases w with
  | im d => exact h
  | dead => exact h
  | loc n =>
    obtain ⟨a, ha, rfl⟩ := h
    cases z : idx n ls with
    | none => simp only [ren, z]; trivial
    | some j => simp only [ren, z]; exact ⟨a, by rw [(pick_get hl (idx_get z)).1]; exact ha, rfl⟩
theorem rens_ok {ls : List Nat} (hl : lsOk ls ρ.length = true) : ∀ {ws : List W} {vs : List V}, Rws N M ρ ws vs → Rws N M (pickA ρ ls) (ws.map (ren ls)) vs
  | [], _, h => h
  | _ :: _, _, ⟨x, r, h1, h2, h3⟩ => ⟨x, r, h1, ren_ok hl h2, rens_ok hl h3⟩
theorem renO_ok {ls : List Nat} (hl : lsOk ls ρ.length = true) {o : Ob} {a : Addr} (h : RO N M ρ H o a) : RO N M (pickA ρ ls) H (renO ls o) a := by
  cases o with
  | ins C fs =>
    obtain ⟨hm, dx, fxs, h1, h2, h3⟩ := h
    refine ⟨hm, dx, fxs, h1, ?_, ?_⟩
    · rw [h2, List.map_map]; rfl
    · have := rens_ok hl h3
      rw [List.map_map] at this ⊢
      exact this
  | lsW ws => obtain ⟨hm, xs, h1, h2⟩ := h; exact ⟨hm, xs, h1, rens_ok hl h2⟩
  | dcW ks ws => obtain ⟨hm, xs, h1, h2, h3⟩ := h; exact ⟨hm, xs, h1, h2, rens_ok hl h3⟩
  | _ => exact h
theorem subS_get (st : Sto) (ls0 : List Nat) : ∀ (ls : List Nat) (j : Nat), (subS st ls0 ls)[j]? = ls[j]?.map fun n => match st[n]? with
    | some o => renO ls0 o
    | none => .gone
  | [], j => by simp [subS]
  | n :: r, 0 => by simp [subS]
  | n :: r, j + 1 => by simpa [subS] using subS_get st ls0 r j
theorem subS_len (st : Sto) (ls0 : List Nat) : ∀ ls : List Nat, (subS st ls0 ls).length = ls.length
  | [] => rfl
  | n :: r => by simp [subS, subS_len st ls0 r]
theorem nodup_addN : ∀ (r l : List Nat), l.Nodup → (addN l r).Nodup
  | [], l, h => h
  | n :: r, l, h => by
    unfold addN
    cases z : idx n l with
    | some j => exact nodup_addN r l h
    | none =>
      refine nodup_addN r _ ?_
      rw [List.nodup_append]
      refine ⟨h, by simp, fun a ha b hb e => ?_⟩
      rw [List.mem_singleton] at hb
      subst hb
      subst e
      exact idx_none z ha
theorem nodup_reach (st : Sto) (ws : List W) : (reach st ws).Nodup := by
  unfold reach
  split
  · exact List.nodup_nil
  · exact nodup_addN _ _ (nodup_addN _ _ (nodup_addN _ _ (nodup_addN _ _ List.nodup_nil)))
theorem nodup_get : ∀ {ls : List Nat} {i j n : Nat}, ls.Nodup → ls[i]? = some n → ls[j]? = some n → i = j := by
  intro ls i j n h h1 h2
  have hi := (List.getElem?_eq_some_iff.mp h1)
  have hj := (List.getElem?_eq_some_iff.mp h2)
  obtain ⟨a, ha⟩ := hi
  obtain ⟨b, hb⟩ := hj
  exact (List.getElem_inj h).mp (ha.trans hb.symm)
theorem Rep.pick {ls : List Nat} (r : Rep N M ρ st H) (hl : lsOk ls st.length = true) (nd : ls.Nodup) : Rep N M (pickA ρ ls) (subS st ls ls) H := by
  rw [← r.len] at hl
  refine ⟨r.sub, by rw [subS_len]; simp [pickA], fun i j a h1 h2 => ?_, fun i a o h1 h2 => ?_⟩
  · have hi : i < ls.length := by have := (List.getElem?_eq_some_iff.mp h1).1; simpa [pickA] using this
    have hj : j < ls.length := by have := (List.getElem?_eq_some_iff.mp h2).1; simpa [pickA] using this
    have e1 : ls[i]? = some ls[i] := by simp [hi]
    have e2 : ls[j]? = some ls[j] := by simp [hj]
    rw [(pick_get hl e1).1] at h1
    rw [(pick_get hl e2).1] at h2
    have := r.inj _ _ _ h1 h2
    exact nodup_get nd e1 (by rw [this]; exact e2)
  · have hi : i < ls.length := by have := (List.getElem?_eq_some_iff.mp h1).1; simpa [pickA] using this
    have e1 : ls[i]? = some ls[i] := by simp [hi]
    rw [(pick_get hl e1).1] at h1
    rw [subS_get, e1] at h2
    obtain ⟨o', h3, h4⟩ := r.at_ h1
    simp only [Option.map_some, h3, Option.some.injEq] at h2
    subst h2
    exact renO_ok hl h4
theorem backO_get (ls : List Nat) (n0 : Nat) (st2 : Sto) : ∀ (st : Sto) (i k : Nat), (backO ls n0 st2 i st)[k]? = st[k]?.map fun o => match idx (i + k) ls with
    | some j => (match st2[j]? with
      | some o2 => unO ls n0 o2
      | none => .gone)
    | none => o
  | [], i, k => by simp [backO]
  | o :: r, i, 0 => by simp [backO]
  | o :: r, i, k + 1 => by
    have := backO_get ls n0 st2 r (i + 1) k
    rw [show i + 1 + k = i + (k + 1) by omega] at this
    simpa [backO] using this
theorem backO_len (ls : List Nat) (n0 : Nat) (st2 : Sto) : ∀ (st : Sto) (i : Nat), (backO ls n0 st2 i st).length = st.length
  | [], i => rfl
  | o :: r, i => by simp [backO, backO_len ls n0 st2 r (i + 1)]
theorem back_eq (ls : List Nat) (st st2 : Sto) : back ls st st2 = backO ls st.length st2 0 st ++ (st2.drop ls.length).map (unO ls st.length) := by
  unfold back
  split
  · have : ∀ (s : Sto) (i : Nat), backO [] st.length [] i s = s := by
      intro s
      induction s with
      | nil => intro i; rfl
      | cons o r ih => intro i; simp [backO, idx, ih]
    rw [this]
    simp
  · rfl
theorem Rep.back {ls : List Nat} {st2 : Sto} {ρc : List Addr} (r : Rep N M ρ st H) (hl : lsOk ls st.length = true) (nd : ls.Nodup) (e : Ext M (pickA ρ ls) H M' ρc H') (r2 : Rep N M' ρc st2 H') :
    ∃ ρ', Ext M ρ H M' ρ' H' ∧ Rep N M' ρ' (Dl.back ls st st2) H' ∧ ∀ w v, Rw N M' ρc w v → Rw N M' ρ' (unW ls st.length w) v := by
  have hl' := hl
  rw [← r.len] at hl
  obtain ⟨mm, ⟨q, rfl⟩, fr, nw, rn⟩ := e
  have sub : ∀ a ∈ pickA ρ ls, a ∈ ρ := fun a ha => by
    obtain ⟨j, hj⟩ := List.getElem?_of_mem ha
    have hi : j < ls.length := by have := (List.getElem?_eq_some_iff.mp hj).1; simpa [pickA] using this
    have e1 : ls[j]? = some ls[j] := by simp [hi]
    rw [(pick_get hl e1).1] at hj
    exact List.mem_of_getElem? hj
  have plen : (pickA ρ ls).length = ls.length := by simp [pickA]
  have newq : ∀ (i : Nat) a, q[i]? = some a → H a = none := fun i a ha => by
    rcases rn a (List.mem_append_right _ (List.mem_of_getElem? ha)) with h | h
    · obtain ⟨j, hj⟩ := List.getElem?_of_mem h
      have hj' := (List.getElem?_eq_some_iff.mp hj).1
      have h1 : (pickA ρ ls ++ q)[j]? = some a := by rw [List.getElem?_append_left hj']; exact hj
      have h2 : (pickA ρ ls ++ q)[(pickA ρ ls).length + i]? = some a := by rw [List.getElem?_append_right (by omega)]; simpa using ha
      have := r2.inj _ _ _ h1 h2
      omega
    · exact h
  have hun : ∀ w v, Rw N M' (pickA ρ ls ++ q) w v → Rw N M' (ρ ++ q) (unW ls st.length w) v := fun w v h => by
    cases w with
    | im d => exact h
    | dead => exact h
    | loc j =>
      obtain ⟨a, ha, rfl⟩ := h
      cases z : ls[j]? with
      | some n =>
        simp only [unW, z]
        have hj := (List.getElem?_eq_some_iff.mp z).1
        rw [List.getElem?_append_left (by omega), (pick_get hl z).1] at ha
        exact ⟨a, by rw [List.getElem?_append_left (List.getElem?_eq_some_iff.mp ha).1]; exact ha, rfl⟩
      | none =>
        simp only [unW, z]
        have hj : ls.length ≤ j := List.getElem?_eq_none_iff.mp z
        rw [List.getElem?_append_right (by omega), plen] at ha
        exact ⟨a, by rw [← r.len, List.getElem?_append_right (by omega)]; simpa using ha, rfl⟩
  have hunO : ∀ o a, RO N M' (pickA ρ ls ++ q) H' o a → RO N M' (ρ ++ q) H' (unO ls st.length o) a := fun o a h => by
    have go : ∀ (ws : List W) (vs : List V), Rws N M' (pickA ρ ls ++ q) ws vs → Rws N M' (ρ ++ q) (ws.map (unW ls st.length)) vs := by
      intro ws
      induction ws with
      | nil => intro vs h; exact h
      | cons w ws ih =>
        rintro vs ⟨x, r, h1, h2, h3⟩
        exact ⟨x, r, h1, hun _ _ h2, ih _ h3⟩
    cases o with
    | ins C fs =>
      obtain ⟨hm, dx, fxs, h1, h2, h3⟩ := h
      refine ⟨hm, dx, fxs, h1, by rw [h2, List.map_map]; rfl, ?_⟩
      have := go _ _ h3
      rw [List.map_map] at this ⊢
      exact this
    | lsW ws => obtain ⟨hm, xs, h1, h2⟩ := h; exact ⟨hm, xs, h1, go _ _ h2⟩
    | dcW ks ws => obtain ⟨hm, xs, h1, h2, h3⟩ := h; exact ⟨hm, xs, h1, h2, go _ _ h3⟩
    | _ => exact h
  refine ⟨ρ ++ q, ⟨mm, ⟨q, rfl⟩, fun b o h1 h2 => fr b o h1 fun z => h2 (sub b z), fun a h => ?_, fun a h => ?_⟩, ?_, hun⟩
  · rcases nw a h with h | h | h
    · exact .inl h
    · exact .inr (.inl h)
    · exact .inr (.inr (sub a h))
  · rcases List.mem_append.mp h with h | h
    · exact .inl h
    · obtain ⟨i, hi⟩ := List.getElem?_of_mem h
      exact .inr (newq i a hi)
  · have len2 : st2.length = ls.length + q.length := by rw [← r2.len, List.length_append, plen]
    refine ⟨r2.sub, ?_, fun i j a h1 h2 => ?_, fun i a o h1 h2 => ?_⟩
    · rw [back_eq, List.length_append, List.length_append, backO_len, List.length_map, List.length_drop, r.len, len2]
      omega
    · by_cases hi : i < ρ.length <;> by_cases hj : j < ρ.length
      · rw [List.getElem?_append_left hi] at h1
        rw [List.getElem?_append_left hj] at h2
        exact r.inj _ _ _ h1 h2
      · rw [List.getElem?_append_left hi] at h1
        rw [List.getElem?_append_right (by omega)] at h2
        exact absurd (newq _ _ h2) (r.mem (List.mem_of_getElem? h1))
      · rw [List.getElem?_append_right (by omega)] at h1
        rw [List.getElem?_append_left hj] at h2
        exact absurd (newq _ _ h1) (r.mem (List.mem_of_getElem? h2))
      · rw [List.getElem?_append_right (by omega)] at h1 h2
        have g1 : (pickA ρ ls ++ q)[(pickA ρ ls).length + (i - ρ.length)]? = some a := by rw [List.getElem?_append_right (by omega)]; simpa using h1
        have g2 : (pickA ρ ls ++ q)[(pickA ρ ls).length + (j - ρ.length)]? = some a := by rw [List.getElem?_append_right (by omega)]; simpa using h2
        have := r2.inj _ _ _ g1 g2
        omega
    · rw [back_eq] at h2
      by_cases hi : i < ρ.length
      · rw [List.getElem?_append_left hi] at h1
        rw [List.getElem?_append_left (by rw [backO_len, ← r.len]; exact hi), backO_get, Nat.zero_add] at h2
        obtain ⟨o0, h3, h4⟩ := r.at_ h1
        rw [h3, Option.map_some] at h2
        cases z : idx i ls with
        | some j =>
          simp only [z] at h2
          have hj := idx_get z
          have hjl := (List.getElem?_eq_some_iff.mp hj).1
          have g1 : (pickA ρ ls ++ q)[j]? = some a := by
            rw [List.getElem?_append_left (by omega), (pick_get hl hj).1]
            exact h1
          obtain ⟨o2, h5, h6⟩ := r2.at_ g1
          simp only [h5, Option.some.injEq] at h2
          subst h2
          exact hunO _ _ h6
        | none =>
          simp only [z, Option.some.injEq] at h2
          subst h2
          have hna : a ∉ pickA ρ ls := fun w => by
            obtain ⟨j, hj⟩ := List.getElem?_of_mem w
            have hjl : j < ls.length := by have := (List.getElem?_eq_some_iff.mp hj).1; simpa [pickA] using this
            have e1 : ls[j]? = some ls[j] := by simp [hjl]
            rw [(pick_get hl e1).1] at hj
            have := r.inj _ _ _ h1 hj
            exact idx_none z (by rw [this]; exact List.getElem_mem hjl)
          refine h4.mono mm ⟨q, rfl⟩ (fun hm => ?_) fun u hu => fr a u hu hna
          cases hz : M' a with
          | none => rfl
          | some u =>
            rcases nw a (by rw [hz]; exact fun w => nomatch w) with w | w | w
            · exact absurd hm w
            · exact absurd w h4.there
            · exact absurd w hna
      · rw [List.getElem?_append_right (by omega)] at h1
        rw [List.getElem?_append_right (by rw [backO_len, ← r.len]; omega), backO_len, List.getElem?_map, List.getElem?_drop] at h2
        have g1 : (pickA ρ ls ++ q)[ls.length + (i - ρ.length)]? = some a := by rw [List.getElem?_append_right (by omega), plen]; simpa using h1
        obtain ⟨o2, h5, h6⟩ := r2.at_ g1
        rw [show i - st.length = i - ρ.length by rw [r.len], h5, Option.map_some, Option.some.injEq] at h2
        subst h2
        exact hunO _ _ h6
end
end Dl
end

section
set_option maxHeartbeats 4000000
namespace Dl
open PySem PySem.Spec PyProof.Rows L2 Co
section
variable {X : Cx} {b : Bool} {Wx : WX} {e e1 e2 e3 : Expr} {es : List Expr} {pos p apos : Pos} {N : Kn} {x m : Str} {k : Nat} {f C : Addr} {ps : List Str} {pf : Pf} {M H M' H' : Hp} {ρ ρ' : List Addr} {σ : Sl} {st : Sto} {σV : L2.St} {ex : DX}
theorem callD_ok {ls : List Nat} {ws : List W} {vs : List V} {kd : W → Sto → Prop} {Q : VK} (nd : ls.Nodup) (c : Kx N Wx M ρ σ st H σV ex) (h : callD pf ls ws st kd ex) (r : Rws N M ρ ws vs)
    (q : ∀ w st', kd w st' → ∀ v M' ρ' H', Ext M ρ H M' ρ' H' → Kx N Wx M' ρ' σ st' H' σV ex → Rw N M' ρ' w v → Q v H') : spD N pf vs H Q (WE Wx σV) := by
  obtain ⟨hl, hf⟩ := h
  have hl2 := hl
  rw [← c.rep.len] at hl2
  refine ⟨M, pickA ρ ls, ws.map (ren ls), subS st ls ls, _, _, c.rep.pick hl nd, rens_ok hl2 r, hf, fun w st2 hk v M2 ρ2 H2 e2 r2 rv => ?_, fun c' fs st2 hk o M2 ρ2 H2 e2 r2 eo => ?_⟩
  · obtain ⟨ρ', E', R', un⟩ := c.rep.back hl nd e2 r2
    exact q _ _ hk v M2 ρ' H2 E' (c.step E' R') (un _ _ rv)
  · obtain ⟨ρ', E', R', _⟩ := c.rep.back hl nd e2 r2
    exact c.xl _ _ _ hk o M2 ρ' H2 E' R' eo
theorem e_call {ta : DA} (d : Def X.prog X.w X.K X.mg X.base k f ps (spD N pf)) (hr : Room k X.A) (hg : Gl X x) (hm : X.mg x = some (.ref f)) (tk : ∀ σ, PassesAt (L2.CX X.prog X.w) X σ (WE Wx σ)) (ha : PA X (e :: es) (lA N Wx ta)) (hdb : (x == ("__debug__" : Str)) = false := by decide)
    (he : starEach (e :: es) X.env = (false, eval e X.env) :: starEach es X.env := by rfl) (hpl : (backTo pos (starEach es X.env)).any (·.1) = false := by rfl) : PE X (.Call (.Name x p) (e :: es) [] pos) (lW N Wx (dCall pf ta)) := PE.imp (e_callS d hr hg hm tk ha hdb he hpl) fun σV H Q h => by
  obtain ⟨M, ρ, σ, st, k, ex, c, ht, q⟩ := Kx.open_ h
  exact Lf.of c ht fun ws st' hk vs M1 ρ1 H1 E1 c1 r1 => callD_ok (nodup_reach _ _) c1 hk r1 fun w st2 hk2 v M2 ρ2 H2 E2 c2 r2 => q _ _ hk2 v M2 ρ2 H2 (E1.trans E2) c2 r2
theorem getK_none {M : Hp} : ∀ {fs : List (Str × V)} {ds : List D} {f : Str}, Rps N M ds (fs.map (·.2)) → getK (fs.map (·.1)) ds f = none → fs.lookup f = none
  | [], _, _, _, _ => rfl
  | (a, v) :: fs, [], f, h, e => by have := h.length; simp at this
  | (a, v) :: fs, d' :: ds, f, ⟨x, r, h1, h2, h3⟩, e => by
    cases h1
    by_cases z : a = f
    · simp only [List.map_cons, getK, if_pos z] at e; cases e
    · simp only [List.map_cons, getK, if_neg z] at e
      rw [List.lookup_cons, show (f == a) = false from beq_eq_false_iff_ne.mpr fun w => z w.symm]
      exact getK_none h3 e
theorem lookup_none : ∀ {fs : List (Str × V)} {gs : List (Str × W)} {f : Str}, fs.map (·.1) = gs.map (·.1) → gs.lookup f = none → fs.lookup f = none
  | [], [], _, _, _ => rfl
  | [], _ :: _, _, e, _ => by cases e
  | _ :: _, [], _, e, _ => by cases e
  | (a, v) :: fs, (a', w) :: gs, f, e0, e => by
    rw [List.map_cons, List.map_cons, List.cons.injEq] at e0
    obtain ⟨e1, e2⟩ := e0
    have e1 : a = a' := e1
    subst e1
    rw [List.lookup_cons] at e ⊢
    cases z : f == a with
    | true => rw [z] at e; cases e
    | false => rw [z] at e; exact lookup_none e2 e
theorem cls_ok {C m : Str} {o : W} {u : V} (r : Rep N M ρ st H) (h : clsW C m o st) (ro : Rw N M ρ o u) : ∃ a dx fs, u = .ref a ∧ H a = some (.ins (He.ga N.K C) dx fs) ∧ fs.lookup m = none := by
  have im : ∀ {C' : Str} {ns : List Str} {ds : List D} {v : V}, Rp N M (.ins C' ns ds) v → (C' = C ∧ getK ns ds m = none) → ∃ a dx fs, v = .ref a ∧ H a = some (.ins (He.ga N.K C) dx fs) ∧ fs.lookup m = none := by
    rintro C' ns ds v ⟨p, dx, fs, rfl, h1, h2, h3⟩ ⟨rfl, h4⟩
    subst h2
    exact ⟨p, dx, fs, rfl, r.sub.ins h1, getK_none h3 h4⟩
  cases o with
  | dead => exact False.elim h
  | im d => cases d <;> try exact False.elim h
            exact im ro h
  | loc n =>
    obtain ⟨a, ha, rfl⟩ := ro
    cases ho : st[n]? with
    | none => simp only [clsW, ho] at h
    | some ob =>
      simp only [clsW, ho] at h
      have q := r.ob n a _ ha ho
      cases ob <;> try exact False.elim h
      · rename_i C' fs
        obtain ⟨rfl, h⟩ := h
        obtain ⟨hm, dx, fxs, h1, h2, h3⟩ := q
        exact ⟨a, dx, fxs, rfl, h1, lookup_none h2 h⟩
      · rename_i d
        cases d <;> try exact False.elim h
        exact im q.1 h
theorem e_meth {C : Str} {pl : Sem Bool} {to : DW} {ta : DA} (he : PE X e1 (lW (XN X b) Wx to)) (c : Cls X.K (He.ga X.K C)) (hm : Meth X.K (He.ga X.K C) m f) (d : Def X.prog X.w X.K X.mg X.base k f ps (spD (XN X b) pf)) (hr : Room k X.A) (tk : ∀ σ, PassesAt (L2.CX X.prog X.w) X σ (WE Wx σ)) (ha : PA X (e :: es) (lA (XN X b) Wx ta))
    (hst : starEach (e :: es) X.env = (false, eval e X.env) :: starEach es X.env := by rfl) (hpl : (backTo pos (starEach es X.env)).any (·.1) = false := by rfl)
    (ht : eval (.Call (.Attribute e1 m apos) (e :: es) [] pos) X.env = (do
      let ov ← eval e1 X.env
      standAt apos.atName
      let (f, first) ← holding [ov] (getMethod ov m pl)
      callWith pos f first (backTo pos (starEach (e :: es) X.env)) (backToKw pos (keywordEach [] X.env))) := by rfl) :
    PE X (.Call (.Attribute e1 m apos) (e :: es) [] pos) (lW (XN X b) Wx (dMeth C m pf to ta)) := PE.imp (Co.e_meth he c hm d hr tk ha hst hpl ht) fun σV H Q h => by
  obtain ⟨M, ρ, σ, st, k, ex, c, ht, q⟩ := Kx.open_ h
  refine Lf.of c ht fun o st1 hk u M1 ρ1 H1 E1 c1 ro => ?_
  obtain ⟨a, dx, fs, rfl, h1, h2⟩ := cls_ok c1.rep hk.1 ro
  refine ⟨a, dx, fs, rfl, h1, h2, Lf.of c1 hk.2 fun ws st2 hk2 vs M2 ρ2 H2 E2 c2 r2 => ?_⟩
  exact callD_ok (nodup_reach _ _) c2 hk2 ⟨_, _, rfl, Rw.ext ro E2, r2⟩ fun w st3 hk3 v M3 ρ3 H3 E3 c3 r3 => q _ _ hk3 v M3 ρ3 H3 (E1.trans (E2.trans E3)) c3 r3
theorem e_meth0 {C : Str} {pl : Sem Bool} {to : DW} (he : PE X e1 (lW (XN X b) Wx to)) (c : Cls X.K (He.ga X.K C)) (hm : Meth X.K (He.ga X.K C) m f) (d : Def X.prog X.w X.K X.mg X.base k f ps (spD (XN X b) pf)) (hr : Room k X.A) (tk : ∀ σ, PassesAt (L2.CX X.prog X.w) X σ (WE Wx σ))
    (ht : eval (.Call (.Attribute e1 m apos) [] [] pos) X.env = (do
      let ov ← eval e1 X.env
      standAt apos.atName
      let (f, first) ← holding [ov] (getMethod ov m pl)
      callWith pos f first (backTo pos (starEach [] X.env)) (backToKw pos (keywordEach [] X.env))) := by rfl) :
    PE X (.Call (.Attribute e1 m apos) [] [] pos) (lW (XN X b) Wx (dMeth C m pf to aNil)) := PE.imp (Co.e_meth0 he c hm d hr tk ht) fun σV H Q h => by
  obtain ⟨M, ρ, σ, st, k, ex, c, ht, q⟩ := Kx.open_ h
  refine Lf.of c ht fun o st1 hk u M1 ρ1 H1 E1 c1 ro => ?_
  obtain ⟨a, dx, fs, rfl, h1, h2⟩ := cls_ok c1.rep hk.1 ro
  refine ⟨a, dx, fs, rfl, h1, h2, ?_⟩
  exact callD_ok (nodup_reach _ _) c1 hk.2 ⟨_, [], rfl, ro, rfl⟩ fun w st3 hk3 v M3 ρ3 H3 E3 c3 r3 => q _ _ hk3 v M3 ρ3 H3 (E1.trans E3) c3 r3
theorem run_makeS {CX : CXT} {fd : FuncData} {sp : Sp} {E : L2.St → XK} {pins : List (Addr × Obj)} {s : Shared} {Q : VK} {us : List Value} {vs : List V} {C f : Addr} (Mk' : Mk X.K C f) (F : FnOk X.prog X.w X.K X.mg X.base CX k f fd ps sp) (hr : Room (k + 1) X.A) (hb : Binds X.K fd ps [])
    (hx : PassesAt CX X σV (E σV)) (I : Inv X pins σV H s) (r : Vals vs us)
    (h : ∀ x dx, H x = none → H dx = none → dx ≠ x → sp (.ref x :: vs) (upd (upd H dx (.own x)) x (.ins C dx [])) (fun v H2 => v = .non ∧ Q (.ref x) H2) (E σV)) :
    wpAny (model X.prog X.w) X.A (call (.ref C) us) (EP X pins σV Q) X.xe s := by
  have hq := h (s.heap.objs.size + 1) s.heap.objs.size (I.hok.fresh (Nat.le_succ _)) (I.hok.fresh (Nat.le_refl _)) (Nat.ne_of_lt (Nat.lt_succ_self _))
  have I2 := Inv.made (C := C) I
  have r2 : Vals (V.ref (s.heap.objs.size + 1) :: (vs ++ [])) (Value.ref (s.heap.objs.size + 1) :: (us ++ [])) := .cons rfl (r.append .nil)
  have hl : (Value.ref (s.heap.objs.size + 1) :: us ++ []).length = ps.length := by
    have e := r2.length
    rw [List.append_nil, F.len _ _ _ _ hq] at e
    exact e.symm
  rw [List.append_nil] at r2
  have b := hb _ (Value.ref (s.heap.objs.size + 1) :: us) I2.kIn hl
  rw [List.append_nil] at r2 b
  refine wpAny_call (make_map (f := f) I.kIn Mk'.makes Mk'.init (beq_iff_eq.mp Mk'.fn) (codeAny_mono (F.run _ X.stack _ _ ⟨Value.ref (s.heap.objs.size + 1) :: us, []⟩ (Value.ref (s.heap.objs.size + 1) :: us) _ _ (E σV) (hr.make C us [])
    (I2.env0.make C us []) b r2 hq) fun r s' hq' => ?_))
  cases r with
  | error e => exact hx pins _ _ e s' I2 hq'
  | ok fl =>
    cases fl with
    | ret u =>
      obtain ⟨v, H', I3, rv, ev, q3⟩ := I2.after hq'
      subst ev
      exact ⟨rv, ⟨V.ref (s.heap.objs.size + 1), H', I3, rfl, q3⟩⟩
    | next => exact False.elim hq'
    | brk => exact False.elim hq'
    | cont => exact False.elim hq'
def uMakeS (C : Addr) (sp : Sp) (E : L2.St → XK) (t : TA) : TE := fun σ H Q => t σ H fun vs H1 => ∀ x dx, H1 x = none → H1 dx = none → dx ≠ x →
  sp (.ref x :: vs) (upd (upd H1 dx (.own x)) x (.ins C dx [])) (fun v H2 => v = .non ∧ Q (.ref x) H2) (E σ)
theorem e_makeS {sp : Sp} {E : L2.St → XK} {t : TA} (Mk' : Mk X.K C f) (d : Def X.prog X.w X.K X.mg X.base k f ps sp) (hr : Room (k + 1) X.A) (hg : Gl X x) (hm : X.mg x = some (.ref C)) (hx : ∀ σ, PassesAt (L2.CX X.prog X.w) X σ (E σ)) (ha : PA X (e :: es) t) (hdb : (x == ("__debug__" : Str)) = false := by decide)
    (he : starEach (e :: es) X.env = (false, eval e X.env) :: starEach es X.env := by rfl) (hpl : (backTo pos (starEach es X.env)).any (·.1) = false := by rfl) : PE X (.Call (.Name x p) (e :: es) [] pos) (uMakeS C sp E t) := by
  obtain ⟨fd, F, b⟩ := d.ex
  refine ⟨fun pins s σ H Q I h => ?_⟩
  refine wpAny_Call_Name_kw (ld_glob I hg hm ?_ hdb)
  exact PySem.W.callWith_K (h₀ := X.base) I.ok.mod.kin Mk'.kp (thn (ha.run pos pins s σ H _ I h) fun us s1 ⟨vs, H1, I1, r, q⟩ => ⟨I1.kIn, run_makeS Mk' F hr b (hx σ) I1 r q⟩) he hpl
theorem new_ok {C : Str} {ws : List W} {vs : List V} {kd : W → Sto → Prop} {Q : VK} (c : Kx N Wx M ρ σ st H σV ex)
    (h : (match st.length, st ++ [Ob.ins C []] with
      | n, st2 => callD pf (reach st2 (.loc n :: ws)) (.loc n :: ws) st2 (fun w st3 => (match w with
        | .im .non => kd (.loc n) st3
        | _ => False)) ex)) (r : Rws N M ρ ws vs)
    (q : ∀ w st', kd w st' → ∀ v M' ρ' H', Ext M ρ H M' ρ' H' → Kx N Wx M' ρ' σ st' H' σV ex → Rw N M' ρ' w v → Q v H') {xa dx : Addr} (h1 : H xa = none) (h2 : H dx = none) (ne : dx ≠ xa) :
    spD N pf (.ref xa :: vs) (upd (upd H dx (.own xa)) xa (.ins (He.ga N.K C) dx [])) (fun v H2 => v = .non ∧ Q (.ref xa) H2) (WE Wx σV) := by
  obtain ⟨E1, c1⟩ := c.new (o := .own xa) h2
  have h1' : upd H dx (.own xa) xa = none := by rw [upd_ne ne.symm]; exact h1
  obtain ⟨E2, c2⟩ := c1.loc (u := .ins (He.ga N.K C) dx []) (o := .ins C []) h1' ⟨c1.rep.non h1', dx, [], upd_same, rfl, rfl⟩
  refine callD_ok (kd := fun w st3 => (match w with
        | .im .non => kd (.loc st.length) st3
        | _ => False)) (nodup_reach _ _) c2 h ⟨_, vs, rfl, ⟨xa, c1.rep.last xa, rfl⟩, Rws.mono E2.mm E2.pre (Rws.ext r E1)⟩ fun w st3 hk v M3 ρ3 H3 E3 c3 r3 => ?_
  cases w with
  | im d =>
    cases d <;> try exact False.elim hk
    cases r3
    exact ⟨rfl, q _ _ hk _ M3 ρ3 H3 (E1.trans (E2.trans E3)) c3 ⟨xa, E3.pre.get (c1.rep.last xa), rfl⟩⟩
  | _ => exact False.elim hk
theorem e_new {C : Str} {ta : DA} (Mk' : Mk X.K (He.ga X.K C) f) (d : Def X.prog X.w X.K X.mg X.base k f ps (spD (XN X b) pf)) (hr : Room (k + 1) X.A) (hg : Gl X x) (hm : X.mg x = some (.ref (He.ga X.K C))) (tk : ∀ σ, PassesAt (L2.CX X.prog X.w) X σ (WE Wx σ)) (ha : PA X (e :: es) (lA (XN X b) Wx ta)) (hdb : (x == ("__debug__" : Str)) = false := by decide)
    (he : starEach (e :: es) X.env = (false, eval e X.env) :: starEach es X.env := by rfl) (hpl : (backTo pos (starEach es X.env)).any (·.1) = false := by rfl) : PE X (.Call (.Name x p) (e :: es) [] pos) (lW (XN X b) Wx (dNew C pf ta)) := PE.imp (e_makeS Mk' d hr hg hm tk ha hdb he hpl) fun σV H Q h => by
  obtain ⟨M, ρ, σ, st, k, ex, c, ht, q⟩ := Kx.open_ h
  refine Lf.of c ht fun ws st1 hk vs M1 ρ1 H1 E1 c1 r1 => fun xa dx h1 h2 ne => ?_
  exact new_ok (N := XN X b) c1 hk r1 (fun w st2 hk2 v M2 ρ2 H2 E2 c2 r2 => q _ _ hk2 v M2 ρ2 H2 (E1.trans E2) c2 r2) h1 h2 ne
end
def trW (n0 : Nat) : W → W
  | .loc n => if n < n0 then .loc n else .dead
  | w => w
def trO (n0 : Nat) : Ob → Ob
  | .ins C fs => .ins C (fs.map fun p => (p.1, trW n0 p.2))
  | .lsW ws => .lsW (ws.map (trW n0))
  | .dcW ks ws => .dcW ks (ws.map (trW n0))
  | o => o
def trS (n0 : Nat) (st : Sto) : Sto := (st.take n0).map (trO n0)
def fin (kp : Bool) (n0 : Nat) (k : W → Sto → Prop) (w : W) (st : Sto) : Prop := match kp with
  | true => k w st
  | false => match w with
    | .im d => k (.im d) (trS n0 st)
    | .loc n => if n < n0 then k (.loc n) (trS n0 st) else (match toD (.loc n) st with
      | some (d, st') => k (.im d) (trS n0 st')
      | none => False)
    | .dead => False
def EnD (kp : Bool) (n0 : Nat) (k : W → Sto → Prop) (ex : DX) : En :=
  { nx := fun _ st => fin kp n0 k (.im .non) st, rt := fun w st => fin kp n0 k w st, ex := fun c fs _ st => match kp with
    | true => ex c fs st
    | false => ex c fs (trS n0 st) }
def startD (N : List Str) (ws : List W) : Sl := ws.map some ++ List.replicate (N.length - ws.length) none
section
variable {N : Kn} {M H M' H' : Hp} {ρ ρ' : List Addr} {st : Sto}
theorem trW_ok {n0 : Nat} {w : W} {v : V} (h : Rw N M ρ w v) : Rw N M (ρ.take n0) (trW n0 w) v := by
  cases w with
  | im d => exact h
  | dead => exact h
  | loc n =>
    obtain ⟨a, ha, rfl⟩ := h
    by_cases z : n < n0
    · simp only [trW, if_pos z]
      exact ⟨a, by rw [List.getElem?_take_of_lt z]; exact ha, rfl⟩
    · simp only [trW, if_neg z]; trivial
theorem trWs_ok {n0 : Nat} : ∀ {ws : List W} {vs : List V}, Rws N M ρ ws vs → Rws N M (ρ.take n0) (ws.map (trW n0)) vs
  | [], _, h => h
  | _ :: _, _, ⟨x, r, h1, h2, h3⟩ => ⟨x, r, h1, trW_ok h2, trWs_ok h3⟩
theorem Rep.tr (r : Rep N M ρ st H) (n0 : Nat) : Rep N M (ρ.take n0) (trS n0 st) H := by
  refine ⟨r.sub, by simp [trS, r.len], fun i j a h1 h2 => ?_, fun i a o h1 h2 => ?_⟩
  · have hi := (List.getElem?_eq_some_iff.mp h1).1
    have hj := (List.getElem?_eq_some_iff.mp h2).1
    rw [List.length_take] at hi hj
    rw [List.getElem?_take_of_lt (by omega)] at h1 h2
    exact r.inj _ _ _ h1 h2
  · have hi := (List.getElem?_eq_some_iff.mp h1).1
    rw [List.length_take] at hi
    rw [List.getElem?_take_of_lt (by omega)] at h1
    unfold trS at h2
    rw [List.getElem?_map, List.getElem?_take_of_lt (by omega)] at h2
    obtain ⟨o', h3, h4⟩ := r.at_ h1
    rw [h3, Option.map_some, Option.some.injEq] at h2
    subst h2
    cases o' with
    | ins C fs =>
      obtain ⟨hm, dx, fxs, g1, g2, g3⟩ := h4
      refine ⟨hm, dx, fxs, g1, by rw [g2, List.map_map]; rfl, ?_⟩
      have := trWs_ok (n0 := n0) g3
      rw [List.map_map] at this ⊢
      exact this
    | lsW ws => obtain ⟨hm, xs, g1, g2⟩ := h4; exact ⟨hm, xs, g1, trWs_ok (n0 := n0) g2⟩
    | dcW ks ws => obtain ⟨hm, xs, g1, g2, g3⟩ := h4; exact ⟨hm, xs, g1, g2, trWs_ok (n0 := n0) g3⟩
    | _ => exact h4
theorem Ext.tr (e : Ext M ρ H M' ρ' H') : Ext M ρ H M' (ρ'.take ρ.length) H' := by
  have : ρ'.take ρ.length = ρ := by
    obtain ⟨r, rfl⟩ := e.pre
    simp
  rw [this]
  exact ⟨e.mm, Pre.refl _, e.fr, e.nw, fun a h => .inl h⟩
theorem Rs.start {Nm : List Str} {ws : List W} {vs : List V} (h : Rws N M ρ ws vs) : Rs N M ρ (startD Nm ws) (L2.start Nm vs) := by
  have hl := Rws.length h
  refine ⟨by simp [startD, L2.start, hl], fun i w e => ?_⟩
  unfold startD at e
  unfold L2.start
  by_cases z : i < ws.length
  · rw [List.getElem?_append_left (by simpa using z), List.getElem?_map] at e
    rw [List.getElem?_append_left (by simpa [hl] using z), List.getElem?_map]
    cases z2 : ws[i]? with
    | none => rw [z2] at e; cases e
    | some w' =>
      rw [z2] at e
      cases e
      obtain ⟨v, h1, h2⟩ := Rws.get h z2
      exact ⟨v, by rw [h1]; rfl, h2⟩
  · rw [List.getElem?_append_right (by simpa using z), List.getElem?_replicate] at e
    split at e <;> cases e
theorem fin_ok {kp : Bool} {k : W → Sto → Prop} {w : W} {st' : Sto} {v : V} {Q : VK} (hρ : ρ.length = st.length) (h : fin kp st.length k w st') (e : Ext M ρ H M' ρ' H') (r : Rep N M' ρ' st' H') (rw : Rw N M' ρ' w v)
    (q : ∀ w st', k w st' → ∀ v M' ρ' H', Ext M ρ H M' ρ' H' → Rep N M' ρ' st' H' → Rw N M' ρ' w v → Q v H') : Q v H' := by
  cases kp with
  | true => exact q _ _ h v M' ρ' H' e r rw
  | false =>
    have R := r.tr st.length
    have E := e.tr
    rw [hρ] at E
    cases w with
    | dead => exact False.elim h
    | im d => exact q _ _ (show k (.im d) (trS st.length st') from h) v M' _ H' E R rw
    | loc n =>
      have h : (if n < st.length then k (.loc n) (trS st.length st') else (match toD (.loc n) st' with
      | some (d, st2) => k (.im d) (trS st.length st2)
      | none => False)) := h
      split at h
      · rename_i hn
        refine q _ _ h v M' _ H' E R ?_
        obtain ⟨a, ha, rfl⟩ := rw
        exact ⟨a, by rw [List.getElem?_take_of_lt hn]; exact ha, rfl⟩
      · cases hz : toD (.loc n) st' with
        | none => rw [hz] at h; exact False.elim h
        | some p =>
          obtain ⟨d, st2⟩ := p
          rw [hz] at h
          obtain ⟨M2, E2, R2, r2⟩ := toD_ok r hz rw
          have E3 := (e.trans E2).tr
          rw [hρ] at E3
          exact q _ _ h v M2 _ H' E3 (R2.tr st.length) r2
theorem body_ok {Nm : List Str} {pf : Pf} {t : DS} {kp : Bool} {vs : List V} {Q : VK} {E : XK} (hr : ∀ ws st k ex, pf ws st k ex → t (EnD kp st.length k ex) (startD Nm ws) st) (h : spD N pf vs H Q E) :
    lS N (fun cls d _ H => E cls d H) t { nx := fun _ H' => Q .non H', rt := Q } (start Nm vs) H := by
  obtain ⟨M, ρ, ws, st, k, ex, r, rw, hf, hk, hx⟩ := h
  refine ⟨M, ρ, startD Nm ws, st, _, r, Rs.start rw, hr _ _ _ _ hf, ⟨fun σ' st' h M' ρ' H' σV' e r' s' => fin_ok r.len h e r' (show Rw N M' ρ' (.im .non) .non from rfl) hk, fun w st' h v M' ρ' H' e r' rv => fin_ok r.len h e r' rv hk, fun c fs σ' st' h o M' ρ' H' σV' e r' s' eo => ?_, fun _ _ h => False.elim h, fun _ _ h => False.elim h⟩⟩
  cases kp with
  | true => exact hx _ _ _ h o M' ρ' H' e r' eo
  | false =>
    have E := e.tr
    rw [r.len] at E
    exact hx _ _ _ h o M' _ H' E (r'.tr st.length) eo
theorem spD_len {pf : Pf} {n : Nat} (h : ∀ ws st k ex, pf ws st k ex → ws.length = n) : ∀ vs H Q E, spD N pf vs H Q E → vs.length = n := fun vs H Q E q => by
  obtain ⟨M, ρ, ws, st, k, ex, r, rw, hf, _⟩ := q
  rw [Rws.length rw]
  exact h _ _ _ _ hf
end
end Dl
end

section
set_option maxHeartbeats 4000000
namespace Dl
open PySem PySem.Spec PyProof.Rows L2 Co
abbrev DG := D → Sl → (Sl → Prop) → Prop
def gN (i : Nat) : DG := fun d σ k => k (σ.set i (some (.im d)))
structure GOk (N : Kn) (vs : List Nat) (g : DG) (gV : TG) : Prop where
  ok : ∀ {d : D} {v : V} {M H : Hp} {ρ : List Addr} {σ : Sl} {σV : L2.St} {k : Sl → Prop} {Q : L2.St → Hp → Prop}, Rp N M d v → Sub M H → Rs N M ρ σ σV → g d σ k → (∀ σ', k σ' → ∀ σV', Rs N M ρ σ' σV' → wipe σV' vs = wipe σV vs → Q σV' H) → gV v σV H Q
theorem wipe_get {σ : L2.St} {j : Nat} : ∀ {vs : List Nat}, j ∈ vs → j < σ.length → (wipe σ vs)[j]? = some none
  | [], h, _ => by cases h
  | v :: vs, h, hj => by
    unfold wipe
    by_cases z : v = j
    · subst z
      rw [List.getElem?_set_self (by rw [wipe_length]; exact hj)]
    · rw [List.getElem?_set_ne z]
      exact wipe_get ((List.mem_cons.mp h).elim (fun w => absurd w.symm z) fun w => w) hj
theorem wipe_set {σ : L2.St} {i : Nat} {o : Option V} {vs : List Nat} (h : i ∈ vs) : wipe (σ.set i o) vs = wipe σ vs := by
  apply List.ext_getElem?
  intro j
  by_cases z : j ∈ vs
  · by_cases hj : j < σ.length
    · rw [wipe_get z hj, wipe_get z (by rw [List.length_set]; exact hj)]
    · rw [List.getElem?_eq_none (by rw [wipe_length, List.length_set]; omega), List.getElem?_eq_none (by rw [wipe_length]; omega)]
  · rw [wipe_out z, wipe_out z, List.getElem?_set_ne (fun w => z (by rw [← w]; exact h))]
theorem wipe_wipe {σ : L2.St} {vs : List Nat} : wipe (wipe σ vs) vs = wipe σ vs := by
  apply List.ext_getElem?
  intro j
  by_cases z : j ∈ vs
  · by_cases hj : j < σ.length
    · rw [wipe_get z hj, wipe_get z (by rw [wipe_length]; exact hj)]
    · rw [List.getElem?_eq_none (by rw [wipe_length, wipe_length]; omega), List.getElem?_eq_none (by rw [wipe_length]; omega)]
  · rw [wipe_out z]
theorem gok_name {N : Kn} {i : Nat} {vs : List Nat} (h : i ∈ vs) : GOk N vs (gN i) (gName i) := ⟨fun r _ rs h1 q => q _ h1 _ (rs.set (w := .im _) r i) (wipe_set h)⟩
structure GoD (N : Kn) (J : It) (M0 : Hp) (ds : List D) : Prop where
  stop : ∀ (i : Nat) (M H : Hp), Same M0 M → Sub M H → ds.length ≤ i → J.stop i H
  go : ∀ (i : Nat) (M H : Hp), Same M0 M → Sub M H → i < ds.length → J.go i H
  yld : ∀ (i : Nat) (M H : Hp) (v : V) (H' : Hp), Same M0 M → Sub M H → i < ds.length → J.yld i H v H' → ∃ d, ds[i]? = some d ∧ ((H' = H ∧ Rp N M d v) ∨ ∃ T xs es, H T = none ∧ H' = upd H T (.tup xs) ∧ v = .ref T ∧ d = .tup es ∧ Rps N M es xs)
def lI (N : Kn) (Wx : WX) (t : Lv (List D)) : TI := fun σV H R => ∃ M ρ σ st k ex, Kx N Wx M ρ σ st H σV ex ∧ t σ st k ex ∧ ∀ ds st', k ds st' → ∀ J M' ρ' H', Ext M ρ H M' ρ' H' → Rep N M' ρ' st' H' → GoD N J M' ds → R J H'
section
variable {N : Kn} {Wx : WX} {M H : Hp} {ρ : List Addr} {σ : Sl} {st : Sto} {σV : L2.St} {ex : DX}
theorem lI.open_ {t : Lv (List D)} {R : It → Hp → Prop} (h : lI N Wx t σV H R) : ∃ M ρ σ st k ex, Kx N Wx M ρ σ st H σV ex ∧ t σ st k ex ∧ ∀ ds st', k ds st' → ∀ J M' ρ' H', Ext M ρ H M' ρ' H' → Rep N M' ρ' st' H' → GoD N J M' ds → R J H' := h
def iSq (t : DD) : Lv (List D) := fun σ st k ex => t σ st (fun d st1 => match d with
  | .tup ds => k ds st1
  | .lst ds => k ds st1
  | _ => False) ex
def chD (z : Str) : List D := z.cps.toList.map fun c => .str ⟨#[c]⟩
def iSt (t : DD) : Lv (List D) := fun σ st k ex => t σ st (fun d st1 => match d with
  | .str z => k (chD z) st1
  | _ => False) ex
def rgD (lo : Int) (n : Nat) : List D := (List.range n).map fun (i : Nat) => D.int (lo + (i : Int))
def iRg1 (t : DD) : Lv (List D) := fun σ st k ex => t σ st (fun d st1 => match d with
  | .int j => -(2 ^ 62) ≤ j ∧ j < 2 ^ 62 ∧ k (rgD 0 j.toNat) st1
  | _ => False) ex
theorem lsts {M M' H : Hp} {a : Addr} {xs : List V} {K : PySem.W.Frag} (s : Same M M') (u : Sub M' H) (h : M a = some (.lst xs)) : SqL K H a xs := SqL.of (u.lst1 (s _ _ h))
theorem go_list {a : Addr} {xs : List V} {ds : List D} (h : M a = some (.lst xs)) (r : Rps N M ds xs) : GoD N (Itl N.K a) M ds where
  stop := fun i M' H s u hi => ⟨xs, lsts s u h, by rw [r.length]; exact hi⟩
  go := fun i M' H s u hi => ⟨xs, xs[i]'(by rw [r.length]; exact hi), lsts s u h, by simp [r.length, hi]⟩
  yld := fun i M' H v H' s u hi y => by
    obtain ⟨rfl, y⟩ := y
    obtain ⟨d, h1, h2⟩ := Rps.get2 r (y xs (lsts s u h))
    exact ⟨d, h1, .inl ⟨rfl, h2.mono s⟩⟩
theorem go_tup {a : Addr} {xs : List V} {ds : List D} (h : SqC N M a xs) (r : Rps N M ds xs) : GoD N (Itt N.K a) M ds where
  stop := fun i M' H s u hi => ⟨xs, u.tup (h.mono s), by rw [r.length]; exact hi⟩
  go := fun i M' H s u hi => ⟨xs, xs[i]'(by rw [r.length]; exact hi), u.tup (h.mono s), by simp [r.length, hi]⟩
  yld := fun i M' H v H' s u hi y => by
    obtain ⟨rfl, y⟩ := y
    obtain ⟨d, h1, h2⟩ := Rps.get2 r (y xs (u.tup (h.mono s)))
    exact ⟨d, h1, .inl ⟨rfl, h2.mono s⟩⟩
theorem go_str {z : Str} : GoD N (Its z) M (chD z) where
  stop := fun i M' H s u hi => by simpa [chD, Its] using hi
  go := fun i M' H s u hi => by simpa [chD, Its] using hi
  yld := fun i M' H v H' s u hi y => by
    obtain ⟨rfl, c, h1, rfl⟩ := y
    refine ⟨.str ⟨#[c]⟩, ?_, .inl ⟨rfl, rfl⟩⟩
    have : z.cps.toList[i]? = some c := by simpa using h1
    simp [chD, this]
theorem go_rng {lo : Int} {n : Nat} : GoD N (Itr lo n) M (rgD lo n) where
  stop := fun i M' H s u hi => by simpa [rgD, Itr] using hi
  go := fun i M' H s u hi => by simpa [rgD, Itr] using hi
  yld := fun i M' H v H' s u hi y => by
    obtain ⟨rfl, rfl⟩ := y
    have hi : i < n := by simpa [rgD] using hi
    exact ⟨.int (lo + i), by simp [rgD, hi], .inl ⟨rfl, rfl⟩⟩
end
section
variable {X : Cx} {b : Bool} {Wx : WX} {e e1 e2 e3 tg : Expr} {es : List Expr} {pos p tpos : Pos} {x : Str} {kk : Nat} {elts : List Expr}
theorem PI.imp {t t' : TI} (h : PI X tg e t) (i : ∀ σ H R, t' σ H R → t σ H R) : PI X tg e t' := ⟨fun pins s σ H R I q => h.run pins s σ H R I (i σ H R q)⟩
theorem i_sq {t : DD} (h : PE X e (lD (XN X b) Wx t)) : PI X tg e (lI (XN X b) Wx (iSq t)) := PI.imp (pi_seq h) fun σV H R q => by
  obtain ⟨M, ρ, σ, st, k, ex, c, ht, q⟩ := lI.open_ q
  refine Lf.of c ht fun d st' hk v M' ρ' H' E c' r => ?_
  cases d <;> try exact False.elim hk
  · obtain ⟨a, xs, rfl, h1, h2⟩ := r
    exact ⟨a, rfl, .inr ⟨⟨xs, c'.rep.sub.tup h1⟩, q _ _ hk _ M' ρ' H' E c'.rep (go_tup h1 h2)⟩⟩
  · obtain ⟨a, xs, rfl, h1, h2⟩ := r
    exact ⟨a, rfl, .inl ⟨⟨xs, SqL.of (c'.rep.sub.lst1 h1)⟩, q _ _ hk _ M' ρ' H' E c'.rep (go_list (N := XN X b) h1 h2)⟩⟩
variable {N : Kn}
theorem i_st {t : DD} (h : PE X e (lD N Wx t)) : PI X tg e (lI N Wx (iSt t)) := PI.imp (pi_str h) fun σV H R q => by
  obtain ⟨M, ρ, σ, st, k, ex, c, ht, q⟩ := lI.open_ q
  refine Lf.of c ht fun d st' hk v M' ρ' H' E c' r => ?_
  cases d <;> try exact False.elim hk
  cases r
  exact ⟨_, rfl, q _ _ hk _ M' ρ' H' E c'.rep go_str⟩
theorem i_rg1 {t : DD} (hg : Gl X "range") (hm : X.mg "range" = none) (h : PA X [e] (tCons (lD N Wx t) tNil)) (hs : starEach [e] X.env = [(false, eval e X.env)] := by rfl) : PI X tg (.Call (.Name "range" p) [e] [] pos) (lI N Wx (iRg1 t)) := PI.imp (pi_range1 hg hm h hs) fun σV H R q => by
  obtain ⟨M, ρ, σ, st, k, ex, c, ht, q⟩ := lI.open_ q
  refine Lf.of c ht fun d st' hk v M' ρ' H' E c' r => ?_
  cases d <;> try exact False.elim hk
  cases r
  exact ⟨_, rfl, hk.1, hk.2.1, q _ _ hk.2.2 _ M' ρ' H' E c'.rep go_rng⟩
end
end Dl
end

section
set_option maxHeartbeats 4000000
namespace Dl
open PySem PySem.Spec PyProof.Rows L2 Co
def trSl (n0 : Nat) (σ : Sl) : Sl := σ.map fun o => match o with
  | some (.loc n) => if n < n0 then some (.loc n) else none
  | o => o
def sFor (it : Lv (List D)) (g : DG) (tb : DS) : DS := fun E σ st => it σ st (fun ds st1 => ∃ I : Nat → Sl → Sto → Prop, I 0 σ st1 ∧
  (∀ (i : Nat) d σ' st', ds[i]? = some d → I i σ' st' → st'.length = st1.length → g d σ' fun σ2 => tb { E with nx := fun σ3 st3 => I (i + 1) (trSl st1.length σ3) (trS st1.length st3), ct := fun σ3 st3 => I (i + 1) (trSl st1.length σ3) (trS st1.length st3), bk := E.nx } σ2 st') ∧
  ∀ σ' st', I ds.length σ' st' → st'.length = st1.length → E.nx σ' st') (exE E σ)
def sWhile (c : DT) (tb : DS) : DS := fun E σ st => ∃ I : Nat → Sl → Sto → Prop, (∃ m, I m σ st) ∧
  ∀ m σ' st', I m σ' st' → st'.length = st.length → c σ' st' (fun b st2 => two b (tb { E with nx := fun σ3 st3 => ∃ m', m' < m ∧ I m' (trSl st.length σ3) (trS st.length st3), ct := fun σ3 st3 => ∃ m', m' < m ∧ I m' (trSl st.length σ3) (trS st.length st3), bk := E.nx } σ' st2) (E.nx σ' st2)) (exE E σ')
def wipeD (σ : Sl) : List Nat → Sl
  | [] => σ
  | v :: vs => (wipeD σ vs).set v none
def dYes : DT := fun _ st k _ => k true st
def exF : DX := fun _ _ _ => False
def lcB (ds : List D) (g : DG) (tt : DT) (te : DD) (vs : List Nat) (σ : Sl) (st : Sto) (k : List D → Sto → Prop) : Prop := ∃ I : Nat → List D → Sto → Prop, I 0 [] st ∧
  (∀ (i : Nat) d acc st', ds[i]? = some d → I i acc st' → st'.length = st.length → g d (wipeD σ vs) fun σ2 => tt σ2 st' (fun b st2 => two b (te σ2 st2 (fun y st3 => acc.length ≤ 1000000 ∧ I (i + 1) (acc ++ [y]) (trS st.length st3)) exF) (I (i + 1) acc (trS st.length st2))) exF) ∧
  ∀ acc st', I ds.length acc st' → st'.length = st.length → k acc st'
def dLc (it : Lv (List D)) (g : DG) (tt : DT) (te : DD) (vs : List Nat) : DD := fun σ st k ex => it σ st (fun ds st1 => lcB ds g tt te vs σ st1 fun acc st' => k (.lst acc) st') ex
abbrev W0 : WX := fun _ _ _ _ => False
section
variable {N : Kn} {Wx : WX} {M H M' H' : Hp} {ρ ρ' : List Addr} {σ : Sl} {st : Sto} {σV : L2.St} {ex : DX}
theorem trSl_ok {n0 : Nat} (h : Rs N M ρ σ σV) : Rs N M (ρ.take n0) (trSl n0 σ) σV := by
  refine ⟨by simp [trSl, h.1], fun i w e => ?_⟩
  unfold trSl at e
  rw [List.getElem?_map] at e
  cases z : σ[i]? with
  | none => rw [z] at e; cases e
  | some o =>
    rw [z, Option.map_some, Option.some.injEq] at e
    cases o with
    | none => cases e
    | some w' =>
      obtain ⟨v, h1, h2⟩ := h.2 i w' z
      refine ⟨v, h1, ?_⟩
      cases w' with
      | im d => cases e; exact h2
      | dead => cases e; exact h2
      | loc n =>
        simp only at e
        split at e
        · rename_i hn
          cases e
          obtain ⟨a, ha, rfl⟩ := h2
          exact ⟨a, by rw [List.getElem?_take_of_lt hn]; exact ha, rfl⟩
        · cases e
theorem GoD.item {J : It} {ds : List D} {M1 H1 : Hp} {ρ1 : List Addr} (g : GoD N J M ds) (e : Ext M ρ H M1 ρ1 H1) (r : Rep N M1 ρ1 st H1) {i : Nat} {v : V} {H2 : Hp} (hi : i < ds.length) (y : J.yld i H1 v H2) :
    ∃ d M2, ds[i]? = some d ∧ Ext M1 ρ1 H1 M2 ρ1 H2 ∧ Rep N M2 ρ1 st H2 ∧ Rp N M2 d v := by
  obtain ⟨d, h1, h2⟩ := g.yld i M1 H1 v H2 e.mm r.sub hi y
  rcases h2 with ⟨rfl, h2⟩ | ⟨T, xs, es, hT, rfl, rfl, rfl, h2⟩
  · exact ⟨d, M1, h1, Ext.refl, r, h2⟩
  · exact ⟨_, _, h1, Ext.new r.sub hT, r.new hT, ⟨T, xs, rfl, .inl upd_same, h2.ext (Ext.new (ρ := ρ1) (o := .tup xs) r.sub hT)⟩⟩
end
section
variable {X : Cx} {b : Bool} {Wx : WX} {e e1 e2 e3 tg : Expr} {pos : Pos} {N : Kn}
theorem Ext.cut {M H M' H' : Hp} {ρ ρ' : List Addr} {n : Nat} (e : Ext M ρ H M' ρ' H') (h : ρ.length = n) : Ext M ρ H M' ρ H' ∧ ρ'.take n = ρ := by
  subst h
  have := e.tr
  have e2 : ρ'.take ρ.length = ρ := by
    obtain ⟨r, rfl⟩ := e.pre
    simp
  rw [e2] at this
  exact ⟨this, e2⟩
theorem s_for {it : Lv (List D)} {vs : List Nat} {g : DG} {gV : TG} {tb : DS} {body : List Stmt} (g2 : GOk N vs g gV) (hp : PassesOwn (model X.prog X.w) X.A X.env X.xe) (hc : X.calm = true) (hi : PI X tg e (lI N Wx it)) (g1 : PG X tg gV) (hb : PSs X body (lS N Wx tb))
    (hs : ∀ x, foldedSetIterable e X.env x = pure x := by intro _; rfl) : PS X (.For tg e body [] pos) (lS N Wx (sFor it g tb)) := by
  refine PS.imp (ps_for hp hc hi g1 hb hs) fun D σV H h => ?_
  obtain ⟨M, ρ, σ, st, E, r, s, h, l⟩ := h
  refine ⟨M, ρ, σ, st, _, _, l.kx r s, h, fun ds st1 hk J M1 ρ1 H1 E1 r1 gd => ?_⟩
  obtain ⟨I, h0, hstep, hend⟩ := hk
  have l1 := l.step E1
  have hρ1 := r1.len
  refine ⟨fun i m σV' H' => m = ds.length - i ∧ i ≤ ds.length ∧ ∃ M' σ' st', Ext M1 ρ1 H1 M' ρ1 H' ∧ Rep N M' ρ1 st' H' ∧ Rs N M' ρ1 σ' σV' ∧ I i σ' st', ⟨ds.length, by simp, Nat.zero_le _, M1, σ, st1, Ext.refl, r1, s.ext E1, h0⟩, ?_⟩
  rintro i m σV' H' ⟨rfl, hi, M', σ', st', E', r', s', hI⟩
  have hlen : st'.length = st1.length := by rw [← r'.len, r1.len]
  by_cases hlt : i < ds.length
  · refine .inr ⟨gd.go i M' H' E'.mm r'.sub hlt, fun σV3 H3 => ∃ M3 σ3 st3, Ext M1 ρ1 H1 M3 ρ1 H3 ∧ Rep N M3 ρ1 st3 H3 ∧ Rs N M3 ρ1 σ3 σV3 ∧ I (i + 1) σ3 st3, fun σV3 H3 q => ⟨ds.length - (i + 1), by omega, rfl, hlt, q⟩, fun v H2 y => ?_⟩
    obtain ⟨d, M2, hd, E2, r2, rd⟩ := gd.item E' r' hlt y
    refine g2.ok rd r2.sub (s'.ext E2) (hstep i d σ' st' hd hI hlen) fun σ2 h2 σV2 s2 _ => ?_
    have E12 := E'.trans E2
    have l2 := l1.step E12
    have turn : ∀ σ3 st3, I (i + 1) (trSl st1.length σ3) (trS st1.length st3) → ∀ M3 ρ3 H3 σV3, Ext M2 ρ1 H2 M3 ρ3 H3 → Rep N M3 ρ3 st3 H3 → Rs N M3 ρ3 σ3 σV3 → ∃ M3 σ3 st3, Ext M1 ρ1 H1 M3 ρ1 H3 ∧ Rep N M3 ρ1 st3 H3 ∧ Rs N M3 ρ1 σ3 σV3 ∧ I (i + 1) σ3 st3 := fun σ3 st3 hI3 M3 ρ3 H3 σV3 E3 r3 s3 => by
      obtain ⟨E4, e4⟩ := (E12.trans E3).cut hρ1
      have q1 := r3.tr st1.length
      have q2 := trSl_ok (n0 := st1.length) s3
      rw [e4] at q1 q2
      exact ⟨M3, _, _, E4, q1, q2, hI3⟩
    exact lS.of (E := { E with nx := fun σ3 st3 => I (i + 1) (trSl st1.length σ3) (trS st1.length st3), ct := fun σ3 st3 => I (i + 1) (trSl st1.length σ3) (trS st1.length st3), bk := E.nx })
      ⟨turn, l2.rt, l2.ex, l2.nx, turn⟩ r2 s2 h2
  · have e : i = ds.length := by omega
    subst e
    exact .inl ⟨gd.stop _ M' H' E'.mm r'.sub (Nat.le_refl _), l1.nx _ _ (hend σ' st' hI hlen) M' ρ1 H' σV' E' r' s'⟩
theorem s_while {c : DT} {tb : DS} {body : List Stmt} (hp : PassesOwn (model X.prog X.w) X.A X.env X.xe) (hc : PT X e (lT N Wx c)) (hb : PSs X body (lS N Wx tb)) : PS X (.While e body [] pos) (lS N Wx (sWhile c tb)) := PS.imp (Co.s_while hp hc hb) fun D σV H h => by
  obtain ⟨M, ρ, σ, st, E, r, s, ⟨I, ⟨m0, h0⟩, hstep⟩, l⟩ := h
  refine ⟨fun m σV' H' => ∃ M' σ' st', Ext M ρ H M' ρ H' ∧ Rep N M' ρ st' H' ∧ Rs N M' ρ σ' σV' ∧ I m σ' st', ⟨m0, M, σ, st, Ext.refl, r, s, h0⟩, ?_⟩
  rintro m σV' H' ⟨M', σ', st', E', r', s', hI⟩
  have hlen : st'.length = st.length := by rw [← r'.len, r.len]
  have l' := l.step E'
  refine Lf.of (l'.kx r' s') (hstep m σ' st' hI hlen) fun b st2 hk v M2 ρ2 H2 E2 c2 rv => ?_
  rw [show v = b from rv]
  refine ⟨fun z => ?_, fun z => l'.nx _ _ (hk.2 z) M2 ρ2 H2 σV' E2 c2.rep c2.rs⟩
  have l2 := l'.step E2
  have E12 := E'.trans E2
  have turn : ∀ σ3 st3, (∃ m', m' < m ∧ I m' (trSl st.length σ3) (trS st.length st3)) → ∀ M3 ρ3 H3 σV3, Ext M2 ρ2 H2 M3 ρ3 H3 → Rep N M3 ρ3 st3 H3 → Rs N M3 ρ3 σ3 σV3 → ∃ m', m' < m ∧ ∃ M' σ' st', Ext M ρ H M' ρ H3 ∧ Rep N M' ρ st' H3 ∧ Rs N M' ρ σ' σV3 ∧ I m' σ' st' := fun σ3 st3 ⟨m', hm, hI3⟩ M3 ρ3 H3 σV3 E3 r3 s3 => by
    obtain ⟨E4, e4⟩ := (E12.trans E3).cut r.len
    have q1 := r3.tr st.length
    have q2 := trSl_ok (n0 := st.length) s3
    rw [e4] at q1 q2
    exact ⟨m', hm, M3, _, _, E4, q1, q2, hI3⟩
  exact lS.of (E := { E with nx := fun σ3 st3 => ∃ m', m' < m ∧ I m' (trSl st.length σ3) (trS st.length st3), ct := fun σ3 st3 => ∃ m', m' < m ∧ I m' (trSl st.length σ3) (trS st.length st3), bk := E.nx })
    ⟨turn, l2.rt, l2.ex, l2.nx, turn⟩ c2.rep c2.rs (hk.1 z)
def fAddI : F2 := fun x y k => match x, y with
  | .int i, .int j => k (.int (i + j))
  | _, _ => False
theorem wipe_rs {M : Hp} {ρ : List Addr} {σ : Sl} {σV : L2.St} (h : Rs N M ρ σ σV) : ∀ vs : List Nat, Rs N M ρ (wipeD σ vs) (wipe σV vs)
  | [] => h
  | v :: vs => (wipe_rs h vs).unset v none
theorem lc_lift {it : Lv (List D)} {g : DG} {gV : TG} {tt : DT} {te : DD} {vs : List Nat} {K : List D → Sto → Prop} {σV : L2.St} {H : Hp} {Q : VK} {M : Hp} {ρ : List Addr} {σ : Sl} {st : Sto} {ex : DX} (g2 : GOk N vs g gV) (c : Kx N Wx M ρ σ st H σV ex)
    (ht : it σ st (fun ds st1 => lcB ds g tt te vs σ st1 K) ex)
    (q : ∀ acc st', K acc st' → ∀ p M' ρ' H' xs, Ext M ρ H M' ρ' H' → Rep N M' ρ' st' H' → M' p = none → p ∉ ρ' → H p = none → H' p = some (.lst xs) → Rps N M' acc xs → Q (.ref p) H') :
    uLc (lI N Wx it) gV (lT N W0 tt) (lD N W0 te) vs σV H Q := by
  refine ⟨M, ρ, σ, st, _, _, c, ht, fun ds st1 hk J M1 ρ1 H1 E1 r1 gd D hD => ?_⟩
  obtain ⟨I, h0, hstep, hend⟩ := hk
  have hm1 := r1.non hD
  have hn1 : D ∉ ρ1 := fun z => r1.mem z hD
  have hH : H D = none := by
    cases z : H D with
    | none => rfl
    | some o =>
      by_cases w : D ∈ ρ
      · exact absurd (E1.pre.mem w) hn1
      · rw [E1.fr D o z w] at hD; cases hD
  have rD : ∀ {M' : Hp} {st' : Sto} {H' : Hp} {xs : List V}, Rep N M' ρ1 st' H' → M' D = none → Rep N M' ρ1 st' (upd H' D (.lst xs)) := fun {M' st' H' xs} r hm => by
    refine ⟨fun b u z => ?_, r.len, r.inj, fun i a o h1 h2 => ?_⟩
    · have hb : b ≠ D := fun w => by rw [w, hm] at z; cases z
      rw [upd_ne hb]
      exact r.sub b u z
    · have q := r.ob i a o h1 h2
      have ha : a ≠ D := fun w => hn1 (by rw [← w]; exact List.mem_of_getElem? h1)
      exact q.mono (Same.refl _) (Pre.refl _) (fun z => z) fun u hu => by rw [upd_ne ha]; exact hu
  refine ⟨fun i m H' => m = ds.length - i ∧ i ≤ ds.length ∧ ∃ M' st' acc xs, Ext M1 ρ1 H1 M' ρ1 H' ∧ Rep N M' ρ1 st' H' ∧ M' D = none ∧ H' D = some (.lst xs) ∧ Rps N M' acc xs ∧ I i acc st',
    ⟨ds.length, by simp, Nat.zero_le _, M1, st1, [], [], ⟨Same.refl _, Pre.refl _, (Fr.refl _ _).new hD, fun _ h => .inl h, fun _ h => .inl h⟩, rD r1 hm1, hm1, upd_same, rfl, h0⟩, ?_⟩
  rintro i m H' ⟨rfl, hi, M', st', acc, xs, E', r', hm', hD', ra, hI⟩
  have hlen : st'.length = st1.length := by rw [← r'.len, r1.len]
  by_cases hlt : i < ds.length
  · refine .inr ⟨gd.go i M' H' E'.mm r'.sub hlt, fun H3 => ∃ M3 st3 acc xs, Ext M1 ρ1 H1 M3 ρ1 H3 ∧ Rep N M3 ρ1 st3 H3 ∧ M3 D = none ∧ H3 D = some (.lst xs) ∧ Rps N M3 acc xs ∧ I (i + 1) acc st3, fun H3 q => ⟨ds.length - (i + 1), by omega, rfl, hlt, q⟩, fun v H2 y => ?_⟩
    obtain ⟨d, M2, hd, E2, r2, rd⟩ := gd.item E' r' hlt y
    have keep : ∀ {M3 : Hp} {ρ3 : List Addr} {H3 : Hp}, Ext M' ρ1 H' M3 ρ3 H3 → H3 D = some (.lst xs) ∧ M3 D = none := fun {M3 ρ3 H3} E3 => ⟨E3.fr D _ hD' hn1, by
      cases z : M3 D with
      | none => rfl
      | some u =>
        rcases E3.nw D (by rw [z]; exact fun w => nomatch w) with w | w | w
        · exact absurd hm' w
        · rw [hD'] at w; cases w
        · exact absurd w hn1⟩
    refine g2.ok rd r2.sub (wipe_rs (c.rs.ext (E1.trans (E'.trans E2))) vs) (hstep i d acc st' hd hI hlen) fun σ2 h2 σV2 s2 hw => ⟨by rw [hw, wipe_wipe], ?_⟩
    have k2 : Kx N W0 M2 ρ1 σ2 st' H2 σV2 exF := ⟨r2, s2, fun _ _ _ h => False.elim h⟩
    refine Lf.of k2 h2 fun bb st2 hk2 v2 M3 ρ3 H3 E3 c3 r3 => ?_
    rw [show v2 = bb from r3]
    refine ⟨fun z => Lf.of c3 (hk2.1 z) fun y st3 hk3 yv M4 ρ4 H4 E4 c4 r4 => ?_, fun z => ?_⟩
    · have EE := E2.trans (E3.trans E4)
      obtain ⟨g3, g4⟩ := keep EE
      obtain ⟨E5, e5⟩ := (E'.trans EE).cut r1.len
      have q1 := c4.rep.tr st1.length
      rw [e5] at q1
      have ra4 := (Rps.ext ra EE).append (Rps.cons r4 .nil)
      refine ⟨xs, g3, by rw [ra.length, sizeLine_eq]; omega, M4, _, _, _, ⟨E5.mm, E5.pre, E5.fr.loc hD, E5.nw, E5.rn⟩, rD q1 g4, g4, upd_same, ra4, hk3.2⟩
    · have EE := E2.trans E3
      obtain ⟨g3, g4⟩ := keep EE
      obtain ⟨E5, e5⟩ := (E'.trans EE).cut r1.len
      have q1 := c3.rep.tr st1.length
      rw [e5] at q1
      exact ⟨M3, _, _, xs, E5, q1, g4, g3, Rps.ext ra EE, hk2.2 z⟩
  · have e : i = ds.length := by omega
    subst e
    exact .inl ⟨gd.stop _ M' H' E'.mm r'.sub (Nat.le_refl _), q _ _ (hend acc st' hI hlen) D M' ρ1 H' xs (E1.trans E') r' hm' hn1 hH hD' ra⟩
theorem Rep.adopt {M H : Hp} {ρ : List Addr} {st : Sto} (r : Rep N M ρ st H) {p : Addr} {u : HO} (hm : M p = Option.none) (hn : p ∉ ρ) (hu : H p = some u) : Rep N (upd M p u) ρ st H := by
  refine ⟨fun b u' e => ?_, r.len, r.inj, fun i a o h1 h2 => ?_⟩
  · by_cases z : b = p
    · subst z
      rw [upd_same] at e
      cases e
      exact .inl hu
    · rw [upd_ne z] at e
      exact r.sub b u' e
  · have ha : a ≠ p := fun w => hn (by rw [← w]; exact List.mem_of_getElem? h1)
    exact (r.ob i a o h1 h2).mono (same_grow0 hm) (Pre.refl _) (fun z => by rw [upd_ne ha]; exact z) fun u hu => hu
theorem lc_D {it : Lv (List D)} {g : DG} {gV : TG} {tt : DT} {te : DD} {vs : List Nat} {σV : L2.St} {H : Hp} {Q : VK} (g2 : GOk N vs g gV) (h : lD N Wx (dLc it g tt te vs) σV H Q) : uLc (lI N Wx it) gV (lT N W0 tt) (lD N W0 te) vs σV H Q := by
  obtain ⟨M, ρ, σ, st, k, ex, c, ht, q⟩ := Kx.open_ h
  refine lc_lift g2 c ht fun acc st' hk p M' ρ' H' xs E r hm hn hH hp ra => ?_
  have E2 : Ext M ρ H (upd M' p (.lst xs)) ρ' H' := ⟨E.mm.trans (same_grow0 hm), E.pre, E.fr, fun a z => by
    by_cases w : a = p
    · exact .inr (.inl (by rw [w]; exact hH))
    · rw [upd_ne w] at z; exact E.nw a z, E.rn⟩
  exact q _ _ hk _ _ ρ' H' E2 (c.step E2 (r.adopt hm hn hp)) ⟨p, xs, rfl, upd_same, ra.mono (same_grow0 hm)⟩
theorem yes_ok {N : Kn} : ∀ σV H Q, lT N W0 dYes σV H Q → tYes σV H Q := fun σV H Q h => by
  obtain ⟨M, ρ, σ, st, k, ex, c, ht, q⟩ := Kx.open_ h
  exact q _ _ ht _ M ρ H Ext.refl c rfl
theorem PTs.imp {es : List Expr} {t t' : TT} (h : PTs X es t) (i : ∀ σ H Q, t' σ H Q → t σ H Q) : PTs X es t' := ⟨fun pins s σ H Q I q => h.run pins s σ H Q I (i σ H Q q)⟩
theorem ts_nil {N : Kn} : PTs X [] (lT N W0 dYes) := PTs.imp pts_nil yes_ok
theorem ts_one {N : Kn} {t : DT} (h : PT X e (lT N W0 t)) : PTs X [e] (lT N W0 t) := pts_one h
section
variable {elt iter : Expr} {ifs : List Expr} {scope : Scope} {own : List (Str × Nat)} {it : Lv (List D)} {g : DG} {gV : TG} {tt : DT} {te : DD}
theorem e_lcD (g2 : GOk N (own.map (·.2)) g gV) (hc : X.calm = true) (hN : X.N.Nodup) (hi : PI X tg iter (lI N Wx it)) (ok : BlkOk X.N X.env.scope scope own)
    (hg : ∀ (s : Shared) (H : Hp) (C : Addr) (cl : List (Str × Addr)) (fp : List Addr), PG (X.blk s H scope (compEnvC scope cl C X.env) fp) tg gV) (ht : ∀ (s : Shared) (H : Hp) (C : Addr) (cl : List (Str × Addr)) (fp : List Addr), PTs (X.blk s H scope (compEnvC scope cl C X.env) fp) ifs (lT N W0 tt))
    (he : ∀ (s : Shared) (H : Hp) (C : Addr) (cl : List (Str × Addr)) (fp : List Addr), PE (X.blk s H scope (compEnvC scope cl C X.env) fp) elt (lD N W0 te)) (hs : ∀ x, foldedSetIterable iter X.env x = pure x := by intro _; rfl) :
    PE X (.ListComp elt [⟨tg, iter, ifs, 0⟩] scope pos) (lD N Wx (dLc it g tt te (own.map (·.2)))) := PE.imp (Co.e_lc hc hN hi ok hg ht he hs) fun _ _ _ => lc_D g2
variable {i : Nat} {y : Str} {py spos : Pos}
end
end
end Dl
end

section
set_option maxHeartbeats 4000000
namespace Dl
open PySem PySem.Spec PyProof.Rows L2 Co
mutual
def eqvD : D → D → Bool
  | .non, .non => true
  | .bl a, .bl b => a == b
  | .bl a, .int j => (if a then 1 else 0) == j
  | .int i, .bl b => i == (if b then 1 else 0)
  | .int i, .int j => i == j
  | .str x, .str y => x == y
  | .lst xs, .lst ys => eqvDs xs ys
  | .tup xs, .tup ys => eqvDs xs ys
  | _, _ => false
def eqvDs : List D → List D → Bool
  | [], [] => true
  | x :: xs, y :: ys => eqvD x y && eqvDs xs ys
  | _, _ => false
end
def shp : Nat → D → Bool
  | _, .non => true
  | _, .bl _ => true
  | _, .int _ => true
  | _, .str _ => true
  | n + 1, .tup ds => ds.all (shp n)
  | n + 1, .lst ds => ds.all (shp n)
  | _, _ => false
theorem shp_mono : ∀ (n : Nat) (d : D), shp n d = true → shp (n + 1) d = true
  | n, .non, _ => rfl
  | n, .bl _, _ => rfl
  | n, .int _, _ => rfl
  | n, .str _, _ => rfl
  | 0, .tup ds, h => by cases h
  | 0, .lst ds, h => by cases h
  | n + 1, .tup ds, h => List.all_eq_true.mpr fun d hd => shp_mono n d (List.all_eq_true.mp h d hd)
  | n + 1, .lst ds, h => List.all_eq_true.mpr fun d hd => shp_mono n d (List.all_eq_true.mp h d hd)
  | 0, .ty _, h => by cases h
  | n + 1, .ty _, h => by cases h
  | 0, .glo _, h => by cases h
  | n + 1, .glo _, h => by cases h
  | 0, .scr _, h => by cases h
  | n + 1, .scr _, h => by cases h
  | 0, .dct _ _, h => by cases h
  | n + 1, .dct _ _, h => by cases h
  | 0, .dcT _ _, h => by cases h
  | n + 1, .dcT _ _, h => by cases h
  | 0, .ins _ _ _, h => by cases h
  | 0, .exc _ _ _ _ _, h => by cases h
  | n + 1, .ins _ _ _, h => by cases h
  | n + 1, .exc _ _ _ _ _, h => by cases h
mutual
theorem eqvD_refl : ∀ (d : D) (n : Nat), shp n d = true → eqvD d d = true
  | .non, _, _ => rfl
  | .bl b, _, _ => by simp [eqvD]
  | .int i, _, _ => by simp [eqvD]
  | .str x, _, _ => by simp [eqvD]
  | .tup ds, 0, h => by cases h
  | .lst ds, 0, h => by cases h
  | .tup ds, n + 1, h => by rw [eqvD]; exact eqvDs_refl ds n h
  | .lst ds, n + 1, h => by rw [eqvD]; exact eqvDs_refl ds n h
  | .ty _, n, h => by cases n <;> cases h
  | .glo _, n, h => by cases n <;> cases h
  | .scr _, n, h => by cases n <;> cases h
  | .dct _ _, n, h => by cases n <;> cases h
  | .dcT _ _, n, h => by cases n <;> cases h
  | .ins _ _ _, n, h => by cases n <;> cases h
  | .exc _ _ _ _ _, n, h => by cases n <;> cases h
theorem eqvDs_refl : ∀ (ds : List D) (n : Nat), ds.all (shp n) = true → eqvDs ds ds = true
  | [], _, _ => rfl
  | d :: ds, n, h => by
    rw [List.all_cons, Bool.and_eq_true] at h
    rw [eqvDs, eqvD_refl d n h.1, eqvDs_refl ds n h.2]
    rfl
end
theorem eqvDs_at : ∀ (xs ys : List D), eqvDs xs ys = ((List.range (min xs.length ys.length)).all (fun j => eqvD (xs.getD j .non) (ys.getD j .non)) && xs.length == ys.length)
  | [], [] => rfl
  | [], y :: ys => by simp [eqvDs]
  | x :: xs, [] => by simp [eqvDs]
  | x :: xs, y :: ys => by
    rw [eqvDs, eqvDs_at xs ys, List.length_cons, List.length_cons, Nat.succ_min_succ, List.range_succ_eq_map, List.all_cons, List.all_map]
    have e1 : ((fun j => eqvD ((x :: xs).getD j .non) ((y :: ys).getD j .non)) ∘ Nat.succ) = fun j => eqvD (xs.getD j .non) (ys.getD j .non) := by
      funext j
      simp
    rw [e1]
    have e2 : (xs.length + 1 == ys.length + 1) = (xs.length == ys.length) := by
      by_cases z : xs.length = ys.length
      · simp [z]
      · rw [beq_eq_false_iff_ne.mpr z, beq_eq_false_iff_ne.mpr (by omega)]
    rw [e2, Bool.and_assoc]
    rfl
section
variable {X : Cx} {pins : List (Addr × Obj)} {σ : L2.St} {F H : Hp} {s : Shared} {N : Kn}
mutual
theorem rp_inj (I : Inv X pins σ H s) (hK : N.K = X.K) (sub : Sub F H) : ∀ (d e : D) (n : Nat) (v : V), shp n d = true → shp n e = true → Rp N F d v → Rp N F e v → d = e
  | .non, e, n, v, h1, h2, r1, r2 => by
    cases r1
    cases e <;> first | rfl | (cases r2; done) | (obtain ⟨_, _, z, _⟩ := r2; cases z; done) | (obtain ⟨_, z, _⟩ := r2; cases z; done) | (cases n <;> cases h2 <;> done)
  | .bl b, e, n, v, h1, h2, r1, r2 => by
    cases r1
    cases e <;> first | (cases r2; rfl) | (cases r2; done) | (obtain ⟨_, _, z, _⟩ := r2; cases z; done) | (obtain ⟨_, z, _⟩ := r2; cases z; done) | (cases n <;> cases h2 <;> done)
  | .int b, e, n, v, h1, h2, r1, r2 => by
    cases r1
    cases e <;> first | (cases r2; rfl) | (cases r2; done) | (obtain ⟨_, _, z, _⟩ := r2; cases z; done) | (obtain ⟨_, z, _⟩ := r2; cases z; done) | (cases n <;> cases h2 <;> done)
  | .str b, e, n, v, h1, h2, r1, r2 => by
    cases r1
    cases e <;> first | (cases r2; rfl) | (cases r2; done) | (obtain ⟨_, _, z, _⟩ := r2; cases z; done) | (obtain ⟨_, z, _⟩ := r2; cases z; done) | (cases n <;> cases h2 <;> done)
  | .tup xs, e, 0, v, h1, h2, r1, r2 => by cases h1
  | .lst xs, e, 0, v, h1, h2, r1, r2 => by cases h1
  | .tup xs, e, n + 1, v, h1, h2, r1, r2 => by
    obtain ⟨p, vs, rfl, f1, g1⟩ := r1
    cases e <;> first | (cases r2; done) | (cases h2; done) | skip
    · obtain ⟨p2, vs2, z, f2, g2⟩ := r2
      cases z
      have := I.tuple_inj (hK ▸ sub.tup f1) (hK ▸ sub.tup f2)
      subst this
      rw [rps_inj I hK sub xs _ n vs h1 h2 g1 g2]
    · obtain ⟨p2, vs2, z, f2, g2⟩ := r2
      cases z
      obtain ⟨its, _, ⟨o, ho, hc, _⟩, _⟩ := I.tuple (hK ▸ sub.tup f1)
      obtain ⟨its2, _, ⟨o2, n2, ho2, hc2, _⟩, _⟩ := I.list (SqL.of (sub.lst1 f2))
      rw [ho] at ho2
      cases ho2
      rw [hc] at hc2
      exact absurd hc2 (by decide)
  | .lst xs, e, n + 1, v, h1, h2, r1, r2 => by
    obtain ⟨p, vs, rfl, f1, g1⟩ := r1
    cases e <;> first | (cases r2; done) | (cases h2; done) | skip
    · obtain ⟨p2, vs2, z, f2, g2⟩ := r2
      cases z
      obtain ⟨its, _, ⟨o, ho, hc, _⟩, _⟩ := I.tuple (hK ▸ sub.tup f2)
      obtain ⟨its2, _, ⟨o2, n2, ho2, hc2, _⟩, _⟩ := I.list (SqL.of (sub.lst1 f1))
      rw [ho] at ho2
      cases ho2
      rw [hc] at hc2
      exact absurd hc2 (by decide)
    · obtain ⟨p2, vs2, z, f2, g2⟩ := r2
      cases z
      rw [f1] at f2
      cases f2
      rw [rps_inj I hK sub xs _ n vs h1 h2 g1 g2]
  | .ty _, e, n, v, h1, h2, r1, r2 => by cases n <;> cases h1
  | .glo _, e, n, v, h1, h2, r1, r2 => by cases n <;> cases h1
  | .scr _, e, n, v, h1, h2, r1, r2 => by cases n <;> cases h1
  | .dct _ _, e, n, v, h1, h2, r1, r2 => by cases n <;> cases h1
  | .dcT _ _, e, n, v, h1, h2, r1, r2 => by cases n <;> cases h1
  | .ins _ _ _, e, n, v, h1, h2, r1, r2 => by cases n <;> cases h1
  | .exc _ _ _ _ _, e, n, v, h1, h2, r1, r2 => by cases n <;> cases h1
theorem rps_inj (I : Inv X pins σ H s) (hK : N.K = X.K) (sub : Sub F H) : ∀ (xs ys : List D) (n : Nat) (vs : List V), xs.all (shp n) = true → ys.all (shp n) = true → Rps N F xs vs → Rps N F ys vs → xs = ys
  | [], ys, n, vs, h1, h2, r1, r2 => by
    have : vs = [] := r1
    subst this
    have := r2.length
    exact (List.eq_nil_of_length_eq_zero (by simpa using this.symm)).symm
  | x :: xs, [], n, vs, h1, h2, r1, r2 => by
    have : vs = [] := r2
    subst this
    have := r1.length
    simp at this
  | x :: xs, y :: ys, n, vs, h1, h2, ⟨v, r, e1, a1, a2⟩, ⟨v', r', e2, b1, b2⟩ => by
    rw [e1] at e2
    cases e2
    rw [List.all_cons, Bool.and_eq_true] at h1 h2
    rw [rp_inj I hK sub x y n v h1.1 h2.1 a1 b1, rps_inj I hK sub xs ys n r h1.2 h2.2 a2 b2]
end
theorem item_eq {m : Nat} (ih : ∀ k, m + 1 = k + 1 → ∀ (A : Around) (d e : D) (v w : V) (u u' : Value), shp k d = true → shp k e = true → Rp N F d v → Rp N F e w → RelV v u → RelV w u' → A.units + k < cLine → SeqAt.EqAt A s u u' (eqvD d e)) {A : Around} {xs ys : List D} {vs vs2 : List V} {its its2 : List Value}
    (g : Rps N F xs vs) (g2 : Rps N F ys vs2) (rv : Vals vs its) (rv2 : Vals vs2 its2) (s1 : xs.all (shp m) = true) (s2 : ys.all (shp m) = true) (hn : A.units + m < cLine) (j : Nat) (j1 : j < xs.length) (j2 : j < ys.length) (h1 : j < its.toArray.size := by simpa using (by have := g.length; have := rv.length; omega)) (h2 : j < its2.toArray.size := by simpa using (by have := g2.length; have := rv2.length; omega)) :
    SeqAt.EqAt A s its.toArray[j] its2.toArray[j] (eqvD (xs.getD j .non) (ys.getD j .non)) := by
  obtain ⟨v, a1, a2⟩ := g.get (i := j) (d := xs[j]) (by simp [j1])
  obtain ⟨u, a3, a4⟩ := rv.get a1
  obtain ⟨w, b1, b2⟩ := g2.get (i := j) (d := ys[j]) (by simp [j2])
  obtain ⟨u', b3, b4⟩ := rv2.get b1
  have e1 : its.toArray[j] = u := by
    have := (List.getElem?_eq_some_iff.mp a3).2
    simpa using this
  have e2 : its2.toArray[j] = u' := by
    have := (List.getElem?_eq_some_iff.mp b3).2
    simpa using this
  have e3 : xs.getD j .non = xs[j] := by simp [List.getD, j1]
  have e4 : ys.getD j .non = ys[j] := by simp [List.getD, j2]
  rw [e1, e2, e3, e4]
  exact ih m rfl A _ _ v w u u' (List.all_eq_true.mp s1 _ (List.getElem_mem j1)) (List.all_eq_true.mp s2 _ (List.getElem_mem j2)) a2 b2 a4 b4 hn
theorem eq_both (I : Inv X pins σ H s) (hK : N.K = X.K) (sub : Sub F H) (n : Nat) (ih : ∀ m, n = m + 1 → ∀ (A : Around) (d e : D) (v w : V) (u u' : Value), shp m d = true → shp m e = true → Rp N F d v → Rp N F e w → RelV v u → RelV w u' → A.units + m < cLine → SeqAt.EqAt A s u u' (eqvD d e)) :
    ∀ (A : Around) (d e : D) (v w : V) (u u' : Value), shp n d = true → shp n e = true → Rp N F d v → Rp N F e w → RelV v u → RelV w u' → A.units + n < cLine → SeqAt.EqAt A s u u' (eqvD d e) ∧ SeqAt.RcAt A s u u' (eqvD d e) ∧ SeqAt.RcNeAt A s u u' (!eqvD d e) := by
  intro A d e v w u u' s1 s2 r1 r2 q1 q2 hn
  have hu : A.units < cLine := by omega
  have K1 : ∀ {a : Addr} {vs : List V}, H a = some (.lst vs) → SqL X.K H a vs := fun h => SqL.of h
  have K2 : ∀ {a : Addr} {vs : List V}, SqT N.K H a vs → SqT X.K H a vs := fun h => hK ▸ h
  open SeqAt in
  exact match d, e, s1, s2, r1, r2 with
  | .non, .non, s1, s2, r1, r2 => by
    cases r1; cases q1; cases r2; cases q2; exact ⟨EqAt.same _, RcAt.none_none, RcNeAt.none_none⟩
  | .non, .bl y, s1, s2, r1, r2 => by
    cases r1; cases q1; cases r2; cases q2; exact ⟨EqAt.none_bool y, RcAt.none_bool y, RcNeAt.none_bool y⟩
  | .non, .int y, s1, s2, r1, r2 => by
    cases r1; cases q1; cases r2; obtain ⟨t2, rfl⟩ := q2; exact ⟨EqAt.none_int y t2, RcAt.none_int y t2, RcNeAt.none_int y t2⟩
  | .non, .str y, s1, s2, r1, r2 => by
    cases r1; cases q1; cases r2; obtain ⟨t2, rfl⟩ := q2; exact ⟨EqAt.none_str y t2, RcAt.none_str y t2, RcNeAt.none_str y t2⟩
  | .non, .lst ys, s1, s2, r1, r2 => by
    cases r1; cases q1; obtain ⟨p2, vs2, rfl, f2, g2⟩ := r2; cases q2; obtain ⟨its2, rv2, hl2, _⟩ := I.list (K1 (sub.lst1 f2)); exact ⟨EqAt.none_list hl2.isList hu, RcAt.none_list hl2.isList hu, RcNeAt.none_list hl2.isList hu⟩
  | .non, .tup ys, s1, s2, r1, r2 => by
    cases r1; cases q1; obtain ⟨p2, vs2, rfl, f2, g2⟩ := r2; cases q2; obtain ⟨its2, rv2, hl2, _⟩ := I.tuple (K2 (sub.tup f2)); exact ⟨EqAt.none_tuple hl2 hu, RcAt.none_tuple hl2 hu, RcNeAt.none_tuple hl2 hu⟩
  | .bl x, .non, s1, s2, r1, r2 => by
    cases r1; cases q1; cases r2; cases q2; exact ⟨EqAt.bool_none x, RcAt.bool_none x, RcNeAt.bool_none x⟩
  | .bl x, .bl y, s1, s2, r1, r2 => by
    cases r1; cases q1; cases r2; cases q2; exact ⟨EqAt.bool_bool x y, RcAt.bool_bool x y, RcNeAt.bool_bool x y⟩
  | .bl x, .int y, s1, s2, r1, r2 => by
    cases r1; cases q1; cases r2; obtain ⟨t2, rfl⟩ := q2; exact ⟨EqAt.bool_int x y t2, RcAt.bool_int x y t2, RcNeAt.bool_int x y t2⟩
  | .bl x, .str y, s1, s2, r1, r2 => by
    cases r1; cases q1; cases r2; obtain ⟨t2, rfl⟩ := q2; exact ⟨EqAt.bool_str x y t2, RcAt.bool_str x y t2, RcNeAt.bool_str x y t2⟩
  | .bl x, .lst ys, s1, s2, r1, r2 => by
    cases r1; cases q1; obtain ⟨p2, vs2, rfl, f2, g2⟩ := r2; cases q2; obtain ⟨its2, rv2, hl2, _⟩ := I.list (K1 (sub.lst1 f2)); exact ⟨EqAt.bool_list x hl2.isList hu, RcAt.bool_list x hl2.isList hu, RcNeAt.bool_list x hl2.isList hu⟩
  | .bl x, .tup ys, s1, s2, r1, r2 => by
    cases r1; cases q1; obtain ⟨p2, vs2, rfl, f2, g2⟩ := r2; cases q2; obtain ⟨its2, rv2, hl2, _⟩ := I.tuple (K2 (sub.tup f2)); exact ⟨EqAt.bool_tuple x hl2 hu, RcAt.bool_tuple x hl2 hu, RcNeAt.bool_tuple x hl2 hu⟩
  | .int x, .non, s1, s2, r1, r2 => by
    cases r1; obtain ⟨t, rfl⟩ := q1; cases r2; cases q2; exact ⟨EqAt.int_none x t, RcAt.int_none x t, RcNeAt.int_none x t⟩
  | .int x, .bl y, s1, s2, r1, r2 => by
    cases r1; obtain ⟨t, rfl⟩ := q1; cases r2; cases q2; exact ⟨EqAt.int_bool x t y, RcAt.int_bool x t y, RcNeAt.int_bool x t y⟩
  | .int x, .int y, s1, s2, r1, r2 => by
    cases r1; obtain ⟨t, rfl⟩ := q1; cases r2; obtain ⟨t2, rfl⟩ := q2; exact ⟨EqAt.int_int x t y t2, RcAt.int_int x t y t2, RcNeAt.int_int x t y t2⟩
  | .int x, .str y, s1, s2, r1, r2 => by
    cases r1; obtain ⟨t, rfl⟩ := q1; cases r2; obtain ⟨t2, rfl⟩ := q2; exact ⟨EqAt.int_str x t y t2, RcAt.int_str x t y t2, RcNeAt.int_str x t y t2⟩
  | .int x, .lst ys, s1, s2, r1, r2 => by
    cases r1; obtain ⟨t, rfl⟩ := q1; obtain ⟨p2, vs2, rfl, f2, g2⟩ := r2; cases q2; obtain ⟨its2, rv2, hl2, _⟩ := I.list (K1 (sub.lst1 f2)); exact ⟨EqAt.int_list x t hl2.isList hu, RcAt.int_list x t hl2.isList hu, RcNeAt.int_list x t hl2.isList hu⟩
  | .int x, .tup ys, s1, s2, r1, r2 => by
    cases r1; obtain ⟨t, rfl⟩ := q1; obtain ⟨p2, vs2, rfl, f2, g2⟩ := r2; cases q2; obtain ⟨its2, rv2, hl2, _⟩ := I.tuple (K2 (sub.tup f2)); exact ⟨EqAt.int_tuple x t hl2 hu, RcAt.int_tuple x t hl2 hu, RcNeAt.int_tuple x t hl2 hu⟩
  | .str x, .non, s1, s2, r1, r2 => by
    cases r1; obtain ⟨t, rfl⟩ := q1; cases r2; cases q2; exact ⟨EqAt.str_none x t, RcAt.str_none x t, RcNeAt.str_none x t⟩
  | .str x, .bl y, s1, s2, r1, r2 => by
    cases r1; obtain ⟨t, rfl⟩ := q1; cases r2; cases q2; exact ⟨EqAt.str_bool x t y, RcAt.str_bool x t y, RcNeAt.str_bool x t y⟩
  | .str x, .int y, s1, s2, r1, r2 => by
    cases r1; obtain ⟨t, rfl⟩ := q1; cases r2; obtain ⟨t2, rfl⟩ := q2; exact ⟨EqAt.str_int x t y t2, RcAt.str_int x t y t2, RcNeAt.str_int x t y t2⟩
  | .str x, .str y, s1, s2, r1, r2 => by
    cases r1; obtain ⟨t, rfl⟩ := q1; cases r2; obtain ⟨t2, rfl⟩ := q2; exact ⟨EqAt.str_str x t y t2, RcAt.str_str x t y t2, RcNeAt.str_str x t y t2⟩
  | .str x, .lst ys, s1, s2, r1, r2 => by
    cases r1; obtain ⟨t, rfl⟩ := q1; obtain ⟨p2, vs2, rfl, f2, g2⟩ := r2; cases q2; obtain ⟨its2, rv2, hl2, _⟩ := I.list (K1 (sub.lst1 f2)); exact ⟨EqAt.str_list x t hl2.isList hu, RcAt.str_list x t hl2.isList hu, RcNeAt.str_list x t hl2.isList hu⟩
  | .str x, .tup ys, s1, s2, r1, r2 => by
    cases r1; obtain ⟨t, rfl⟩ := q1; obtain ⟨p2, vs2, rfl, f2, g2⟩ := r2; cases q2; obtain ⟨its2, rv2, hl2, _⟩ := I.tuple (K2 (sub.tup f2)); exact ⟨EqAt.str_tuple x t hl2 hu, RcAt.str_tuple x t hl2 hu, RcNeAt.str_tuple x t hl2 hu⟩
  | .lst xs, .non, s1, s2, r1, r2 => by
    obtain ⟨p, vs, rfl, f, g⟩ := r1; cases q1; obtain ⟨its, rv, hl, _⟩ := I.list (K1 (sub.lst1 f)); cases r2; cases q2; exact ⟨EqAt.list_none hl.isList hu, RcAt.list_none hl.isList hu, RcNeAt.list_none hl.isList hu⟩
  | .lst xs, .bl y, s1, s2, r1, r2 => by
    obtain ⟨p, vs, rfl, f, g⟩ := r1; cases q1; obtain ⟨its, rv, hl, _⟩ := I.list (K1 (sub.lst1 f)); cases r2; cases q2; exact ⟨EqAt.list_bool y hl.isList hu, RcAt.list_bool y hl.isList hu, RcNeAt.list_bool y hl.isList hu⟩
  | .lst xs, .int y, s1, s2, r1, r2 => by
    obtain ⟨p, vs, rfl, f, g⟩ := r1; cases q1; obtain ⟨its, rv, hl, _⟩ := I.list (K1 (sub.lst1 f)); cases r2; obtain ⟨t2, rfl⟩ := q2; exact ⟨EqAt.list_int y t2 hl.isList hu, RcAt.list_int y t2 hl.isList hu, RcNeAt.list_int y t2 hl.isList hu⟩
  | .lst xs, .str y, s1, s2, r1, r2 => by
    obtain ⟨p, vs, rfl, f, g⟩ := r1; cases q1; obtain ⟨its, rv, hl, _⟩ := I.list (K1 (sub.lst1 f)); cases r2; obtain ⟨t2, rfl⟩ := q2; exact ⟨EqAt.list_str y t2 hl.isList hu, RcAt.list_str y t2 hl.isList hu, RcNeAt.list_str y t2 hl.isList hu⟩
  | .lst xs, .tup ys, s1, s2, r1, r2 => by
    obtain ⟨p, vs, rfl, f, g⟩ := r1; cases q1; obtain ⟨its, rv, hl, _⟩ := I.list (K1 (sub.lst1 f)); obtain ⟨p2, vs2, rfl, f2, g2⟩ := r2; cases q2; obtain ⟨its2, rv2, hl2, _⟩ := I.tuple (K2 (sub.tup f2)); exact ⟨EqAt.list_tuple hl.isList hl2 hu, RcAt.list_tuple hl.isList hl2 hu, RcNeAt.list_tuple hl.isList hl2 hu⟩
  | .tup xs, .non, s1, s2, r1, r2 => by
    obtain ⟨p, vs, rfl, f, g⟩ := r1; cases q1; obtain ⟨its, rv, hl, _⟩ := I.tuple (K2 (sub.tup f)); cases r2; cases q2; exact ⟨EqAt.tuple_none hl hu, RcAt.tuple_none hl hu, RcNeAt.tuple_none hl hu⟩
  | .tup xs, .bl y, s1, s2, r1, r2 => by
    obtain ⟨p, vs, rfl, f, g⟩ := r1; cases q1; obtain ⟨its, rv, hl, _⟩ := I.tuple (K2 (sub.tup f)); cases r2; cases q2; exact ⟨EqAt.tuple_bool y hl hu, RcAt.tuple_bool y hl hu, RcNeAt.tuple_bool y hl hu⟩
  | .tup xs, .int y, s1, s2, r1, r2 => by
    obtain ⟨p, vs, rfl, f, g⟩ := r1; cases q1; obtain ⟨its, rv, hl, _⟩ := I.tuple (K2 (sub.tup f)); cases r2; obtain ⟨t2, rfl⟩ := q2; exact ⟨EqAt.tuple_int y t2 hl hu, RcAt.tuple_int y t2 hl hu, RcNeAt.tuple_int y t2 hl hu⟩
  | .tup xs, .str y, s1, s2, r1, r2 => by
    obtain ⟨p, vs, rfl, f, g⟩ := r1; cases q1; obtain ⟨its, rv, hl, _⟩ := I.tuple (K2 (sub.tup f)); cases r2; obtain ⟨t2, rfl⟩ := q2; exact ⟨EqAt.tuple_str y t2 hl hu, RcAt.tuple_str y t2 hl hu, RcNeAt.tuple_str y t2 hl hu⟩
  | .tup xs, .lst ys, s1, s2, r1, r2 => by
    obtain ⟨p, vs, rfl, f, g⟩ := r1; cases q1; obtain ⟨its, rv, hl, _⟩ := I.tuple (K2 (sub.tup f)); obtain ⟨p2, vs2, rfl, f2, g2⟩ := r2; cases q2; obtain ⟨its2, rv2, hl2, _⟩ := I.list (K1 (sub.lst1 f2)); exact ⟨EqAt.tuple_list hl hl2.isList hu, RcAt.tuple_list hl hl2.isList hu, RcNeAt.tuple_list hl hl2.isList hu⟩
  | .lst xs, .lst ys, s1, s2, r1, r2 => by
    have R1 := r1
    have R2 := r2
    obtain ⟨p, vs, rfl, f, g⟩ := r1; cases q1; obtain ⟨its, rv, hl, _⟩ := I.list (K1 (sub.lst1 f))
    obtain ⟨p2, vs2, rfl, f2, g2⟩ := r2; cases q2; obtain ⟨its2, rv2, hl2, _⟩ := I.list (K1 (sub.lst1 f2))
    have n1 : its.toArray.size = xs.length := by rw [← g.length, rv.length]; simp
    have n2 : its2.toArray.size = ys.length := by rw [← g2.length, rv2.length]; simp
    have rc : RcAt A s (.ref p) (.ref p2) (eqvD (.lst xs) (.lst ys)) := by
      rw [eqvD, eqvDs_at]
      by_cases hsz : xs.length = ys.length
      · rw [hsz, Nat.min_self, beq_self_eq_true, Bool.and_true, ← hsz, ← n1]
        cases n with
        | zero => cases s1
        | succ m =>
          refine RcAt.lists hl.isList hl2.isList (by omega) hu fun j j1 j2 => ?_
          rw [n1] at j1
          rw [n2] at j2
          exact item_eq ih g g2 rv rv2 s1 s2 (by have : A.in1.units = A.units + 1 := rfl; omega) j j1 j2
      · rw [beq_eq_false_iff_ne.mpr hsz, Bool.and_false]
        exact RcAt.lists_lengths hl.isList hl2.isList (by rw [n1, n2]; exact bne_iff_ne.mpr hsz) hu
    have rn : RcNeAt A s (.ref p) (.ref p2) (!eqvD (.lst xs) (.lst ys)) := by
      rw [eqvD, eqvDs_at]
      by_cases hsz : xs.length = ys.length
      · rw [hsz, Nat.min_self, beq_self_eq_true, Bool.and_true, ← hsz, ← n1]
        cases n with
        | zero => cases s1
        | succ m =>
          refine RcNeAt.lists hl.isList hl2.isList (by omega) hu fun j j1 j2 => ?_
          rw [n1] at j1
          rw [n2] at j2
          exact item_eq ih g g2 rv rv2 s1 s2 (by have : A.in1.units = A.units + 1 := rfl; omega) j j1 j2
      · rw [beq_eq_false_iff_ne.mpr hsz, Bool.and_false]
        exact RcNeAt.lists_lengths hl.isList hl2.isList (by rw [n1, n2]; exact bne_iff_ne.mpr hsz) hu
    refine ⟨?_, rc, rn⟩
    by_cases hp : p = p2
    · subst hp
      rw [rp_inj I hK sub _ _ n _ s1 s2 R1 R2, eqvD_refl _ n s2]
      exact EqAt.same _
    · exact EqAt.of_refs hp rc
  | .tup xs, .tup ys, s1, s2, r1, r2 => by
    have R1 := r1
    have R2 := r2
    obtain ⟨p, vs, rfl, f, g⟩ := r1; cases q1; obtain ⟨its, rv, hl, _⟩ := I.tuple (K2 (sub.tup f))
    obtain ⟨p2, vs2, rfl, f2, g2⟩ := r2; cases q2; obtain ⟨its2, rv2, hl2, _⟩ := I.tuple (K2 (sub.tup f2))
    have n1 : its.toArray.size = xs.length := by rw [← g.length, rv.length]; simp
    have n2 : its2.toArray.size = ys.length := by rw [← g2.length, rv2.length]; simp
    have rc : RcAt A s (.ref p) (.ref p2) (eqvD (.tup xs) (.tup ys)) := by
      rw [eqvD, eqvDs_at, ← n1, ← n2]
      cases n with
      | zero => cases s1
      | succ m =>
        refine RcAt.tuples (show s.heap.IsTuple p its.toArray from hl) (show s.heap.IsTuple p2 its2.toArray from hl2) hu fun j j1 j2 => ?_
        rw [n1] at j1
        rw [n2] at j2
        exact item_eq ih g g2 rv rv2 s1 s2 (by have : A.in1.units = A.units + 1 := rfl; omega) j j1 j2
    have rn : RcNeAt A s (.ref p) (.ref p2) (!eqvD (.tup xs) (.tup ys)) := by
      rw [eqvD, eqvDs_at, ← n1, ← n2]
      cases n with
      | zero => cases s1
      | succ m =>
        refine RcNeAt.tuples (show s.heap.IsTuple p its.toArray from hl) (show s.heap.IsTuple p2 its2.toArray from hl2) hu fun j j1 j2 => ?_
        rw [n1] at j1
        rw [n2] at j2
        exact item_eq ih g g2 rv rv2 s1 s2 (by have : A.in1.units = A.units + 1 := rfl; omega) j j1 j2
    refine ⟨?_, rc, rn⟩
    by_cases hp : p = p2
    · subst hp
      rw [rp_inj I hK sub _ _ n _ s1 s2 R1 R2, eqvD_refl _ n s2]
      exact EqAt.same _
    · exact EqAt.of_refs hp rc
  | .ty _, _, s1, _, _, _ => by cases n <;> cases s1
  | .glo _, _, s1, _, _, _ => by cases n <;> cases s1
  | .scr _, _, s1, _, _, _ => by cases n <;> cases s1
  | .dct _ _, _, s1, _, _, _ => by cases n <;> cases s1
  | .dcT _ _, _, s1, _, _, _ => by cases n <;> cases s1
  | .ins _ _ _, _, s1, _, _, _ => by cases n <;> cases s1
  | .exc _ _ _ _ _, _, s1, _, _, _ => by cases n <;> cases s1
  | _, .ty _, _, s2, _, _ => by cases n <;> cases s2
  | _, .glo _, _, s2, _, _ => by cases n <;> cases s2
  | _, .scr _, _, s2, _, _ => by cases n <;> cases s2
  | _, .dct _ _, _, s2, _, _ => by cases n <;> cases s2
  | _, .dcT _ _, _, s2, _, _ => by cases n <;> cases s2
  | _, .ins _ _ _, _, s2, _, _ => by cases n <;> cases s2
  | _, .exc _ _ _ _ _, _, s2, _, _ => by cases n <;> cases s2
end
end Dl
end

section
set_option maxHeartbeats 4000000
namespace Dl
open PySem PySem.Spec PyProof.Rows L2 Co
section
variable {X : Cx} {pins : List (Addr × Obj)} {F H : Hp} {s : Shared} {N : Kn}
theorem eqAt_d {σ : L2.St} (I : Inv X pins σ H s) (hK : N.K = X.K) (sub : Sub F H) : ∀ (n : Nat) (A : Around) (d e : D) (v w : V) (u u' : Value), shp n d = true → shp n e = true → Rp N F d v → Rp N F e w → RelV v u → RelV w u' → A.units + n < cLine → SeqAt.EqAt A s u u' (eqvD d e)
  | 0 => fun A d e v w u u' s1 s2 r1 r2 q1 q2 h => (eq_both I hK sub 0 (fun m e => absurd e (by omega)) A d e v w u u' s1 s2 r1 r2 q1 q2 h).1
  | n + 1 => fun A d e v w u u' s1 s2 r1 r2 q1 q2 h => (eq_both I hK sub (n + 1) (fun m e => by cases e; exact eqAt_d I hK sub n) A d e v w u u' s1 s2 r1 r2 q1 q2 h).1
theorem rcAt_d {σ : L2.St} (I : Inv X pins σ H s) (hK : N.K = X.K) (sub : Sub F H) (n : Nat) {A : Around} {d e : D} {v w : V} {u u' : Value} (s1 : shp n d = true) (s2 : shp n e = true) (r1 : Rp N F d v) (r2 : Rp N F e w) (q1 : RelV v u) (q2 : RelV w u') (h : A.units + n < cLine) :
    SeqAt.RcAt A s u u' (eqvD d e) ∧ SeqAt.RcNeAt A s u u' (!eqvD d e) := by
  cases n with
  | zero => exact (eq_both I hK sub 0 (fun m e => absurd e (by omega)) A d e v w u u' s1 s2 r1 r2 q1 q2 h).2
  | succ n => exact (eq_both I hK sub (n + 1) (fun m e => by cases e; exact eqAt_d I hK sub n) A d e v w u u' s1 s2 r1 r2 q1 q2 h).2
end
def eqSD : D → D → Option Bool
  | .non, .non => some true | .non, .int _ => some false | .int _, .non => some false | .non, .bl _ => some false | .bl _, .non => some false | .non, .str _ => some false | .str _, .non => some false
  | .int i, .int j => some (decide (i = j)) | .bl i, .bl j => some (decide (i = j)) | .str i, .str j => some (decide (i = j))
  | .int _, .str _ => some false | .str _, .int _ => some false | .bl _, .str _ => some false | .str _, .bl _ => some false
  | _, _ => none
def cEq : C2 := fun x y k => match eqSD x y with
  | some b => k b
  | none => shp 60 x = true ∧ shp 60 y = true ∧ k (eqvD x y)
def cNe : C2 := fun x y k => match eqSD x y with
  | some b => k (!b)
  | none => shp 60 x = true ∧ shp 60 y = true ∧ k (!eqvD x y)
section
variable {X : Cx} {b : Bool} {Wx : WX} {e e1 e2 e3 : Expr} {pos : Pos} {N : Kn}
def rEqW (K : PySem.W.Frag) (neg : Bool) : R2 := fun x y H Q => ∃ (N : Kn) (F : Hp) (d e : D), N.K = K ∧ Sub F H ∧ Rp N F d x ∧ Rp N F e y ∧ shp 60 d = true ∧ shp 60 e = true ∧ Q (.bl (if neg = true then !eqvD d e else eqvD d e)) H
theorem op_eqW (hu : X.A.units + 64 < cLine) : OpR X (compareOp .Eq) (rEqW X.K false) := by
  intro pins s σ H x y v u Q I rx ry h
  obtain ⟨N, F, d, e, hK, sub, hd, he, sd, se, q⟩ := h
  exact (rcAt_d I hK sub 60 sd se hd he rx ry (by omega)).1 _ _ _ _ ⟨.bl _, H, I, rfl, q⟩
theorem op_neW (hu : X.A.units + 64 < cLine) : OpR X (compareOp .NotEq) (rEqW X.K true) := by
  intro pins s σ H x y v u Q I rx ry h
  obtain ⟨N, F, d, e, hK, sub, hd, he, sd, se, q⟩ := h
  exact (rcAt_d I hK sub 60 sd se hd he rx ry (show X.A.units + 60 < cLine by omega)).2 _ _ _ _ ⟨.bl _, H, I, rfl, q⟩
theorem eqSD_ok {F : Hp} {x y : D} {u v : V} {c : Bool} (h : eqSD x y = some c) (hx : Rp N F x u) (hy : Rp N F y v) : eqS u v = some c := by
  cases x <;> cases y <;> simp only [eqSD, Option.some.injEq, reduceCtorEq] at h <;> subst h <;> cases hx <;> cases hy <;> rfl
theorem o_eq' (hu : X.A.units + 64 < cLine) : OpR X (compareOp .Eq) (fun x y H Q => fEq x y H Q ∨ rEqW X.K false x y H Q) := OpR.or o_eq (op_eqW hu)
theorem o_ne' (hu : X.A.units + 64 < cLine) : OpR X (compareOp .NotEq) (fun x y H Q => fNe x y H Q ∨ rEqW X.K true x y H Q) := OpR.or o_ne (op_neW hu)
theorem ok_eq : CmpOk (XN X b) (fun x y H Q => fEq x y H Q ∨ rEqW X.K false x y H Q) cEq := by
  intro F H x y u v kb Q s hx hy h k
  cases z : eqSD x y with
  | some c =>
    simp only [cEq, z] at h
    refine .inl ?_
    unfold fEq
    rw [eqSD_ok z hx hy]
    exact k _ h
  | none =>
    simp only [cEq, z] at h
    exact .inr ⟨XN X b, F, x, y, rfl, s, hx, hy, h.1, h.2.1, k _ h.2.2⟩
theorem ok_ne : CmpOk (XN X b) (fun x y H Q => fNe x y H Q ∨ rEqW X.K true x y H Q) cNe := by
  intro F H x y u v kb Q s hx hy h k
  cases z : eqSD x y with
  | some c =>
    simp only [cNe, z] at h
    refine .inl ?_
    unfold fNe
    rw [eqSD_ok z hx hy]
    exact k _ h
  | none =>
    simp only [cNe, z] at h
    exact .inr ⟨XN X b, F, x, y, rfl, s, hx, hy, h.1, h.2.1, k _ h.2.2⟩
def memD (x : D) (ds : List D) : Bool := ds.any fun z => eqvD z x
def inStr (a z : Str) (k : Bool → Prop) : Prop := match a.cps.toList with
  | [c] => k (decide (c ∈ z.cps.toList))
  | _ => k (!(Builtin.Str.occurrences z a 0 z.length 1).isEmpty)
def cIn : C2 := fun x y k => match y with
  | .str z => (match x with
    | .str a => inStr a z k
    | _ => False)
  | .tup ds => shp 60 x = true ∧ ds.all (shp 60) = true ∧ k (memD x ds)
  | .lst ds => shp 60 x = true ∧ ds.all (shp 60) = true ∧ k (memD x ds)
  | _ => False
def rInW (K : PySem.W.Frag) (neg : Bool) : R2 := fun x y H Q => ∃ (N : Kn) (F : Hp) (d : D) (ds : List D), N.K = K ∧ Sub F H ∧ Rp N F d x ∧ (Rp N F (.lst ds) y ∨ Rp N F (.tup ds) y) ∧ shp 60 d = true ∧ ds.all (shp 60) = true ∧ Q (.bl (if neg = true then !memD d ds else memD d ds)) H
open Classical in
noncomputable def valEq (ds : List D) (its : List Value) (d : D) (u : Value) : Bool := if h : ∃ j : Nat, its[j]? = some u ∧ j < ds.length then eqvD (ds.getD h.choose .non) d else false
theorem any_val {pins : List (Addr × Obj)} {σ : L2.St} {F H : Hp} {s : Shared} {ds : List D} {vs : List V} {its : List Value} {d : D} (I : Inv X pins σ H s) (hK : N.K = X.K) (sub : Sub F H) (g : Rps N F ds vs) (rv : Vals vs its) (hs : ds.all (shp 60) = true) :
    its.toArray.any (valEq ds its d) = memD d ds ∧ ∀ (j : Nat) u, its[j]? = some u → ∃ e w, ds[j]? = some e ∧ Rp N F e w ∧ RelV w u ∧ valEq ds its d u = eqvD e d := by
  have n1 := g.length
  have n2 := rv.length
  have key : ∀ (j : Nat) u, its[j]? = some u → ∃ e w, ds[j]? = some e ∧ Rp N F e w ∧ RelV w u ∧ valEq ds its d u = eqvD e d := fun j u hj => by
    have hjl := (List.getElem?_eq_some_iff.mp hj).1
    have at_ : ∀ (i : Nat), its[i]? = some u → ∃ e w, ds[i]? = some e ∧ Rp N F e w ∧ RelV w u := fun i hi => by
      have hil := (List.getElem?_eq_some_iff.mp hi).1
      obtain ⟨w, a1, a2⟩ := g.get (i := i) (d := ds[i]'(by omega)) (by simp [show i < ds.length by omega])
      obtain ⟨u', a3, a4⟩ := rv.get a1
      rw [hi] at a3
      cases a3
      exact ⟨_, w, by simp [show i < ds.length by omega], a2, a4⟩
    have h : ∃ j : Nat, its[j]? = some u ∧ j < ds.length := ⟨j, hj, by omega⟩
    obtain ⟨e, w, b1, b2, b3⟩ := at_ j hj
    refine ⟨e, w, b1, b2, b3, ?_⟩
    unfold valEq
    rw [dif_pos h]
    obtain ⟨c1, c2⟩ := h.choose_spec
    obtain ⟨e', w', d1, d2, d3⟩ := at_ h.choose c1
    have ew : w' = w := by
      exact d3.inj b3
    subst ew
    have m1 := List.all_eq_true.mp hs e (List.mem_of_getElem? b1)
    have m2 := List.all_eq_true.mp hs e' (List.mem_of_getElem? d1)
    rw [show ds.getD h.choose .non = e' by simp [List.getD, d1], rp_inj I hK sub e' e 60 w' m2 m1 d2 b2]
  refine ⟨?_, key⟩
  unfold memD
  rw [← Array.any_toList]
  show its.any (valEq ds its d) = _
  have : its.map (valEq ds its d) = ds.map fun z => eqvD z d := by
    apply List.ext_getElem?
    intro j
    rw [List.getElem?_map, List.getElem?_map]
    cases z : its[j]? with
    | none =>
      have : its.length ≤ j := List.getElem?_eq_none_iff.mp z
      rw [List.getElem?_eq_none (show ds.length ≤ j by omega)]
      rfl
    | some u =>
      obtain ⟨e, w, h1, _, _, h2⟩ := key j u z
      rw [h1, Option.map_some, Option.map_some, h2]
  have a1 : its.any (valEq ds its d) = (its.map (valEq ds its d)).any id := by rw [List.any_map]; rfl
  have a2 : (ds.any fun z => eqvD z d) = (ds.map fun z => eqvD z d).any id := by rw [List.any_map]; rfl
  rw [a1, a2, this]
theorem op_inW (neg : Bool) (op : CmpOp) (hop : (op = .In ∧ neg = false) ∨ (op = .NotIn ∧ neg = true)) (hu : X.A.units + 65 < cLine) : OpR X (compareOp op) (rInW X.K neg) := by
  intro pins s σ H x y v u Q I rx ry h
  obtain ⟨N, F, d, ds, hK, sub, hd, hy, sd, sds, q⟩ := h
  have hq : ∀ c, c = memD d ds → EP X pins σ Q (.bool (if neg = true then !c else c)) s := fun c e => by
    subst e
    exact ⟨.bl _, H, I, rfl, q⟩
  rcases hy with ⟨p, vs, rfl, h1, h2⟩ | ⟨p, vs, rfl, h1, h2⟩
  · cases ry
    obtain ⟨its, rv, hl, _⟩ := I.list (SqL.of (sub.lst1 h1))
    obtain ⟨ea, key⟩ := any_val (d := d) I hK sub h2 rv sds
    have he : ∀ z, z ∈ its.toArray → SeqAt.EqAt X.A.in1 s z v (valEq ds its d z) := fun z hz => by
      obtain ⟨j, hj⟩ := List.getElem?_of_mem (show z ∈ its by simpa using hz)
      obtain ⟨e, w, k1, k2, k3, k4⟩ := key j z hj
      rw [k4]
      exact eqAt_d I hK sub 60 _ e d w x z v (List.all_eq_true.mp sds e (List.mem_of_getElem? k1)) sd k2 hd k3 rx (by have : X.A.in1.units = X.A.units + 1 := rfl; omega)
    rcases hop with ⟨rfl, rfl⟩ | ⟨rfl, rfl⟩
    · exact SeqAt.in_listAt _ hl.isList he (hq _ ea)
    · exact SeqAt.notIn_listAt _ hl.isList he (hq _ ea)
  · cases ry
    obtain ⟨its, rv, hl, _⟩ := I.tuple (hK ▸ sub.tup h1)
    obtain ⟨ea, key⟩ := any_val (d := d) I hK sub h2 rv sds
    have he : ∀ z, z ∈ its.toArray → SeqAt.EqAt X.A.in1 s z v (valEq ds its d z) := fun z hz => by
      obtain ⟨j, hj⟩ := List.getElem?_of_mem (show z ∈ its by simpa using hz)
      obtain ⟨e, w, k1, k2, k3, k4⟩ := key j z hj
      rw [k4]
      exact eqAt_d I hK sub 60 _ e d w x z v (List.all_eq_true.mp sds e (List.mem_of_getElem? k1)) sd k2 hd k3 rx (by have : X.A.in1.units = X.A.units + 1 := rfl; omega)
    rcases hop with ⟨rfl, rfl⟩ | ⟨rfl, rfl⟩
    · exact SeqAt.in_tupleAt _ (show s.heap.IsTuple p its.toArray from hl) he (hq _ ea)
    · exact SeqAt.notIn_tupleAt _ (show s.heap.IsTuple p its.toArray from hl) he (hq _ ea)
def rInSx (neg : Bool) : R2 := fun x y H Q => (∃ (c : Nat) (z : Str), x = .str ⟨#[c]⟩ ∧ y = .str z ∧ Q (.bl (if neg = true then !decide (c ∈ z.cps.toList) else decide (c ∈ z.cps.toList))) H) ∨
  ∃ i j : Str, x = .str i ∧ y = .str j ∧ Q (.bl (if neg = true then !(!(Builtin.Str.occurrences j i 0 j.length 1).isEmpty) else !(Builtin.Str.occurrences j i 0 j.length 1).isEmpty)) H
theorem op_inSx (neg : Bool) (op : CmpOp) (hop : (op = .In ∧ neg = false) ∨ (op = .NotIn ∧ neg = true)) : OpR X (compareOp op) (rInSx neg) := by
  intro pins s σ H x y v u Q I rx ry h
  rcases hop with ⟨rfl, rfl⟩ | ⟨rfl, rfl⟩
  · exact h.elim (fun h => op_in_sign pins s σ H x y v u Q I rx ry h) fun h => op_in_str pins s σ H x y v u Q I rx ry h
  · exact h.elim (fun h => op_notIn_sign pins s σ H x y v u Q I rx ry h) fun h => op_notIn_str pins s σ H x y v u Q I rx ry h
theorem in_ok (neg : Bool) {F H : Hp} {x y : D} {u v : V} {kb : Bool → Prop} {Q : VK} (s : Sub F H) (hx : Rp (XN X b) F x u) (hy : Rp (XN X b) F y v) (h : cIn x y kb) (k : ∀ c, kb c → Q (.bl (if neg = true then !c else c)) H) : rInSx neg u v H Q ∨ rInW X.K neg u v H Q := by
  cases y <;> try exact False.elim h
  · rename_i z
    cases x <;> try exact False.elim h
    rename_i a
    cases hx; cases hy
    refine .inl ?_
    have h : inStr a z kb := h
    unfold inStr at h
    split at h
    · rename_i c hc
      refine .inl ⟨c, z, ?_, rfl, k _ h⟩
      have : a = ⟨#[c]⟩ := by
        obtain ⟨⟨l⟩⟩ := a
        simp only at hc
        rw [hc]
      rw [this]
    · exact .inr ⟨a, z, rfl, rfl, k _ h⟩
  · exact .inr ⟨XN X b, F, x, _, rfl, s, hx, .inr hy, h.1, h.2.1, k _ h.2.2⟩
  · exact .inr ⟨XN X b, F, x, _, rfl, s, hx, .inl hy, h.1, h.2.1, k _ h.2.2⟩
theorem o_in (hu : X.A.units + 65 < cLine) : OpR X (compareOp .In) (fun x y H Q => rInSx false x y H Q ∨ rInW X.K false x y H Q) := OpR.or (op_inSx false .In (.inl ⟨rfl, rfl⟩)) (op_inW false .In (.inl ⟨rfl, rfl⟩) hu)
theorem o_notIn (hu : X.A.units + 65 < cLine) : OpR X (compareOp .NotIn) (fun x y H Q => rInSx true x y H Q ∨ rInW X.K true x y H Q) := OpR.or (op_inSx true .NotIn (.inr ⟨rfl, rfl⟩)) (op_inW true .NotIn (.inr ⟨rfl, rfl⟩) hu)
def cNotIn : C2 := fun x y k => cIn x y fun c => k (!c)
theorem ok_in : CmpOk (XN X b) (fun x y H Q => rInSx false x y H Q ∨ rInW X.K false x y H Q) cIn := by
  intro F H x y u v kb Q s hx hy h k
  exact in_ok false s hx hy h fun c hc => k c hc
theorem ok_notIn : CmpOk (XN X b) (fun x y H Q => rInSx true x y H Q ∨ rInW X.K true x y H Q) cNotIn := by
  intro F H x y u v kb Q s hx hy h k
  exact in_ok true s hx hy h fun c hc => k (!c) hc
def isiD : D → String → Option Bool
  | .non, c => isiS .non c
  | .bl b, c => isiS (.bl b) c
  | .int i, c => isiS (.int i) c
  | .str x, c => isiS (.str x) c
  | .tup _, c => if c = "tuple" ∨ c = "list" ∨ c = "dict" ∨ c = "int" ∨ c = "str" ∨ c = "bool" then some (decide ("tuple" = c)) else none
  | .lst _, c => if c = "tuple" ∨ c = "list" ∨ c = "dict" ∨ c = "int" ∨ c = "str" ∨ c = "bool" then some (decide ("list" = c)) else none
  | _, _ => none
def fIsi : FL := fun xs k => match xs with
  | [x, .ty c] => (match isiD x c with
    | some b => k (.bl b)
    | none => False)
  | _ => False
theorem ok_isi : CallOk (XN X b) (cIsi X.K) fIsi := by
  intro Wx M H ρ σ st σV ex ds us kd Q c hd h k
  unfold fIsi at h
  split at h
  · rename_i x cn
    obtain ⟨u, u', rfl, r, r'⟩ := RpCs.two hd
    cases r'
    cases z : isiD x cn with
    | none => simp only [z] at h
    | some bb =>
      simp only [z] at h
      have sc : ∀ v : V, isiS v cn = some bb → (∀ p, v ≠ .ref p) → cIsi X.K [v, .ty cn] H Q := fun v hv hn => by
        have q := k _ h _ M H Ext.refl c rfl
        unfold cIsi
        cases v <;> first | exact absurd rfl (hn _) | (simp only [hv]; exact q)
      cases x <;> simp only [isiD, reduceCtorEq] at z
      · cases r; exact sc _ z (fun p w => nomatch w)
      · cases r; exact sc _ z (fun p w => nomatch w)
      · cases r; exact sc _ z (fun p w => nomatch w)
      · cases r; exact sc _ z (fun p w => nomatch w)
      · obtain ⟨p, xs, rfl, h1, h2⟩ := (show Rp (XN X b) M (.tup _) u from r)
        split at z
        · rename_i hc
          simp only [Option.some.injEq] at z
          subst z
          exact isi_t (c.rep.sub.tup h1) hc (k _ h _ M H Ext.refl c rfl)
        · cases z
      · obtain ⟨p, xs, rfl, h1, h2⟩ := r
        split at z
        · rename_i hc
          simp only [Option.some.injEq] at z
          subst z
          exact isi_l (SqL.of ((Fv.sub (ρ := ρ) c.rep.sub).lst1 h1)) hc (k _ h _ M H Ext.refl c rfl)
        · cases z
  · exact h.elim
end
def pf_take : Pf := fun ws st k _ => match ws, st with
  | [.loc 0, .im (.int m)], [.pool] => 0 < m ∧ m < 2 ^ 250 ∧ ∀ r : Int, 0 ≤ r → r < m → k (.im (.int r)) [.pool]
  | _, _ => False
def pf_pool : Pf := fun ws st k _ => match ws, st with
  | [.im (.scr ns)], [] => ns.length ≤ 63 ∧ k (.loc 0) [.pool]
  | _, _ => False
section
variable {N : Kn}
theorem take_ok {vs : List V} {H : Hp} {Q : VK} {E : XK} (h : spD N pf_take vs H Q E) : sp_take 2 vs H Q E := by
  obtain ⟨M, ρ, ws, st, k, ex, r, rw, hf, hk, _⟩ := h
  unfold pf_take at hf
  split at hf
  · rename_i m
    obtain ⟨h1, h2, h3⟩ := hf
    obtain ⟨v, us, rfl, ⟨a, ha, rfl⟩, v2, us2, rfl, hv2, hus⟩ := rw
    cases hv2
    obtain rfl : us2 = [] := hus
    obtain ⟨hm, q, ns, i, d, s, p1, p2, p3, p4, p5, p6, p7⟩ := r.ob 0 a _ ha rfl
    have hne : q ≠ a := fun z => by rw [z, hm] at p1; cases p1
    refine ⟨by decide, q, ⟨ns, i, d, s, ⟨p2, r.sub.lst1 p1, hne, p3, p4, p5, p6, p7⟩, fun e => absurd e (by decide)⟩, h1, h2, fun rr H' g1 g2 ⟨ns', i', d', s', P⟩ fr => ?_⟩
    have hns : ns' = ns := by
      have e1 := fr.at1 (r.sub.lst1 p1) hne
      rw [P.hq] at e1
      have e2 := HO.lst.inj (Option.some.inj e1)
      exact (List.map_inj_right fun x y h => V.int.inj h).mp e2
    have hρ : ρ = [a] := by
      have hl := r.len
      match ρ, hl, ha with
      | [b], _, ha => simp at ha; rw [ha]
    subst hρ
    have E : Ext M [a] H M [a] H' := ⟨Same.refl _, Pre.refl _, fr, fun _ h => .inl h, fun _ h => .inl h⟩
    refine hk _ _ (h3 rr g1 g2) _ M [a] H' E ⟨fun b u e => ?_, rfl, r.inj, fun j b o h1 h2 => ?_⟩ rfl
    · have hb : b ≠ a := fun z => by rw [z, hm] at e; cases e
      rcases r.sub b u e with h | ⟨h, o, h'⟩
      · exact .inl (fr.at1 h hb)
      · exact .inr ⟨h, o, fr.at1 h' hb⟩
    · cases j with
      | zero =>
        simp at h1 h2
        subst h1 h2
        exact ⟨hm, q, ns, i', d', s', p1, P.hp, p3, P.hi, P.hd, P.hs, P.hs2⟩
      | succ j => simp at h1
  · exact hf.elim
theorem pool_ok {vs : List V} {H : Hp} {Q : VK} {E : XK} (h : spD N pf_pool vs H Q E) : sp_pool N.K vs H Q E := by
  obtain ⟨M, ρ, ws, st, k, ex, r, rw, hf, hk, _⟩ := h
  unfold pf_pool at hf
  split at hf
  · rename_i ns
    obtain ⟨h1, h2⟩ := hf
    obtain ⟨v, us, rfl, ⟨a, rfl, hs⟩, hus⟩ := rw
    obtain rfl : us = [] := hus
    refine ⟨ns, r.sub.seq hs, h1, fun p q H' hp hq ⟨ns', i', d', s', P⟩ sm => ?_⟩
    have hρ : ρ = [] := List.eq_nil_of_length_eq_zero r.len
    subst hρ
    have hMq := r.non hq
    have hMp := r.non hp
    have E : Ext M [] H (upd M q (.lst (ns'.map V.int))) ([] ++ [p]) H' := ⟨same_grow0 hMq, ⟨[p], rfl⟩, Fr.of sm, fun b h => by
      by_cases z : b = q
      · exact .inr (.inl (by rw [z]; exact hq))
      · rw [upd_ne z] at h; exact .inl h, fun b h => by
      have : b = p := by simpa using h
      exact .inr (by rw [this]; exact hp)⟩
    refine hk _ _ h2 _ _ _ H' E ⟨fun b u e => ?_, rfl, fun i j b e1 e2 => ?_, fun j b o e1 e2 => ?_⟩ ⟨p, rfl, rfl⟩
    · by_cases z : b = q
      · subst z
        rw [upd_same] at e
        cases e
        exact .inl P.hq
      · rw [upd_ne z] at e
        rcases r.sub b u e with h | ⟨h, o, h'⟩
        · exact .inl (sm _ _ h)
        · exact .inr ⟨h, o, sm _ _ h'⟩
    · have hi := (List.getElem?_eq_some_iff.mp e1).1
      have hj := (List.getElem?_eq_some_iff.mp e2).1
      simp at hi hj
      omega
    · cases j with
      | zero =>
        simp at e1 e2
        subst e1 e2
        refine ⟨by rw [upd_ne P.ne.symm]; exact hMp, q, ns', i', d', s', upd_same, P.hp, P.nn, P.hi, P.hd, P.hs, P.hs2⟩
      | succ j => simp at e1
  · exact hf.elim
def pf_law : Pf := fun ws st k _ => match ws, st with
  | [.im (.scr ns)], [] => ns.length ≤ 63 ∧ k (.im (.bl true)) []
  | _, _ => False
def sp_law (K : PySem.W.Frag) : Sp := fun vs H Q _ => match vs with
  | [.ref a] => ∃ ns : List Int, SqL K H a (ns.map V.int) ∧ ns.length ≤ 63 ∧ ∀ H', Q (.bl true) H'
  | _ => False
theorem law_ok {vs : List V} {H : Hp} {Q : VK} {E : XK} (h : sp_law N.K vs H Q E) : spD N pf_law vs H Q E := by
  unfold sp_law at h
  split at h
  · rename_i a
    obtain ⟨ns, h1, h2, h3⟩ := h
    refine ⟨H, [], [.im (.scr ns)], [], fun w st => w = .im (.bl true), fun _ _ _ => False, ⟨fun b u e => .inl e, rfl, fun i j b e => by simp at e, fun i b o e => by simp at e⟩, ⟨_, [], rfl, ⟨a, rfl, h1⟩, rfl⟩, ⟨h2, rfl⟩, fun w st' hw v M' ρ' H' e r rv => ?_, fun _ _ _ h => h.elim⟩
    subst hw
    cases rv
    exact h3 H'
  · exact h.elim
end
end Dl
end

section
set_option maxHeartbeats 4000000
namespace Dl
open PySem PySem.Spec PyProof.Rows L2 Co
section
variable {N : Kn} {Wx : WX} {M H M' H' : Hp} {ρ ρ' : List Addr} {σ : Sl} {st : Sto} {σV : L2.St} {ex : DX}
theorem Ext.kept {p : Addr} {o : HO} (e : Ext M ρ H M' ρ' H') (hn : p ∉ ρ) (hm : M p = Option.none) (hp : H p = some o) : H' p = some o ∧ M' p = Option.none ∧ p ∉ ρ' := by
  refine ⟨e.fr p o hp hn, ?_, fun z => ?_⟩
  · cases z : M' p with
    | none => rfl
    | some u =>
      rcases e.nw p (by rw [z]; exact fun w => nomatch w) with w | w | w
      · exact absurd hm w
      · rw [hp] at w; cases w
      · exact absurd w hn
  · rcases e.rn p z with w | w
    · exact hn w
    · rw [hp] at w; cases w
theorem Kx.adopt (c : Kx N Wx M ρ σ st H σV ex) {p : Addr} {u : HO} (hm : M p = Option.none) (hn : p ∉ ρ) (hu : H p = some u) : Same M (upd M p u) ∧ Rep N (upd M p u) ρ st H := ⟨same_grow0 hm, c.rep.adopt hm hn hu⟩
end
section
variable {X : Cx} {b : Bool} {Wx : WX} {e e1 e2 e3 : Expr} {pos : Pos} {N : Kn}
def Rpp (N : Kn) (M : Hp) : List (D × D) → List (V × V) → Prop
  | [], vs => vs = []
  | (x, y) :: r, vs => ∃ u v r', vs = (u, v) :: r' ∧ Rp N M x u ∧ Rp N M y v ∧ Rpp N M r r'
theorem Rpp.mono {M M' : Hp} (e : Same M M') : ∀ {ps : List (D × D)} {vs : List (V × V)}, Rpp N M ps vs → Rpp N M' ps vs
  | [], _, h => h
  | (_, _) :: _, _, ⟨u, v, r', h1, h2, h3, h4⟩ => ⟨u, v, r', h1, h2.mono e, h3.mono e, Rpp.mono e h4⟩
def sFldAug (C f : Str) (g : F2) (to : DW) (t : DD) : DS := fun E σ st => to σ st (fun o st1 => (match o with
  | .loc n => (match st1[n]? with
    | some (.ins C' fs) => C' = C ∧ (match fs.lookup f with
      | some (.im x) => t σ st1 (fun y st2 => g x y fun d => (match st2[n]? with
        | some (.ins C'' fs') => C'' = C ∧ fs'.length < 1000 ∧ E.nx σ (st2.set n (.ins C'' (putW f (.im d) fs')))
        | _ => False)) (exE E σ)
      | _ => False)
    | _ => False)
  | _ => False)) (exE E σ)
theorem s_fldaug {C f : Str} {op : Operator} {g : F2} {rd : V → V → Hp → VK → Prop} {to : DW} {t : DD} {tpos : Pos} (hc : Cls X.K (He.ga X.K C)) (hn : NoAttr X.K (He.ga X.K C) f) (ho : PE X e1 (lW (XN X b) Wx to)) (hv : PE X e2 (lD (XN X b) Wx t)) (hop : InOp X op rd)
    (ok : ∀ {M H : Hp} {a c : D} {u v : V} {kd : D → Prop} {Q : VK}, Rp (XN X b) M a u → Rp (XN X b) M c v → g a c kd → (∀ d, kd d → ∀ w, Rp (XN X b) M d w → Q w H) → rd u v H Q) : PS X (.AugAssign (.Attribute e1 f tpos) op e2 pos) (lS (XN X b) Wx (sFldAug C f g to t)) := PS.imp (ps_fldaug ho hv hop) fun D σV H h => by
  obtain ⟨M, ρ, σ, st, E, r, s, h, l⟩ := h
  refine Lf.of (l.kx r s) h fun o st1 hk u M1 ρ1 H1 E1 c1 ro => ?_
  obtain ⟨n, rfl⟩ : ∃ n, o = .loc n := by cases o <;> first | exact False.elim hk | exact ⟨_, rfl⟩
  obtain ⟨a, ha, rfl⟩ := ro
  cases hz : st1[n]? with
  | none => simp only [hz] at hk
  | some ob =>
    simp only [hz] at hk
    cases ob <;> try exact False.elim hk
    rename_i C' fs
    simp only at hk
    obtain ⟨rfl, hk⟩ := hk
    cases hl : fs.lookup f with
    | none => simp only [hl] at hk
    | some w =>
      simp only [hl] at hk
      obtain ⟨x, rfl⟩ : ∃ x, w = .im x := by cases w <;> first | exact False.elim hk | exact ⟨_, rfl⟩
      obtain ⟨hm, dx, fxs, h1, h2, h3⟩ := c1.rep.ob n a _ ha hz
      obtain ⟨v, h4, h5⟩ := lookup_rws h2 h3 hl
      refine ⟨a, _, dx, fxs, v, rfl, h1, hc, hn, h4, Lf.of c1 hk fun y st2 hk2 yv M2 ρ2 H2 E2 c2 r2 => ?_⟩
      refine ok (Rp.ext (show Rp (XN X b) M1 x v from h5) E2) r2 hk2 fun d hd zv hzv => ?_
      cases hz2 : st2[n]? with
      | none => simp only [hz2] at hd
      | some ob2 =>
        simp only [hz2] at hd
        cases ob2 <;> try exact False.elim hd
        rename_i C2 fs2
        simp only at hd
        obtain ⟨rfl, hl2, hd⟩ := hd
        have ha2 := E2.pre.get ha
        obtain ⟨hm2, dx2, fxs2, g1, g2, g3⟩ := c2.rep.ob n a _ ha2 hz2
        refine ⟨dx2, fxs2, g1, ?_, ?_⟩
        · have := congrArg List.length g2
          rw [List.length_map, List.length_map] at this
          omega
        · obtain ⟨q1, q2⟩ := putW_ok (N := XN X b) (ρ := ρ2) (f := f) (w := .im d) hzv g2 g3
          obtain ⟨E3, c3⟩ := c2.wr (o := .ins C2 (putW f (.im d) fs2)) ha2 hm2 (u := .ins (He.ga X.K C2) dx2 (putF f zv fxs2)) ⟨hm2, dx2, _, upd_same, q1, q2⟩
          exact l.nx _ _ hd _ _ _ σV (E1.trans (E2.trans E3)) c3.rep c3.rs
theorem ok_inadd {M H : Hp} {a c : D} {u v : V} {kd : D → Prop} {Q : VK} (ha : Rp N M a u) (hc : Rp N M c v) (h : fAddI a c kd) (k : ∀ d, kd d → ∀ w, Rp N M d w → Q w H) : rAdd u v H Q := by
  cases a <;> cases c <;> try exact False.elim h
  cases ha; cases hc
  exact ⟨_, _, rfl, rfl, k _ h _ rfl⟩
theorem ok_insub {M H : Hp} {a c : D} {u v : V} {kd : D → Prop} {Q : VK} (ha : Rp N M a u) (hc : Rp N M c v) (h : Dl.fSub a c kd) (k : ∀ d, kd d → ∀ w, Rp N M d w → Q w H) : rSub u v H Q := by
  cases a <;> cases c <;> try exact False.elim h
  cases ha; cases hc
  exact ⟨_, _, rfl, rfl, k _ h _ rfl⟩
end
end Dl
end

section
set_option maxHeartbeats 4000000
namespace Dl
open PySem PySem.Spec PyProof.Rows L2 Co
theorem getD_take {α : Type} {l : List α} {i : Nat} {a : α} (h : l[i]? = some a) : l.take (i + 1) = l.take i ++ [a] := by
  rw [List.take_add_one, h]
  rfl
theorem lc_map {n : Nat} {ds : List D} {te : DD} {vs : List Nat} {σ : Sl} {st : Sto} {K : List D → Sto → Prop} (f : Nat → D → D) (hl : ds.length ≤ 1000000) (hst : trS st.length st = st)
    (hs : ∀ (i : Nat) d, ds[i]? = some d → ∀ Q : D → Sto → Prop, Q (f i d) st → te ((wipeD σ vs).set n (some (.im d))) st Q exF) (hk : ∀ ys : List D, ys.length = ds.length → (∀ (i : Nat) d, ds[i]? = some d → ys[i]? = some (f i d)) → K ys st) : lcB ds (gN n) dYes te vs σ st K := by
  refine ⟨fun i acc st' => st' = st ∧ acc.length = i ∧ i ≤ ds.length ∧ ∀ (j : Nat) d, j < i → ds[j]? = some d → acc[j]? = some (f j d), ⟨rfl, rfl, Nat.zero_le _, fun j d h => absurd h (by omega)⟩, ?_, ?_⟩
  · rintro i d acc st' hd ⟨rfl, ha, _, hj⟩ -
    have hi := (List.getElem?_eq_some_iff.mp hd).1
    refine twoT (hs i d hd _ ⟨by omega, hst, by simp [ha], hi, fun j d' h1 h2 => ?_⟩)
    by_cases z : j = i
    · subst z
      rw [hd] at h2
      cases h2
      rw [List.getElem?_append_right (by omega), ha, Nat.sub_self]
      rfl
    · rw [List.getElem?_append_left (by omega)]
      exact hj j d' (by omega) h2
  · rintro acc st' ⟨rfl, ha, _, hj⟩ -
    exact hk acc ha fun i d h => hj i d (List.getElem?_eq_some_iff.mp h).1 h
theorem lc_fn {α β : Type} {n : Nat} {as : List α} {a : α → D} {b : β → D} {te : DD} {vs : List Nat} {σ : Sl} {st : Sto} {K : List D → Sto → Prop} (f : α → β) (hl : as.length ≤ 1000000) (hst : trS st.length st = st)
    (hs : ∀ x ∈ as, ∀ Q : D → Sto → Prop, Q (b (f x)) st → te ((wipeD σ vs).set n (some (.im (a x)))) st Q exF) (hk : K ((as.map f).map b) st) : lcB (as.map a) (gN n) dYes te vs σ st K := by
  refine lc_map (fun i _ => match as[i]? with
    | some x => b (f x)
    | none => .non) (by simpa using hl) hst (fun i d hd Q q => ?_) fun ys h1 h2 => ?_
  · rw [List.getElem?_map] at hd
    cases hx : as[i]? with
    | none => rw [hx] at hd; cases hd
    | some x =>
      rw [hx] at hd q
      cases hd
      exact hs x (List.mem_of_getElem? hx) Q q
  · have : ys = (as.map f).map b := by
      apply List.ext_getElem?
      intro i
      cases hx : as[i]? with
      | none =>
        have := List.getElem?_eq_none_iff.mp hx
        rw [List.getElem?_eq_none (by rw [h1]; simpa using this), List.getElem?_eq_none (by simpa using this)]
      | some x =>
        rw [h2 i (a x) (by rw [List.getElem?_map, hx]; rfl)]
        simp [hx]
    rw [this]
    exact hk
theorem lc_all {n : Nat} {ds : List D} {te : DD} {vs : List Nat} {σ : Sl} {st : Sto} {K : List D → Sto → Prop} (P : Nat → D → Prop) (hl : ds.length ≤ 1000000) (hst : trS st.length st = st)
    (hs : ∀ (i : Nat) d, ds[i]? = some d → ∀ Q : D → Sto → Prop, (∀ y, P i y → Q y st) → te ((wipeD σ vs).set n (some (.im d))) st Q exF) (hk : ∀ ys : List D, ys.length = ds.length → (∀ (i : Nat) y, ys[i]? = some y → P i y) → K ys st) : lcB ds (gN n) dYes te vs σ st K := by
  refine ⟨fun i acc st' => st' = st ∧ acc.length = i ∧ i ≤ ds.length ∧ ∀ (j : Nat) y, acc[j]? = some y → P j y, ⟨rfl, rfl, Nat.zero_le _, fun j d h => by simp at h⟩, ?_, ?_⟩
  · rintro i d acc st' hd ⟨rfl, ha, _, hj⟩ -
    have hi := (List.getElem?_eq_some_iff.mp hd).1
    refine twoT (hs i d hd _ fun y hy => ⟨by omega, hst, by simp [ha], hi, fun j d' h1 => ?_⟩)
    by_cases z : j < acc.length
    · rw [List.getElem?_append_left z] at h1
      exact hj j d' h1
    · rw [List.getElem?_append_right (by omega)] at h1
      have : j - acc.length = 0 := by
        have := (List.getElem?_eq_some_iff.mp h1).1
        simpa using this
      rw [this] at h1
      cases h1
      rw [show j = i by omega]
      exact hy
  · rintro acc st' ⟨rfl, ha, _, hj⟩ -
    exact hk acc ha hj
theorem rgD_get {lo : Int} {n i : Nat} {d : D} (h : (rgD lo n)[i]? = some d) : i < n ∧ d = .int (lo + (i : Int)) := by
  unfold rgD at h
  rw [List.getElem?_map] at h
  by_cases hi : i < n
  · rw [List.getElem?_range hi] at h
    exact ⟨hi, (Option.some.inj h).symm⟩
  · rw [List.getElem?_eq_none (by simp; omega)] at h
    cases h
theorem rgD_len {lo : Int} {n : Nat} : (rgD lo n).length = n := by simp [rgD]
end Dl
end

section
set_option maxHeartbeats 4000000
namespace Dl
open PySem PySem.Spec PyProof.Rows L2 Co
section
variable {X : Cx} {b : Bool} {Wx : WX} {e e1 e2 e3 : Expr} {pos : Pos} {N : Kn} {s s1 s2 : Stmt} {ss : List Stmt}
def sRaise1 (C f : Str) (t : DD) : DS := fun E σ st => t σ st (fun d st1 => E.ex C [(f, d)] σ st1) (exE E σ)
theorem exc_heap {H : Hp} {a dx : Addr} {C : Addr} {l : List (Str × V)} (ha : H a = none) (hne : dx ≠ a) : upd (del (upd (upd (upd H a (exo a C none)) dx (exd dx l)) a (exo a C (some dx))) a) dx (.xd l) = upd H dx (.xd l) := by
  funext b
  unfold upd del
  by_cases h1 : b = dx
  · rw [if_pos h1, if_pos h1]
  · rw [if_neg h1, if_neg h1]
    by_cases h2 : b = a
    · rw [if_pos h2, h2, ha]
    · rw [if_neg h2]
      show (if b = a then _ else if b = dx then _ else if b = a then _ else H b) = H b
      rw [if_neg h2, if_neg h1, if_neg h2]
def TblOk (K : PySem.W.Frag) (C : Str) (tbl : List (Str × Bool)) : Prop := ∀ c v, tbl.lookup c = some v → PySem.W.exmOne K (.ref (He.ga K c)) (.ref (He.ga K C)) = some v
theorem tbl_nil {K : PySem.W.Frag} {C : Str} : TblOk K C [] := fun c v h => by cases h
theorem tbl_cons {K : PySem.W.Frag} {C c : Str} {v : Bool} {tbl : List (Str × Bool)} (h : PySem.W.exmOne K (.ref (He.ga K c)) (.ref (He.ga K C)) = some v) (t : TblOk K C tbl) : TblOk K C ((c, v) :: tbl) := fun c' v' e => by
  rw [List.lookup_cons] at e
  split at e
  · rename_i z
    cases e
    rw [beq_iff_eq.mp z]
    exact h
  · exact t c' v' e
def sTryAs (i : Nat) (tbl : List (Str × Bool)) (u : Addr → Addr → Str → DS) (t : DS) : DS := fun E σ st => t { E with ex := fun c fs σ' st' => match tbl.lookup c with
  | some true => fs ≠ [] ∧ ∀ a dd, u a dd c { E with nx := fun σ2 st2 => E.nx (σ2.set i none) st2, bk := fun σ2 st2 => E.bk (σ2.set i none) st2, ct := fun σ2 st2 => E.ct (σ2.set i none) st2 } (σ'.set i (some (.im (.exc a dd c (fs.map (·.1)) (fs.map (·.2)))))) st'
  | some false => E.ex c fs σ' st'
  | none => False } σ st
def tsD (N : Kn) (Wx : WX) (u : Addr → Addr → Str → DS) (a : Addr) (cls : Value) (d : Option Addr) : TS := fun D σ H => ∃ dd c, cls = .ref (He.ga N.K c) ∧ d = some dd ∧ lS N Wx (u a dd c) D σ H
section
variable {x n C : Str} {i : Nat} {body suite : List Stmt} {b₀ : Stmt} {np pos' : Pos} {t : DS} {u : Addr → Addr → Str → DS} {tbl : List (Str × Bool)}
theorem s_tryAs (hs : X.stack = X.env :: X.outer) (hf : X.env.frame = some X.env.locals) (hN : X.N.Nodup) (hi : X.N[i]? = some n) (hln : X.env.kindOf n = some .local) (hc : Names X x (.ref (He.ga X.K C))) (tk : Takes X Wx) (hx : TblOk X.K C tbl)
    (hb : ∀ (W : WX) (pn : List (Addr × Obj)) (xe : Value → Shared → Prop), Takes (X.tr pn xe) W → PassesOwn (model X.prog X.w) X.A X.env xe → PSs (X.tr pn xe) body (lS (XN X b) W t))
    (hsu : ∀ (a : Addr) (oe : Obj) (cls : Value) (d : Option Addr) (pn : List (Addr × Obj)), Zc cls d oe → (∃ vs, oe.data = .fields vs) → ∀ (dd : Addr) (c : Str), cls = .ref (He.ga X.K c) → d = some dd → PSs (X.suite a ((a, oe) :: pn)) (b₀ :: suite) (lS (XN X b) Wx (u a dd c))) :
    PS X (.Try body [.ExceptHandler (some (.Name x np)) (some n) (b₀ :: suite) pos'] [] [] pos) (lS (XN X b) Wx (sTryAs i tbl u t)) :=
  PS.imp (ps_try_as (tb := fun W => lS (XN X b) W t) (ts := tsD (XN X b) Wx u) (Wout := Wx) hs hf hN hi hln hc tk hb fun a oe cls d pn hz hfl => ⟨fun pins s σ H D I ⟨dd, c, h1, h2, h⟩ => (hsu a oe cls d pn hz hfl dd c h1 h2).run pins s σ H D I h⟩) fun D σV H h => by
    obtain ⟨M, ρ, σ, st, E, r, s, h, l⟩ := h
    refine ⟨M, ρ, σ, st, _, r, s, h, ⟨l.nx, l.rt, fun c fs σ' st' hx' o M' ρ' H' σV' e r' s' eo => ?_, l.bk, l.ct⟩⟩
    have hx' : (match tbl.lookup c with
      | some true => fs ≠ [] ∧ ∀ a dd, u a dd c { E with nx := fun σ2 st2 => E.nx (σ2.set i none) st2, bk := fun σ2 st2 => E.bk (σ2.set i none) st2, ct := fun σ2 st2 => E.ct (σ2.set i none) st2 } (σ'.set i (some (.im (.exc a dd c (fs.map (·.1)) (fs.map (·.2)))))) st'
      | some false => E.ex c fs σ' st'
      | none => False) := hx'
    cases hl : tbl.lookup c with
    | none => rw [hl] at hx'; exact False.elim hx'
    | some v =>
      cases v with
      | false =>
        rw [hl] at hx'
        exact ⟨false, hx c false hl, fun z => (nomatch z), fun _ => l.ex _ _ _ _ hx' o M' ρ' H' σV' e r' s' eo⟩
      | true =>
        rw [hl] at hx'
        obtain ⟨hne, hx'⟩ := hx'
        refine ⟨true, hx c true hl, fun _ a ha => ?_, fun z => (nomatch z)⟩
        cases o with
        | none => exact absurd (show fs = [] from eo) hne
        | some dd =>
          obtain ⟨fxs, g1, g2, g3⟩ := eo
          refine ⟨dd, c, rfl, rfl, M', ρ', _, st', { E with nx := fun σ2 st2 => E.nx (σ2.set i none) st2, bk := fun σ2 st2 => E.bk (σ2.set i none) st2, ct := fun σ2 st2 => E.ct (σ2.set i none) st2 }, r', s'.set (w := .im (.exc a dd c (fs.map (·.1)) (fs.map (·.2)))) ⟨rfl, fxs, g1, g2, g3⟩ i, hx' a dd, ⟨fun σ2 st2 h2 M2 ρ2 H2 σV2 e2 r2 s2 => l.nx _ _ h2 M2 ρ2 H2 _ (e.trans e2) r2 (s2.unset i none), fun w st2 h2 v M2 ρ2 H2 e2 r2 rv => l.rt _ _ h2 v M2 ρ2 H2 (e.trans e2) r2 rv,
            fun c2 fs2 σ2 st2 h2 o2 M2 ρ2 H2 σV2 e2 r2 s2 eo2 => l.ex _ _ _ _ h2 o2 M2 ρ2 H2 σV2 (e.trans e2) r2 s2 eo2, fun σ2 st2 h2 M2 ρ2 H2 σV2 e2 r2 s2 => l.bk _ _ h2 M2 ρ2 H2 _ (e.trans e2) r2 (s2.unset i none), fun σ2 st2 h2 M2 ρ2 H2 σV2 e2 r2 s2 => l.ct _ _ h2 M2 ρ2 H2 _ (e.trans e2) r2 (s2.unset i none)⟩⟩
end
theorem getK_look {M : Hp} : ∀ {fs : List (Str × V)} {ds : List D}, Rps N M ds (fs.map (·.2)) → ∀ {q : Str} {d : D}, getK (fs.map (·.1)) ds q = some d → ∃ v, fs.lookup q = some v ∧ Rp N M d v
  | [], ds, h, q, d, e => by
    cases ds <;> cases e
  | (a, v) :: fs, [], h, q, d, e => by have := h.length; simp at this
  | (a, v) :: fs, d' :: ds, ⟨x, r, h1, h2, h3⟩, q, d, e => by
    cases h1
    by_cases z : a = q
    · simp only [List.map_cons, getK, if_pos z, Option.some.injEq] at e
      subst e z
      exact ⟨v, by simp, h2⟩
    · simp only [List.map_cons, getK, if_neg z] at e
      obtain ⟨v', g1, g2⟩ := getK_look h3 e
      refine ⟨v', ?_, g2⟩
      rw [List.lookup_cons]
      have : (q == a) = false := beq_eq_false_iff_ne.mpr fun w => z w.symm
      rw [this]
      exact g1
def dXf (a dd : Addr) (c C f : Str) (t : DW) : DD := fun σ st k ex => c = C ∧ t σ st (fun w st1 => match w with
  | .im (.exc a' dd' _ ns ds) => a' = a ∧ dd' = dd ∧ (match getK ns ds f with
    | some d => k d st1
    | none => False)
  | _ => False) ex
theorem e_xf {a dd : Addr} {c C f : Str} {oe : Obj} {cls : Value} {d : Option Addr} {pn : List (Addr × Obj)} {t : DW} (T : XfC X.K (He.ga X.K C)) (hno : PySem.W.findIn X.K (.ref (He.ga X.K C)) f = some none)
    (hz : Zc cls d oe) (hf : ∃ vs, oe.data = .fields vs) (hc : cls = .ref (He.ga X.K c)) (hd : d = some dd) (he : PE (X.suite a ((a, oe) :: pn)) e (lW (XN X b) Wx t)) (hb : attributeBase e f X.env (eval e X.env) = eval e X.env := by rfl) :
    PE (X.suite a ((a, oe) :: pn)) (.Attribute e f pos) (lD (XN X b) Wx (dXf a dd c C f t)) := PE.imp (pe_xf T hno hz hf he hb) fun σV H Q h => by
  obtain ⟨M, ρ, σ, st, k, ex, cx, ⟨hcC, ht⟩, q⟩ := Kx.open_ h
  subst hcC
  refine Lf.of cx ht fun w st' hk v M' ρ' H' E c' r => ?_
  cases w with
  | loc n => exact False.elim hk
  | dead => exact False.elim hk
  | im x =>
    cases x <;> try exact False.elim hk
    rename_i a' dd' C' ns ds
    obtain ⟨rfl, rfl, hk⟩ := hk
    obtain ⟨hv, fxs, g1, g2, g3⟩ := (show Rp (XN X b) M' (.exc a' dd' C' ns ds) v from r)
    subst g2
    cases hg : getK (fxs.map (·.1)) ds f with
    | none => simp only [hg] at hk
    | some y =>
      simp only [hg] at hk
      obtain ⟨vv, l1, l2⟩ := getK_look g3 hg
      have hH : H' dd' = some (.xd fxs) := by
        rcases c'.rep.sub _ _ g1 with z | ⟨z, _⟩
        · exact z
        · cases z
      exact ⟨hv, hc, dd', fxs, vv, hd, hH, l1, q _ _ hk vv M' ρ' H' E c' l2⟩
def dIsX (a dd : Addr) (c C : Str) (v : Bool) (t : DW) : DD := fun σ st k ex => c = C ∧ t σ st (fun w st1 => match w with
  | .im (.exc a' dd' _ _ _) => a' = a ∧ dd' = dd ∧ k (.bl v) st1
  | _ => False) ex
theorem e_isX {a dd : Addr} {c C : Str} {cls : Value} {d : Option Addr} {t : DW} {v : Bool} {cV : V} {cv : Value} (h : PE X e (tCB (rIsD N.K (He.ga N.K C) a cls d) (tCons (lW N Wx t) (tCons (tC cV) tNil)))) (hc : cls = .ref (He.ga N.K c)) (hd : d = some dd)
    (hcv : ∀ u, RelV cV u → u = cv) (hk : PySem.W.kitOne N.K (.ref (He.ga N.K C)) cv = some v) : PE X e (lD N Wx (dIsX a dd c C v t)) := PE.imp h fun σV H Q h => by
  obtain ⟨M, ρ, σ, st, k, ex, cx, ⟨hcC, ht⟩, q⟩ := Kx.open_ h
  subst hcC
  refine Lf.of cx ht fun w st' hk' x M' ρ' H' E c' r => ?_
  cases w with
  | loc n => exact False.elim hk'
  | dead => exact False.elim hk'
  | im y =>
    cases y <;> try exact False.elim hk'
    rename_i a' dd' C' ns ds
    obtain ⟨rfl, rfl, hk'⟩ := hk'
    obtain ⟨hv, fxs, g1, g2, g3⟩ := (show Rp N M' (.exc a' dd' C' ns ds) x from r)
    have hH : H' dd' = some (.xd fxs) := by
      rcases c'.rep.sub _ _ g1 with z | ⟨z, _⟩
      · exact z
      · cases z
    exact ⟨cV, cv, v, dd', fxs, by rw [hv], hc, hd, hH, hcv, hk, q _ _ hk' _ M' ρ' H' E c' rfl⟩
end
end Dl
end

section
set_option maxHeartbeats 4000000
namespace Dl
open PySem PySem.Spec PyProof.Rows L2 Co
def plainDv : He.Dv → Bool
  | .non => true
  | .bl _ => true
  | .int _ => true
  | .str _ => true
  | _ => false
def dvD : He.Dv → D
  | .bl b => .bl b
  | .int i => .int i
  | .str x => .str x
  | _ => .non
theorem dvD_rp {N : Kn} {M : Hp} {K : PySem.W.Frag} {v : He.Dv} (h : plainDv v = true) : Rp N M (dvD v) (v.v K) := by
  cases v <;> first | rfl | cases h
def chkD (K : PySem.W.Frag) : List DictEntry → List (Str × He.Dv) → Bool
  | [], [] => true
  | e :: r, q :: t => (match e.key with
    | .str x _ => decide (x = q.1)
    | _ => false) && (He.relB (q.2.v K) e.val && (plainDv q.2 && chkD K r t))
  | _, _ => false
def kdB (K : PySem.W.Frag) (a : Addr) (kvs : List (Str × He.Dv)) : Bool := match K.lookup a with
  | some ⟨_, _, .dict es _, _⟩ => chkD K es.toList kvs
  | _ => false
theorem chk_find {K : PySem.W.Frag} : ∀ {l : List DictEntry} {kvs : List (Str × He.Dv)}, chkD K l kvs = true → ∀ z : Str, (match kvs.lookup z with
    | some v => plainDv v = true ∧ ∃ e, l.find? (·.key.isStr z) = some e ∧ RelV (v.v K) e.val
    | none => l.find? (·.key.isStr z) = none) ∧ l.any (·.refKey) = false
  | [], [], _, z => ⟨rfl, rfl⟩
  | [], _ :: _, h, z => by cases h
  | _ :: _, [], h, z => by cases h
  | e :: r, q :: t, h, z => by
    obtain ⟨h1, h⟩ := He.ba h
    obtain ⟨h2, h⟩ := He.ba h
    obtain ⟨h3, h4⟩ := He.ba h
    obtain ⟨i1, i2⟩ := chk_find h4 z
    obtain ⟨hs, key, val⟩ := e
    obtain ⟨k, v⟩ := q
    cases key with
    | str x tok =>
      have hx : x = k := of_decide_eq_true h1
      subst hx
      refine ⟨?_, by rw [List.any_cons, i2]; rfl⟩
      rw [List.lookup_cons, List.find?_cons]
      show match (match z == x with
        | true => some v
        | false => t.lookup z) with
        | some v => plainDv v = true ∧ ∃ e, (match x == z with
          | true => some _
          | false => r.find? (·.key.isStr z)) = some e ∧ RelV (v.v K) e.val
        | none => (match x == z with
          | true => some _
          | false => r.find? (·.key.isStr z)) = none
      by_cases w : z = x
      · subst w
        rw [beq_self_eq_true]
        exact ⟨h3, _, rfl, He.relB_ok h2⟩
      · rw [beq_eq_false_iff_ne.mpr w, beq_eq_false_iff_ne.mpr (Ne.symm w)]
        exact i1
    | _ => cases h1
theorem kdB_ok {K : PySem.W.Frag} {a : Addr} {kvs : List (Str × He.Dv)} (h : kdB K a kvs = true) (z : Str) : match kvs.lookup z with
    | some v => plainDv v = true ∧ ∃ u, PySem.W.nsIn K a z = some (some u) ∧ RelV (v.v K) u
    | none => PySem.W.nsIn K a z = some none := by
  unfold kdB at h
  split at h
  · rename_i es n sl ho
    obtain ⟨i1, i2⟩ := chk_find h z
    unfold PySem.W.nsIn
    rw [ho]
    cases hl : kvs.lookup z with
    | none =>
      rw [hl] at i1
      dsimp only
      rw [show es.toList.find? (fun x => x.key.isStr z) = none from i1]
      dsimp only
      rw [i2]
      rfl
    | some v =>
      rw [hl] at i1
      obtain ⟨p, e, h1, h2⟩ := i1
      refine ⟨p, e.val, ?_, h2⟩
      dsimp only
      rw [show es.toList.find? (fun x => x.key.isStr z) = some e from h1]
  · cases h
structure Gd (K : PySem.W.Frag) (w : World) (x : Str) (kvs : List (Str × He.Dv)) : Prop where
  kd : kdB K (He.ga K x) kvs = true
  tb : ∃ es n, KDict K w (He.ga K x) es n
def dGlIn (kvs : List (Str × He.Dv)) (t : DD) : DT := fun σ st k ex => t σ st (fun d st1 => match d with
  | .str z => k (kvs.lookup z).isSome st1
  | _ => False) ex
def dGlIx (kvs : List (Str × He.Dv)) (t : DD) : DD := fun σ st k ex => t σ st (fun d st1 => match d with
  | .str z => (match kvs.lookup z with
    | some v => k (dvD v) st1
    | none => False)
  | _ => False) ex
section
variable {X : Cx} {Wx : WX} {e e1 e2 : Expr} {pos : Pos} {N : Kn} {x : Str} {kvs : List (Str × He.Dv)} {t : DD}
theorem glIn_lift {σV : L2.St} {H M : Hp} {ρ : List Addr} {σ : Sl} {st : Sto} {ex : DX} {k : Bool → Sto → Prop} {Q : Bool → Hp → Prop} (G : Gd X.K X.w x kvs) (c : Kx N Wx M ρ σ st H σV ex) (ht : dGlIn kvs t σ st k ex)
    (q : ∀ b st', k b st' → ∀ M' ρ' H', Ext M ρ H M' ρ' H' → Kx N Wx M' ρ' σ st' H' σV ex → Q b H') :
    lD N Wx t σV H (fun y H1 => ∃ (z : Str) (r : Option Value), y = .str z ∧ V.ref (He.ga X.K x) = .ref (He.ga X.K x) ∧ PySem.W.nsIn X.K (He.ga X.K x) z = some r ∧ Q r.isSome H1) := by
  refine Lf.of c ht fun d st' hk v M' ρ' H' E c' r => ?_
  cases d <;> try exact False.elim hk
  rename_i z
  have hr : v = .str z := r
  subst hr
  have g := kdB_ok G.kd z
  cases hl : kvs.lookup z with
  | none =>
    rw [hl] at g
    have hk : k (kvs.lookup z).isSome st' := hk
    rw [hl] at hk
    exact ⟨z, none, rfl, rfl, g, q _ _ hk M' ρ' H' E c'⟩
  | some v =>
    rw [hl] at g
    obtain ⟨_, u, g1, _⟩ := g
    have hk : k (kvs.lookup z).isSome st' := hk
    rw [hl] at hk
    exact ⟨z, some u, rfl, rfl, g1, q _ _ hk M' ρ' H' E c'⟩
theorem t_glNotIn (G : Gd X.K X.w x kvs) (hg : PE X e2 (tC (.ref (He.ga X.K x)))) (hi : PE X e1 (lD N Wx t)) (hm : behindInMarks .NotIn e2 = false) : PT X (.Compare e1 [.NotIn] [e2] pos) (lT N Wx (dNot (dGlIn kvs t))) := by
  obtain ⟨es, n, D⟩ := G.tb
  refine PT.imp (t_cmp (op_notIn_kd D) hi hg hm) fun σV H Q h => ?_
  obtain ⟨M, ρ, σ, st, k, ex, c, ht, q⟩ := Kx.open_ h
  exact glIn_lift (k := fun b st1 => k (!b) st1) (Q := fun b H1 => Q (!b) H1) G c ht fun b st' hb M' ρ' H' E c' => q _ _ hb _ M' ρ' H' E c' rfl
theorem e_glIx (G : Gd X.K X.w x kvs) (hg : PE X e1 (tC (.ref (He.ga X.K x)))) (hi : PE X e2 (lD N Wx t)) (hs : PlainIx e2) : PE X (.Subscript e1 e2 pos) (lD N Wx (dGlIx kvs t)) := by
  obtain ⟨es, n, D⟩ := G.tb
  refine PE.imp (pe_ix ix_kdict hg hi hs) fun σV H Q h => ?_
  obtain ⟨M, ρ, σ, st, k, ex, c, ht, q⟩ := Kx.open_ h
  show lD N Wx t σV H fun y H1 => rIxD X.K X.w (.ref (He.ga X.K x)) y H1 Q
  refine Lf.of c ht fun d st' hk v M' ρ' H' E c' r => ?_
  cases d <;> try exact False.elim hk
  rename_i z
  have hr : v = .str z := r
  subst hr
  have g := kdB_ok G.kd z
  cases hl : kvs.lookup z with
  | none => simp only [hl] at hk
  | some v =>
    rw [hl] at g
    obtain ⟨p, u, g1, g2⟩ := g
    simp only [hl] at hk
    exact ⟨_, z, v.v X.K, rfl, rfl, ⟨es, n, u, D.at_, D.lit, g1, g2⟩, q _ _ hk _ M' ρ' H' E c' (dvD_rp p)⟩
end
def dCall0 (f : Pf) : DW := fun _ st k _ => callD f [] [] st k (fun _ _ _ => False)
theorem e_call0 {X : Cx} {Wx : WX} {N : Kn} {k : Nat} {f : Addr} {ps : List Str} {pf : Pf} {x : Str} {p pos : Pos} (d : Def X.prog X.w X.K X.mg X.base k f ps (spD N pf)) (hr : Room k X.A) (hg : Gl X x) (hm : X.mg x = some (.ref f)) (hdb : (x == ("__debug__" : Str)) = false := by decide) :
    PE X (.Call (.Name x p) [] [] pos) (lW N Wx (dCall0 pf)) := PE.imp (Co.e_call0 (E := fun _ _ _ => False) d hr hg hm passL hdb) fun σV H Q h => by
  obtain ⟨M, ρ, σ, st, k, ex, c, ht, q⟩ := Kx.open_ h
  have c0 : Kx N (fun _ _ _ _ => False) M ρ σ st H σV (fun _ _ _ => False) := ⟨c.rep, c.rs, fun _ _ _ h => h.elim⟩
  exact callD_ok List.nodup_nil c0 ht (vs := []) rfl fun w st2 hk2 v M2 ρ2 H2 E2 c2 r2 => q _ _ hk2 v M2 ρ2 H2 E2 ⟨c2.rep, c2.rs, fun c' fs st' hx o M3 ρ3 H3 E3 => c.xl c' fs st' hx o M3 ρ3 H3 (E2.trans E3)⟩ r2
structure Fz (fa : List He.Fa) (fn : List He.DefD) (xs : List Ex) (kds : List (Str × List (Str × He.Dv))) (w : World) (K : PySem.W.Frag) (mg : Str → Option Value) : Prop extends Fy fa fn xs K mg where
  gds : ∀ p ∈ kds, Gd K w p.1 p.2
theorem Fz.gd {fa : List He.Fa} {fn : List He.DefD} {xs : List Ex} {kds : List (Str × List (Str × He.Dv))} {w : World} {K : PySem.W.Frag} {mg : Str → Option Value} (T : Fz fa fn xs kds w K mg) (i : Nat) {x : Str} {kvs : List (Str × He.Dv)} (h : kds[i]? = some (x, kvs) := by rfl) : Gd K w x kvs := T.gds _ (List.mem_of_getElem? h)
def tabD (kds : List (Str × List (Str × He.Dv))) : List He.Tab := kds.map fun p => ((fun K => He.ga K p.1), p.2.map (·.1))
theorem gds_of {fa : List He.Fa} {fn : List He.DefD} {kds : List (Str × List (Str × He.Dv))} {w : World} {K : PySem.W.Frag} (c : He.SaysT fa fn (tabD kds) w K) (h : (kds.all fun p => kdB K (He.ga K p.1) p.2) = true) : ∀ p ∈ kds, Gd K w p.1 p.2 := fun p hp => by
  refine ⟨List.all_eq_true.mp h p hp, ?_⟩
  obtain ⟨i, hi, e⟩ := List.mem_iff_getElem.mp hp
  exact c.tab i (t := ((fun K => He.ga K p.1), p.2.map (·.1))) (by unfold tabD; rw [List.getElem?_map, List.getElem?_eq_getElem hi, e]; rfl)
end Dl
end

section
set_option maxHeartbeats 4000000
namespace Dl
open PySem PySem.Spec PyProof.Rows L2 Co
theorem lcG_filter {α β : Type} {g : DG} {as : List α} {a : α → D} {b : β → D} {tt : DT} {te : DD} {vs : List Nat} {σ : Sl} {st : Sto} {K : List D → Sto → Prop} (sx : α → Sl) (p : α → Bool) (f : α → β) (hl : as.length ≤ 1000000) (hst : trS st.length st = st)
    (hg : ∀ x ∈ as, ∀ k : Sl → Prop, k (sx x) → g (a x) (wipeD σ vs) k)
    (ht : ∀ x ∈ as, ∀ Q : Bool → Sto → Prop, Q (p x) st → tt (sx x) st Q exF)
    (hs : ∀ x ∈ as, p x = true → ∀ Q : D → Sto → Prop, Q (b (f x)) st → te (sx x) st Q exF) (hk : K (((as.filter p).map f).map b) st) : lcB (as.map a) g tt te vs σ st K := by
  refine ⟨fun i acc st' => st' = st ∧ i ≤ as.length ∧ acc = (((as.take i).filter p).map f).map b, ⟨rfl, Nat.zero_le _, rfl⟩, ?_, ?_⟩
  · rintro i d acc st' hd ⟨rfl, hi, rfl⟩ -
    rw [List.getElem?_map] at hd
    cases hx : as[i]? with
    | none => rw [hx] at hd; cases hd
    | some x =>
      rw [hx] at hd
      cases hd
      have hm := List.mem_of_getElem? hx
      have hlt := (List.getElem?_eq_some_iff.mp hx).1
      have e : (as.take (i + 1)).filter p = (as.take i).filter p ++ if p x = true then [x] else [] := by
        rw [getD_take hx, List.filter_append]
        congr 1
        by_cases z : p x = true
        · rw [if_pos z, List.filter_cons_of_pos z]; rfl
        · rw [if_neg z, List.filter_cons_of_neg z]; rfl
      refine hg x hm _ (ht x hm _ ?_)
      cases hp : p x with
      | true =>
        refine twoT (hs x hm hp _ ⟨?_, hst, by omega, ?_⟩)
        · have := List.length_filter_le p (as.take i)
          rw [List.length_take] at this
          rw [List.length_map, List.length_map]
          omega
        · rw [e, if_pos hp, List.map_append, List.map_append]
          rfl
      | false =>
        refine twoF ⟨hst, by omega, ?_⟩
        rw [e, if_neg (by rw [hp]; decide), List.append_nil]
  · rintro acc st' ⟨rfl, _, rfl⟩ -
    rw [List.length_map, List.take_of_length_le (Nat.le_refl _)]
    exact hk
end Dl
end

section
set_option maxHeartbeats 4000000
namespace Dl
open PySem PySem.Spec PyProof.Rows L2 Co
def dAddM (ta tb : DW) : DW := fun σ st k ex => ta σ st (fun x st1 => tb σ st1 (fun y st2 => match seeW x st2, seeW y st2 with
  | some (.lst xs), some (.lst ys) => xs.length + ys.length ≤ 1000000 ∧ k (.loc st2.length) (st2 ++ [.lst (xs ++ ys)])
  | _, _ => False) ex) ex
def sForK (it : Lv (List D)) (g : DG) (tb : DS) : DS := fun E σ st => it σ st (fun ds st1 => ∃ I : Nat → Sl → Sto → Prop, I 0 σ st1 ∧
  (∀ (i : Nat) d σ' st', ds[i]? = some d → I i σ' st' → st1.length ≤ st'.length → g d σ' fun σ2 => tb { E with nx := fun σ3 st3 => I (i + 1) σ3 st3, ct := fun σ3 st3 => I (i + 1) σ3 st3, bk := E.nx } σ2 st') ∧
  ∀ σ' st', I ds.length σ' st' → st1.length ≤ st'.length → E.nx σ' st') (exE E σ)
section
variable {X : Cx} {b : Bool} {Wx : WX} {e e1 e2 e3 tg : Expr} {pos : Pos} {N : Kn}
theorem e_addM {ta tb : DW} (ha : PE X e1 (lW N Wx ta)) (hb : PE X e2 (lW N Wx tb)) : PE X (.BinOp e1 .Add e2 pos) (lW N Wx (dAddM ta tb)) := PE.imp (pe_op op_cat ha hb) fun σV H Q h => by
  obtain ⟨M, ρ, σ, st, k, ex, c, ht, q⟩ := Kx.open_ h
  refine Lf.bin c ht fun x y st' hk u v M' ρ' H' E c' r1 r2 => ?_
  cases h1 : seeW x st' with
  | none => simp only [h1] at hk
  | some d =>
    cases h2 : seeW y st' with
    | none => simp only [h1, h2] at hk
    | some e =>
      simp only [h1, h2] at hk
      cases d <;> try exact False.elim hk
      cases e <;> try exact False.elim hk
      obtain ⟨p, xs, rfl, g1, g2⟩ := see_ok c'.rep h1 r1
      obtain ⟨p2, ys, rfl, g3, g4⟩ := see_ok c'.rep h2 r2
      have s := Fv.sub (ρ := ρ') c'.rep.sub
      refine ⟨p, p2, xs, ys, rfl, rfl, s.lst1 g1, s.lst1 g3, ?_, fun l hl => ?_⟩
      · rw [g2.length, g4.length]; exact lenL6 hk.1
      · obtain ⟨E2, c2⟩ := c'.loc (u := .lst (xs ++ ys)) hl (o := .lst _) ⟨c'.rep.non hl, xs ++ ys, upd_same, g2.append g4⟩
        exact q _ _ hk.2 _ _ _ _ (E.trans E2) c2 ⟨l, c'.rep.last l, rfl⟩
theorem s_forK {it : Lv (List D)} {vs : List Nat} {g : DG} {gV : TG} {tb : DS} {body : List Stmt} (g2 : GOk N vs g gV) (hp : PassesOwn (model X.prog X.w) X.A X.env X.xe) (hc : X.calm = true) (hi : PI X tg e (lI N Wx it)) (g1 : PG X tg gV) (hb : PSs X body (lS N Wx tb))
    (hs : ∀ x, foldedSetIterable e X.env x = pure x := by intro _; rfl) : PS X (.For tg e body [] pos) (lS N Wx (sForK it g tb)) := by
  refine PS.imp (ps_for hp hc hi g1 hb hs) fun D σV H h => ?_
  obtain ⟨M, ρ, σ, st, E, r, s, h, l⟩ := h
  refine ⟨M, ρ, σ, st, _, _, l.kx r s, h, fun ds st1 hk J M1 ρ1 H1 E1 r1 gd => ?_⟩
  obtain ⟨I, h0, hstep, hend⟩ := hk
  have l1 := l.step E1
  refine ⟨fun i m σV' H' => m = ds.length - i ∧ i ≤ ds.length ∧ ∃ M' ρ' σ' st', Ext M1 ρ1 H1 M' ρ' H' ∧ Rep N M' ρ' st' H' ∧ Rs N M' ρ' σ' σV' ∧ I i σ' st', ⟨ds.length, by simp, Nat.zero_le _, M1, ρ1, σ, st1, Ext.refl, r1, s.ext E1, h0⟩, ?_⟩
  rintro i m σV' H' ⟨rfl, hi, M', ρ', σ', st', E', r', s', hI⟩
  have hlen : st1.length ≤ st'.length := by
    rw [← r'.len, ← r1.len]
    obtain ⟨z, rfl⟩ := E'.pre
    simp
  by_cases hlt : i < ds.length
  · refine .inr ⟨gd.go i M' H' E'.mm r'.sub hlt, fun σV3 H3 => ∃ M3 ρ3 σ3 st3, Ext M1 ρ1 H1 M3 ρ3 H3 ∧ Rep N M3 ρ3 st3 H3 ∧ Rs N M3 ρ3 σ3 σV3 ∧ I (i + 1) σ3 st3, fun σV3 H3 q => ⟨ds.length - (i + 1), by omega, rfl, hlt, q⟩, fun v H2 y => ?_⟩
    obtain ⟨d, M2, hd, E2, r2, rd⟩ := gd.item E' r' hlt y
    refine g2.ok rd r2.sub (s'.ext E2) (hstep i d σ' st' hd hI hlen) fun σ2 h2 σV2 s2 _ => ?_
    have E12 := E'.trans E2
    have l2 := l1.step E12
    have turn : ∀ σ3 st3, I (i + 1) σ3 st3 → ∀ M3 ρ3 H3 σV3, Ext M2 ρ' H2 M3 ρ3 H3 → Rep N M3 ρ3 st3 H3 → Rs N M3 ρ3 σ3 σV3 → ∃ M3 ρ3 σ3 st3, Ext M1 ρ1 H1 M3 ρ3 H3 ∧ Rep N M3 ρ3 st3 H3 ∧ Rs N M3 ρ3 σ3 σV3 ∧ I (i + 1) σ3 st3 := fun σ3 st3 hI3 M3 ρ3 H3 σV3 E3 r3 s3 =>
      ⟨M3, ρ3, σ3, st3, E12.trans E3, r3, s3, hI3⟩
    exact lS.of (E := { E with nx := fun σ3 st3 => I (i + 1) σ3 st3, ct := fun σ3 st3 => I (i + 1) σ3 st3, bk := E.nx })
      ⟨turn, l2.rt, l2.ex, l2.nx, turn⟩ r2 s2 h2
  · have e : i = ds.length := by omega
    subst e
    exact .inl ⟨gd.stop _ M' H' E'.mm r'.sub (Nat.le_refl _), l1.nx _ _ (hend σ' st' hI hlen) M' ρ' H' σV' E' r' s'⟩
end
end Dl
namespace Dl
open PySem PySem.Spec PyProof.Rows L2 Co
section
variable {σ : Sl} {st : Sto} {E : En} {i n : Nat} {xs ys : List D} {ex : DX}
theorem dV_at {w : W} {k : W → Sto → Prop} (h : σ[i]? = some (some w)) (hk : k w st) : dV i σ st k ex := by
  unfold dV
  rw [h]
  exact hk
theorem dD_at {k : D → Sto → Prop} {d : D} (h1 : σ[i]? = some (some (.im d))) (hk : k d st) : dD (dV i) σ st k ex := dV_at h1 hk
theorem app_get (pre : Sto) (o : Ob) : (pre ++ [o])[pre.length]? = some o := by simp
theorem app_set (pre : Sto) (o o' : Ob) : (pre ++ [o]).set pre.length o' = pre ++ [o'] := by
  rw [List.set_append_right _ _ (Nat.le_refl _), Nat.sub_self]
  rfl
end
end Dl
end

section
set_option maxHeartbeats 4000000
namespace Dl
open PySem PySem.Spec PyProof.Rows L2 Co
section
variable {σ : Sl} {st : Sto} {E : En} {ex : DX}
theorem sIf_of {c : DT} {t u : DS} (h : c σ st (fun b st1 => two b (t E σ st1) (u E σ st1)) (exE E σ)) : sIf c t u E σ st := h
theorem sSeq_of {t u : DS} (h : t { E with nx := fun σ' st' => u E σ' st' } σ st) : sSeq t u E σ st := h
theorem sAsg_of {i : Nat} {t : DW} (h : t σ st (fun w st1 => E.nx (σ.set i (some w)) st1) (exE E σ)) : sAsg i t E σ st := h
theorem sRet_of {t : DW} (h : t σ st (fun w st1 => E.rt w st1) (exE E σ)) : sRet t E σ st := h
theorem sDrop_of {t : DW} (h : t σ st (fun _ st1 => E.nx σ st1) (exE E σ)) : sDrop t E σ st := h
theorem dI_of {t : DD} {k : W → Sto → Prop} (h : t σ st (fun d st1 => k (.im d) st1) ex) : dI t σ st k ex := h
theorem dC_of {d : D} {k : D → Sto → Prop} (h : k d st) : dC d σ st k ex := h
theorem dCmp_of {f : C2} {ta tb : DW} {k : Bool → Sto → Prop} (h : ta σ st (fun x st1 => tb σ st1 (fun y st2 => match seeW x st2, seeW y st2 with
  | some d, some e => f d e fun b => k b st2
  | _, _ => False) ex) ex) : dCmp f ta tb σ st k ex := h
theorem dIx_of {ta : DW} {ti : DD} {k : D → Sto → Prop} (h : ta σ st (fun w st1 => ti σ st1 (fun i st2 => match seeW w st2 with
  | some x => atD x i fun d => k d st2
  | none => False) ex) ex) : dIx ta ti σ st k ex := h
theorem dOp_of {f : F2} {ta tb : DD} {k : D → Sto → Prop} (h : ta σ st (fun x st1 => tb σ st1 (fun y st2 => f x y fun d => k d st2) ex) ex) : dOp f ta tb σ st k ex := h
theorem dUn_of {f : D → (D → Prop) → Prop} {ta : DD} {k : D → Sto → Prop} (h : ta σ st (fun x st1 => f x fun d => k d st1) ex) : dUn f ta σ st k ex := h
theorem dB_of {t : DT} {k : D → Sto → Prop} (h : t σ st (fun b st1 => k (.bl b) st1) ex) : dB t σ st k ex := h
theorem dNot_of {t : DT} {k : Bool → Sto → Prop} (h : t σ st (fun b st1 => k (!b) st1) ex) : dNot t σ st k ex := h
theorem dAnd_of {t u : DT} {k : Bool → Sto → Prop} (h : t σ st (fun b st1 => two b (u σ st1 k ex) (k false st1)) ex) : dAnd t u σ st k ex := h
theorem dOr_of {t u : DT} {k : Bool → Sto → Prop} (h : t σ st (fun b st1 => two b (k true st1) (u σ st1 k ex)) ex) : dOr t u σ st k ex := h
theorem dIfE_of {α : Type} {c : DT} {t u : Lv α} {k : α → Sto → Prop} (h : c σ st (fun b st1 => two b (t σ st1 k ex) (u σ st1 k ex)) ex) : dIfE c t u σ st k ex := h
theorem dTup_of {t : DAD} {k : D → Sto → Prop} (h : t σ st (fun ds st1 => ds.length ≤ 1000000 ∧ k (.tup ds) st1) ex) : dTup t σ st k ex := h
theorem dLst_of {t : DAD} {k : D → Sto → Prop} (h : t σ st (fun ds st1 => ds.length ≤ 1000000 ∧ k (.lst ds) st1) ex) : dLst t σ st k ex := h
theorem dLstM_of {t : DAD} {k : W → Sto → Prop} (h : t σ st (fun ds st1 => ds.length ≤ 1000000 ∧ k (.loc st1.length) (st1 ++ [.lst ds])) ex) : dLstM t σ st k ex := h
theorem adCons_of {t : DD} {r : DAD} {k : List D → Sto → Prop} (h : t σ st (fun w st1 => r σ st1 (fun ws st2 => k (w :: ws) st2) ex) ex) : adCons t r σ st k ex := h
theorem adNil_of {k : List D → Sto → Prop} (h : k [] st) : adNil σ st k ex := h
theorem aCons_of {t : DW} {r : DA} {k : List W → Sto → Prop} (h : t σ st (fun w st1 => r σ st1 (fun ws st2 => k (w :: ws) st2) ex) ex) : aCons t r σ st k ex := h
theorem aNil_of {k : List W → Sto → Prop} (h : k [] st) : aNil σ st k ex := h
theorem dCall_of {f : Pf} {ta : DA} {k : W → Sto → Prop} (h : ta σ st (fun ws st1 => callD f (reach st1 ws) ws st1 k ex) ex) : dCall f ta σ st k ex := h
theorem dCB_of {f : FL} {ta : DA} {k : D → Sto → Prop} (h : ta σ st (fun ws st1 => match seeWs ws st1 with
  | some ds => f ds fun d => k d st1
  | none => False) ex) : dCB f ta σ st k ex := h
end
end Dl
namespace Dl
open PySem PySem.Spec PyProof.Rows L2 Co
section
variable {σ : Sl} {st : Sto} {E : En} {ex : DX}
theorem sApp_of {to : DW} {t : DD} (h : to σ st (fun o st1 => (∃ ds, seeW o st1 = some (.lst ds)) ∧ t σ st1 (fun d st2 => match o with
  | .loc n => (match st2[n]? with
    | some (.lst ds) => ds.length ≤ 1000000 ∧ E.nx σ (st2.set n (.lst (ds ++ [d])))
    | _ => False)
  | _ => False) (exE E σ)) (exE E σ)) : sApp to t E σ st := h
end
end Dl
namespace Dl
open PySem PySem.Spec PyProof.Rows L2 Co
end Dl
namespace Dl
theorem sNext_of {E : En} {σ : Sl} {st : Sto} (h : E.nx σ st) : sNext E σ st := h
theorem sNext_seq {u : DS} {E : En} {σ : Sl} {st : Sto} (h : u E σ st) : sNext { E with nx := fun σ' st' => u E σ' st' } σ st := h
end Dl
end

section
set_option maxHeartbeats 4000000
namespace Dl
open PySem PySem.Spec PyProof.Rows L2 Co
section
variable {X : Cx} {b : Bool} {Wx : WX} {N : Kn} {s : Stmt}
end
end Dl
end

section
set_option maxHeartbeats 4000000
namespace Dl
open PySem PySem.Spec PyProof.Rows L2 Co
section
variable {κ : Type} [DecidableEq κ]
end
section
variable {P : Program} {w : World} {A : Around} {κ : Type} [DecidableEq κ] {knd : KeyKind P w κ}
end
section
variable {P : Program} {w : World} {A : Around} {E : Value → Shared → Prop} {s : Shared} {κ : Type} [DecidableEq κ] {knd : KeyKind P w κ}
end
end Dl
end

section
set_option maxHeartbeats 4000000
namespace Dl
open PySem PySem.Spec PyProof.Rows L2 Co
section
variable {X : Cx} {b : Bool} {Wx : WX} {e e1 e2 e3 : Expr} {es : List Expr} {pos p p2 q apos : Pos} {N : Kn}
end
mutual
inductive Dp : Sto → W → D → Sto → Prop
  | im {st d} : Dp st (.im d) d st
  | flat {st n o d} : st[n]? = some o → flat o = some d → Dp st (.loc n) d (st.set n (.fz d))
  | ins {st n C fs ds st'} : st[n]? = some (.ins C fs) → Dps st (fs.map (·.2)) ds st' → st'[n]? = some (.ins C fs) → Dp st (.loc n) (.ins C (fs.map (·.1)) ds) (st'.set n (.fz (.ins C (fs.map (·.1)) ds)))
  | lsW {st n ws ds st'} : st[n]? = some (.lsW ws) → Dps st ws ds st' → st'[n]? = some (.lsW ws) → Dp st (.loc n) (.lst ds) (st'.set n (.fz (.lst ds)))
  | dcW {st n ks ws ds st'} : st[n]? = some (.dcW ks ws) → Dps st ws ds st' → st'[n]? = some (.dcW ks ws) → Dp st (.loc n) (.dct ks ds) (st'.set n (.fz (.dct ks ds)))
inductive Dps : Sto → List W → List D → Sto → Prop
  | nil {st} : Dps st [] [] st
  | cons {st w d st1 ws ds st2} : Dp st w d st1 → Dps st1 ws ds st2 → Dps st (w :: ws) (d :: ds) st2
end
section
variable {N : Kn} {M H : Hp} {ρ : List Addr} {st st' : Sto}
mutual
theorem Dp.ok : ∀ {st : Sto} {w : W} {d : D} {st' : Sto} {M : Hp} {v : V}, Dp st w d st' → Rep N M ρ st H → Rw N M ρ w v → ∃ M', Ext M ρ H M' ρ H ∧ Rep N M' ρ st' H ∧ Rp N M' d v
  | _, _, _, _, M, _, .im, r, h => ⟨M, Ext.refl, r, h⟩
  | _, _, _, _, M, _, .flat ho e, r, ⟨a, ha, hv⟩ => by
    subst hv
    exact flat_ok r ha ho e
  | _, _, _, _, M, _, @Dp.ins st n C fs ds st' h1 h2 h3, r, ⟨a, ha, hv⟩ => by
    subst hv
    obtain ⟨hm, dx, xs, q1, q2, q3⟩ := r.ob n a _ ha h1
    obtain ⟨M1, E1, R1, r1⟩ := Dps.ok h2 r q3
    obtain ⟨hm1, _⟩ := R1.ob n a _ ha h3
    have hd : Rp N (upd M1 a (.ins (He.ga N.K C) dx xs)) (.ins C (fs.map (·.1)) ds) (.ref a) := ⟨a, dx, xs, rfl, upd_same, q2, r1.mono (same_grow0 hm1)⟩
    exact ⟨_, E1.trans (Ext.fz (List.mem_of_getElem? ha) hm1), R1.fz ha hm1 q1 hd, hd⟩
  | _, _, _, _, M, _, @Dp.lsW st n ws ds st' h1 h2 h3, r, ⟨a, ha, hv⟩ => by
    subst hv
    obtain ⟨hm, xs, q1, q3⟩ := r.ob n a _ ha h1
    obtain ⟨M1, E1, R1, r1⟩ := Dps.ok h2 r q3
    obtain ⟨hm1, _⟩ := R1.ob n a _ ha h3
    have hd : Rp N (upd M1 a (.lst xs)) (.lst ds) (.ref a) := ⟨a, xs, rfl, upd_same, r1.mono (same_grow0 hm1)⟩
    exact ⟨_, E1.trans (Ext.fz (List.mem_of_getElem? ha) hm1), R1.fz ha hm1 q1 hd, hd⟩
  | _, _, _, _, M, _, @Dp.dcW st n ks ws ds st' h1 h2 h3, r, ⟨a, ha, hv⟩ => by
    subst hv
    obtain ⟨hm, xs, q1, q2, q3⟩ := r.ob n a _ ha h1
    obtain ⟨M1, E1, R1, r1⟩ := Dps.ok h2 r q3
    obtain ⟨hm1, _⟩ := R1.ob n a _ ha h3
    have hd : Rp N (upd M1 a (.dK xs)) (.dct ks ds) (.ref a) := ⟨a, xs, rfl, upd_same, q2, r1.mono (same_grow0 hm1)⟩
    exact ⟨_, E1.trans (Ext.fz (List.mem_of_getElem? ha) hm1), R1.fz ha hm1 q1 hd, hd⟩
theorem Dps.ok : ∀ {st : Sto} {ws : List W} {ds : List D} {st' : Sto} {M : Hp} {vs : List V}, Dps st ws ds st' → Rep N M ρ st H → Rws N M ρ ws vs → ∃ M', Ext M ρ H M' ρ H ∧ Rep N M' ρ st' H ∧ Rps N M' ds vs
  | _, _, _, _, M, _, .nil, r, h => ⟨M, Ext.refl, r, h⟩
  | _, _, _, _, M, _, .cons h1 h2, r, ⟨x, q, e, hx, hq⟩ => by
    subst e
    obtain ⟨M1, E1, R1, r1⟩ := Dp.ok h1 r hx
    obtain ⟨M2, E2, R2, r2⟩ := Dps.ok h2 R1 (Rws.ext hq E1)
    exact ⟨M2, E1.trans E2, R2, Rps.cons (Rp.ext r1 E2) r2⟩
end
end
section
variable {X : Cx} {b : Bool} {Wx : WX} {e e1 e2 e3 : Expr} {es : List Expr} {pos p apos : Pos} {N : Kn} {x m : Str} {k : Nat} {f C : Addr} {ps : List Str} {pf : Pf} {M H M' H' : Hp} {ρ ρ' : List Addr} {σ : Sl} {st : Sto} {σV : L2.St} {ex : DX}
end
section
variable {X : Cx} {b : Bool} {Wx : WX} {e e1 e2 e3 : Expr} {es : List Expr} {pos p apos : Pos} {N : Kn} {s : Stmt}
theorem Rws.append {M : Hp} {ρ : List Addr} : ∀ {ds es : List W} {vs ws : List V}, Rws N M ρ ds vs → Rws N M ρ es ws → Rws N M ρ (ds ++ es) (vs ++ ws)
  | [], _, _, _, h, t => by rw [show _ = [] from h]; exact t
  | _ :: _, _, _, _, ⟨x, r, h1, h2, h3⟩, t => by
    subst h1
    exact ⟨x, r ++ _, rfl, h2, Rws.append h3 t⟩
end
section
variable {X : Cx} {b : Bool} {Wx : WX} {s : Stmt}
end
end Dl
end

section
set_option maxHeartbeats 4000000
namespace Dl
open PySem PySem.Spec PyProof.Rows L2 Co
section
variable {M : Model} {A : Around} {E : Value → Shared → Prop} {s : Shared} {env : Env}
end
section
variable {X : Cx} {pins : List (Addr × Obj)} {σ : L2.St} {H : Hp} {s s' : Shared} {W : WX} {Ek : XK}
end
section
variable {X : Cx}
end
section
variable {X : Cx} {b : Bool} {Wx : WX} {N : Kn}
section
variable {elt iter tg : Expr} {pos : Pos} {ifs : List Expr} {scope : Scope} {own : List (Str × Nat)} {it : Lv (List D)} {g : DG} {gV : TG} {tt : DT} {te : DD}
variable {i : Nat} {y : Str} {py spos : Pos}
end
end
section
variable {X : Cx} {b : Bool} {Wx : WX} {x C : Str} {body suite : List Stmt} {b₀ : Stmt} {np pos pos' : Pos} {t u : DS} {tbl : List (Str × Bool)}
end
end Dl
end

section
set_option maxHeartbeats 4000000
namespace Dl
open PySem PySem.Spec PyProof.Rows L2 Co PpSet
section
variable {X : Cx}
end
section
variable {X : Cx}
end
end Dl
end

section
set_option maxHeartbeats 4000000
namespace Dl
open PySem PySem.Spec PyProof.Rows L2 Co PpSet
section
variable {N : Kn} {Wx : WX} {M H M' H' : Hp} {ρ ρ' : List Addr} {σ : Sl} {st : Sto} {σV : L2.St} {ex : DX}
theorem Ext.base {D : Addr} (r : Rep N M ρ st H) (E : Ext M' ρ' H' M ρ H) (hD : H D = none) : H' D = none := by
  cases z : H' D with
  | none => rfl
  | some o =>
    by_cases w : D ∈ ρ'
    · exact absurd hD (r.mem (E.pre.mem w))
    · rw [E.fr D o z w] at hD; cases hD
end
section
variable {N : Kn} {Wx : WX}
end
section
variable {X : Cx} {b : Bool} {Wx : WX} {N : Kn} {elt tg iter : Expr} {ifs : List Expr} {scope : Scope} {own : List (Str × Nat)} {it : Lv (List D)} {g : DG} {gV : TG} {tt : DT} {te : DD} {p pos spos : Pos}
end
section
variable {N : Kn} {Wx : WX}
end
section
variable {X : Cx} {Wx : WX} {N : Kn} {elt tg iter tg1 iter1 : Expr} {ifs ifs1 : List Expr} {scope : Scope} {own : List (Str × Nat)} {it it1 : Lv (List D)} {g g1 : DG} {gV gV1 : TG} {tt tt1 : DT} {te : DD} {vs1 : List Nat} {pos : Pos}
variable {i : Nat} {y : Str} {py spos : Pos}
end
end Dl
end

section
set_option maxHeartbeats 4000000
namespace Dl
open PySem PySem.Spec PyProof.Rows L2 Co
section
variable {X : Cx} {b : Bool} {Wx : WX} {e : Expr} {es : List Expr} {p : Pos}
end
end Dl
end

section
set_option maxHeartbeats 4000000
namespace Dl
open PySem PySem.Spec PyProof.Rows L2 Co
section
variable {X : Cx} {b : Bool} {pins : List (Addr × Obj)} {σ : L2.St} {H F : Hp} {s : Shared}
end
section
variable {X : Cx} {N : Kn} {Wx : WX} {e1 e2 e3 e4 : Expr} {pos : Pos}
end
end Dl
end

section
set_option maxHeartbeats 4000000
namespace Dl
open PySem PySem.Spec PyProof.Rows L2 Co PySem.StrLaws
theorem log_lt {i : Int} {k : Nat} (hk : 0 < k) (h : i.natAbs < 2 ^ k) : i.natAbs.log2 < k := by
  by_cases h0 : i.natAbs = 0
  · rw [h0]
    simpa using hk
  · exact (Nat.log2_lt h0).mpr h
end Dl
namespace Dl.Ut
open PySem PySem.Spec PyProof.Rows L2 Co PySem.StrLaws Dl
theorem backAuxU (o2 : Ob) (n0 : Nat) : ∀ (i : Nat) (r : Sto), 1 ≤ i → backO [0] n0 [o2] i r = r
  | i, [], h => rfl
  | i, o :: r, h => by
    show (match idx i [0] with | some j => _ | none => o) :: backO [0] n0 [o2] (i + 1) r = o :: r
    rw [backAuxU o2 n0 (i + 1) r (by omega)]
    have : idx i [0] = none := by
      show (if 0 = i then some 0 else (idx i []).map (· + 1)) = none
      rw [if_neg (by omega)]
      rfl
    rw [this]
theorem backP (r : Sto) : back [0] (.pool :: r) [.pool] = .pool :: r := by
  show (unO [0] _ .pool :: backO [0] _ [.pool] 1 r) ++ _ = _
  rw [backAuxU _ _ _ _ (Nat.le_refl _)]
  exact List.append_nil _
theorem takeU {m : Int} {r : Sto} {k : W → Sto → Prop} {ex : DX} (h0 : 0 < m) (h1 : m < 2 ^ 250) (h : ∀ n : Nat, (n : Int) < m → k (.im (.int (n : Int))) (.pool :: r)) : callD pf_take [0] [.loc 0, .im (.int m)] (.pool :: r) k ex := by
  refine ⟨rfl, h0, h1, fun i a b => ?_⟩
  show k _ (back [0] (.pool :: r) [.pool])
  rw [backP]
  have := h i.toNat (by omega)
  rw [Int.toNat_of_nonneg a] at this
  exact this
theorem strAt {z : Str} {l : List Nat} {i : Nat} {c : Nat} (hz : z = S l) (hl : l.length ≤ 1000000) (h : l[i]? = some c) {k : D → Prop} (hk : k (.str (S [c]))) : atD (.str z) (.int (i : Int)) k := by
  subst hz
  refine ⟨by rw [S_len]; exact lenL6 (by omega), ?_⟩
  show (match atI l (i : Int) with | some c => k (.str ⟨#[c]⟩) | none => False)
  rw [atNat (Int.natCast_nonneg i) (by simpa using h)]
  exact hk
theorem lstAt {ds : List D} {i : Nat} {d : D} (h : ds[i]? = some d) {k : D → Prop} (hk : k d) : atD (.lst ds) (.int (i : Int)) k := by
  show (match atI ds (i : Int) with | some d => k d | none => False)
  rw [atNat (Int.natCast_nonneg i) (by simpa using h)]
  exact hk
theorem tupAt {ds : List D} {i : Nat} {d : D} (h : ds[i]? = some d) {k : D → Prop} (hk : k d) : atD (.tup ds) (.int (i : Int)) k := by
  show (match atI ds (i : Int) with | some d => k d | none => False)
  rw [atNat (Int.natCast_nonneg i) (by simpa using h)]
  exact hk
theorem takeGet {α : Type} {l : List α} {i : Nat} {x : α} (h : l[i]? = some x) : l.take (i + 1) = l.take i ++ [x] ∧ l.drop i = x :: l.drop (i + 1) ∧ (l.take i).length = i := by
  obtain ⟨h1, h2⟩ := List.getElem?_eq_some_iff.mp h
  refine ⟨by rw [List.take_add_one, h]; rfl, ?_, by rw [List.length_take]; omega⟩
  rw [List.drop_eq_getElem_cons h1, h2]
theorem ltAt {α : Type} {l : List α} {i : Nat} {x : α} (h : l[i]? = some x) : i < l.length := (List.getElem?_eq_some_iff.mp h).1
theorem addI {i j : Int} {k : D → Prop} (h : k (.int (i + j))) : fAdd (.int i) (.int j) k := h
theorem subI {i j : Int} {k : D → Prop} (h : k (.int (i - j))) : fSub (.int i) (.int j) k := h
def lsD (ls : List (List Nat)) : List D := ls.map fun l => .str (S l)
theorem lsD_len (ls : List (List Nat)) : (lsD ls).length = ls.length := List.length_map _
theorem lsD_snoc (ls : List (List Nat)) (l : List Nat) : lsD ls ++ [.str (S l)] = lsD (ls ++ [l]) := by
  unfold lsD
  rw [List.map_append]
  rfl
theorem Sapp (a b : List Nat) : S a ++ S b = S (a ++ b) := S_app a b
def joinU (a : List Nat) : List (List Nat) → List Nat
  | [] => []
  | [x] => x
  | x :: y :: r => x ++ (a ++ joinU a (y :: r))
theorem joinU_txt (a : List Nat) (ls : List (List Nat)) : Txt.join (S a) (ls.map S) = S (joinU a ls) := by
  refine (PySem.StrLaws.glued_eq_join _ _).trans ?_
  have key : ∀ ls : List (List Nat), Str.join (S a) (ls.map S) = S (joinU a ls) := fun ls => by
    induction ls with
    | nil => rfl
    | cons x r ih =>
      cases r with
      | nil => rfl
      | cons y r =>
        show S x ++ S a ++ Str.join (S a) ((y :: r).map S) = S (x ++ (a ++ joinU a (y :: r)))
        rw [ih, S_app, S_app, List.append_assoc]
  exact key ls
theorem joinU_len (a : List Nat) : ∀ ls : List (List Nat), ls ≠ [] → (joinU a ls).length + a.length = ((ls.map S).map (·.length)).sum + ls.length * a.length
  | [], h => absurd rfl h
  | [x], _ => by
    show x.length + a.length = (S x).length + 0 + 1 * a.length
    rw [S_len]
    omega
  | x :: y :: r, _ => by
    have ih := joinU_len a (y :: r) (by simp)
    rw [List.map_cons, List.map_cons, List.sum_cons, List.length_cons, Nat.succ_mul]
    show (x ++ (a ++ joinU a (y :: r))).length + _ = _
    rw [List.length_append, List.length_append, S_len]
    omega
theorem joinU_nil (ls : List (List Nat)) : joinU [] ls = ls.flatten := by
  induction ls with
  | nil => rfl
  | cons x r ih =>
    cases r with
    | nil => exact (List.append_nil _).symm
    | cons y r => show x ++ ([] ++ joinU [] (y :: r)) = _; rw [ih]; rfl
theorem joinUt {a : List Nat} {z : Str} {ls : List (List Nat)} {k : D → Prop} (hz : z = S a) (ha : a.length ≤ 10) (hl : ls.length ≤ 100000) (hs : (joinU a ls).length ≤ 1000000) (hk : k (.str (S (joinU a ls)))) : mJoin (.str z) [.lst (lsD ls)] k := by
  subst hz
  refine ⟨ls.map S, by unfold lsD; rw [List.map_map]; rfl, ?_, ?_⟩
  · cases ls with
    | nil => show 0 + 0 * _ ≤ _; omega
    | cons x r =>
      have := joinU_len a (x :: r) (by simp)
      have h2 : (x :: r).length * a.length ≤ 100000 * 10 := Nat.mul_le_mul hl ha
      rw [List.length_map, S_len]
      omega
  · rw [joinU_txt]
    exact hk
theorem joinE {ls : List (List Nat)} {k : D → Prop} (hl : ls.length ≤ 100000) (hs : ls.flatten.length ≤ 1000000) (hk : k (.str (S ls.flatten))) : mJoin (.str "") [.lst (lsD ls)] k := by
  refine joinUt (a := []) rfl (by decide) hl ?_ ?_
  · rw [joinU_nil]; exact hs
  · rw [joinU_nil]; exact hk
theorem flatLe {B : Nat} : ∀ {ls : List (List Nat)}, (∀ l ∈ ls, l.length ≤ B) → ls.flatten.length ≤ B * ls.length
  | [], _ => Nat.zero_le _
  | l :: ls, h => by
    have h1 := h l List.mem_cons_self
    have ih := flatLe (B := B) (ls := ls) fun w hw => h w (List.mem_cons_of_mem _ hw)
    rw [List.flatten_cons, List.length_append, List.length_cons, Nat.mul_succ]
    omega
theorem cutTo (l : List Nat) (b : Nat) : cutS (S l) none (some (b : Int)) = S (l.take b) := by
  by_cases h : b ≤ l.length
  · exact cutS_to h
  · unfold cutS
    rw [HT.sIx_nat, HT.sIx_none, S_len, Nat.min_eq_right (by omega), List.take_of_length_le (show l.length ≤ b by omega)]
    simp
end Dl.Ut
end

section
set_option maxHeartbeats 4000000
namespace Dl.Grd
open PySem PySem.Spec PyProof.Rows L2 Co Dl
section
variable {P : Program} {w : World} {K : PySem.W.Frag} {mg : Str → Option Value} {base : Heap} {k : Nat} {f : Addr} {ps : List Str} {sp : Sp}
end
end Dl.Grd
end

section
set_option maxHeartbeats 4000000
namespace Dl.Sup
open PySem PySem.Spec PyProof.Rows L2 Co Dl NdefX
structure SupW (K : PySem.W.Frag) (C f cc ca : Addr) (F : NF) (fl : Str) : Prop where
  lk : ∃ oc od osl kV doc pm an ct, K.lookup f = some ⟨oc, od, .func (PySem.W.fnX F.name F.qual F.params F.body F.scope [(("__class__" : Str), cc)] .none kV doc pm an (.ref ca) ct), osl⟩
  cl : F.cl = [(("__class__" : Str), cc)]
  cd : F.c = ca
  co : PySem.W.codeIn K (.ref ca) F.qual = true
  fi : ∃ ccl cdd vs ccs tf, K.lookup ca = some ⟨ccl, cdd, .fields vs, ccs⟩ ∧ vs[2]? = some (.str fl tf)
  ce : ∃ cl cld csl, K.lookup cc = some ⟨cl, cld, .cell (some (.ref C)), csl⟩
  su : PySem.W.mroIn K C (.ref C) = some true
  si : PySem.W.ks_superIn K C C "__init__" = some (some (.builtin "ValueError.__init__"))
  ve : PySem.W.subIn K (.ref C) (.type "ValueError") = some true
  n3 : PySem.W.nsIn K PySem.cStatics "thirdparty.any" = some none
structure SupP (P : Program) (fl : Str) : Prop where
  file : ((P.main.file : Str) == fl) = true
  top : (P.main.scope.names.lookup ("super" : Str)).isSome = false
section
variable {CX : CXT} {P : Program} {w : World} {K : PySem.W.Frag} {mg : Str → Option Value} {base : Heap} {N ps : List Str} {F : NF} {C f cc ca : Addr} {A : Around} {outer : List Env} {s : Shared} {H : Hp} {E : XK} {vs : List V} {fl : Str}
theorem kx {X : Cx} {pins : List (Addr × Obj)} {σ : L2.St} (I : Inv X pins σ H s) : X.K.In s.heap := I.kIn
theorem cw1 {M : Model} {A : Around} {E : Value → Shared → Prop} {s : Shared} {pos : Pos} {env : Env} {e : Expr} {u x : Addr} {Q : Value → Shared → Prop} (he : starEach [e] env = (false, eval e env) :: starEach [] env)
    (h : wpAny M A (spliced (backTo pos (starEach [e] env))) (fun vs s₁ => PySem.W.KxsAt "ValueError.__init__" u x s₁.heap ∧ wpAny M A (call (.ref u) vs) Q E s₁) E s) :
    wpAny M A (callWith pos (.ref u) [] (backTo pos (starEach [e] env)) []) Q E s := by
  rw [he] at h ⊢
  refine PySem.W.kxs_callWith (i := "ValueError.__init__") (x := x) rfl ?_
  exact Calls.evalArgs_plain h
theorem sup_stmt {X : Cx} {pins : List (Addr × Obj)} {σ : L2.St} {a : Addr} {arg : Expr} {ta : TA} {p0 p1 p2 p3 p4 : Pos} {body : List Stmt} {Q : Flow → Shared → Prop} {ar : Arg} {L : Addr} (I : Inv X pins σ H s) (S : SupW X.K C f cc ca F fl) (hP : SupP X.prog fl) (T : OexC X.K C)
    (henv : X.env = PySem.W.envX F.qual F.scope L f (.ref F.c) F.cl) (hmg : X.mg "super" = none) (hks : F.scope.names.lookup ("super" : Str) = some .globalImplicit) (hkc : F.scope.names.lookup ("__class__" : Str) = some .free) (hk : F.scope.kind = .function)
    (har : (F.params.posonlyargs ++ F.params.args).head? = some ar) (h0 : X.N[0]? = some ar.arg) (hloc : F.scope.names.lookup ar.arg = some .local) (hs0 : σ[0]? = some (some (.ref a))) (ea : H a = some (exo a C none))
    (ha : PA X [arg] ta) (hst : starEach [arg] X.env = (false, eval arg X.env) :: starEach [] X.env) (ht : ta σ H fun us H1 => us.length ≤ 1000 ∧ H1 = H)
    (hint : interactive X.env = false) {pl : Sem Bool}
    (hc : eval (.Call (.Attribute (.Call (.Name "super" p0) [] [] p1) "__init__" p2) [arg] [] p3) X.env = (do
      let ov ← attributeBase (.Call (.Name "super" p0) [] [] p1) "__init__" X.env (eval (.Call (.Name "super" p0) [] [] p1) X.env)
      standAt p2.atName
      let (f, first) ← holding [ov] (getMethod ov "__init__" pl)
      callWith p3 f first (backTo p3 (starEach [arg] X.env)) []))
    (h : ∀ s', Inv X pins σ H s' → Q .next s') :
    PySem.wpAt (model X.prog X.w) X.A (.func body X.env) (exec (.Expr (.Call (.Attribute (.Call (.Name "super" p0) [] [] p1) "__init__" p2) [arg] [] p3) p4) X.env) Q X.xe s := by
  have KX := I.kIn
  obtain ⟨oc, od, osl, kV, doc, pm, an, ct, lk⟩ := S.lk
  obtain ⟨ccl, cdd, vs, ccs, tf, hca, hvs⟩ := S.fi
  obtain ⟨cl, cld, csl, hcc⟩ := S.ce
  obtain ⟨nm, q, NN, bs, bm, sn, sub, ab, col, dd, k0, k1, k2, k3, k5, hC, hbm⟩ := T.cls
  have hcl : PySem.W.clsIn X.K C = some { name := nm, bases := bs, mro := .ref C :: bm, ns := NN, qualname := q, hasDict := true, slotNames := sn, subclasses := sub, abstract := ab, collection := col, hasDel := false } := by unfold PySem.W.clsIn; rw [hC] <;> rfl
  obtain ⟨m, hns, hval⟩ := I.loc
  refine ks_wpAt_Expr_any ?_ (hi := hint)
  refine ks_wpAt_MethodCall (pl := pl) ?_ hc
  have hfu : X.env.func = some f := by rw [henv]
  have hcode : X.env.code = .ref ca := by rw [henv, S.cd]
  have hkS : X.env.kindOf "super" = some .globalImplicit := by rw [henv]; exact hks
  have hkC : X.env.kindOf "__class__" = some .free := by rw [henv]; exact hkc
  have hkA : X.env.kindOf ar.arg = some .local := by rw [henv]; exact hloc
  have hkk : X.env.scope.kind = .function := by rw [henv]; exact hk
  have hcells : X.env.cells.lookup ("__class__" : Str) = some cc := by rw [henv, S.cl]; rfl
  obtain ⟨t1, ho⟩ := exo_at I.hok ea
  refine ks_wpAt_super_base hkS hkC (by decide) hfu (KX _ _ lk) rfl har hcode (KX _ _ hca) rfl hvs hP.file hP.top ?_
  obtain ⟨mb, b1, b2⟩ := I.mod.blt
  refine PySem.W.ks_loadName_global hkk hkS (Calls.loadGlobal_builtin (by rw [I.ok.glob]; exact I.mod.glob.keeps I.bk) hmg (by rw [I.ok.blt]; exact b1.keeps I.bk) ((b2 _ (by decide)).trans (show bootBuiltins "super" = some (.type "super") by rfl)) ⟨rfl, ?_⟩)
  refine wpAny_loadName_free hkk hkC hcells ⟨_, KX _ _ hcc, rfl⟩ ?_
  obtain ⟨u, ru, lu⟩ := hval 0 ar.arg (.ref a) h0 hs0 (by rw [henv]; exact .inl hloc)
  obtain rfl : u = Value.ref a := ru
  have hma : m ar.arg = some (.ref a) := by
    rcases lu with ⟨_, e⟩ | ⟨e, _⟩
    · exact e
    · rw [hkA] at e
      rcases e with e | e <;> cases e
  refine wpAny_loadName_local hkk hkA hns hma ?_
  refine ks_wpAny_isType_cls (KX _ _ hC) rfl ⟨rfl, ?_⟩
  obtain ⟨hp, g, d, t, os⟩ := s
  refine ks_wpAny_call_super (KX _ _ hC) rfl ho rfl (fun c e => by cases e) (PySem.W.looks_mroIn KX S.su) (fun h1 e1 k1 => ?_)
  have I1 : Inv X pins σ H ⟨h1, g, d, t, os⟩ := I.kept (t' := t) k1
  have K1 := I1.kIn
  have ho1 := k1 _ _ ho
  have IA : PySem.W.InstAt h1 a { cls := .ref C, dict := none, data := .fields #[.ref t1, .none, .none, .none, .bool false, .none] } C none := ⟨ho1, rfl, rfl, trivial⟩
  have hm := S.si
  unfold PySem.W.ks_superIn at hm
  rw [hcl] at hm
  refine PySem.W.kxs_getMethod PySem.W.kxs_ValueError e1 (PySem.W.looks_opaque K1 S.n3) (l₀ := .ref C :: bm) ?_ rfl K1 hm (IA.type.andThen (PySem.W.looks_subIn K1 S.ve)) (PySem.W.ks_ne K1 IA hcl) (by decide) ?_
  · exact fun A Q E s k q => wpAny_bind ((PySem.W.looks_clsIn K1 hcl) A _ E s k (wpAny_pure q))
  have k2 : ∀ b o, h1.get? b = some o → (h1.push (PySem.W.kxs_mw "ValueError.__init__" a)).get? b = some o := fun b o e => Heap.get?_push_of_some _ e
  have I2 : Inv X pins σ H ⟨h1.push (PySem.W.kxs_mw "ValueError.__init__" a), g, d, t + 1, os⟩ := I1.kept (t' := t + 1) k2
  have hu : (h1.push (PySem.W.kxs_mw "ValueError.__init__" a)).get? h1.objs.size = some (PySem.W.kxs_mw "ValueError.__init__" a) := Heap.get?_push_at rfl rfl
  have hnu : H h1.objs.size = none := I1.hok.fresh (Nat.le_refl _)
  have I3 : Inv X ((h1.objs.size, PySem.W.kxs_mw "ValueError.__init__" a) :: pins) σ H ⟨h1.push (PySem.W.kxs_mw "ValueError.__init__" a), g, d, t + 1, os⟩ := by
    refine I2.pins_of fun p hp => ?_
    rcases List.mem_cons.mp hp with rfl | hp
    · exact ⟨hu, hnu, Nat.ne_of_gt I1.lt, I1.nofs (Nat.le_refl _), fun v z => by cases z⟩
    · exact I2.pin p (List.mem_append_right _ hp)
  show wpAny _ _ (callWith p3 (.ref h1.objs.size) [] (backTo p3 (starEach [arg] X.env)) []) _ _ _
  refine cw1 (x := a) hst ?_
  refine thn (ha.run p3 _ _ σ H _ I3 ht) fun us s4 ⟨vs, H4, I4, r4, hl4, e4⟩ => ?_
  subst e4
  have hu4 := (I4.pin _ (List.mem_append_right _ (List.mem_cons_self ..))).1
  refine ⟨hu4, ?_⟩
  have I5 : Inv X pins σ H4 s4 := I4.pins_of fun q hq => I4.pin q (List.mem_append_right _ (List.mem_cons_of_mem _ hq))
  obtain ⟨t4, ho4⟩ := exo_at I5.hok ea
  have K5 := I5.kIn
  have hlen : us.length ≤ sizeLine := by
    rw [← Paired.length r4, sizeLine_eq]
    omega
  obtain ⟨h4, g4, d4, tk4, os4⟩ := s4
  refine wpAny_call (codeAny_of_tree ?_)
  show wpAny _ X.A.in1 (callAny (.ref h1.objs.size) ⟨us, []⟩) _ _ _
  simp only [callAny]
  refine wpAny_bind (wpAny_load hu4 ?_)
  simp only [PySem.W.kxs_mw, show (Value.type "method-wrapper" == Value.type "method" || Value.type "method-wrapper" == Value.type "builtin_function_or_method" || Value.type "method-wrapper" == Value.type "method-wrapper") = true by decide, if_true]
  refine PySem.W.KFB.if_so (by decide) ?_
  refine wpAny_bind (PySem.W.check_bound_init PySem.F.excBase_ValueError.toExcCallFacts (K5 _ _ hC) ho4 rfl ?_)
  refine wpAny_bind (wpAny_pure (wpAny_pure ?_))
  refine ⟨plainId_quiet PySem.F.excBase_ValueError.init.plain _, codeAny_builtin PySem.F.excBase_ValueError.initEntry ?_⟩
  refine PySem.W.exc_init_tree (cls := .ref C) (t0 := t4) (dv := none) (c2 := .none) (c3 := .none) (b4 := .bool false) ho4 hlen fun h' kk e' t' => ?_
  have J := I5.write (t' := tk4) (x := a) (e := a) (o := exo a C none) (by rw [ea]; exact True.intro) (.inl rfl) kk ⟨_, e'⟩ (exo_ok e')
  have eu : upd H4 a (exo a C none) = H4 := by
    funext b
    by_cases hb : b = a
    · rw [hb, upd_same, ea]
    · rw [upd_ne hb]
  rw [eu] at J
  exact h _ J
end
def ini (fs : List Str) : List Str := ("self" : Str) :: (fs ++ [("__class__" : Str)])
def argB (fs : List Str) : Expr → Bool
  | .Name r _ => fs.contains r && ((r == ("__debug__" : Str)) == false && (r == ("__classdict__" : Str)) == false)
  | .Constant (.str _) _ _ => true
  | _ => false
def asgB : List Stmt → List Str → Bool
  | [], [] => true
  | .Assign [.Attribute (.Name s _) f _] (.Name p _) _ :: r, g :: q => s == ("self" : Str) && (f == g && (p == g && ((p == ("__debug__" : Str)) == false && ((p == ("__classdict__" : Str)) == false && asgB r q))))
  | _, _ => false
def ostR (K : PySem.W.Frag) : Nat → List Str → TS
  | _, [] => tNext
  | i, f :: r => tSeq (tOst K f (tV 0) (tV i)) (ostR K (i + 1) r)
section
variable {X : Cx} {fs : List Str} {sc : Scope}
theorem ev_super {env : Env} {arg : Expr} {p0 p1 p2 p3 : Pos} (hp : (p2.endLine == p3.line) = true) (hf : methodCallForm 1 (backTo p3 (starEach [arg] env)) (backToKw p3 (keywordEach [] env)) = true) :
    eval (.Call (.Attribute (.Call (.Name "super" p0) [] [] p1) "__init__" p2) [arg] [] p3) env = (do
      let ov ← attributeBase (.Call (.Name "super" p0) [] [] p1) "__init__" env (eval (.Call (.Name "super" p0) [] [] p1) env)
      standAt p2.atName
      let (f, first) ← holding [ov] (getMethod ov "__init__" (do return (← importBound (.Call (.Name "super" p0) [] [] p1) env).getD true))
      callWith p3 f first (backTo p3 (starEach [arg] env)) []) := by
  show (do
    let ov ← attributeBase (.Call (.Name "super" p0) [] [] p1) "__init__" env (eval (.Call (.Name "super" p0) [] [] p1) env)
    standAt p2.atName
    methodCall (.Call (.Name "super" p0) [] [] p1) "__init__" p2 p3 env ov (1 + 0) (backTo p3 (starEach [arg] env)) (backToKw p3 (keywordEach [] env))) = _
  unfold methodCall
  rw [show (1 + 0 : Nat) = 1 from rfl, hf]
  have e : methodCallPos true (.Call (.Name "super" p0) [] [] p1) env p2 p3 = pure p3 := by
    unfold methodCallPos
    rw [hp]
    rfl
  rw [e]
  rfl
theorem asg_pss (hN : X.N = ini fs) (hv : ∀ x ∈ ("self" : Str) :: fs, X.env.scope.names.lookup x = some .local) : ∀ {rest : List Stmt} {gs : List Str} {i : Nat}, asgB rest gs = true → (∀ (j : Nat) g, gs[j]? = some g → X.N[i + j]? = some g ∧ g ∈ fs) → PSs X rest (ostR X.K i gs)
  | [], [], i, _, _ => pss_nil
  | [], _ :: _, i, h, _ => by simp [asgB] at h
  | st :: r, [], i, h, _ => by
    unfold asgB at h
    split at h <;> simp_all
  | st :: r, g :: q, i, h, hj => by
    unfold asgB at h
    split at h
    · rename_i e1 e2
      simp at e2
    · rename_i s0 p0 f0 p1 p2 p3 p4 r' g' q' e1 e2
      cases e1
      cases e2
      simp only [Bool.and_eq_true, beq_iff_eq] at h
      obtain ⟨h1, h2, h3, h4, h5, h6⟩ := h
      subst h1 h2 h3
      have hg := hj 0 _ rfl
      have x0 : X.N[0]? = some ("self" : Str) := by rw [hN]; rfl
      exact pss_cons (ps_ost (va 0 x0 (.inl (hv _ List.mem_cons_self))) (va i hg.1 (.inl (hv _ (List.mem_cons_of_mem _ hg.2))) (by simpa using h4) (by simpa using h5))) (asg_pss hN hv (i := i + 1) h6 fun j g hjg => by
        have := hj (j + 1) g (by simpa using hjg)
        rw [show i + 1 + j = i + (j + 1) by omega]
        exact this)
    · cases h
theorem arg_ok (hN : X.N = ini fs) (hv : ∀ x ∈ ("self" : Str) :: fs, X.env.scope.names.lookup x = some .local) {arg : Expr} (p0 p1 p2 p3 : Pos) (hp : (p2.endLine == p3.line) = true) (h : argB fs arg = true) : (∃ pl, eval (.Call (.Attribute (.Call (.Name "super" p0) [] [] p1) "__init__" p2) [arg] [] p3) X.env = (do
      let ov ← attributeBase (.Call (.Name "super" p0) [] [] p1) "__init__" X.env (eval (.Call (.Name "super" p0) [] [] p1) X.env)
      standAt p2.atName
      let (f, first) ← holding [ov] (getMethod ov "__init__" pl)
      callWith p3 f first (backTo p3 (starEach [arg] X.env)) [])) ∧ ∃ ta, PA X [arg] ta ∧ starEach [arg] X.env = (false, eval arg X.env) :: starEach [] X.env ∧
    ∀ (a : Addr) (ys : List V) (σ : L2.St) (H : Hp), ys.length = fs.length → (∀ (j : Nat) y, (V.ref a :: ys)[j]? = some y → σ[j]? = some (some y)) → ta σ H fun us H1 => us.length ≤ 1000 ∧ H1 = H := by
  cases arg <;> try (simp [argB] at h; done)
  · rename_i c k p
    cases c <;> try (simp [argB] at h; done)
    exact ⟨⟨_, ev_super hp (by rfl)⟩, _, pa_cons pe_str pa_nil, rfl, fun a ys σ H _ _ => ⟨by show 1 ≤ 1000; decide, rfl⟩⟩
  · rename_i r p
    unfold argB at h
    rw [Bool.and_eq_true, Bool.and_eq_true] at h
    obtain ⟨h1, h2, h3⟩ := h
    have hm : r ∈ fs := by simpa using h1
    obtain ⟨j, hj⟩ := List.getElem?_of_mem hm
    have hlt := (List.getElem?_eq_some_iff.mp hj).1
    have hNj : X.N[j + 1]? = some r := by
      rw [hN]
      unfold ini
      rw [List.getElem?_cons_succ, List.getElem?_append_left hlt]
      exact hj
    refine ⟨⟨_, ev_super hp (by rfl)⟩, _, pa_cons (va (j + 1) hNj (.inl (hv _ (List.mem_cons_of_mem _ hm))) (by simpa using h2) (by simpa using h3)) pa_nil, rfl, fun a ys σ H hl hσ => ?_⟩
    have hy : ys[j]? = some (ys[j]'(by omega)) := List.getElem?_eq_getElem (by omega)
    have e := hσ (j + 1) _ (by rw [List.getElem?_cons_succ]; exact hy)
    show (match σ[j + 1]? with | some (some v) => _ | _ => False)
    rw [e]
    exact ⟨by show 1 ≤ 1000; decide, rfl⟩
end
structure SupD (K : PySem.W.Frag) (C f cc ca : Addr) (F : NF) (fl : Str) (fs : List Str) (rest : List Stmt) (arg : Expr) : Prop where
  w : SupW K C f cc ca F fl
  body : ∃ p0 p1 p2 p3 p4, (p2.endLine == p3.line) = true ∧ F.body = .Expr (.Call (.Attribute (.Call (.Name "super" p0) [] [] p1) "__init__" p2) [arg] [] p3) p4 :: rest
  ar : argB fs arg = true
  as : asgB rest fs = true
  sc : NScope (ini fs) (("self" : Str) :: fs) [("__class__" : Str)] F.scope
  su : F.scope.names.lookup ("super" : Str) = some .globalImplicit
  pa : ∃ a0 as, F.params = ⟨[], a0 :: as, none, [], [], none, []⟩ ∧ a0.arg = "self" ∧ as.map (·.arg) = fs
  bi : ∀ (kV doc pm : Value) (an : Option Addr) (ct : Value) (us : List Value), us.length = fs.length + 1 → bindArgs (PySem.W.fnX F.name F.qual F.params F.body F.scope F.cl .none kV doc pm an (.ref F.c) ct) ⟨us, []⟩ = pure ((("self" : Str) :: fs).zip us)
  kp : PySem.W.keepIn K (.ref f) = true
theorem startF_get {N : List Str} {vs : List V} {ws : List (Option V)} {j : Nat} {y : V} (h : vs[j]? = some y) : (startF N vs ws)[j]? = some (some y) := by
  unfold startF
  have hl := (List.getElem?_eq_some_iff.mp h).1
  rw [List.getElem?_append_left (by simpa using hl), List.getElem?_map, h]
  rfl
theorem sup_fn {P : Program} {w : World} {K : PySem.W.Frag} {mg : Str → Option Value} {base : Heap} {k : Nat} {C f cc ca : Addr} {F : NF} {fl : Str} {fs : List Str} {rest : List Stmt} {arg : Expr} {sp : Sp} {CX : CXT} (S : SupD K C f cc ca F fl fs rest arg) (hP : SupP P fl) (hmg : mg "super" = none)
    (hsp : ∀ vs H Q E, sp vs H Q E → ∃ a ys, vs = .ref a :: ys ∧ ys.length = fs.length ∧ OexC K C ∧ H a = some (exo a C none) ∧ ∀ σ : L2.St, (∀ (j : Nat) y, vs[j]? = some y → σ[j]? = some (some y)) → ostR K 1 fs { nx := fun _ H' => Q .non H', rt := Q } σ H) :
    ∃ fd, FnOk P w K mg base CX (k + 1) f fd (("self" : Str) :: fs) sp ∧ Binds K fd (("self" : Str) :: fs) [] := by
  obtain ⟨oc, od, osl, kV, doc, pm, an, ct, lk⟩ := S.w.lk
  obtain ⟨p0, p1, p2, p3, p4, hpp, hbody⟩ := S.body
  obtain ⟨a0, as, hpar, ha0, has⟩ := S.pa
  have lk' : K.lookup f = some ⟨oc, od, .func (PySem.W.fnX F.name F.qual F.params F.body F.scope F.cl .none kV doc pm an (.ref F.c) ct), osl⟩ := by rw [S.w.cl, S.w.cd]; exact lk
  refine ⟨PySem.W.fnX F.name F.qual F.params F.body F.scope F.cl .none kV doc pm an (.ref F.c) ct, ⟨fun vs H Q E h => ?_, fun A outer s H args us vs Q E hr e0 hb r h => ?_⟩, ?_⟩
  · obtain ⟨a, ys, rfl, hl, _⟩ := hsp _ _ _ _ h
    rw [List.length_cons, List.length_cons, hl]
  · obtain ⟨a, ys, rfl, hl, T, ea, hq⟩ := hsp _ _ _ _ h
    have KX : K.In s.heap := e0.mod.kin.keeps fun b o e => (e0.bs b o e).1
    have lim : s.heap.NoLimit := e0.mod.nolimit.keeps fun b o e => (e0.bs b o e).1
    obtain ⟨cl, cld, csl, hcc⟩ := S.w.ce
    have CA : CellsAt F.cl [("__class__" : Str)] [none] s.heap H := by
      have one : ∀ y c, F.cl.lookup y = some c → c = cc ∧ y = "__class__" := fun y c e => by
        rw [S.w.cl, List.lookup_cons] at e
        split at e
        · rename_i z
          cases e
          exact ⟨rfl, by simpa using z⟩
        · cases e
      refine ⟨rfl, fun y c e => ?_, fun x y c e1 e2 => by rw [(one x c e1).2, (one y c e2).2], fun i y e => ?_⟩
      · rw [(one y c e).1]
        exact ⟨(e0.bs _ _ (e0.mod.kin _ _ hcc)).2, _, ⟨_, KX _ _ hcc, rfl⟩⟩
      · cases i with
        | zero =>
          cases e
          refine ⟨cc, by rw [S.w.cl]; rfl, fun v z => ?_⟩
          cases z
        | succ i => cases e
    refine ks_codeAny_call_defAt hr.depth (KX _ _ lk') rfl lim (PySem.W.codeRec_of KX (by rw [S.w.cd]; exact S.w.co)) rfl hb (fun y hy => S.sc.nocell y hy) (fun y hy => S.sc.par _ (List.of_mem_zip hy).1) (fun h₁ hns hk => ?_) S.sc.co S.sc.gen S.sc.kind
    have I : Inv (ncx CX P w K mg base (ini fs) F f A outer s H E) [] (startF (ini fs) (.ref a :: ys) [none]) H { s with heap := h₁, toks := s.toks + ((("self" : Str) :: fs).zip us).length } :=
      inv_startN S.sc hr.hd e0 (by rw [List.length_cons, List.length_cons, hl]) r CA hns hk
    have hσ : ∀ (j : Nat) y, (V.ref a :: ys)[j]? = some y → (startF (ini fs) (.ref a :: ys) [none])[j]? = some (some y) := fun j y => startF_get
    generalize startF (ini fs) (.ref a :: ys) [none] = σ at I hσ
    have hv : ∀ x ∈ ("self" : Str) :: fs, (ncx CX P w K mg base (ini fs) F f A outer s H E).env.scope.names.lookup x = some .local := fun x hx => S.sc.par x hx
    obtain ⟨⟨pl, hev⟩, ta, hta, hst, htt⟩ := arg_ok (X := ncx CX P w K mg base (ini fs) F f A outer s H E) rfl hv p0 p1 p2 p3 hpp S.ar
    have hrest := asg_pss (X := ncx CX P w K mg base (ini fs) F f A outer s H E) rfl hv (i := 1) S.as fun j g hj => by
      have hlt := (List.getElem?_eq_some_iff.mp hj).1
      refine ⟨?_, List.mem_of_getElem? hj⟩
      show (ini fs)[1 + j]? = some g
      unfold ini
      rw [Nat.add_comm, List.getElem?_cons_succ, List.getElem?_append_left hlt]
      exact hj
    have fin : ∀ {σ' : L2.St} {H' : Hp} {v : V} {u : Value} {s' : Shared}, Inv (ncx CX P w K mg base (ini fs) F f A outer s H E) [] σ' H' s' → RelV v u → Q v H' → CE outer P w H s Q u s' :=
      fun {σ' H' v u s'} J rv q => ⟨v, H', J.os, J.bare, J.base, J.hok, rv, q⟩
    show PySem.wpAt (model P w) (A.deeper (envF F f s.heap.objs.size)) (.func F.body (envF F f s.heap.objs.size)) (execs F.body (envF F f s.heap.objs.size)) _ _ _
    rw [show execs F.body (envF F f s.heap.objs.size) = execs (.Expr (.Call (.Attribute (.Call (.Name "super" p0) [] [] p1) "__init__" p2) [arg] [] p3) p4 :: rest) (envF F f s.heap.objs.size) by rw [hbody]]
    have hint : interactive (ncx CX P w K mg base (ini fs) F f A outer s H E).env = false := by
      have hk := S.sc.kind
      show interactive (envF F f s.heap.objs.size) = false
      unfold interactive
      simp [PySem.W.envX, hk]
    refine ks_wpAt_execs_cons ?_
    refine sup_stmt (X := ncx CX P w K mg base (ini fs) F f A outer s H E) (body := F.body) (p0 := p0) (p1 := p1) (p2 := p2) (p3 := p3) (p4 := p4) (arg := arg) (ta := ta) (ar := a0) (a := a) I S.w hP T rfl hmg S.su (S.sc.frk _ List.mem_cons_self) S.sc.kind (by rw [hpar]; rfl) (by show (ini fs)[0]? = _; rw [ha0]; rfl) (by rw [ha0]; exact S.sc.par _ List.mem_cons_self) (hσ 0 _ rfl) ea hta hst (htt a ys σ H hl hσ) hint (pl := pl) hev ?_
    · intro s2 I2
      refine wpAt_of_wpAny ?_
      refine wpAny_mono (hrest.run [] s2 σ H _ I2 (hq σ hσ)) (fun fl s' hs => ?_) fun e s' hs => hs
      cases fl with
      | ret u =>
        obtain ⟨v, σ', H', J, rv, q⟩ := hs
        exact fin J rv q
      | next =>
        obtain ⟨σ', H', J, q⟩ := hs
        exact fin (v := V.non) (u := Value.none) J rfl q
      | brk =>
        obtain ⟨_, _, _, q⟩ := hs
        exact False.elim q
      | cont =>
        obtain ⟨_, _, _, q⟩ := hs
        exact False.elim q
  · exact Binds.all fun us hlen => S.bi kV doc pm an ct us (by simpa using hlen)
end Dl.Sup
end

section
set_option maxHeartbeats 4000000
namespace Dl.Sup
open PySem PySem.Spec PyProof.Rows L2 Co Dl NdefX
def parB (fs : List Str) : Arguments → Bool
  | ⟨[], a0 :: as, none, [], [], none, []⟩ => a0.arg == ("self" : Str) && (decide (as.map (·.arg) = fs) && (decide (1 ≤ fs.length) && decide (fs.length ≤ 3)))
  | _ => false
def codB (K : PySem.W.Frag) (fl : Str) (ca : Addr) : Bool := match K.lookup ca with
  | some ⟨_, _, .fields vs, _⟩ => (match (vs[2]? : Option Value) with
    | some (.str g _) => g == fl
    | _ => false)
  | _ => false
def celB (K : PySem.W.Frag) (C cc : Addr) : Bool := match K.lookup cc with
  | some ⟨_, _, .cell (some (.ref D)), _⟩ => D == C
  | _ => false
def bodB (fs : List Str) : FuncBody → Bool
  | .stmts (.Expr (.Call (.Attribute (.Call (.Name su _) [] [] _) i p2) [arg] [] p3) _ :: rest) => su == ("super" : Str) && (i == ("__init__" : Str) && ((p2.endLine == p3.line) && (argB fs arg && asgB rest fs)))
  | _ => false
def fdB (K : PySem.W.Frag) (fl : Str) (C : Addr) (fs : List Str) (fd : FuncData) : Bool := match fd.closure, fd.code with
  | [(n, cc)], .ref ca => n == ("__class__" : Str) && (bodB fs fd.body && (parB fs fd.params && (nscB (ini fs) (("self" : Str) :: fs) [("__class__" : Str)] fd.scope && (decide (fd.scope.names.lookup ("super" : Str) = some .globalImplicit) && (fd.globals == mainGlobals && (fd.builtins == builtinsNs && (decide (fd.defaults = .none) &&
      (PySem.W.codeIn K (.ref ca) fd.qualname && (codB K fl ca && celB K C cc)))))))))
  | _, _ => false
def supB (K : PySem.W.Frag) (fl x : Str) (fs : List Str) : Bool := (match K.lookup (He.ma K (He.ga K x) "__init__") with
  | some ⟨_, _, .func fd, _⟩ => fdB K fl (He.ga K x) fs fd
  | _ => false) && (decide (PySem.W.mroIn K (He.ga K x) (.ref (He.ga K x)) = some true) && (He.eqO (PySem.W.ks_superIn K (He.ga K x) (He.ga K x) "__init__") (some (some (.builtin "ValueError.__init__"))) && (decide (PySem.W.subIn K (.ref (He.ga K x)) (.type "ValueError") = some true) &&
    (He.eqO (PySem.W.nsIn K PySem.cStatics "thirdparty.any") (some none) && PySem.W.keepIn K (.ref (He.ma K (He.ga K x) "__init__"))))))
def BindS (fs : List Str) : Prop := ∀ (nm qual : Str) (body : List Stmt) (scope : Scope) (cl : List (Str × Addr)) (kV doc pm cdv ct : Value) (an : Option Addr) (a0 : Arg) (as : List Arg) (us : List Value), a0.arg = "self" → as.map (·.arg) = fs → us.length = fs.length + 1 →
    bindArgs (PySem.W.fnX nm qual ⟨[], a0 :: as, none, [], [], none, []⟩ body scope cl .none kV doc pm an cdv ct) ⟨us, []⟩ = pure ((("self" : Str) :: fs).zip us)
theorem fdB_ok {K : PySem.W.Frag} {fl : Str} {C : Addr} {fs : List Str} {fd : FuncData} (h : fdB K fl C fs fd = true) :
    ∃ cc ca rest arg, fd.closure = [(("__class__" : Str), cc)] ∧ fd.code = .ref ca ∧ (∃ p0 p1 p2 p3 p4, (p2.endLine == p3.line) = true ∧ fd.body = .stmts (.Expr (.Call (.Attribute (.Call (.Name "super" p0) [] [] p1) "__init__" p2) [arg] [] p3) p4 :: rest)) ∧ argB fs arg = true ∧ asgB rest fs = true ∧
      parB fs fd.params = true ∧ NScope (ini fs) (("self" : Str) :: fs) [("__class__" : Str)] fd.scope ∧ fd.scope.names.lookup ("super" : Str) = some .globalImplicit ∧ fd.globals = mainGlobals ∧ fd.builtins = builtinsNs ∧ fd.defaults = .none ∧ PySem.W.codeIn K (.ref ca) fd.qualname = true ∧ codB K fl ca = true ∧ celB K C cc = true := by
  unfold fdB at h
  split at h
  · rename_i n cc ca e1 e2
    simp only [Bool.and_eq_true, beq_iff_eq, decide_eq_true_eq] at h
    obtain ⟨h1, h2, h3, h4, h5, h6, h7, h7', h8, h9, h10⟩ := h
    subst h1
    unfold bodB at h2
    split at h2
    · rename_i su p0 p1 i p2 arg p3 p4 rest eb
      simp only [Bool.and_eq_true, beq_iff_eq] at h2
      obtain ⟨g1, g2, g3, g4, g5⟩ := h2
      subst g1 g2
      exact ⟨cc, ca, rest, arg, e1, e2, ⟨p0, p1, p2, p3, p4, by simpa using g3, eb⟩, g4, g5, h3, nscope_by h4, h5, h6, h7, h7', h8, h9, h10⟩
    · cases h2
  · cases h
theorem supB_ok {K : PySem.W.Frag} {fl x : Str} {fs : List Str} (hB : BindS fs) (h : supB K fl x fs = true) : ∃ cc ca F rest arg, SupD K (He.ga K x) (He.ma K (He.ga K x) "__init__") cc ca F fl fs rest arg := by
  unfold supB at h
  simp only [Bool.and_eq_true, decide_eq_true_eq] at h
  obtain ⟨h1, h2, h3, h4, h5, h6⟩ := h
  cases hk : K.lookup (He.ma K (He.ga K x) "__init__") with
  | none => rw [hk] at h1; cases h1
  | some o =>
    rw [hk] at h1
    obtain ⟨oc, od, dat, osl⟩ := o
    cases dat <;> try (cases h1; done)
    rename_i fd
    obtain ⟨cc, ca, rest, arg, e1, e2, ⟨p0, p1, p2, p3, p4, g3, eb⟩, g4, g5, g6, g7, g8, g9, g10, g10', g11, g12, g13⟩ := fdB_ok h1
    obtain ⟨fn, fq, fp, fb, fsc, fg, fc, fdf, fkd, fdoc, fpm, fan, fcode, fct, fbl⟩ := fd
    dsimp only at e1 e2 eb g6 g7 g8 g9 g10 g10' g11
    subst e1 e2 eb g9 g10 g10'
    refine ⟨cc, ca, ⟨fn, fq, fp, _, fsc, [(("__class__" : Str), cc)], ca⟩, rest, arg, ?_, ⟨p0, p1, p2, p3, p4, g3, rfl⟩, g4, g5, g7, g8, ?_, ?_, h6⟩
    · refine ⟨⟨_, _, _, _, _, _, _, _, hk⟩, rfl, rfl, g11, ?_, ?_, h2, He.eqO_ok h3, h4, He.eqO_ok h5⟩
      · unfold codB at g12
        cases hc : K.lookup ca with
        | none => rw [hc] at g12; cases g12
        | some o2 =>
          rw [hc] at g12
          obtain ⟨oc2, od2, dat2, osl2⟩ := o2
          cases dat2 <;> try (cases g12; done)
          rename_i vs
          dsimp only at g12
          split at g12
          · rename_i g t ev
            rw [beq_iff_eq] at g12
            subst g12
            exact ⟨_, _, _, _, _, rfl, ev⟩
          · cases g12
      · unfold celB at g13
        cases hc : K.lookup cc with
        | none => rw [hc] at g13; cases g13
        | some o2 =>
          rw [hc] at g13
          obtain ⟨oc2, od2, dat2, osl2⟩ := o2
          cases dat2 <;> try (cases g13; done)
          rename_i v
          cases v with
          | none => cases g13
          | some v =>
            cases v <;> try (cases g13; done)
            dsimp only at g13
            rw [beq_iff_eq] at g13
            subst g13
            exact ⟨_, _, _, rfl⟩
    · unfold parB at g6
      split at g6
      · rename_i a0 as
        simp only [Bool.and_eq_true, beq_iff_eq, decide_eq_true_eq] at g6
        exact ⟨a0, as, rfl, g6.1, g6.2.1⟩
      · cases g6
    · intro kV doc pm an ct us hl
      unfold parB at g6
      split at g6
      · rename_i a0 as
        simp only [Bool.and_eq_true, beq_iff_eq, decide_eq_true_eq] at g6
        exact hB _ _ _ _ _ _ _ _ _ _ _ _ _ _ g6.1 g6.2.1 hl
      · cases g6
def sp_sup1 (K : PySem.W.Frag) (C : Addr) (f : Str) : Sp := fun vs H Q _ => match vs with
  | [.ref a, y] => H a = some (exo a C none) ∧ OexC K C ∧ PySem.W.findIn K (.ref C) f = some none ∧ ∀ dx, H dx = none → dx ≠ a → Q .non (upd (upd H dx (exd dx [(f, y)])) a (exo a C (some dx)))
  | _ => False
section
variable {P : Program} {w : World} {K : PySem.W.Frag} {mg : Str → Option Value} {base : Heap} {x f g fl : Str}
theorem sup_def1 (k : Nat) (hB : BindS [f]) (h : supB K fl x [f] = true) (hP : SupP P fl) (hmg : mg "super" = none) : Def P w K mg base (k + 1) (He.ma K (He.ga K x) "__init__") [("self" : Str), f] (sp_sup1 K (He.ga K x) f) := by
  obtain ⟨cc, ca, F, rest, arg, S⟩ := supB_ok hB h
  refine ⟨sup_fn S hP hmg fun vs H Q E hs => ?_, S.kp⟩
  unfold sp_sup1 at hs
  split at hs
  · rename_i a y
    obtain ⟨h1, h2, h3, h4⟩ := hs
    refine ⟨a, [y], rfl, rfl, h2, h1, fun σ hσ => ?_⟩
    have e0 := hσ 0 _ rfl
    have e1 := hσ 1 _ rfl
    show tOst K f (tV 0) (tV 1) _ σ H
    show (match σ[1]? with | some (some v) => _ | _ => False)
    rw [e1]
    show (match σ[0]? with | some (some v) => _ | _ => False)
    rw [e0]
    exact ⟨a, _, rfl, h2, h3, .inl ⟨h1, h4⟩⟩
  · exact hs.elim
end
section
variable {X : Cx} {b : Bool} {Wx : WX} {s : Stmt}
theorem s_raise1S {C f : Str} {t : DD} (h : PS X s (sRaiseO Wx (He.ga X.K C) (sp_sup1 X.K (He.ga X.K C) f) (tCons (lD (XN X b) Wx t) tNil))) (o : OexC X.K (He.ga X.K C)) (n : PySem.W.findIn X.K (.ref (He.ga X.K C)) f = some none) :
    PS X s (lS (XN X b) Wx (sRaise1 C f t)) := PS.imp h fun D σV H h => by
  obtain ⟨M, ρ, σ, st, E, r, s, h, l⟩ := h
  refine Lf.of (l.kx r s) h fun d st1 hk v M1 ρ1 H1 E1 c1 rv => ⟨(by decide : 1 ≤ 1000), fun a ha => ⟨upd_same, o, n, fun dx hdx hne => ⟨rfl, dx, [(f, v)], upd_same, ?_, ?_, ?_⟩⟩⟩
  · rw [upd_ne hne]; exact upd_same
  · rw [upd_ne hne] at hdx; exact hdx
  · rw [exc_heap ha hne]
    rw [upd_ne hne] at hdx
    obtain ⟨e2, c2⟩ := c1.new (o := .xd [(f, v)]) hdx
    exact l.ex C [(f, d)] σ st1 hk (some dx) _ ρ1 _ σV (E1.trans e2) c2.rep c2.rs ⟨[(f, v)], upd_same, rfl, Rps.cons (Rp.ext rv e2) Rps.nil⟩
end
example : BindS ["way", "reason"] := by
  intro nm qual body scope cl kV doc pm cdv ct an a0 as us h0 h1 h2
  obtain ⟨n0, t0, p0⟩ := a0
  match as, us, h1, h2 with
  | [⟨n1, t1, p1⟩, ⟨n2, t2, p2⟩], [u0, u1, u2], h1, _ =>
    simp only [List.map_cons, List.map_nil, List.cons.injEq, and_true] at h0 h1
    obtain ⟨h1, h2⟩ := h1
    subst h0 h1 h2
    rfl
end Dl.Sup
end

section
set_option maxHeartbeats 4000000
namespace Dl.Lng
open PySem PySem.Spec PyProof.Rows L2 Co
section
variable {prog : Program} {w : World} {K : Type} [DecidableEq K] {knd : KeyKind prog w K} {A : Around} {E : Value → Shared → Prop} {s : Shared}
theorem wp_put {d : Addr} {kvs : List (K × Value)} {k : K} {key v : Value} {Q : Unit → Shared → Prop} (hkey : knd.is k key = true) (hm : s.heap.DictOf knd d kvs)
    (hQ : ∀ h', h'.DictOf knd d (stored kvs k v) → Heap.SameBut d s.heap h' → Q () { s with heap := h' }) (hsz : kvs.length ≤ sizeLine) :
    wpAny (model prog w) A (dictPut d (knd.hash k) key v) Q E s := by
  obtain ⟨o, es, ep, ho, hc, hd, hk, hp, hn⟩ := hm
  have hes : es.size ≤ sizeLine := by have e1 := hp.length; have e2 : es.toList.length = es.size := by simp
                                      omega
  unfold dictPut
  refine wpAny_bind (wpAny_dictFind_of hkey ho hd hk ?_)
  have hidx : (es.findIdx? fun e => knd.is k e.key) = kvs.findIdx? fun kv => decide (kv.1 = k) := by
    rw [← hp.findIdx k]; obtain ⟨l⟩ := es; simp
  cases hi : es.findIdx? fun e => knd.is k e.key with
  | some i =>
    refine wpAny_updateDict ho hd (hQ _ ⟨_, _, ep, Heap.get?_update_self _ ho (Obj.isFreed_of_dict (Obj.data_mapDict hd _)),
      hc.mapDict _, Obj.data_mapDict hd _, hk.modify _ _, ?_, ?_⟩ (Heap.SameBut.update ..))
    · rw [stored, if_pos (any_of_findIdx_some (hidx ▸ hi))]
      have hl : (es.toList.findIdx? fun e => knd.is k e.key) = some i := by rw [← hi]; obtain ⟨l⟩ := es; simp
      have := hp.modify hn hl v
      obtain ⟨l⟩ := es
      simpa using this
    · rw [stored, if_pos (any_of_findIdx_some (hidx ▸ hi)), keys_map_store]; exact hn
  | none =>
    have hnot : k ∉ kvs.map (·.1) := not_mem_of_findIdx_none (hidx ▸ hi)
    have hany : ¬ (kvs.any fun kv => decide (kv.1 = k)) = true := by
      rw [List.any_eq_true]; rintro ⟨kv, hkv, he⟩
      exact hnot (List.mem_map.mpr ⟨kv, hkv, of_decide_eq_true he⟩)
    refine wpAny_updateDictKeys (hz := hes) ho hd (hQ _ ⟨_, _, ep + 1, Heap.get?_update_self _ ho (Obj.isFreed_of_dict (Obj.data_mapDictKeys hd _)),
      hc.mapDictKeys _, Obj.data_mapDictKeys hd _, hk.push hkey _, ?_, ?_⟩ (Heap.SameBut.update ..))
    · rw [stored, if_neg hany]
      have := hp.append hkey (knd.hash k) v
      obtain ⟨l⟩ := es
      simpa using this
    · rw [stored, if_neg hany, List.map_append, List.nodup_append]
      refine ⟨hn, by simp, ?_⟩
      intro a ha b hb
      simp only [List.map_cons, List.map_nil, List.mem_singleton] at hb
      subst hb
      exact fun e => hnot (e ▸ ha)
theorem wp_merge {d o : Addr} {kvs more : List (K × Value)} {Q : Unit → Shared → Prop} (hdo : d ≠ o) (hoS : (o == sysModules) = false) (h0 : kvs ≠ [])
    (hd : s.heap.DictOf knd d kvs) (ho : s.heap.DictOf knd o more)
    (hQ : ∀ h', h'.DictOf knd d (merged kvs more) → Heap.SameBut d s.heap h' → Q () { s with heap := h' })
    (hsz : kvs.length + more.length ≤ sizeLine) :
    wpAny (model prog w) A (mergeMapping d (.ref o) false) Q E s := by
  obtain ⟨od, esd, epd, hod, hcd, hdd, hkd, hpd, hnd⟩ := id hd
  obtain ⟨oo, eso, epo, hoo, hco, hdo', hko, hpo, hno⟩ := id ho
  have hlen : more.length = eso.size := by rw [← hpo.length]; simp
  unfold mergeMapping
  refine wpAny_bind (wpAny_isInstance ho.typeIs isSubtype_dict_dict ?_)
  rw [if_pos rfl]
  refine wpAny_bind (wpAny_specialOf ho.typeIs F.slot_dict_iter.lookup (wpAny_bind (wpAny_pure ?_)))
  simp only [beq_self_eq_true, hoS, Bool.false_eq_true, if_false]
  refine wpAny_bind (wpAny_dictEntries hod hdd ?_)
  have hne : esd.isEmpty = false := by
    cases hz : esd.isEmpty with
    | false => rfl
    | true =>
      have h1 : esd = #[] := Array.isEmpty_iff.mp hz
      have := hpd.length; rw [h1] at this
      exact absurd (List.length_eq_zero_iff.mp (by simpa using this.symm)) h0
  simp only [hne, Bool.false_eq_true, if_false]
  refine wpAny_bind (wpAny_dictEntries hoo hdo' ?_)
  refine wpAny_bind (wpAny_dictEpoch hoo hdo' ?_)
  refine wpAny_bind ?_
  rw [List.range_eq_range']
  refine wpAny_forIn_list _
    (fun rest _ s' => ∃ h' i, s' = { s with heap := h' } ∧ rest = List.range' i (eso.size - i) ∧ i ≤ eso.size ∧ h'.DictOf knd d (merged kvs (more.take i)) ∧ h'.get? o = some oo ∧ Heap.SameBut d s.heap h')
    _ ?_ ?_ _ _ ⟨s.heap, 0, rfl, by simp, Nat.zero_le _, by simpa [merged] using hd, hoo, Heap.SameBut.refl _ _⟩
  · rintro x rest b s' ⟨h', i, rfl, hr, hi, hd', hoo', hs'⟩
    have hlt : i < eso.size := by
      rcases Nat.lt_or_ge i eso.size with h | h
      · exact h
      · rw [Nat.sub_eq_zero_of_le h] at hr; simp at hr
    obtain ⟨rfl, hrest⟩ : x = i ∧ rest = List.range' (i + 1) (eso.size - (i + 1)) := by
      have e : eso.size - i = (eso.size - (i + 1)) + 1 := by omega
      rw [e, List.range'_succ] at hr
      injection hr with h1 h2
      exact ⟨h1, h2⟩
    refine wpAny_bind (wpAny_dictEntries hoo' hdo' ?_)
    rw [Array.getElem?_eq_getElem hlt]
    obtain ⟨kv, hkv⟩ : ∃ kv, more[x]? = some kv := ⟨more[x]'(by rw [hlen]; exact hlt), List.getElem?_eq_getElem _⟩
    obtain ⟨k, v⟩ := kv
    obtain ⟨hkey, hval⟩ := hpo.get? (e := eso[x]) (by simp [hlt]) hkv
    obtain ⟨k', hkey', hhash⟩ := hko eso[x] (Array.getElem_mem hlt)
    obtain rfl : k' = k := knd.inj _ _ _ hkey' hkey
    show wpAny _ _ (holding [eso[x].key, eso[x].val] (dictPut d eso[x].hash eso[x].key eso[x].val) >>= _) _ _ _
    rw [hhash, hval]
    have hmx : (merged kvs (more.take x)).length ≤ sizeLine := by
      have e1 := merged_length_le kvs (more.take x)
      have e2 : (more.take x).length ≤ more.length := by rw [List.length_take]; omega
      omega
    refine wpAny_bind (wpAny_holding (wp_put hkey hd' (fun h'' hd'' hs'' => ?_) hmx))
    have hoo'' : h''.get? o = some oo := (hs''.2 o (Ne.symm hdo)).trans hoo'
    refine wpAny_bind (wpAny_dictEpoch hoo'' hdo' ?_)
    rw [if_neg (by simp)]
    exact wpAny_pure ⟨h'', x + 1, rfl, hrest, hlt, by rw [merged_take_succ kvs more x (k', v) hkv]; exact hd'', hoo'', hs'.trans hs''⟩
  · rintro b s' ⟨h', i, rfl, hr, hi, hd', hoo', hs'⟩
    have hin : i = eso.size := by
      rcases Nat.lt_or_ge i eso.size with h | h
      · have e : eso.size - i = (eso.size - (i + 1)) + 1 := by omega
        rw [e, List.range'_succ] at hr; exact nomatch hr
      · exact Nat.le_antisymm hi h
    refine wpAny_pure (hQ h' ?_ hs')
    rw [hin, ← hlen, List.take_length] at hd'; exact hd'
inductive Csts (prog : Program) (w : World) (A : Around) (E : Value → Shared → Prop) : List (Sem Value × Sem Value) → List (Key × V) → Prop
  | nil : Csts prog w A E [] []
  | cons {m n : Sem Value} {k : Key} {v : V} {ps : List (Sem Value × Sem Value)} {r : List (Key × V)} :
    (∀ (s : Shared) (Q : Value → Shared → Prop), (∀ u t, keyIs k u = true → Q u { s with toks := t }) → wpAny (model prog w) A m Q E s) →
    (∀ (s : Shared) (Q : Value → Shared → Prop), (∀ u t, RelV v u → Q u { s with toks := t }) → wpAny (model prog w) A n Q E s) → Csts prog w A E ps r → Csts prog w A E ((m, n) :: ps) ((k, v) :: r)
end
section
variable {prog : Program} {w : World} {A : Around} {E : Value → Shared → Prop}
theorem Csts.length : ∀ {ps : List (Sem Value × Sem Value)} {r : List (Key × V)}, Csts prog w A E ps r → ps.length = r.length
  | _, _, .nil => rfl
  | _, _, .cons _ _ h => by rw [List.length_cons, List.length_cons, h.length]
theorem Csts.append : ∀ {ps qs : List (Sem Value × Sem Value)} {r t : List (Key × V)}, Csts prog w A E ps r → Csts prog w A E qs t → Csts prog w A E (ps ++ qs) (r ++ t)
  | _, _, _, _, .nil, h => h
  | _, _, _, _, .cons a b c, h => .cons a b (c.append h)
def Grown (d : Addr) (h h' : Heap) : Prop := ∀ b u, b ≠ d → h.get? b = some u → h'.get? b = some u
theorem Grown.refl {d : Addr} {h : Heap} : Grown d h h := fun _ _ _ e => e
theorem Grown.trans {d : Addr} {h h1 h2 : Heap} (a : Grown d h h1) (b : Grown d h1 h2) : Grown d h h2 := fun x u n e => b x u n (a x u n e)
theorem Grown.of {d : Addr} {h h' : Heap} (a : Heap.SameBut d h h') : Grown d h h' := fun b u n e => (a.2 b n).trans e
theorem loop_short {d : Addr} : ∀ {vs : List (Value × Value)} {rs acc : List (Key × Value)} {s : Shared} {Q : PUnit → Shared → Prop}, Carries (mixKind prog w) vs rs → s.heap.DictOf (mixKind prog w) d acc → acc.length + rs.length ≤ sizeLine →
    (∀ h' t, h'.DictOf (mixKind prog w) d (merged acc rs) → Heap.SameBut d s.heap h' → Q PUnit.unit { s with heap := h', toks := t }) →
    wpAny (model prog w) A (forIn vs PUnit.unit fun (x : Value × Value) (_ : PUnit) => (do dictSet d x.1 x.2; pure (ForInStep.yield PUnit.unit) : Sem (ForInStep PUnit))) Q E s :=
  fun c m z q => wpAny_storeAll _ _ _ _ _ c m z fun h' a b => q h' _ a b
theorem pairs_short : ∀ {ps : List (Sem Value × Sem Value)} {r : List (Key × V)} {s : Shared} {Q : List (Value × Value) → Shared → Prop}, Csts prog w A E ps r →
    (∀ vs rs t, Carries (mixKind prog w) vs rs → KV r rs → Q vs { s with toks := t }) → wpAny (model prog w) A (evalPairs ps) Q E s
  | _, _, s, _, .nil, q => evalPairs_nil (q [] [] s.toks True.intro .nil)
  | _, _, s, _, .cons a b c, q => evalPairs_cons (a _ _ fun u t hu => b _ _ fun v t' hv => pairs_short c fun vs rs t'' hc hr => q ((u, v) :: vs) ((_, v) :: rs) t'' ⟨hu, rfl, hc⟩ (.cons ⟨rfl, hv⟩ hr))
theorem loop_long {d : Addr} : ∀ {ps : List (Sem Value × Sem Value)} {r : List (Key × V)} {acc : List (Key × Value)} {s : Shared} {Q : PUnit → Shared → Prop}, Csts prog w A E ps r → s.heap.DictOf (mixKind prog w) d acc → acc.length + r.length ≤ sizeLine →
    (∀ h' t rs, KV r rs → h'.DictOf (mixKind prog w) d (merged acc rs) → Heap.SameBut d s.heap h' → Q PUnit.unit { s with heap := h', toks := t }) →
    wpAny (model prog w) A (forIn ps PUnit.unit fun (x : Sem Value × Sem Value) (_ : PUnit) => (do
      let kv ← x.1
      let vv ← holding [kv] x.2
      holding [kv, vv] (dictSet d kv vv)
      pure (ForInStep.yield PUnit.unit) : Sem (ForInStep PUnit))) Q E s
  | _, _, acc, s, Q, .nil, m, z, q => by
    rw [List.forIn_nil]
    exact wpAny_pure (q s.heap s.toks [] .nil m (Heap.SameBut.refl _ _))
  | _, _, acc, s, Q, .cons (k := k) (v := v) (r := r) a b c, m, z, q => by
    rw [List.length_cons] at z
    rw [List.forIn_cons]
    refine wpAny_bind (wpAny_bind (a _ _ fun u t hu => wpAny_bind (wpAny_holding (b _ _ fun y t' hy => wpAny_bind (wpAny_holding (wpAny_dictSet_pairs (hsz := by omega) hu m fun h1 m1 s1 => wpAny_pure ?_))))))
    refine loop_long c m1 (by have e := stored_length_le acc k y; omega) fun h' t rs hr hm hs => ?_
    exact q h' t ((k, y) :: rs) (.cons ⟨rfl, hy⟩ hr) (by simpa [merged] using hm) (s1.trans hs)
theorem wp_sub {ps : List (Sem Value × Sem Value)} {r : List (Key × V)} {s : Shared} {Q : Addr → Shared → Prop} (c : Csts prog w A E ps r) (hz : r.length ≤ sizeLine)
    (q : ∀ h' t rs, KV r rs → h'.DictOf (mixKind prog w) s.heap.objs.size (merged [] rs) → Grown s.heap.objs.size s.heap h' → s.heap.objs.size < h'.objs.size → Q s.heap.objs.size { s with heap := h', toks := t }) :
    wpAny (model prog w) A (subDict ps) Q E s := by
  unfold subDict
  refine wpAny_bind (wpAny_alloc ?_)
  refine wpAny_bind (wpAny_holding ?_)
  have fin : ∀ (h' : Heap) (t : Nat) (rs : List (Key × Value)), KV r rs → h'.DictOf (mixKind prog w) s.heap.objs.size (merged [] rs) → Heap.SameBut s.heap.objs.size (s.heap.push { cls := .type "dict", data := .dict #[] }) h' → Q s.heap.objs.size { s with heap := h', toks := t } := fun h' t rs a b d => by
    refine q h' t rs a b (fun x u n e => (d.2 x n).trans (Heap.get?_push_of_some _ e)) ?_
    obtain ⟨o, _, _, ho, _⟩ := b
    exact Heap.lt_size ho
  split
  · refine wpAny_bind (pairs_short c fun vs rs t hc hr => wpAny_holding ?_)
    refine wpAny_bind (loop_short hc (Heap.DictOf.new s.heap) (by have e := hr.length; simp only [List.length_nil]; omega) fun h' t' hm hs => wpAny_pure (wpAny_pure (fin h' t' rs hr hm hs)))
  · refine wpAny_bind (wpAny_rule ?_)
    refine wpAny_bind (loop_long c (Heap.DictOf.new s.heap) (by simp only [List.length_nil]; omega) fun h' t' rs hr hm hs => wpAny_pure (wpAny_pure (fin h' t' rs hr hm hs)))
def addP : Option (List (Key × V)) → List (Key × V) → Option (List (Key × V))
  | m, [] => m
  | none, r => some (mergeK [] r)
  | some a, r => some (mergeK a (mergeK [] r))
def goP : Option (List (Key × V)) → List (Key × V) → List (Key × V) → Option (List (Key × V))
  | m, run, [] => addP m run
  | m, run, p :: r => if (run ++ [p]).length = 17 then goP (addP m (run ++ [p])) [] r else goP m (run ++ [p]) r
def DM (prog : Program) (w : World) (s : Shared) (a : Addr) (s' : Shared) : Option Addr → Option (List (Key × V)) → Prop
  | none, none => ∃ t, s' = { s with toks := t }
  | some d, some kvs => d = a ∧ kvs ≠ [] ∧ ∃ h' t rs, s' = { s with heap := h', toks := t } ∧ KV kvs rs ∧ h'.DictOf (mixKind prog w) a rs ∧ Grown a s.heap h' ∧ a < h'.objs.size
  | _, _ => False
theorem putK_ne {x : List (Key × V)} {k : Key} {v : V} : putK x k v ≠ [] := by
  unfold putK
  split
  · rename_i h
    intro z
    have := List.map_eq_nil_iff.mp z
    subst this
    simp at h
  · simp
theorem mergeK_ne {x : List (Key × V)} : ∀ {r : List (Key × V)}, x ≠ [] ∨ r ≠ [] → mergeK x r ≠ []
  | [], h => by
    rcases h with h | h
    · exact h
    · exact absurd rfl h
  | p :: r, _ => mergeK_ne (x := putK x p.1 p.2) (r := r) (.inl putK_ne)
def flushM (main : Option Addr) (ps : List (Sem Value × Sem Value)) : Sem (Option Addr) :=
  if ps.isEmpty = true then pure main else match main with
    | none => do
      let y ← subDict ps
      pure (some y)
    | some d => do
      let sub ← holding [.ref d] (subDict ps)
      (holding [.ref d, .ref sub] (mergeMapping d (.ref sub) false)).onRaise fun x => do
        let _ ← holding [.ref d, x] (runValue (.builtin "proto.let_go" {}))
        pure ()
      pure (some d)
theorem flush_ok {s s' : Shared} {main : Option Addr} {m : Option (List (Key × V))} {ps : List (Sem Value × Sem Value)} {r : List (Key × V)} {Q : Option Addr → Shared → Prop} (hsys : sysModules < s.heap.objs.size) (c : Csts prog w A E ps r)
    (hz : ∀ a, m = some a → a.length + r.length ≤ sizeLine) (hr : r.length ≤ sizeLine) (D : DM prog w s s.heap.objs.size s' main m) (q : ∀ main' s'', DM prog w s s.heap.objs.size s'' main' (addP m r) → Q main' s'') :
    wpAny (model prog w) A (flushM main ps) Q E s' := by
  unfold flushM
  cases c with
  | nil => exact wpAny_pure (q _ _ D)
  | @cons m0 n0 k v ps0 r0 a b c0 =>
    have c : Csts prog w A E ((m0, n0) :: ps0) ((k, v) :: r0) := .cons a b c0
    rw [if_neg (by simp)]
    cases main with
    | none =>
      cases m with
      | some _ => exact D.elim
      | none =>
        obtain ⟨t, rfl⟩ := D
        dsimp only
        refine wpAny_bind (wp_sub c hr fun h' t' rs hk hd hg hl => wpAny_pure (q _ _ ⟨rfl, mergeK_ne (.inr (by simp)), h', t', _, rfl, hk.merge .nil, hd, hg, hl⟩))
    | some d =>
      cases m with
      | none => exact D.elim
      | some kvs =>
        obtain ⟨rfl, hne, h0, t0, rs0, rfl, hk0, hd0, hg0, hl0⟩ := D
        dsimp only
        refine wpAny_bind (wpAny_holding (wp_sub c hr fun h' t' rs hk hd hg hl => ?_))
        have hlt : s.heap.objs.size < h0.objs.size := hl0
        have hne' : s.heap.objs.size ≠ h0.objs.size := Nat.ne_of_lt hlt
        have hd1 : h'.DictOf (mixKind prog w) s.heap.objs.size rs0 := by
          obtain ⟨o, es, ep, ho, z⟩ := hd0
          exact ⟨o, es, ep, hg _ _ hne' ho, z⟩
        have e1 := hk0.length
        have e2 := (hk.merge (kvs := []) .nil).length
        have e3 := length_mergeK ((k, v) :: r0) []
        have e4 := hz _ rfl
        have hrs0 : rs0 ≠ [] := by
          intro z; subst z; exact hne (List.length_eq_zero_iff.mp e1)
        refine wpAny_bind (wpAny_onRaise (wpAny_holding (wp_merge hne' (beq_eq_false_iff_ne.mpr (Ne.symm (Nat.ne_of_lt (Nat.lt_trans hsys hlt)))) hrs0 hd1 hd (fun h'' hd'' hs'' => wpAny_pure (q _ _ ⟨rfl, mergeK_ne (.inl hne), h'', t', _, rfl, (hk.merge .nil).merge hk0, hd'', (hg0.trans ?_).trans (.of hs''), ?_⟩)) ?_)))
        · intro x u n e
          exact hg x u (fun z => by subst z; exact absurd (Heap.lt_size e) (Nat.lt_irrefl _)) e
        · obtain ⟨o, _, _, ho, _⟩ := hd''
          exact Heap.lt_size ho
        · simp only [List.length_nil, List.length_cons] at *
          omega
theorem addP_len {m : Option (List (Key × V))} {r a : List (Key × V)} {n : Nat} (hm : ∀ a, m = some a → a.length ≤ n) (h : addP m r = some a) : a.length ≤ n + r.length := by
  unfold addP at h
  split at h
  · have := hm _ h; simp; omega
  · cases h
    have := length_mergeK r []
    simp only [List.length_nil] at this; omega
  · cases h
    rename_i b _ 
    have h1 := hm _ rfl
    have h2 := length_mergeK (mergeK [] r) b
    have h3 := length_mergeK r []
    simp only [List.length_nil] at h3; omega
theorem addP_none : ∀ {r : List (Key × V)}, r ≠ [] → addP none r = some (mergeK [] r)
  | [], h => absurd rfl h
  | _ :: _, _ => rfl
theorem wp_display {s : Shared} {ps : List (Sem Value × Sem Value)} {r out : List (Key × V)} {Q : Value → Shared → Prop} (hsys : sysModules < s.heap.objs.size) (c : Csts prog w A E ps r) (hr : r.length ≤ 1000) (ho : goP none [] r = some out)
    (q : ∀ h' t rs, KV out rs → h'.DictOf (mixKind prog w) s.heap.objs.size rs → Grown s.heap.objs.size s.heap h' → s.heap.objs.size < h'.objs.size → Q (.ref s.heap.objs.size) { s with heap := h', toks := t }) :
    wpAny (model prog w) A (dictDisplay (ps.map fun p => (some p.1, p.2))) Q E s := by
  unfold dictDisplay
  dsimp only
  refine wpAny_bind ?_
  refine wpAny_forIn_list _
    (fun rest (b : Option Addr × List (Sem Value × Sem Value)) s' => ∃ (ps1 : List (Sem Value × Sem Value)) (r0 r1 : List (Key × V)) (m : Option (List (Key × V))), rest = ps1.map (fun p => (some p.1, p.2)) ∧ Csts prog w A E b.2 r0 ∧ Csts prog w A E ps1 r1 ∧ r0.length < 17 ∧ goP m r0 r1 = some out ∧
      DM prog w s s.heap.objs.size s' b.1 m ∧ (∀ a, m = some a → a.length + r0.length + r1.length ≤ 1000) ∧ r0.length + r1.length ≤ 1000)
    _ ?_ ?_ _ _ ⟨ps, [], r, none, rfl, .nil, c, by simp, ho, ⟨s.toks, rfl⟩, fun _ z => (nomatch z), by simpa using hr⟩
  · rintro x rest ⟨main, run⟩ s' ⟨ps1, r0, r1, m, e1, c0, c1, hl, hg, hD, hz, hr1⟩
    cases c1 with
    | nil => cases e1
    | @cons m0 n0 k v ps1 r1 a b c1 =>
      rw [List.map_cons] at e1
      cases e1
      have cr : Csts prog w A E (run ++ [(m0, n0)]) (r0 ++ [(k, v)]) := c0.append (.cons a b .nil)
      have hln : (run ++ [(m0, n0)]).length = (r0 ++ [(k, v)]).length := cr.length
      dsimp only
      rw [goP] at hg
      rw [List.length_cons] at hz hr1
      by_cases h17 : (r0 ++ [(k, v)]).length = 17
      · rw [if_pos h17] at hg
        rw [if_pos (by rw [hln, h17]; rfl)]
        refine wpAny_bind (show wpAny _ _ (flushM main (run ++ [(m0, n0)])) _ _ _ from flush_ok hsys cr (fun a ea => ?_) (by rw [h17, sizeLine_eq]; omega) hD fun main' s'' D' => wpAny_pure ⟨ps1, [], r1, _, rfl, .nil, c1, by simp, hg, D', fun a ea => ?_, by simp; omega⟩)
        · have := hz a ea
          rw [sizeLine_eq, List.length_append]; simp only [List.length_cons, List.length_nil]; omega
        · simp only [List.length_nil]
          cases m with
          | none =>
            rw [addP_none (by simp)] at ea
            cases ea
            have := length_mergeK (r0 ++ [(k, v)]) []
            rw [List.length_append] at this
            simp only [List.length_cons, List.length_nil] at this
            omega
          | some x =>
            have h2 := hz x rfl
            have h1 := addP_len (n := x.length) (fun a ea => by cases ea; exact Nat.le_refl _) ea
            rw [List.length_append] at h1
            simp only [List.length_cons, List.length_nil] at h1
            omega
      · rw [if_neg h17] at hg
        rw [if_neg (by rw [hln]; simpa using h17)]
        refine wpAny_pure ⟨ps1, r0 ++ [(k, v)], r1, m, rfl, cr, c1, ?_, hg, hD, fun a ea => ?_, by rw [List.length_append]; simp only [List.length_cons, List.length_nil]; omega⟩
        · rw [List.length_append] at h17 ⊢; simp only [List.length_cons, List.length_nil] at h17 ⊢; omega
        · have := hz a ea
          rw [List.length_append]; simp only [List.length_cons, List.length_nil]; omega
  · rintro ⟨main, run⟩ s' ⟨ps1, r0, r1, m, e1, c0, c1, hl, hg, hD, hz, hr1⟩
    cases c1 with
    | cons => cases e1
    | nil =>
      dsimp only
      rw [goP] at hg
      refine wpAny_bind (show wpAny _ _ (flushM main run) _ _ _ from flush_ok hsys c0 (fun a ea => ?_) (by rw [sizeLine_eq]; simp only [List.length_nil] at hr1; omega) hD fun main' s'' D' => ?_)
      · have := hz a ea; rw [sizeLine_eq]; omega
      · rw [hg] at D'
        cases main' with
        | none => exact D'.elim
        | some d =>
          obtain ⟨rfl, _, h', t, rs, rfl, hk, hd, hgr, hlt⟩ := D'
          exact wpAny_pure (q h' t rs hk hd hgr hlt)
end
end Dl.Lng
namespace Dl
open PySem PySem.Spec PyProof.Rows L2 Co
def cpsB : List (Option Expr) → List Expr → List (Str × Str) → Bool
  | [], [], [] => true
  | some (.Constant (.str k) _ _) :: ks, .Constant (.str v) _ _ :: vs, p :: r => decide (k = p.1) && decide (v = p.2) && cpsB ks vs r
  | _, _, _ => false
def encP (p : Str × Str) : Key × V := (Sum.inr p.1, .str p.2)
section
variable {X : Cx} {b : Bool} {Wx : WX} {pos : Pos} {N : Kn}
theorem csts_of {prog : Program} {w : World} {A : Around} {E : Value → Shared → Prop} {env : Env} : ∀ {keys : List (Option Expr)} {values : List Expr} {ps : List (Str × Str)}, cpsB keys values ps = true →
    Lng.Csts prog w A E (pairTrees keys values env pos) (ps.map encP) ∧ keys.all (·.isSome) = true ∧ keys.length = values.length := by
  intro keys values ps
  induction keys, values, ps using cpsB.induct with
  | case1 => intro _; exact ⟨.nil, rfl, rfl⟩
  | case2 k i1 p1 ks v i2 p2 vs p r ih =>
    intro h
    unfold cpsB at h
    simp only [Bool.and_eq_true, decide_eq_true_eq] at h
    obtain ⟨⟨e1, e2⟩, h⟩ := h
    obtain ⟨c, a, l⟩ := ih h
    refine ⟨?_, by simpa using a, by simpa using l⟩
    rw [List.map_cons]
    obtain ⟨k', v'⟩ := p
    cases e1
    cases e2
    refine .cons (fun s Q q => Calls.Constant_str (q _ _ ?_)) (fun s Q q => wpAny_bind (Calls.Constant_str (wpAny_bind (wpAny_standAt (wpAny_pure (q _ _ ?_)))))) c
    · simp [keyIs, Value.isStrOf]
    · exact ⟨_, rfl⟩
  | case3 t x x' h1 h2 => intro h; rw [cpsB] at h <;> first | cases h | assumption
theorem pe_dispC {keys : List (Option Expr)} {values : List Expr} {ps : List (Str × Str)} (hc : cpsB keys values ps = true) (hl : ps.length ≤ 1000) (ho : Lng.goP none [] (ps.map encP) = some (ps.map encP)) :
    PE X (.Dict keys values pos) (fun _ H Q => ∀ p, H p = none → Q (.ref p) (upd H p (.dK (ps.map encP)))) := by
  refine ⟨fun pins s σ H Q I h => ?_⟩
  have hn := I.hok.fresh (Nat.le_refl s.heap.objs.size)
  obtain ⟨c, a, l⟩ := csts_of (prog := X.prog) (w := X.w) (A := X.A) (E := X.xe) (env := X.env) (pos := pos) hc
  rw [arm_eval_Dict, zip_pairTrees keys values X.env pos a l]
  refine wpAny_bind (wpAny_standAt (Lng.wp_display I.big c (by simpa using hl) ho fun h' t rs hk hd hg hlt => ⟨.ref s.heap.objs.size, _, I.laid (a := s.heap.objs.size) (o := .dK (ps.map encP)) (h' := h') (t' := t) (fun b u e => hg b u (fun z => by subst z; exact absurd (Heap.lt_size e) (Nat.lt_irrefl _)) e) (Nat.le_refl _)
    (dk_new (by rw [List.length_map, sizeLine_eq]; omega) (beq_eq_false_iff_ne.mpr (Ne.symm (Nat.ne_of_lt I.big))) hk hd), rfl, h _ hn⟩))
def dDispC (ps : List (Str × Str)) : DD := fun _ st k _ => k (.dct (ps.map fun p => Sum.inr p.1) (ps.map fun p => .str p.2)) st
theorem rps_vals {M : Hp} : ∀ ps : List (Str × Str), Rps N M (ps.map fun p => D.str p.2) ((ps.map encP).map (·.2))
  | [] => rfl
  | _ :: r => ⟨_, _, rfl, rfl, rps_vals r⟩
theorem e_dispC {keys : List (Option Expr)} {values : List Expr} (ps : List (Str × Str)) (hc : cpsB keys values ps = true) (hl : decide (ps.length ≤ 1000) = true) (ho : Lng.goP none [] (ps.map encP) = some (ps.map encP)) : PE X (.Dict keys values pos) (lD N Wx (dDispC ps)) := PE.imp (pe_dispC hc (of_decide_eq_true hl) ho) fun σV H Q h => by
  obtain ⟨M, ρ, σ, st, k, ex, c, ht, q⟩ := Kx.open_ h
  intro p hp
  obtain ⟨E, c'⟩ := c.new (o := .dK (ps.map encP)) hp
  exact q _ _ ht _ _ ρ _ E c' ⟨p, _, rfl, upd_same, by rw [List.map_map]; rfl, rps_vals ps⟩
end
end Dl
end

section
set_option maxHeartbeats 4000000
namespace Dl
open PySem PySem.Spec PyProof.Rows L2 Co
section
variable {X : Cx} {b : Bool} {Wx : WX} {N : Kn} {st : Stmt} {e1 e2 e3 e : Expr} {es : List Expr} {pos : Pos}
def rSrtT (K : PySem.W.Frag) : List V → Hp → VK → Prop := fun xs H Q => rSortedS K xs H Q ∨ ∃ (a : Addr) (kvs : List (Key × V)) (ks : List Str), xs = [.ref a] ∧ Rd H a (.dK kvs) ∧ kvs.map (·.1) = ks.map Sum.inr ∧ ks.length < 64 ∧
    ∀ (ys : List Str) (p : Addr), ys.Perm ks → sortedS ys = true → H p = none → Q (.ref p) (upd H p (.lst (ys.map V.str)))
def fSrtT : FL := fun xs k => match xs with
  | [.lst ds] => ∃ ns : List Str, ds = ns.map D.str ∧ ns.length < 64 ∧ ∀ ys : List Str, ys.Perm ns → sortedS ys = true → k (.lst (ys.map D.str))
  | [.dct ks _] => ∃ ns : List Str, ks = ns.map Sum.inr ∧ ns.length < 64 ∧ ∀ ys : List Str, ys.Perm ns → sortedS ys = true → k (.lst (ys.map D.str))
  | _ => False
theorem rps_strs {M : Hp} : ∀ ns : List Str, Rps N M (ns.map D.str) (ns.map V.str)
  | [] => rfl
  | _ :: ns => ⟨_, _, rfl, rfl, rps_strs ns⟩
theorem rps_strs_eq {M : Hp} : ∀ {ns : List Str} {vs : List V}, Rps N M (ns.map D.str) vs → vs = ns.map V.str
  | [], _, h => h
  | n :: ns, _, ⟨x, r, h1, h2, h3⟩ => by
    subst h1
    rw [rps_strs_eq h3, show x = V.str n from h2]
    rfl
theorem ok_srtT : CallOk N (rSrtT N.K) fSrtT := by
  intro Wx M H ρ σ st σV ex ds us kd Q c hd h k
  unfold fSrtT at h
  have fin : ∀ (ys : List Str) (p : Addr), kd (.lst (ys.map D.str)) → H p = none → Q (.ref p) (upd H p (.lst (ys.map V.str))) := fun ys p hk hp => by
    obtain ⟨e, c'⟩ := c.new (o := .lst (ys.map V.str)) hp
    exact k _ hk _ _ _ e c' ⟨p, _, rfl, upd_same, rps_strs _⟩
  split at h
  · obtain ⟨u, rfl, p, xs, rfl, h1, h2⟩ := RpCs.one hd
    obtain ⟨ns, rfl, hl, h⟩ := h
    have := rps_strs_eq h2
    subst this
    exact .inl ⟨p, ns, rfl, SqL.of ((Fv.sub (ρ := ρ) c.rep.sub).lst1 h1), hl, fun ys p' a b hp => fin ys p' (h ys a b) hp⟩
  · obtain ⟨u, rfl, p, kvs, rfl, h1, h2, h3⟩ := RpCs.one hd
    obtain ⟨ns, e, hl, h⟩ := h
    exact .inr ⟨p, kvs, ns, rfl, (Fv.sub (ρ := ρ) c.rep.sub).dK h1, h2.trans e, hl, fun ys p' a b hp => fin ys p' (h ys a b) hp⟩
  · exact h.elim
end
end Dl
end

section
set_option maxHeartbeats 4000000
namespace Dl
open PySem PySem.Spec PyProof.Rows L2 Co
def dRepl (to : DD) (y z : Str) : DD := fun σ st k ex => to σ st (fun d st1 => match d with
  | .str x => x.length + (x.length + 1) * z.length ≤ 16777216 ∧ k (.str (Txt.replace x y z)) st1
  | _ => False) ex
section
variable {X : Cx} {b : Bool} {Wx : WX} {N : Kn} {o e f : Expr} {to tf : DD} {y z c : Str} {j k : Nat} {c0 c1 apos pos p : Pos}
theorem petimp {e : Expr} {t t' : TE} (h : PET X e t) (i : ∀ σ H Q, t' σ H Q → t σ H Q) : PET X e t' := fun pins s σ H Q h0 I q => h pins s σ H Q h0 I (i σ H Q q)
theorem repl_lift {σV : L2.St} {H : Hp} {Q : VK} (h : lD N Wx (dRepl to y z) σV H Q) : CwR.tReplC (lD N Wx to) y z σV H Q := by
  obtain ⟨M, ρ, σ, st, k, ex, c, ht, q⟩ := Kx.open_ h
  refine Lf.of c ht fun d st1 hk v M1 ρ1 H1 E1 c1 r1 => ?_
  cases d with
  | str x =>
    refine ⟨x, ?_, hk.1, q _ _ hk.2 _ _ _ _ E1 c1 rfl⟩
    cases r1
    rfl
  | _ => exact False.elim hk
theorem et_replC (ho : PE X o (lD N Wx to)) (hyz : (y == z) = false := by decide)
    (hst : starEach [.Constant (.str y) j c0, .Constant (.str z) k c1] X.env = [(false, eval (.Constant (.str y) j c0) X.env), (false, eval (.Constant (.str z) k c1) X.env)] := by rfl)
    (hbase : attributeBase o "replace" X.env (eval o X.env) = eval o X.env := by rfl) (hline : (apos.endLine == pos.line) = true := by rfl) :
    PET X (.Call (.Attribute o "replace" apos) [.Constant (.str y) j c0, .Constant (.str z) k c1] [] pos) (lD N Wx (dRepl to y z)) := petimp (CwR.pet_replC ho hyz hst hbase hline) fun _ _ _ h => repl_lift h
theorem et_replT (ho : PET X o (lD N Wx to)) (hyz : (y == z) = false := by decide)
    (hst : starEach [.Constant (.str y) j c0, .Constant (.str z) k c1] X.env = [(false, eval (.Constant (.str y) j c0) X.env), (false, eval (.Constant (.str z) k c1) X.env)] := by rfl)
    (hbase : attributeBase o "replace" X.env (eval o X.env) = eval o X.env := by rfl) (hline : (apos.endLine == pos.line) = true := by rfl) :
    PET X (.Call (.Attribute o "replace" apos) [.Constant (.str y) j c0, .Constant (.str z) k c1] [] pos) (lD N Wx (dRepl to y z)) := petimp (CwR.pet_replT ho hyz hst hbase hline) fun _ _ _ h => repl_lift h
theorem pe_addT {tf : TE} {r : R2} (ho : OpR X (binaryOp .Add) r) (hb : PET X f tf) : PE X (.BinOp (.Constant (.str c) j p) .Add f pos) (tOp r (tC (.str c)) tf) := ⟨by
  intro pins s σ H Q I h
  refine wpAny_BinOp (Calls.Constant_str ?_)
  exact thn (hb pins _ σ H _ (by show 1 ≤ s.toks + 1; omega) (I.tok _) h) fun u s2 ⟨y, H2, I2, r2, q2⟩ => ho pins s2 σ H2 (.str c) y _ u Q I2 ⟨_, rfl⟩ r2 q2⟩
theorem e_addT (hb : PET X f (lD (XN X b) Wx tf)) : PE X (.BinOp (.Constant (.str c) j p) .Add f pos) (lD (XN X b) Wx (dOp fAdd (dC (.str c)) tf)) := PE.imp (pe_addT o_add' hb) fun σV H Q h => by
  obtain ⟨M, ρ, σ, st, k, ex, c, ht, q⟩ := Kx.open_ h
  refine Lf.of c (show tf σ st _ ex from ht) fun y st' hk v M' ρ' H' E c' r2 => ok_add c' (show Rp (XN X b) M' (.str _) (.str _) from rfl) r2 hk fun d hd w M2 H2 E2 c2 r => q _ _ hd w M2 ρ' H2 (E.trans E2) c2 r
theorem cr_srtT (hcalm : X.calm = true) : CallR X (.builtin "sorted") (rSrtT X.K) := CallR.or cr_sortedS (call_sortedD hcalm)
end
end Dl
end

section
set_option maxHeartbeats 4000000
namespace Dl.Ea
open PySem PySem.Spec PyProof.Rows L2 Co PySem.StrLaws Dl.Ut
abbrev formsA : List (Str × Str) := [("own", "A"), ("child", "FA"), ("before", "AE"), ("has", "F"), ("count", "F"), ("spelling", "F"), ("meant", "FA"), ("sum", "FA"), ("all", "FA"), ("any", "FA"), ("collect", "FA"), ("join", "FAT")]
abbrev formsB : List (Str × Str) := [("last", "FAE"), ("not", "E"), ("negative", "E"), ("length", "E"), ("shown", "E"), ("parsed", "E"), ("label", "E"), ("size", "E"), ("named", "E"), ("add", "EE"), ("subtract", "EE"), ("multiply", "EE")]
abbrev formsC : List (Str × Str) := [("quotient", "EE"), ("remainder", "EE"), ("less", "EE"), ("same", "EE"), ("and", "EE"), ("or", "EE"), ("append", "EE"), ("with", "EE"), ("argument", "EE"), ("else", "EE"), ("if", "EEE")]
abbrev formsP : List (Str × Str) := formsA ++ (formsB ++ formsC)
abbrev formsT : List (Str × He.Dv) := formsP.map fun p => (p.1, He.Dv.str p.2)
abbrev cl (z : Str) : List Nat := z.cps.toList
def fpl : List (List Nat × List Nat) := formsP.map fun p => (cl p.1, cl p.2)
def formOf (h : List Nat) : Option (List Nat) := fpl.lookup h
inductive Ex where
  | num (n : Int)
  | txt (t : List Nat)
  | bl (b : Bool)
  | term (l : List Nat) (es : List Ex)
  | frm (h : List Nat) (as : List Ex)
  | nm (t : List Nat)
  | qt (t : List Nat)
def qch (c : Nat) : List Nat := if c = 34 ∨ c = 92 then [92, c] else [c]
def quo (t : List Nat) : List Nat := 34 :: (t.flatMap qch ++ [34])
def dg (n : Int) : List Nat := cl (Str.ofString (toString n))
def wTrue : List Nat := [116, 114, 117, 101]
def wFalse : List Nat := [102, 97, 108, 115, 101]
def wTerm : List Nat := [116, 101, 114, 109]
mutual
def eX : Ex → D
  | .num n => .tup [.str "integer", .int n]
  | .txt t => .tup [.str "text", .str (S t)]
  | .bl b => .tup [.str "boolean", .bl b]
  | .term l es => .tup [.str "term", .str (S l), .tup (eXs es)]
  | .frm h as => .tup (.str (S h) :: eXs as)
  | .nm t => .str (S t)
  | .qt t => .str (S t)
def eXs : List Ex → List D
  | [] => []
  | e :: r => eX e :: eXs r
end
mutual
def tk : Ex → List (List Nat)
  | .num n => [dg n]
  | .txt t => [quo t]
  | .bl b => [if b then wTrue else wFalse]
  | .term l es => [40] :: wTerm :: quo l :: (tks es ++ [[41]])
  | .frm h as => [40] :: h :: (tks as ++ [[41]])
  | .nm t => [t]
  | .qt t => [quo t]
def tks : List Ex → List (List Nat)
  | [] => []
  | e :: r => tk e ++ tks r
end
mutual
def wr : Ex → List Nat
  | .num n => dg n
  | .txt t => quo t
  | .bl b => if b then wTrue else wFalse
  | .term l es => 40 :: (joinU [32] (wTerm :: quo l :: wrs es) ++ [41])
  | .frm h as => 40 :: (joinU [32] (h :: wrs as) ++ [41])
  | .nm t => t
  | .qt t => quo t
def wrs : List Ex → List (List Nat)
  | [] => []
  | e :: r => wr e :: wrs r
end
def isE : Ex → Bool
  | .nm _ => false
  | .qt _ => false
  | _ => true
def kids : Ex → List Ex
  | .term _ es => es
  | .frm _ as => as.filter isE
  | _ => []
mutual
def pts : Ex → List Ex
  | .term l es => ptss es ++ [.term l es]
  | .frm h as => ptss as ++ [.frm h as]
  | .num n => [.num n]
  | .txt t => [.txt t]
  | .bl b => [.bl b]
  | .nm _ => []
  | .qt _ => []
def ptss : List Ex → List Ex
  | [] => []
  | e :: r => pts e ++ ptss r
end
def cnt (e : Ex) : Nat := (pts e).length
theorem eXs_eq : ∀ es : List Ex, eXs es = es.map eX
  | [] => rfl
  | e :: r => by show eX e :: eXs r = _; rw [eXs_eq r]; rfl
theorem tks_eq : ∀ es : List Ex, tks es = es.flatMap tk
  | [] => rfl
  | e :: r => by show tk e ++ tks r = _; rw [tks_eq r]; rfl
theorem wrs_eq : ∀ es : List Ex, wrs es = es.map wr
  | [] => rfl
  | e :: r => by show wr e :: wrs r = _; rw [wrs_eq r]; rfl
theorem ptss_eq : ∀ es : List Ex, ptss es = es.flatMap pts
  | [] => rfl
  | e :: r => by show pts e ++ ptss r = _; rw [ptss_eq r]; rfl
def NmOk (t : List Nat) : Prop := 1 ≤ t.length ∧ t.length ≤ 12 ∧ ∀ c ∈ t, 97 ≤ c ∧ c ≤ 122
def Fit (P : Ex → Prop) : List Nat → List Ex → Prop
  | [], [] => True
  | c :: f, a :: as => (if c = 69 then P a else if c = 84 then ∃ t, a = .qt t ∧ t.length ≤ 60 else ∃ t, a = .nm t ∧ NmOk t) ∧ Fit P f as
  | _, _ => False
def Ok : Nat → Ex → Prop
  | _, .num n => n.natAbs ≤ 1000000
  | _, .txt t => t.length ≤ 60
  | _, .bl _ => True
  | n + 1, .term l es => l.length ≤ 60 ∧ es.length ≤ 2 ∧ ∀ e ∈ es, Ok n e
  | n + 1, .frm h as => ∃ f, formOf h = some f ∧ Fit (Ok n) f as
  | _, _ => False
abbrev Sm := List (List Nat × List Nat)
def lay (q : Sm) : List Nat := q.flatMap fun p => p.1 ++ p.2
def isBk (c : Nat) : Bool := c == 32 || c == 10
def shut (t : List Nat) : Prop := ∃ r, t = 40 :: r ∨ t = 41 :: r ∨ t = 34 :: r
def Gd : Sm → Prop
  | [] => True
  | [(g, t)] => g.all isBk = true ∧ t ≠ [] ∧ (∀ c, t.head? = some c → isBk c = false)
  | (g, t) :: (g', t') :: r => g.all isBk = true ∧ t ≠ [] ∧ (∀ c, t.head? = some c → isBk c = false) ∧ (g' = [] → shut t ∨ shut t') ∧ Gd ((g', t') :: r)
def rd (t : List Nat) (i : Nat) (d m : Int) : Ob := .ins "Reader" [("text", .im (.str (S t))), ("at", .im (.int (i : Nat))), ("depth", .im (.int d)), ("many", .im (.int m))]
def At (t : List Nat) (i : Nat) (q : Sm) (z : List Nat) : Prop := i ≤ t.length ∧ t.length ≤ 400000 ∧ t.drop i = lay q ++ z ∧ Gd q ∧ z.all isBk = true
def fgap : Sm → Nat
  | [] => 0
  | p :: _ => p.1.length
def pos (t : List Nat) (q : Sm) (z : List Nat) : Nat := t.length - (lay q ++ z).length
def ans (t : List Nat) (q : Sm) (z : List Nat) (n : Nat) (v : D) (d m : Int) (k : W → Sto → Prop) (ex : DX) : Prop :=
  if n ≤ q.length then k (.im v) [rd t (pos t (q.drop n) z) d m] else ∀ (j : Nat) (d' m' : Int), ex "BadExpression" [("position", .int (t.length : Nat))] [rd t j d' m']
def Wt (q : Sm) (ts : List (List Nat)) : Prop := q.map (·.2) <+: ts ∨ ts <+: q.map (·.2)
def pf_Reader_init : Pf := fun ws st k _ => match ws, st with
  | [.loc 0, .im (.str z)], [o] => o = .ins "Reader" [] ∧ ∃ t, z = S t ∧ k (.im .non) [rd t 0 0 0]
  | _, _ => False
def pf_Reader_blank : Pf := fun ws st k _ => match ws, st with
  | [.loc 0], [o] => ∃ t i d m g r, o = rd t i d m ∧ i ≤ t.length ∧ t.length ≤ 400000 ∧ t.drop i = g ++ r ∧ g.all isBk = true ∧ (∀ c, r.head? = some c → isBk c = false) ∧ k (.im .non) [rd t (i + g.length) d m]
  | _, _ => False
def pf_Reader_sign : Pf := fun ws st k _ => match ws, st with
  | [.loc 0], [o] => ∃ t i d m g r, o = rd t i d m ∧ i ≤ t.length ∧ t.length ≤ 400000 ∧ t.drop i = g ++ r ∧ g.all isBk = true ∧ (∀ c, r.head? = some c → isBk c = false) ∧ k (.im (.str (S (r.take 1)))) [rd t (i + g.length) d m]
  | _, _ => False
def pf_Reader_run : Pf := fun ws st k _ => match ws, st with
  | [.loc 0, .im (.str y)], [o] => ∃ t i d m a r, o = rd t i d m ∧ i ≤ t.length ∧ t.length ≤ 400000 ∧ t.drop i = a ++ r ∧ (∀ c ∈ a, c ∈ cl y) ∧ (∀ c, r.head? = some c → c ∉ cl y) ∧ k (.im (.str (S a))) [rd t (i + a.length) d m]
  | _, _ => False
def Wd (t : List Nat) : Prop := 1 ≤ t.length ∧ ∀ c ∈ t, 97 ≤ c ∧ c ≤ 122
def pf_Reader_word : Pf := fun ws st k ex => match ws, st with
  | [.loc 0], [o] => ∃ t i d m q z x, o = rd t i d m ∧ At t i q z ∧ Wd x ∧ Wt q [x] ∧ ans t q z 1 (.str (S x)) d m k ex
  | _, _ => False
def pf_Reader_name : Pf := fun ws st k ex => match ws, st with
  | [.loc 0], [o] => ∃ t i d m q z x, o = rd t i d m ∧ At t i q z ∧ NmOk x ∧ Wt q [x] ∧ ans t q z 1 (.str (S x)) d m k ex
  | _, _ => False
def pf_Reader_integer : Pf := fun ws st k ex => match ws, st with
  | [.loc 0], [o] => ∃ t i d m q z n, o = rd t i d m ∧ At t i (([], dg n) :: q) z ∧ n.natAbs ≤ 1000000 ∧ k (.im (.int n)) [rd t (pos t q z) d m]
  | _, _ => False
def pf_Reader_quoted : Pf := fun ws st k ex => match ws, st with
  | [.loc 0], [o] => ∃ t i d m q z l, o = rd t i d m ∧ At t i q z ∧ l.length ≤ 60 ∧ Wt q [quo l] ∧ ans t q z 1 (.str (S l)) d m k ex
  | _, _ => False
def pf_Reader_close : Pf := fun ws st k ex => match ws, st with
  | [.loc 0], [o] => ∃ t i d m q z, o = rd t i d m ∧ At t i q z ∧ Wt q [[41]] ∧ ans t q z 1 .non (d - 1) m k ex
  | _, _ => False
def pf_exp (n : Nat) : Pf := fun ws st k ex => match ws, st with
  | [.loc 0], [o] => ∃ t i d m q z e n', n = n' + 1 ∧ o = rd t i d m ∧ At t i q z ∧ Ok n' e ∧ Wt q (tk e) ∧ d + n' ≤ 12 ∧ (q ≠ [] → m + cnt e ≤ 60) ∧ ans t q z (tk e).length (eX e) d (m + cnt e) k ex
  | _, _ => False
def pf_cmp (n : Nat) : Pf := fun ws st k ex => match ws, st with
  | [.loc 0], [o] => ∃ t i d m q z e, o = rd t i d m ∧ At t i (([], [40]) :: q) z ∧ Ok n e ∧ (∃ r, tk e = [40] :: r ∧ Wt q r) ∧ d + n ≤ 12 ∧ m + cnt e ≤ 61 ∧ ans t (([], [40]) :: q) z (tk e).length (eX e) d (m + cnt e - 1) k ex
  | _, _ => False
def pf_trm (n : Nat) : Pf := fun ws st k ex => match ws, st with
  | [.loc 0], [o] => ∃ t i d m q z l es n', n = n' + 1 ∧ o = rd t i d m ∧ At t i q z ∧ l.length ≤ 60 ∧ es.length ≤ 2 ∧ (∀ e ∈ es, Ok n' e) ∧ Wt q (quo l :: (tks es ++ [[41]])) ∧ d + n' ≤ 12 ∧ m + (ptss es).length ≤ 60 ∧
      ans t q z ((tks es).length + 2) (eX (.term l es)) (d - 1) (m + (ptss es).length) k ex
  | _, _ => False
def pf_read_expression : Pf := fun ws st k ex => match ws, st with
  | [.im (.str y)], [] => ∃ t q z e n, y = S t ∧ At t 0 q z ∧ Ok n e ∧ n ≤ 4 ∧ Wt q (tk e) ∧ cnt e ≤ 60 ∧ (if (tk e).length ≤ q.length then
      (if (tk e).length = q.length then k (.im (eX e)) [] else ex "BadExpression" [("position", .int (pos t (q.drop (tk e).length) z + fgap (q.drop (tk e).length) : Nat))] []) else ex "BadExpression" [("position", .int (t.length : Nat))] [])
  | _, _ => False
def pf_operands : Pf := fun ws st k _ => match ws, st with
  | [.im d], [] => ∃ e n, d = eX e ∧ Ok n e ∧ k (.im (.tup ((kids e).map eX))) []
  | _, _ => False
def pf_prts (n : Nat) : Pf := fun ws st k _ => match ws, st with
  | [.im d], [] => ∃ e n', n = n' + 1 ∧ d = eX e ∧ Ok n' e ∧ n' ≤ 4 ∧ k (.im (.lst ((pts e).map eX))) []
  | _, _ => False
def pf_quote : Pf := fun ws st k _ => match ws, st with
  | [.im (.str y)], [] => ∃ t, y = S t ∧ t.length ≤ 60 ∧ k (.im (.str (S (quo t)))) []
  | _, _ => False
def pf_wr (n : Nat) : Pf := fun ws st k _ => match ws, st with
  | [.im d], [] => ∃ e n', n = n' + 1 ∧ d = eX e ∧ Ok n' e ∧ n' ≤ 4 ∧ k (.im (.str (S (wr e)))) []
  | _, _ => False
def pf_Lforms : Pf := fun ws st k _ => match ws, st with
  | [], [] => k (.im (.dct (formsP.map fun p => Sum.inr p.1) (formsP.map fun p => D.str p.2))) []
  | _, _ => False
def pf_Lname : Pf := fun ws st k _ => match ws, st with
  | [.loc 0], [.pool] => ∀ t, NmOk t → k (.im (.str (S t))) [.pool]
  | _, _ => False
def pf_Ltext : Pf := fun ws st k _ => match ws, st with
  | [.loc 0], [.pool] => ∀ t : List Nat, t.length ≤ 60 → k (.im (.str (S t))) [.pool]
  | _, _ => False
def pf_Linteger : Pf := fun ws st k _ => match ws, st with
  | [.loc 0], [.pool] => ∀ n : Int, n.natAbs ≤ 1000000 → k (.im (.int n)) [.pool]
  | _, _ => False
def pf_Lplain : Pf := fun ws st k _ => match ws, st with
  | [.loc 0], [.pool] => ∀ e, Ok 0 e → k (.im (eX e)) [.pool]
  | _, _ => False
def pf_Lexp (n : Nat) : Pf := fun ws st k _ => match ws, st with
  | [.loc 0, .im (.int j)], [.pool] => 0 ≤ j ∧ j < n ∧ n ≤ 5 ∧ ∀ e, Ok j.toNat e → k (.im (eX e)) [.pool]
  | _, _ => False
def pf_Lbelow : Pf := fun ws st k _ => match ws, st with
  | [.im d], [] => ∃ e n, d = eX e ∧ Ok n e ∧ k (.im (.lst ((kids e).map eX))) []
  | _, _ => False
def pf_Lprts (n : Nat) : Pf := fun ws st k _ => match ws, st with
  | [.im d], [] => ∃ e n', n = n' + 1 ∧ d = eX e ∧ Ok n' e ∧ n' ≤ 4 ∧ k (.im (.lst ((pts e).map eX))) []
  | _, _ => False
def pf_Lquoted : Pf := fun ws st k _ => match ws, st with
  | [.im (.str y)], [] => ∃ t, y = S t ∧ t.length ≤ 60 ∧ k (.im (.str (S (quo t)))) []
  | _, _ => False
def pf_Ltoks (n : Nat) : Pf := fun ws st k _ => match ws, st with
  | [.im d], [] => ∃ e n', n = n' + 1 ∧ d = eX e ∧ Ok n' e ∧ n' ≤ 4 ∧ k (.im (.lst (lsD (tk e)))) []
  | _, _ => False
def can (p : List Nat) : List (List Nat) → Sm
  | [] => []
  | t :: r => (if p = [40] ∨ t = [41] then [] else [32], t) :: can t r
def pf_Lwritten : Pf := fun ws st k _ => match ws, st with
  | [.im (.lst ds)], [] => ∃ ls, ds = lsD ls ∧ ls.length ≤ 10000 ∧ (∀ l ∈ ls, l.length ≤ 200) ∧ k (.im (.str (S (lay (can [40] ls))))) []
  | _, _ => False
def Tok (t : List Nat) : Prop := t ≠ [] ∧ ∀ c, t.head? = some c → isBk c = false
def GapOk (l r g : List Nat) : Prop := g.length ≤ 3 ∧ g.all isBk = true ∧ (g = [] → shut l ∨ shut r)
def pf_Lgap : Pf := fun ws st k _ => match ws, st with
  | [.loc 0, .im (.str a), .im (.str b)], [.pool] => ∃ l r, a = S l ∧ b = S r ∧ l ≠ [] ∧ r ≠ [] ∧ l.length ≤ 1000 ∧ r.length ≤ 1000 ∧ ∀ g, GapOk l r g → k (.im (.str (S g))) [.pool]
  | _, _ => False
def places (i : Nat) : Sm → List Nat
  | [] => []
  | (g, t) :: r => (i + g.length) :: places (i + g.length + t.length) r
def pf_Llayout : Pf := fun ws st k _ => match ws, st with
  | [.loc 0, .im (.lst ds)], [.pool] => ∃ ls, ds = lsD ls ∧ ls ≠ [] ∧ ls.length ≤ 2000 ∧ (∀ l ∈ ls, Tok l ∧ l.length ≤ 200) ∧ ∀ q : Sm, Gd q → q.map (·.2) = ls → (∀ p ∈ q, p.1.length ≤ 3) →
      k (.im (.tup [.str (S (lay q)), .lst ((places 0 q).map fun i : Nat => .int i)])) [.pool]
  | _, _ => False
def pf_Lrefused : Pf := fun ws st k _ => match ws, st with
  | [.im (.str y)], [] => ∃ t q z e n, y = S t ∧ At t 0 q z ∧ Ok n e ∧ n ≤ 4 ∧ Wt q (tk e) ∧ cnt e ≤ 60 ∧ (tk e).length ≠ q.length ∧
      k (.im (.int (if (tk e).length ≤ q.length then (pos t (q.drop (tk e).length) z + fgap (q.drop (tk e).length) : Nat) else (t.length : Nat)))) []
  | _, _ => False
theorem pf_exp0 : ∀ ws st k ex, ¬ pf_exp 0 ws st k ex := by
  intro ws st k ex h
  unfold pf_exp at h
  split at h
  · obtain ⟨_, _, _, _, _, _, _, _, h, _⟩ := h; omega
  · exact h
theorem pf_prts0 : ∀ ws st k ex, ¬ pf_prts 0 ws st k ex := by
  intro ws st k ex h
  unfold pf_prts at h
  split at h
  · obtain ⟨_, _, h, _⟩ := h; omega
  · exact h
theorem pf_wr0 : ∀ ws st k ex, ¬ pf_wr 0 ws st k ex := by
  intro ws st k ex h
  unfold pf_wr at h
  split at h
  · obtain ⟨_, _, h, _⟩ := h; omega
  · exact h
theorem pf_Lprts0 : ∀ ws st k ex, ¬ pf_Lprts 0 ws st k ex := by
  intro ws st k ex h
  unfold pf_Lprts at h
  split at h
  · obtain ⟨_, _, h, _⟩ := h; omega
  · exact h
theorem pf_Ltoks0 : ∀ ws st k ex, ¬ pf_Ltoks 0 ws st k ex := by
  intro ws st k ex h
  unfold pf_Ltoks at h
  split at h
  · obtain ⟨_, _, h, _⟩ := h; omega
  · exact h
theorem pf_Lexp0 : ∀ ws st k ex, ¬ pf_Lexp 0 ws st k ex := by
  intro ws st k ex h
  unfold pf_Lexp at h
  split at h
  · obtain ⟨h1, h2, _⟩ := h; omega
  · exact h
end Dl.Ea
end

section
set_option maxHeartbeats 4000000
namespace Dl.Sup
open PySem PySem.Spec PyProof.Rows L2 Co Dl
def asS (g : Addr → Option Obj) (n : Nat) : List Addr := He.asD g n ++ [cStatics]
def obsS (n : Nat) (fa : List He.Fa) (fn : List He.DefD) (ts : List He.Tab) (ex : PySem.W.Frag → Bool) (g : Addr → Option Obj) : He.AlX := (He.obsT fa fn ts (He.frT g (asS g n)), ex (He.frT g (asS g n)))
theorem saysS_of {n : Nat} {fa : List He.Fa} {fn : List He.DefD} {ts : List He.Tab} {ex : PySem.W.Frag → Bool} {w : World} {h : Heap} (e : obsS n fa fn ts ex h.get? = He.valX fn ts w) : He.SaysX fa fn ts [] ex w h (He.frT h.get? (asS h.get? n)) :=
  ⟨congrArg (fun z : He.AlX => z.1) e, congrArg (fun z : He.AlX => z.2) e, fun _ z => (nomatch z), fun _ z => (nomatch z), fun _ z => (nomatch z)⟩
def hookS (n : Nat) (fa : List He.Fa) (fn : List He.DefD) (ts : List He.Tab) (ex : PySem.W.Frag → Bool) : PySem.W.Hook where
  α := He.AlX
  obs := fun s => obsS n fa fn ts ex s.heap.get?
  val := fun w => He.valX fn ts w
  says := fun w h => ∃ K : PySem.W.Frag, K.In h ∧ He.SaysX fa fn ts [] ex w h K
  of := fun _ _ e => ⟨_, He.frT_in, saysS_of e⟩
  keeps := fun _ _ _ ⟨K, hK, c⟩ k => ⟨K, PySem.W.Frag.In.keeps hK k, ⟨c.t, c.more, c.hd, c.out, fun p hp => k _ _ (c.empty p hp)⟩⟩
theorem obsS_eq {n : Nat} {fa : List He.Fa} {fn : List He.DefD} {ts : List He.Tab} {ex : PySem.W.Frag → Bool} {g : Addr → Option Obj} {s : Shared} (h : ∀ a, g a = s.heap.get? a) : obsS n fa fn ts ex g = (hookS n fa fn ts ex).obs s := by
  have e : g = s.heap.get? := funext h
  rw [e] <;> rfl
end Dl.Sup
end

section
set_option maxHeartbeats 0
namespace Co.EaF
open PySem PySem.Spec PyProof.Rows L2 Co
def top (i : Nat) : Stmt := PySem.Challenge.pw_tongues_k44_expressions.main.body.getD i (.Pass ⟨0, 0, 0, 0⟩)
abbrev s_operands : Stmt := top 12
def df_operands : He.DefD := ⟨("operands", none), "operands", "operands", defArgs s_operands, defBody s_operands, defScope s_operands, [], []⟩
abbrev s_parts : Stmt := top 13
def df_parts : He.DefD := ⟨("parts", none), "parts", "parts", defArgs s_parts, defBody s_parts, defScope s_parts, [], []⟩
abbrev s_Reader_init : Stmt := inClass (top 14) 0
def df_Reader_init : He.DefD := ⟨("Reader", some "__init__"), "__init__", "Reader.__init__", defArgs s_Reader_init, defBody s_Reader_init, defScope s_Reader_init, [], []⟩
abbrev s_Reader_blank : Stmt := inClass (top 14) 1
def df_Reader_blank : He.DefD := ⟨("Reader", some "blank"), "blank", "Reader.blank", defArgs s_Reader_blank, defBody s_Reader_blank, defScope s_Reader_blank, [], []⟩
abbrev s_Reader_sign : Stmt := inClass (top 14) 2
def df_Reader_sign : He.DefD := ⟨("Reader", some "sign"), "sign", "Reader.sign", defArgs s_Reader_sign, defBody s_Reader_sign, defScope s_Reader_sign, [], []⟩
abbrev s_Reader_run : Stmt := inClass (top 14) 3
def df_Reader_run : He.DefD := ⟨("Reader", some "run"), "run", "Reader.run", defArgs s_Reader_run, defBody s_Reader_run, defScope s_Reader_run, [], []⟩
abbrev s_Reader_word : Stmt := inClass (top 14) 4
def df_Reader_word : He.DefD := ⟨("Reader", some "word"), "word", "Reader.word", defArgs s_Reader_word, defBody s_Reader_word, defScope s_Reader_word, [], []⟩
abbrev s_Reader_name : Stmt := inClass (top 14) 5
def df_Reader_name : He.DefD := ⟨("Reader", some "name"), "name", "Reader.name", defArgs s_Reader_name, defBody s_Reader_name, defScope s_Reader_name, [], []⟩
abbrev s_Reader_integer : Stmt := inClass (top 14) 6
def df_Reader_integer : He.DefD := ⟨("Reader", some "integer"), "integer", "Reader.integer", defArgs s_Reader_integer, defBody s_Reader_integer, defScope s_Reader_integer, [], []⟩
abbrev s_Reader_quoted : Stmt := inClass (top 14) 7
def df_Reader_quoted : He.DefD := ⟨("Reader", some "quoted"), "quoted", "Reader.quoted", defArgs s_Reader_quoted, defBody s_Reader_quoted, defScope s_Reader_quoted, [], []⟩
abbrev s_Reader_close : Stmt := inClass (top 14) 8
def df_Reader_close : He.DefD := ⟨("Reader", some "close"), "close", "Reader.close", defArgs s_Reader_close, defBody s_Reader_close, defScope s_Reader_close, [], []⟩
abbrev s_Reader_term : Stmt := inClass (top 14) 11
def df_Reader_term : He.DefD := ⟨("Reader", some "term"), "term", "Reader.term", defArgs s_Reader_term, defBody s_Reader_term, defScope s_Reader_term, [], []⟩
abbrev s_Reader_compound : Stmt := inClass (top 14) 10
def df_Reader_compound : He.DefD := ⟨("Reader", some "compound"), "compound", "Reader.compound", defArgs s_Reader_compound, defBody s_Reader_compound, defScope s_Reader_compound, [], []⟩
abbrev s_Reader_expression : Stmt := inClass (top 14) 9
def df_Reader_expression : He.DefD := ⟨("Reader", some "expression"), "expression", "Reader.expression", defArgs s_Reader_expression, defBody s_Reader_expression, defScope s_Reader_expression, [], []⟩
abbrev s_read_expression : Stmt := top 15
def df_read_expression : He.DefD := ⟨("read_expression", none), "read_expression", "read_expression", defArgs s_read_expression, defBody s_read_expression, defScope s_read_expression, [], []⟩
abbrev s_quote : Stmt := top 16
def df_quote : He.DefD := ⟨("quote", none), "quote", "quote", defArgs s_quote, defBody s_quote, defScope s_quote, [], []⟩
abbrev s_write_expression : Stmt := top 17
def df_write_expression : He.DefD := ⟨("write_expression", none), "write_expression", "write_expression", defArgs s_write_expression, defBody s_write_expression, defScope s_write_expression, [], []⟩
abbrev s_Lpool : Stmt := top 19
abbrev N_Lpool : List Str := ["_law_script", "_law_cell"]
theorem sc_Lpool : FnScope N_Lpool ["_law_script"] (defScope s_Lpool) := ⟨rfl, rfl, rfl, by decide +kernel, rfl, by decide +kernel, by decide +kernel⟩
def df_Lpool : He.DefD := ⟨("_law_pool", none), "_law_pool", "_law_pool", defArgs s_Lpool, defBody s_Lpool, defScope s_Lpool, [], []⟩
abbrev s_Ltake : Stmt := top 20
abbrev N_Ltake : List Str := ["_law_pool_here", "_law_many", "_law_digit", "_law_cell", "_law_mixed"]
theorem sc_Ltake : FnScope N_Ltake ["_law_pool_here", "_law_many"] (defScope s_Ltake) := ⟨rfl, rfl, rfl, by decide +kernel, rfl, by decide +kernel, by decide +kernel⟩
def df_Ltake : He.DefD := ⟨("_law_take", none), "_law_take", "_law_take", defArgs s_Ltake, defBody s_Ltake, defScope s_Ltake, [], []⟩
abbrev s_Lforms : Stmt := top 21
def df_Lforms : He.DefD := ⟨("_law_forms", none), "_law_forms", "_law_forms", defArgs s_Lforms, defBody s_Lforms, defScope s_Lforms, [], []⟩
abbrev s_Lname : Stmt := top 22
def df_Lname : He.DefD := ⟨("_law_name", none), "_law_name", "_law_name", defArgs s_Lname, defBody s_Lname, defScope s_Lname, [], []⟩
abbrev s_Ltext : Stmt := top 23
def df_Ltext : He.DefD := ⟨("_law_text", none), "_law_text", "_law_text", defArgs s_Ltext, defBody s_Ltext, defScope s_Ltext, [], []⟩
abbrev s_Linteger : Stmt := top 24
def df_Linteger : He.DefD := ⟨("_law_integer", none), "_law_integer", "_law_integer", defArgs s_Linteger, defBody s_Linteger, defScope s_Linteger, [], []⟩
abbrev s_Lplain : Stmt := top 25
def df_Lplain : He.DefD := ⟨("_law_plain", none), "_law_plain", "_law_plain", defArgs s_Lplain, defBody s_Lplain, defScope s_Lplain, [], []⟩
abbrev s_Lexpression : Stmt := top 26
def df_Lexpression : He.DefD := ⟨("_law_expression", none), "_law_expression", "_law_expression", defArgs s_Lexpression, defBody s_Lexpression, defScope s_Lexpression, [], []⟩
abbrev s_Lbelow : Stmt := top 27
def df_Lbelow : He.DefD := ⟨("_law_below", none), "_law_below", "_law_below", defArgs s_Lbelow, defBody s_Lbelow, defScope s_Lbelow, [], []⟩
abbrev s_Lparts : Stmt := top 28
def df_Lparts : He.DefD := ⟨("_law_parts", none), "_law_parts", "_law_parts", defArgs s_Lparts, defBody s_Lparts, defScope s_Lparts, [], []⟩
abbrev s_Lquoted : Stmt := top 29
def df_Lquoted : He.DefD := ⟨("_law_quoted", none), "_law_quoted", "_law_quoted", defArgs s_Lquoted, defBody s_Lquoted, defScope s_Lquoted, [], []⟩
abbrev s_Ltokens : Stmt := top 30
def df_Ltokens : He.DefD := ⟨("_law_tokens", none), "_law_tokens", "_law_tokens", defArgs s_Ltokens, defBody s_Ltokens, defScope s_Ltokens, [], []⟩
abbrev s_Lwritten : Stmt := top 31
def df_Lwritten : He.DefD := ⟨("_law_written", none), "_law_written", "_law_written", defArgs s_Lwritten, defBody s_Lwritten, defScope s_Lwritten, [], []⟩
abbrev s_Lgap : Stmt := top 32
def df_Lgap : He.DefD := ⟨("_law_gap", none), "_law_gap", "_law_gap", defArgs s_Lgap, defBody s_Lgap, defScope s_Lgap, [], []⟩
abbrev s_Llayout : Stmt := top 33
def df_Llayout : He.DefD := ⟨("_law_layout", none), "_law_layout", "_law_layout", defArgs s_Llayout, defBody s_Llayout, defScope s_Llayout, [], []⟩
abbrev s_Lrefused : Stmt := top 34
def df_Lrefused : He.DefD := ⟨("_law_refused", none), "_law_refused", "_law_refused", defArgs s_Lrefused, defBody s_Lrefused, defScope s_Lrefused, [], []⟩
abbrev s_law : Stmt := top 35
def df_law : He.DefD := ⟨("law", none), "law", "law", defArgs s_law, defBody s_law, defScope s_law, [], []⟩
def fn : List He.DefD := [df_operands, df_parts, df_Reader_init, df_Reader_blank, df_Reader_sign, df_Reader_run, df_Reader_word, df_Reader_name, df_Reader_integer, df_Reader_quoted, df_Reader_close, df_Reader_term, df_Reader_compound, df_Reader_expression, df_read_expression, df_quote, df_write_expression, df_Lpool, df_Ltake, df_Lforms, df_Lname, df_Ltext, df_Linteger, df_Lplain, df_Lexpression, df_Lbelow, df_Lparts, df_Lquoted, df_Ltokens, df_Lwritten, df_Lgap, df_Llayout, df_Lrefused, df_law]
def xs : List Ex := [.oex "BadExpression", .init "BadExpression", .nofld "BadExpression" "position", .kitT "BadExpression" "ValueError" true, .isc "BadExpression"]
def kds : List (Str × List (Str × He.Dv)) := [("FORMS", Dl.Ea.formsT)]
def exB (K : PySem.W.Frag) : Bool := ((xs.all fun e => e.ok K) && (kds.all fun p => Dl.kdB K (He.ga K p.1) p.2)) && (([("BadExpression", ["position"])] : List (Str × List Str)).all fun p => Dl.Sup.supB K "/claim/cut.py" p.1 p.2)
def fa : List He.Fa := [.glo "FORMS", .free "len", .free "range", .free "tuple", .glo "operands", .glo "parts", .cls "Reader", .noat "Reader" "text", .noat "Reader" "at", .noat "Reader" "depth", .noat "Reader" "many", .meth "Reader" "blank", .meth "Reader" "sign", .str "LETTERS" "abcdefghijklmnopqrstuvwxyz", .glo "BadExpression", .meth "Reader" "run", .meth "Reader" "word", .str "FIGURES" "0123456789", .free "int", .free "abs", .int "MOST_INTEGER" (1000000), .int "MOST_TEXT" (60), .meth "Reader" "quoted", .int "MOST_BELOW" (6), .meth "Reader" "expression", .meth "Reader" "close", .int "MOST_DEPTH" (12), .meth "Reader" "term", .meth "Reader" "name", .int "MOST_PARTS" (60), .meth "Reader" "compound", .meth "Reader" "integer", .mkr "Reader", .glo "Reader", .free "str", .glo "quote", .glo "write_expression", .glo "_law_take", .glo "_law_integer", .glo "_law_text", .glo "_law_plain", .glo "_law_expression", .glo "_law_forms", .free "sorted", .glo "_law_name", .free "list", .free "isinstance", .glo "_law_below", .glo "_law_parts", .glo "_law_quoted", .glo "_law_tokens", .glo "_law_gap", .glo "read_expression", .exm "BadExpression" "BadExpression" true, .free "ValueError", .glo "_law_pool", .glo "_law_layout", .glo "_law_written", .glo "_law_refused", .glo "law", .free "super"]
abbrev R : PySem.W.OpenRow := PySem.W.OpenLaw.row PySem.Challenge.rw_tongues_k44_expressions
abbrev hk : PySem.W.Hook := Dl.Sup.hookS 5 fa fn (Dl.tabD kds) exB
def ob (s : PySem.W.SharedT) : He.AlX := Dl.Sup.obsS 5 fa fn (Dl.tabD kds) exB (HandSHeadRun.getT s)
theorem ob_eq (s : PySem.W.SharedT) : ob s = hk.obs s.abs := Dl.Sup.obsS_eq (HandSHeadRun.getT_eq s)
def loose : List Str := (["TongueError", "MOST_DEPTH", "MOST_PARTS", "MOST_INTEGER", "MOST_TEXT", "LETTERS", "FIGURES", "FORMS", "MOST_BELOW", "BadExpression", "operands", "parts", "Reader", "read_expression", "quote", "write_expression", "_law_pool", "_law_take", "_law_forms", "_law_name"] : List Str) ++ (["_law_text", "_law_integer", "_law_plain", "_law_expression", "_law_below", "_law_parts", "_law_quoted", "_law_tokens", "_law_written", "_law_gap", "_law_layout", "_law_refused"] : List Str)
theorem run_f (w : World) : HandSHeadRun.RunEq R (PySem.W.view R.prog [35]) hk ob 9000 loose (w.withFollow "special-get-raises" false) := fun os => by kernel_rfl
theorem run_t (w : World) : HandSHeadRun.RunEq R (PySem.W.view R.prog [35]) hk ob 9000 loose (w.withFollow "special-get-raises" true) := fun os => by kernel_rfl
theorem run (w : World) : HandSHeadRun.RunEq R (PySem.W.view R.prog [35]) hk ob 9000 loose w := PySem.W.byRow2 "special-get-raises" (P := fun w => HandSHeadRun.RunEq R (PySem.W.view R.prog [35]) hk ob 9000 loose w) run_f run_t w
end Co.EaF
end

section
set_option maxHeartbeats 4000000
namespace Dl.Ea
open PySem PySem.Spec PyProof.Rows L2 Co
abbrev N_operands : List Str := ["expression", "head", "form", "k"]
def t_operands : DS :=
 (sSeq (sAsg 1 (dI (dIx (dV 0) (dC (.int 0)))))
 (sSeq (sIf (dCmp cEq (dV 1) (dI (dC (.str "term")))) (sRet (dI (dIx (dV 0) (dC (.int 2))))) sNext)
 (sSeq (sIf (dNot (dGlIn Dl.Ea.formsT (dD (dV 1)))) (sRet (dI (dTup adNil))) sNext)
 (sSeq (sAsg 2 (dI (dGlIx Dl.Ea.formsT (dD (dV 1)))))
 (sRet (dI (dCB fTuple (aCons (dI (dLc (iRg1 (dCB fLen (aCons (dV 2) aNil))) (gN 3) (dCmp cEq (dI (dIx (dV 2) (dD (dV 3)))) (dI (dC (.str "E")))) (dIx (dV 0) (dOp fAdd (dD (dV 3)) (dC (.int 1)))) ([("k", 3)].map (·.2)))) aNil))))))))
abbrev N_parts : List Str := ["expression", "found", "operand"]
def t_parts (n : Nat) : DS :=
 (sSeq (sAsg 1 (dLstM adNil))
 (sSeq (sFor (iSq (dD (dCall pf_operands (aCons (dV 0) aNil)))) (gN 2)
 (sExt (dV 1) (dCall (pf_prts n) (aCons (dV 2) aNil))))
 (sRet (dI (dOp fAdd (dD (dV 1)) (dLst (adCons (dD (dV 0)) adNil)))))))
abbrev N_Reader_init : List Str := ["self", "text"]
def t_Reader_init : DS :=
 (sSeq (sFldS "Reader" "text" (dV 0) (dV 1))
 (sSeq (sFldS "Reader" "at" (dV 0) (dI (dC (.int 0))))
 (sSeq (sFldS "Reader" "depth" (dV 0) (dI (dC (.int 0))))
 (sFldS "Reader" "many" (dV 0) (dI (dC (.int 0)))))))
abbrev N_Reader_blank : List Str := ["self"]
def t_Reader_blank : DS :=
 (sWhile (dAnd (dCmp cLt (dFld "Reader" "at" (dV 0)) (dI (dCB fLen (aCons (dFld "Reader" "text" (dV 0)) aNil)))) (dCmp cIn (dI (dIx (dFld "Reader" "text" (dV 0)) (dD (dFld "Reader" "at" (dV 0))))) (dI (dC (.str " \x0a")))))
 (sFldAug "Reader" "at" fAddI (dV 0) (dC (.int 1))))
abbrev N_Reader_sign : List Str := ["self"]
def t_Reader_sign : DS :=
 (sSeq (sDrop (dMeth "Reader" "blank" pf_Reader_blank (dV 0) aNil))
 (sRet (dI (dSl (dFld "Reader" "text" (dV 0)) (dPart (dD (dFld "Reader" "at" (dV 0)))) (dPart (dOp fAdd (dD (dFld "Reader" "at" (dV 0))) (dC (.int 1))))))))
abbrev N_Reader_run : List Str := ["self", "characters", "start"]
def t_Reader_run : DS :=
 (sSeq (sAsg 2 (dFld "Reader" "at" (dV 0)))
 (sSeq (sWhile (dAnd (dCmp cLt (dFld "Reader" "at" (dV 0)) (dI (dCB fLen (aCons (dFld "Reader" "text" (dV 0)) aNil)))) (dCmp cIn (dI (dIx (dFld "Reader" "text" (dV 0)) (dD (dFld "Reader" "at" (dV 0))))) (dV 1)))
 (sFldAug "Reader" "at" fAddI (dV 0) (dC (.int 1))))
 (sRet (dI (dSl (dFld "Reader" "text" (dV 0)) (dPart (dD (dV 2))) (dPart (dD (dFld "Reader" "at" (dV 0)))))))))
abbrev N_Reader_word : List Str := ["self"]
def t_Reader_word : DS :=
 (sSeq (sIf (dOr (dCmp cEq (dMeth "Reader" "sign" pf_Reader_sign (dV 0) aNil) (dI (dC (.str "")))) (dCmp cNotIn (dMeth "Reader" "sign" pf_Reader_sign (dV 0) aNil) (dI (dC (.str "abcdefghijklmnopqrstuvwxyz"))))) (sRaise1 "BadExpression" "position" (dD (dFld "Reader" "at" (dV 0)))) sNext)
 (sRet (dMeth "Reader" "run" pf_Reader_run (dV 0) (aCons (dI (dC (.str "abcdefghijklmnopqrstuvwxyz"))) aNil))))
abbrev N_Reader_name : List Str := ["self", "start", "found"]
def t_Reader_name : DS :=
 (sSeq (sDrop (dMeth "Reader" "blank" pf_Reader_blank (dV 0) aNil))
 (sSeq (sAsg 1 (dFld "Reader" "at" (dV 0)))
 (sSeq (sAsg 2 (dMeth "Reader" "word" pf_Reader_word (dV 0) aNil))
 (sSeq (sIf (dCmp cGt (dI (dCB fLen (aCons (dV 2) aNil))) (dI (dC (.int 12)))) (sRaise1 "BadExpression" "position" (dD (dV 1))) sNext)
 (sRet (dV 2))))))
abbrev N_Reader_integer : List Str := ["self", "start", "figures", "written"]
def t_Reader_integer : DS :=
 (sSeq (sAsg 1 (dFld "Reader" "at" (dV 0)))
 (sSeq (sIf (dCmp cEq (dI (dIx (dFld "Reader" "text" (dV 0)) (dD (dFld "Reader" "at" (dV 0))))) (dI (dC (.str "-")))) (sFldAug "Reader" "at" fAddI (dV 0) (dC (.int 1))) sNext)
 (sSeq (sAsg 2 (dMeth "Reader" "run" pf_Reader_run (dV 0) (aCons (dI (dC (.str "0123456789"))) aNil)))
 (sSeq (sAsg 3 (dI (dSl (dFld "Reader" "text" (dV 0)) (dPart (dD (dV 1))) (dPart (dD (dFld "Reader" "at" (dV 0)))))))
 (sSeq (sIf (dOr (dCmp cEq (dV 2) (dI (dC (.str "")))) (dOr (dAnd (dCmp cEq (dI (dIx (dV 2) (dC (.int 0)))) (dI (dC (.str "0")))) (dCmp cNe (dV 3) (dI (dC (.str "0"))))) (dCmp cGt (dI (dCB fLen (aCons (dV 2) aNil))) (dI (dC (.int 7)))))) (sRaise1 "BadExpression" "position" (dD (dV 1))) sNext)
 (sSeq (sIf (dCmp cGt (dI (dCB fAbs (aCons (dI (dCB fInt (aCons (dV 3) aNil))) aNil))) (dI (dC (.int (1000000))))) (sRaise1 "BadExpression" "position" (dD (dV 1))) sNext)
 (sRet (dI (dCB fInt (aCons (dV 3) aNil))))))))))
abbrev N_Reader_quoted : List Str := ["self", "start", "found", "sign"]
def t_Reader_quoted : DS :=
 (sSeq (sIf (dCmp cNe (dMeth "Reader" "sign" pf_Reader_sign (dV 0) aNil) (dI (dC (.str "\"")))) (sRaise1 "BadExpression" "position" (dD (dFld "Reader" "at" (dV 0)))) sNext)
 (sSeq (sAsg 1 (dFld "Reader" "at" (dV 0)))
 (sSeq (sFldAug "Reader" "at" fAddI (dV 0) (dC (.int 1)))
 (sSeq (sAsg 2 (dLstM adNil))
 (sSeq (sWhile (dTru (dI (dC (.bl true))))
 (sSeq (sAsg 3 (dI (dSl (dFld "Reader" "text" (dV 0)) (dPart (dD (dFld "Reader" "at" (dV 0)))) (dPart (dOp fAdd (dD (dFld "Reader" "at" (dV 0))) (dC (.int 1)))))))
 (sSeq (sIf (dCmp cEq (dV 3) (dI (dC (.str "\"")))) sBrk sNext)
 (sSeq (sIf (dCmp cEq (dV 3) (dI (dC (.str "\\")))) (sSeq (sFldAug "Reader" "at" fAddI (dV 0) (dC (.int 1)))
 (sSeq (sAsg 3 (dI (dSl (dFld "Reader" "text" (dV 0)) (dPart (dD (dFld "Reader" "at" (dV 0)))) (dPart (dOp fAdd (dD (dFld "Reader" "at" (dV 0))) (dC (.int 1)))))))
 (sIf (dCmp cNotIn (dV 3) (dI (dTup (adCons (dC (.str "\"")) (adCons (dC (.str "\\")) adNil))))) (sRaise1 "BadExpression" "position" (dD (dV 1))) sNext))) sNext)
 (sSeq (sIf (dCmp cEq (dV 3) (dI (dC (.str "")))) (sRaise1 "BadExpression" "position" (dD (dV 1))) sNext)
 (sSeq (sApp (dV 2) (dD (dV 3)))
 (sFldAug "Reader" "at" fAddI (dV 0) (dC (.int 1)))))))))
 (sSeq (sFldAug "Reader" "at" fAddI (dV 0) (dC (.int 1)))
 (sSeq (sIf (dCmp cGt (dI (dCB fLen (aCons (dV 2) aNil))) (dI (dC (.int (60))))) (sRaise1 "BadExpression" "position" (dD (dV 1))) sNext)
 (sRet (dI (dBM "str" mJoin (dI (dC (.str ""))) (aCons (dV 2) aNil)))))))))))
abbrev N_Reader_close : List Str := ["self"]
def t_Reader_close : DS :=
 (sSeq (sIf (dCmp cNe (dMeth "Reader" "sign" pf_Reader_sign (dV 0) aNil) (dI (dC (.str ")")))) (sRaise1 "BadExpression" "position" (dD (dFld "Reader" "at" (dV 0)))) sNext)
 (sSeq (sFldAug "Reader" "at" fAddI (dV 0) (dC (.int 1)))
 (sFldAug "Reader" "depth" fSub (dV 0) (dC (.int 1)))))
abbrev N_Reader_expression : List Str := ["self", "sign", "start", "found"]
def t_Reader_expression (n : Nat) : DS :=
 (sSeq (sAsg 1 (dMeth "Reader" "sign" pf_Reader_sign (dV 0) aNil))
 (sSeq (sFldAug "Reader" "many" fAddI (dV 0) (dC (.int 1)))
 (sSeq (sIf (dOr (dCmp cEq (dV 1) (dI (dC (.str "")))) (dCmp cGt (dFld "Reader" "many" (dV 0)) (dI (dC (.int (60)))))) (sRaise1 "BadExpression" "position" (dD (dFld "Reader" "at" (dV 0)))) sNext)
 (sSeq (sIf (dCmp cEq (dV 1) (dI (dC (.str "(")))) (sRet (dMeth "Reader" "compound" (pf_cmp n) (dV 0) aNil)) sNext)
 (sSeq (sIf (dCmp cEq (dV 1) (dI (dC (.str "\"")))) (sRet (dI (dTup (adCons (dC (.str "text")) (adCons (dD (dMeth "Reader" "quoted" pf_Reader_quoted (dV 0) aNil)) adNil))))) sNext)
 (sSeq (sIf (dOr (dCmp cEq (dV 1) (dI (dC (.str "-")))) (dCmp cIn (dV 1) (dI (dC (.str "0123456789"))))) (sRet (dI (dTup (adCons (dC (.str "integer")) (adCons (dD (dMeth "Reader" "integer" pf_Reader_integer (dV 0) aNil)) adNil))))) sNext)
 (sSeq (sAsg 2 (dFld "Reader" "at" (dV 0)))
 (sSeq (sAsg 3 (dMeth "Reader" "word" pf_Reader_word (dV 0) aNil))
 (sSeq (sIf (dCmp cNotIn (dV 3) (dI (dTup (adCons (dC (.str "true")) (adCons (dC (.str "false")) adNil))))) (sRaise1 "BadExpression" "position" (dD (dV 2))) sNext)
 (sRet (dI (dTup (adCons (dC (.str "boolean")) (adCons (dB (dCmp cEq (dV 3) (dI (dC (.str "true"))))) adNil))))))))))))))
abbrev N_Reader_compound : List Str := ["self", "start", "head", "found", "kind"]
def t_Reader_compound (n : Nat) : DS :=
 (sSeq (sIf (dCmp cEq (dFld "Reader" "depth" (dV 0)) (dI (dC (.int (12))))) (sRaise1 "BadExpression" "position" (dD (dFld "Reader" "at" (dV 0)))) sNext)
 (sSeq (sFldAug "Reader" "at" fAddI (dV 0) (dC (.int 1)))
 (sSeq (sFldAug "Reader" "depth" fAddI (dV 0) (dC (.int 1)))
 (sSeq (sDrop (dMeth "Reader" "blank" pf_Reader_blank (dV 0) aNil))
 (sSeq (sAsg 1 (dFld "Reader" "at" (dV 0)))
 (sSeq (sAsg 2 (dMeth "Reader" "word" pf_Reader_word (dV 0) aNil))
 (sSeq (sIf (dCmp cEq (dV 2) (dI (dC (.str "term")))) (sRet (dMeth "Reader" "term" (pf_trm n) (dV 0) aNil)) sNext)
 (sSeq (sIf (dNot (dGlIn Dl.Ea.formsT (dD (dV 2)))) (sRaise1 "BadExpression" "position" (dD (dV 1))) sNext)
 (sSeq (sAsg 3 (dLstM (adCons (dD (dV 2)) adNil)))
 (sSeq (sFor (iSt (dGlIx Dl.Ea.formsT (dD (dV 2)))) (gN 4)
 (sIf (dCmp cEq (dV 4) (dI (dC (.str "E")))) (sApp (dV 3) (dD (dMeth "Reader" "expression" (pf_exp n) (dV 0) aNil))) (sIf (dCmp cEq (dV 4) (dI (dC (.str "T")))) (sApp (dV 3) (dD (dMeth "Reader" "quoted" pf_Reader_quoted (dV 0) aNil))) (sApp (dV 3) (dD (dMeth "Reader" "name" pf_Reader_name (dV 0) aNil))))))
 (sSeq (sDrop (dMeth "Reader" "close" pf_Reader_close (dV 0) aNil))
 (sRet (dI (dCB fTuple (aCons (dV 3) aNil)))))))))))))))
abbrev N_Reader_term : List Str := ["self", "label", "below"]
def t_Reader_term (n : Nat) : DS :=
 (sSeq (sAsg 1 (dMeth "Reader" "quoted" pf_Reader_quoted (dV 0) aNil))
 (sSeq (sAsg 2 (dLstM adNil))
 (sSeq (sWhile (dCmp cNe (dMeth "Reader" "sign" pf_Reader_sign (dV 0) aNil) (dI (dC (.str ")"))))
 (sSeq (sIf (dCmp cEq (dI (dCB fLen (aCons (dV 2) aNil))) (dI (dC (.int (6))))) (sRaise1 "BadExpression" "position" (dD (dFld "Reader" "at" (dV 0)))) sNext)
 (sApp (dV 2) (dD (dMeth "Reader" "expression" (pf_exp n) (dV 0) aNil)))))
 (sSeq (sDrop (dMeth "Reader" "close" pf_Reader_close (dV 0) aNil))
 (sRet (dI (dTup (adCons (dC (.str "term")) (adCons (dD (dV 1)) (adCons (dCB fTuple (aCons (dV 2) aNil)) adNil))))))))))
abbrev N_read_expression : List Str := ["text", "reader", "found"]
def t_read_expression : DS :=
 (sSeq (sAsg 1 (dNew "Reader" pf_Reader_init (aCons (dV 0) aNil)))
 (sSeq (sAsg 2 (dMeth "Reader" "expression" (pf_exp 5) (dV 1) aNil))
 (sSeq (sIf (dCmp cNe (dMeth "Reader" "sign" pf_Reader_sign (dV 1) aNil) (dI (dC (.str "")))) (sRaise1 "BadExpression" "position" (dD (dFld "Reader" "at" (dV 1)))) sNext)
 (sRet (dV 2)))))
abbrev N_quote : List Str := ["text", "inner", "sign"]
def t_quote : DS :=
 (sSeq (sAsg 1 (dI (dBM "str" mJoin (dI (dC (.str ""))) (aCons (dI (dLc (iSt (dD (dV 0))) (gN 2) dYes (dD (dIfE (dCmp cIn (dV 2) (dI (dTup (adCons (dC (.str "\"")) (adCons (dC (.str "\\")) adNil))))) (dI (dOp fAdd (dC (.str "\\")) (dD (dV 2)))) (dV 2))) ([("sign", 2)].map (·.2)))) aNil))))
 (sRet (dI (dOp fAdd (dOp fAdd (dC (.str "\"")) (dD (dV 1))) (dC (.str "\""))))))
abbrev N_write_expression : List Str := ["expression", "head", "part", "words", "form", "k"]
def t_write_expression (n : Nat) : DS :=
 (sSeq (sAsg 1 (dI (dIx (dV 0) (dC (.int 0)))))
 (sSeq (sIf (dCmp cEq (dV 1) (dI (dC (.str "integer")))) (sRet (dI (dCB fStrI (aCons (dI (dIx (dV 0) (dC (.int 1)))) aNil)))) sNext)
 (sSeq (sIf (dCmp cEq (dV 1) (dI (dC (.str "text")))) (sRet (dCall pf_quote (aCons (dI (dIx (dV 0) (dC (.int 1)))) aNil))) sNext)
 (sSeq (sIf (dCmp cEq (dV 1) (dI (dC (.str "boolean")))) (sRet (dIfE (dTru (dI (dIx (dV 0) (dC (.int 1))))) (dI (dC (.str "true"))) (dI (dC (.str "false"))))) sNext)
 (sSeq (sIf (dCmp cEq (dV 1) (dI (dC (.str "term")))) (sSeq (sAsg 3 (dAddM (dI (dLst (adCons (dC (.str "term")) (adCons (dD (dCall pf_quote (aCons (dI (dIx (dV 0) (dC (.int 1)))) aNil))) adNil)))) (dI (dLc (iSq (dIx (dV 0) (dC (.int 2)))) (gN 2) dYes (dD (dCall (pf_wr n) (aCons (dV 2) aNil))) ([("part", 2)].map (·.2))))))
 (sRet (dI (dOp fAdd (dOp fAdd (dC (.str "(")) (dBM "str" mJoin (dI (dC (.str " "))) (aCons (dV 3) aNil))) (dC (.str ")")))))) sNext)
 (sSeq (sAsg 4 (dI (dGlIx Dl.Ea.formsT (dD (dV 1)))))
 (sSeq (sAsg 3 (dLstM (adCons (dD (dV 1)) adNil)))
 (sSeq (sFor (iRg1 (dCB fLen (aCons (dV 4) aNil))) (gN 5)
 (sSeq (sAsg 2 (dI (dIx (dV 0) (dOp fAdd (dD (dV 5)) (dC (.int 1))))))
 (sIf (dCmp cEq (dI (dIx (dV 4) (dD (dV 5)))) (dI (dC (.str "E")))) (sApp (dV 3) (dD (dCall (pf_wr n) (aCons (dV 2) aNil)))) (sApp (dV 3) (dD (dIfE (dCmp cEq (dI (dIx (dV 4) (dD (dV 5)))) (dI (dC (.str "T")))) (dCall pf_quote (aCons (dV 2) aNil)) (dV 2)))))))
 (sRet (dI (dOp fAdd (dOp fAdd (dC (.str "(")) (dBM "str" mJoin (dI (dC (.str " "))) (aCons (dV 3) aNil))) (dC (.str ")")))))))))))))
abbrev N_Lforms : List Str := []
def t_Lforms : DS :=
 (sRet (dI (dDispC Dl.Ea.formsP)))
abbrev N_Lname : List Str := ["_law_pool_here", "_law_letters", "_law_k"]
def t_Lname : DS :=
 (sSeq (sAsg 1 (dI (dC (.str "abcdefghijklmnopqrstuvwxyz"))))
 (sRet (dI (dBM "str" mJoin (dI (dC (.str ""))) (aCons (dI (dLc (iRg1 (dOp fAdd (dC (.int 1)) (dD (dCall pf_take (aCons (dV 0) (aCons (dI (dC (.int 12))) aNil)))))) (gN 2) dYes (dIx (dV 1) (dD (dCall pf_take (aCons (dV 0) (aCons (dI (dC (.int 26))) aNil))))) ([("_law_k", 2)].map (·.2)))) aNil)))))
abbrev N_Ltext : List Str := ["_law_pool_here", "_law_signs", "_law_size", "_law_k"]
def t_Ltext : DS :=
 (sSeq (sAsg 1 (dI (dC (.str " !\"#$&'()*+,-./0123456789:;<=>?@ABCXYZ[\\]^_`abcxyz{|}~\x0a"))))
 (sSeq (sAsg 2 (dI (dIx (dI (dTup (adCons (dC (.int 0)) (adCons (dC (.int 1)) (adCons (dC (.int 3)) (adCons (dC (.int 60)) adNil)))))) (dD (dCall pf_take (aCons (dV 0) (aCons (dI (dC (.int 4))) aNil)))))))
 (sRet (dI (dBM "str" mJoin (dI (dC (.str ""))) (aCons (dI (dLc (iRg1 (dD (dV 2))) (gN 3) dYes (dIx (dV 1) (dD (dCall pf_take (aCons (dV 0) (aCons (dI (dCB fLen (aCons (dV 1) aNil))) aNil))))) ([("_law_k", 3)].map (·.2)))) aNil))))))
abbrev N_Linteger : List Str := ["_law_pool_here", "_law_kind"]
def t_Linteger : DS :=
 (sSeq (sAsg 1 (dCall pf_take (aCons (dV 0) (aCons (dI (dC (.int 4))) aNil))))
 (sSeq (sIf (dCmp cEq (dV 1) (dI (dC (.int 0)))) (sRet (dI (dIx (dI (dTup (adCons (dC (.int 1000000)) (adCons (dUn fNeg (dC (.int 1000000))) (adCons (dC (.int 999999)) (adCons (dC (.int 0)) adNil)))))) (dD (dCall pf_take (aCons (dV 0) (aCons (dI (dC (.int 4))) aNil))))))) sNext)
 (sSeq (sIf (dCmp cEq (dV 1) (dI (dC (.int 1)))) (sRet (dI (dOp fSub (dD (dCall pf_take (aCons (dV 0) (aCons (dI (dC (.int 2000001))) aNil)))) (dC (.int 1000000))))) sNext)
 (sRet (dI (dOp fSub (dD (dCall pf_take (aCons (dV 0) (aCons (dI (dC (.int 21))) aNil)))) (dC (.int 10))))))))
abbrev N_Lplain : List Str := ["_law_pool_here", "_law_kind"]
def t_Lplain : DS :=
 (sSeq (sAsg 1 (dCall pf_take (aCons (dV 0) (aCons (dI (dC (.int 3))) aNil))))
 (sSeq (sIf (dCmp cEq (dV 1) (dI (dC (.int 0)))) (sRet (dI (dTup (adCons (dC (.str "integer")) (adCons (dD (dCall pf_Linteger (aCons (dV 0) aNil))) adNil))))) sNext)
 (sSeq (sIf (dCmp cEq (dV 1) (dI (dC (.int 1)))) (sRet (dI (dTup (adCons (dC (.str "text")) (adCons (dD (dCall pf_Ltext (aCons (dV 0) aNil))) adNil))))) sNext)
 (sRet (dI (dTup (adCons (dC (.str "boolean")) (adCons (dB (dCmp cEq (dCall pf_take (aCons (dV 0) (aCons (dI (dC (.int 2))) aNil))) (dI (dC (.int 0))))) adNil))))))))
abbrev N_Lexpression : List Str := ["_law_pool_here", "_law_depth", "_law_kind", "_law_many", "_law_k", "_law_forms_here", "_law_head", "_law_found"]
def t_Lexpression (n : Nat) : DS :=
 (sSeq (sAsg 2 (dCall pf_take (aCons (dV 0) (aCons (dI (dC (.int 6))) aNil))))
 (sSeq (sIf (dOr (dCmp cLt (dV 1) (dI (dC (.int 1)))) (dCmp cEq (dV 2) (dI (dC (.int 0))))) (sRet (dCall pf_Lplain (aCons (dV 0) aNil))) sNext)
 (sSeq (sIf (dCmp cEq (dV 2) (dI (dC (.int 1)))) (sSeq (sAsg 3 (dCall pf_take (aCons (dV 0) (aCons (dI (dC (.int 3))) aNil))))
 (sRet (dI (dTup (adCons (dC (.str "term")) (adCons (dD (dCall pf_Ltext (aCons (dV 0) aNil))) (adCons (dCB fTuple (aCons (dI (dLc (iRg1 (dD (dV 3))) (gN 4) dYes (dD (dCall (pf_Lexp n) (aCons (dV 0) (aCons (dI (dOp fSub (dD (dV 1)) (dC (.int 1)))) aNil)))) ([("_law_k", 4)].map (·.2)))) aNil)) adNil))))))) sNext)
 (sSeq (sAsg 5 (dCall0 pf_Lforms))
 (sSeq (sAsg 6 (dI (dIx (dI (dCB fSrtT (aCons (dV 5) aNil))) (dD (dCall pf_take (aCons (dV 0) (aCons (dI (dCB fLen (aCons (dV 5) aNil))) aNil)))))))
 (sSeq (sAsg 7 (dLstM (adCons (dD (dV 6)) adNil)))
 (sSeq (sFor (iSt (dGet false (dV 5) (dD (dV 6)))) (gN 4)
 (sIf (dCmp cEq (dV 4) (dI (dC (.str "E")))) (sApp (dV 7) (dD (dCall (pf_Lexp n) (aCons (dV 0) (aCons (dI (dOp fSub (dD (dV 1)) (dC (.int 1)))) aNil))))) (sIf (dCmp cEq (dV 4) (dI (dC (.str "T")))) (sApp (dV 7) (dD (dCall pf_Ltext (aCons (dV 0) aNil)))) (sApp (dV 7) (dD (dCall pf_Lname (aCons (dV 0) aNil)))))))
 (sRet (dI (dCB fTuple (aCons (dV 7) aNil)))))))))))
abbrev N_Lbelow : List Str := ["_law_expression_here", "_law_part"]
def t_Lbelow : DS :=
 (sSeq (sIf (dCmp cEq (dI (dIx (dV 0) (dC (.int 0)))) (dI (dC (.str "term")))) (sRet (dI (dCB fList (aCons (dI (dIx (dV 0) (dC (.int 2)))) aNil)))) sNext)
 (sRet (dI (dLc (iSq (dSl (dV 0) (dPart (dC (.int 1))) dNoPart)) (gN 1) (dTru (dI (dCB fIsi (aCons (dV 1) (aCons (dI (dC (.ty "tuple"))) aNil))))) (dD (dV 1)) ([("_law_part", 1)].map (·.2))))))
abbrev N_Lparts : List Str := ["_law_expression_here", "_law_found", "_law_part"]
def t_Lparts (n : Nat) : DS :=
 (sSeq (sAsg 1 (dI (dLst adNil)))
 (sSeq (sFor (iSq (dD (dCall pf_Lbelow (aCons (dV 0) aNil)))) (gN 2)
 (sAsg 1 (dI (dOp fAdd (dD (dV 1)) (dD (dCall (pf_Lprts n) (aCons (dV 2) aNil)))))))
 (sRet (dI (dOp fAdd (dD (dV 1)) (dLst (adCons (dD (dV 0)) adNil)))))))
abbrev N_Lquoted : List Str := ["_law_text_here"]
def t_Lquoted : DS :=
 (sRet (dI (dOp fAdd (dOp fAdd (dC (.str "\"")) (dRepl (dRepl (dD (dV 0)) "\\" "\\\\") "\"" "\\\"")) (dC (.str "\"")))))
abbrev N_Ltokens : List Str := ["_law_expression_here", "_law_found", "_law_part", "_law_form", "_law_k"]
def t_Ltokens (n : Nat) : DS :=
 (sSeq (sIf (dCmp cEq (dI (dIx (dV 0) (dC (.int 0)))) (dI (dC (.str "integer")))) (sRet (dI (dLst (adCons (dCB fStrI (aCons (dI (dIx (dV 0) (dC (.int 1)))) aNil)) adNil)))) sNext)
 (sSeq (sIf (dCmp cEq (dI (dIx (dV 0) (dC (.int 0)))) (dI (dC (.str "text")))) (sRet (dI (dLst (adCons (dD (dCall pf_Lquoted (aCons (dI (dIx (dV 0) (dC (.int 1)))) aNil))) adNil)))) sNext)
 (sSeq (sIf (dCmp cEq (dI (dIx (dV 0) (dC (.int 0)))) (dI (dC (.str "boolean")))) (sRet (dI (dLst (adCons (dD (dIfE (dTru (dI (dIx (dV 0) (dC (.int 1))))) (dI (dC (.str "true"))) (dI (dC (.str "false"))))) adNil)))) sNext)
 (sSeq (sIf (dCmp cEq (dI (dIx (dV 0) (dC (.int 0)))) (dI (dC (.str "term")))) (sSeq (sAsg 1 (dLstM (adCons (dC (.str "(")) (adCons (dC (.str "term")) (adCons (dD (dCall pf_Lquoted (aCons (dI (dIx (dV 0) (dC (.int 1)))) aNil))) adNil)))))
 (sSeq (sForK (iSq (dIx (dV 0) (dC (.int 2)))) (gN 2)
 (sAsg 1 (dAddM (dV 1) (dCall (pf_Ltoks n) (aCons (dV 2) aNil)))))
 (sRet (dI (dOp fAdd (dD (dV 1)) (dLst (adCons (dC (.str ")")) adNil))))))) sNext)
 (sSeq (sAsg 1 (dLstM (adCons (dC (.str "(")) (adCons (dIx (dV 0) (dC (.int 0))) adNil))))
 (sSeq (sAsg 3 (dI (dGet false (dCall0 pf_Lforms) (dIx (dV 0) (dC (.int 0))))))
 (sSeq (sForK (iRg1 (dCB fLen (aCons (dV 3) aNil))) (gN 4)
 (sSeq (sAsg 2 (dI (dIx (dV 0) (dOp fAdd (dD (dV 4)) (dC (.int 1))))))
 (sIf (dCmp cEq (dI (dIx (dV 3) (dD (dV 4)))) (dI (dC (.str "E")))) (sAsg 1 (dAddM (dV 1) (dCall (pf_Ltoks n) (aCons (dV 2) aNil)))) (sApp (dV 1) (dD (dIfE (dCmp cEq (dI (dIx (dV 3) (dD (dV 4)))) (dI (dC (.str "T")))) (dCall pf_Lquoted (aCons (dV 2) aNil)) (dV 2)))))))
 (sRet (dI (dOp fAdd (dD (dV 1)) (dLst (adCons (dC (.str ")")) adNil))))))))))))
abbrev N_Lwritten : List Str := ["_law_tokens_here", "_law_text_here", "_law_k"]
def t_Lwritten : DS :=
 (sSeq (sAsg 1 (dI (dC (.str ""))))
 (sSeq (sFor (iRg1 (dCB fLen (aCons (dV 0) aNil))) (gN 2)
 (sSeq (sIf (dAnd (dCmp cGt (dV 2) (dI (dC (.int 0)))) (dAnd (dCmp cNe (dI (dIx (dV 0) (dD (dV 2)))) (dI (dC (.str ")")))) (dCmp cNe (dI (dIx (dV 0) (dOp fSub (dD (dV 2)) (dC (.int 1))))) (dI (dC (.str "(")))))) (sAsg 1 (dI (dOp fAdd (dD (dV 1)) (dC (.str " "))))) sNext)
 (sAsg 1 (dI (dOp fAdd (dD (dV 1)) (dIx (dV 0) (dD (dV 2))))))))
 (sRet (dV 1))))
abbrev N_Lgap : List Str := ["_law_pool_here", "_law_left", "_law_right", "_law_gap_here", "_law_k"]
def t_Lgap : DS :=
 (sSeq (sAsg 3 (dI (dBM "str" mJoin (dI (dC (.str ""))) (aCons (dI (dLc (iRg1 (dD (dCall pf_take (aCons (dV 0) (aCons (dI (dC (.int 4))) aNil))))) (gN 4) dYes (dIx (dI (dTup (adCons (dC (.str " ")) (adCons (dC (.str "\x0a")) adNil)))) (dD (dCall pf_take (aCons (dV 0) (aCons (dI (dC (.int 2))) aNil))))) ([("_law_k", 4)].map (·.2)))) aNil))))
 (sSeq (sIf (dAnd (dCmp cEq (dV 3) (dI (dC (.str "")))) (dAnd (dCmp cNotIn (dV 1) (dI (dTup (adCons (dC (.str "(")) (adCons (dC (.str ")")) adNil))))) (dAnd (dCmp cNotIn (dV 2) (dI (dTup (adCons (dC (.str "(")) (adCons (dC (.str ")")) adNil))))) (dCmp cNotIn (dI (dC (.str "\""))) (dI (dTup (adCons (dIx (dV 1) (dC (.int 0))) (adCons (dIx (dV 2) (dC (.int 0))) adNil)))))))) (sRet (dI (dC (.str " ")))) sNext)
 (sRet (dV 3))))
abbrev N_Llayout : List Str := ["_law_pool_here", "_law_tokens_here", "_law_text_here", "_law_places", "_law_k"]
def t_Llayout : DS :=
 (sSeq (sAsg 2 (dCall pf_Lgap (aCons (dV 0) (aCons (dI (dC (.str "("))) (aCons (dI (dC (.str "("))) aNil)))))
 (sSeq (sAsg 3 (dLstM adNil))
 (sSeq (sFor (iRg1 (dCB fLen (aCons (dV 1) aNil))) (gN 4)
 (sSeq (sApp (dV 3) (dCB fLen (aCons (dV 2) aNil)))
 (sSeq (sAsg 2 (dI (dOp fAdd (dD (dV 2)) (dIx (dV 1) (dD (dV 4))))))
 (sIf (dCmp cLt (dI (dOp fAdd (dD (dV 4)) (dC (.int 1)))) (dI (dCB fLen (aCons (dV 1) aNil)))) (sAsg 2 (dI (dOp fAdd (dD (dV 2)) (dD (dCall pf_Lgap (aCons (dV 0) (aCons (dI (dIx (dV 1) (dD (dV 4)))) (aCons (dI (dIx (dV 1) (dOp fAdd (dD (dV 4)) (dC (.int 1))))) aNil)))))))) sNext))))
 (sRet (dI (dTup (adCons (dD (dV 2)) (adCons (dD (dV 3)) adNil))))))))
abbrev N_Lrefused : List Str := ["_law_text_here", "error"]
def t_Lrefused : DS :=
 (sSeq (sTryAs 1 [("BadExpression", true)] (fun a dd c => (sIf (dTru (dI (dIsX a dd c "BadExpression" true (dV 1)))) (sRet (dI (dXf a dd c "BadExpression" "position" (dV 1)))) sNext)) (sDrop (dCall pf_read_expression (aCons (dV 0) aNil))))
 (sRet (dI (dC .non))))
abbrev N_law : List Str := ["_law_script", "_law_pool_here", "_law_expression_here", "_law_tokens_here", "_law_layout_here", "_law_text_here", "_law_strange", "_law_at", "_law_cut"]
def t_law : DS :=
 (sSeq (sAsg 1 (dCall pf_pool (aCons (dV 0) aNil)))
 (sSeq (sAsg 2 (dCall (pf_Lexp 5) (aCons (dV 1) (aCons (dCall pf_take (aCons (dV 1) (aCons (dI (dC (.int 5))) aNil))) aNil))))
 (sSeq (sIf (dCmp cGt (dI (dCB fLen (aCons (dCall (pf_Lprts 5) (aCons (dV 2) aNil)) aNil))) (dI (dC (.int 60)))) (sAsg 2 (dCall pf_Lplain (aCons (dV 1) aNil))) sNext)
 (sSeq (sAsg 3 (dCall (pf_Ltoks 5) (aCons (dV 2) aNil)))
 (sSeq (sAsg 4 (dCall pf_Llayout (aCons (dV 1) (aCons (dV 3) aNil))))
 (sSeq (sAsg 5 (dI (dIx (dV 4) (dC (.int 0)))))
 (sSeq (sIf (dOr (dCmp cNe (dCall pf_read_expression (aCons (dV 5) aNil)) (dV 2)) (dCmp cNe (dCall (pf_wr 5) (aCons (dV 2) aNil)) (dCall pf_Lwritten (aCons (dV 3) aNil)))) (sRet (dI (dC (.bl false)))) sNext)
 (sSeq (sIf (dCmp cNe (dCall pf_read_expression (aCons (dCall (pf_wr 5) (aCons (dV 2) aNil)) aNil)) (dV 2)) (sRet (dI (dC (.bl false)))) sNext)
 (sSeq (sIf (dOr (dCmp cNe (dI (dCB fList (aCons (dCall pf_operands (aCons (dV 2) aNil)) aNil))) (dCall pf_Lbelow (aCons (dV 2) aNil))) (dCmp cNe (dI (dCB fList (aCons (dCall (pf_prts 5) (aCons (dV 2) aNil)) aNil))) (dCall (pf_Lprts 5) (aCons (dV 2) aNil)))) (sRet (dI (dC (.bl false)))) sNext)
 (sSeq (sAsg 6 (dI (dIx (dI (dTup (adCons (dC (.str "$")) (adCons (dC (.str "zzz")) (adCons (dC (.str ")")) (adCons (dC (.str "2")) adNil)))))) (dD (dCall pf_take (aCons (dV 1) (aCons (dI (dC (.int 4))) aNil)))))))
 (sSeq (sIf (dCmp cNe (dCall pf_Lrefused (aCons (dI (dOp fAdd (dOp fAdd (dD (dV 5)) (dC (.str " "))) (dD (dV 6)))) aNil)) (dI (dOp fAdd (dCB fLen (aCons (dV 5) aNil)) (dC (.int 1))))) (sRet (dI (dC (.bl false)))) sNext)
 (sSeq (sIf (dOr (dCmp cNe (dCall pf_Lrefused (aCons (dI (dC (.str ""))) aNil)) (dI (dC (.int 0)))) (dCmp cNe (dCall pf_Lrefused (aCons (dI (dC (.str " "))) aNil)) (dI (dC (.int 1))))) (sRet (dI (dC (.bl false)))) sNext)
 (sSeq (sAsg 7 (dCall pf_take (aCons (dV 1) (aCons (dI (dCB fLen (aCons (dV 3) aNil))) aNil))))
 (sSeq (sAsg 8 (dI (dSl (dV 5) dNoPart (dPart (dIx (dI (dIx (dV 4) (dC (.int 1)))) (dD (dV 7)))))))
 (sRet (dI (dB (dCmp cEq (dCall pf_Lrefused (aCons (dV 8) aNil)) (dI (dCB fLen (aCons (dV 8) aNil)))))))))))))))))))))
end Dl.Ea
end

section
set_option maxHeartbeats 4000000
namespace Dl.Ea
open PySem PySem.Spec PyProof.Rows L2 Co PySem.StrLaws Dl.Ut
theorem strs_of {p : Nat → Prop} : ∀ {ys : List D}, (∀ (i : Nat) y, ys[i]? = some y → ∃ c : Nat, y = .str (S [c]) ∧ p c) → ∃ cs : List Nat, ys = lsD (cs.map fun c => [c]) ∧ (∀ c ∈ cs, p c) ∧ cs.length = ys.length
  | [], _ => ⟨[], rfl, fun _ h => (by cases h), rfl⟩
  | y :: ys, h => by
    obtain ⟨c, rfl, hc⟩ := h 0 y rfl
    obtain ⟨cs, rfl, h1, h2⟩ := strs_of (ys := ys) fun i z hz => h (i + 1) z hz
    refine ⟨c :: cs, rfl, fun z hz => ?_, by simp [lsD]⟩
    rcases List.mem_cons.mp hz with rfl | hz
    · exact hc
    · exact h1 z hz
theorem flatOne : ∀ l : List Nat, (l.map fun c => [c]).flatten = l
  | [] => rfl
  | c :: l => by
    rw [List.map_cons, List.flatten_cons, flatOne l]
    rfl
theorem join1 {cs : List Nat} {k : D → Prop} (h : cs.length ≤ 1000) (hk : k (.str (S cs))) : mJoin (.str "") [.lst (lsD (cs.map fun c => [c]))] k := by
  refine joinE (by rw [List.length_map]; omega) (by rw [flatOne]; omega) ?_
  rw [flatOne]
  exact hk
def alf : List Nat := (List.range 26).map (· + 97)
theorem alf_eq : ("abcdefghijklmnopqrstuvwxyz" : Str) = S alf := by decide +kernel
theorem alf_in : ∀ c ∈ alf, 97 ≤ c ∧ c ≤ 122 := by decide +kernel
theorem r_Lname : ∀ ws st k ex, pf_Lname ws st k ex → t_Lname (EnD false st.length k ex) (startD N_Lname ws) st := by
  intro ws st k ex h
  unfold pf_Lname at h
  split at h
  · unfold t_Lname
    refine sSeq_of (sAsg_of (dI_of (dC_of ?_)))
    dsimp only
    refine sRet_of (dI_of ?_)
    refine ⟨rfl, aCons_of (dI_of ?_)⟩
    unfold dLc iRg1
    refine dOp_of (dC_of ?_)
    refine takeU (r := []) (by decide) (by decide) fun n hn => ?_
    refine ⟨by omega, by omega, ?_⟩
    refine lc_all (fun _ d => ∃ c, d = .str (S [c]) ∧ 97 ≤ c ∧ c ≤ 122) (by rw [rgD_len]; omega) rfl (fun i d hd Q hQ => ?_) fun ys hl hy => ?_
    · refine dIx_of (dV_at (w := .im (.str "abcdefghijklmnopqrstuvwxyz")) rfl ?_)
      refine takeU (r := []) (by decide) (by decide) fun a ha => ?_
      have hz : a < alf.length := by show a < 26; omega
      exact strAt (l := alf) alf_eq (by decide) (List.getElem?_eq_getElem hz) (hQ _ ⟨_, rfl, alf_in _ (List.getElem_mem hz)⟩)
    · rw [rgD_len] at hl
      obtain ⟨cs, rfl, hc, hn2⟩ := strs_of hy
      refine aNil_of (join1 (by omega) ?_)
      exact h cs ⟨by omega, by omega, hc⟩
  · exact h.elim
def sgn : List Nat := cl " !\"#$&'()*+,-./0123456789:;<=>?@ABCXYZ[\\]^_`abcxyz{|}~\x0a"
theorem sgn_eq : (" !\"#$&'()*+,-./0123456789:;<=>?@ABCXYZ[\\]^_`abcxyz{|}~\x0a" : Str) = S sgn := by decide +kernel
theorem sgn_len : sgn.length = 55 := by decide +kernel
theorem r_Ltext : ∀ ws st k ex, pf_Ltext ws st k ex → t_Ltext (EnD false st.length k ex) (startD N_Ltext ws) st := by
  intro ws st k ex h
  unfold pf_Ltext at h
  split at h
  · unfold t_Ltext
    refine sSeq_of (sAsg_of (dI_of (dC_of ?_)))
    dsimp only
    refine sSeq_of (sAsg_of (dI_of (dIx_of (dI_of (dTup_of (adCons_of (dC_of (adCons_of (dC_of (adCons_of (dC_of (adCons_of (dC_of (adNil_of ⟨by decide, ?_⟩)))))))))))))) 
    refine takeU (r := []) (by decide) (by decide) fun a ha => ?_
    have hsz : ∃ m : Nat, [0, 1, 3, 60][a]? = some m ∧ m ≤ 60 := by
      match a, ha with
      | 0, _ => exact ⟨0, rfl, by decide⟩
      | 1, _ => exact ⟨1, rfl, by decide⟩
      | 2, _ => exact ⟨3, rfl, by decide⟩
      | 3, _ => exact ⟨60, rfl, by decide⟩
      | a + 4, ha => omega
    obtain ⟨m, hm, hm6⟩ := hsz
    refine tupAt (d := .int (m : Int)) (by
      match a, ha, hm with
      | 0, _, hm => cases hm; rfl
      | 1, _, hm => cases hm; rfl
      | 2, _, hm => cases hm; rfl
      | 3, _, hm => cases hm; rfl) ?_
    dsimp only
    refine sRet_of (dI_of ?_)
    refine ⟨rfl, aCons_of (dI_of ?_)⟩
    unfold dLc iRg1
    refine dD_at rfl ?_
    refine ⟨by omega, by omega, ?_⟩
    rw [Int.toNat_natCast]
    refine lc_all (fun _ d => ∃ c, d = .str (S [c]) ∧ True) (by rw [rgD_len]; omega) rfl (fun i d hd Q hQ => ?_) fun ys hl hy => ?_
    · refine dIx_of (dV_at (w := .im (.str " !\"#$&'()*+,-./0123456789:;<=>?@ABCXYZ[\\]^_`abcxyz{|}~\x0a")) rfl ?_)
      have hle : ((" !\"#$&'()*+,-./0123456789:;<=>?@ABCXYZ[\\]^_`abcxyz{|}~\x0a" : Str).length : Int) = 55 := by decide +kernel
      show (_ ≤ sizeLine) ∧ _
      refine ⟨by rw [sizeLine_eq]; decide +kernel, ?_⟩
      refine takeU (r := []) (by rw [hle]; decide) (by rw [hle]; decide) fun a ha => ?_
      rw [hle] at ha
      have hz : a < sgn.length := by rw [sgn_len]; omega
      exact strAt (l := sgn) sgn_eq (by rw [sgn_len]; decide) (List.getElem?_eq_getElem hz) (hQ _ ⟨_, rfl, trivial⟩)
    · rw [rgD_len] at hl
      obtain ⟨cs, rfl, hc, hn2⟩ := strs_of hy
      refine aNil_of (join1 (by omega) ?_)
      exact h cs (by omega)
  · exact h.elim
theorem r_Linteger : ∀ ws st k ex, pf_Linteger ws st k ex → t_Linteger (EnD false st.length k ex) (startD N_Linteger ws) st := by
  intro ws st k ex h
  unfold pf_Linteger at h
  split at h
  · unfold t_Linteger
    refine sSeq_of (sAsg_of ?_)
    refine takeU (r := []) (by decide) (by decide) fun a ha => ?_
    dsimp only
    refine sSeq_of (sIf_of ?_)
    show two (decide ((a : Int) = 0)) _ _
    refine oneD (fun _ => ?_) fun _ => ?_
    · refine sRet_of (dI_of (dIx_of (dI_of (dTup_of (adCons_of (dC_of (adCons_of (dUn_of (dC_of ?_)))))))))
      show 4 ≤ 1000000 ∧ _
      refine ⟨by decide, ?_⟩
      refine takeU (r := []) (by decide) (by decide) fun b hb => ?_
      match b, hb with
      | 0, _ => exact tupAt (d := .int 1000000) rfl (h _ (by decide))
      | 1, _ => exact tupAt (d := .int (-1000000)) rfl (h _ (by decide))
      | 2, _ => exact tupAt (d := .int 999999) rfl (h _ (by decide))
      | 3, _ => exact tupAt (d := .int 0) rfl (h _ (by decide))
      | b + 4, hb => omega
    · refine sNext_seq (sSeq_of (sIf_of ?_))
      show two (decide ((a : Int) = 1)) _ _
      refine oneD (fun _ => ?_) fun _ => ?_
      · refine sRet_of (dI_of (dOp_of ?_))
        refine takeU (r := []) (by decide) (by decide) fun b hb => ?_
        exact h _ (by omega)
      · refine sNext_seq (sRet_of (dI_of (dOp_of ?_)))
        refine takeU (r := []) (by decide) (by decide) fun b hb => ?_
        exact h _ (by omega)
  · exact h.elim
theorem call_Linteger {k : W → Sto → Prop} {ex : DX} (h : ∀ n : Int, n.natAbs ≤ 1000000 → k (.im (.int n)) [.pool]) : callD pf_Linteger [0] [.loc 0] [.pool] k ex := ⟨rfl, h⟩
theorem call_Ltext {k : W → Sto → Prop} {ex : DX} (h : ∀ t : List Nat, t.length ≤ 60 → k (.im (.str (S t))) [.pool]) : callD pf_Ltext [0] [.loc 0] [.pool] k ex := ⟨rfl, h⟩
theorem call_Lplain {k : W → Sto → Prop} {ex : DX} (h : ∀ e, Ok 0 e → k (.im (eX e)) [.pool]) : callD pf_Lplain [0] [.loc 0] [.pool] k ex := ⟨rfl, h⟩
theorem r_Lplain : ∀ ws st k ex, pf_Lplain ws st k ex → t_Lplain (EnD false st.length k ex) (startD N_Lplain ws) st := by
  intro ws st k ex h
  unfold pf_Lplain at h
  split at h
  · unfold t_Lplain
    refine sSeq_of (sAsg_of ?_)
    refine takeU (r := []) (by decide) (by decide) fun a ha => ?_
    dsimp only
    refine sSeq_of (sIf_of ?_)
    show two (decide ((a : Int) = 0)) _ _
    refine oneD (fun _ => ?_) fun _ => ?_
    · refine sRet_of (dI_of (dTup_of (adCons_of (dC_of (adCons_of ?_)))))
      refine call_Linteger fun n hn => ?_
      exact ⟨by show 2 ≤ 1000000; decide, h (.num n) hn⟩
    · refine sNext_seq (sSeq_of (sIf_of ?_))
      show two (decide ((a : Int) = 1)) _ _
      refine oneD (fun _ => ?_) fun _ => ?_
      · refine sRet_of (dI_of (dTup_of (adCons_of (dC_of (adCons_of ?_)))))
        refine call_Ltext fun n hn => ?_
        exact ⟨by show 2 ≤ 1000000; decide, h (.txt n) hn⟩
      · refine sNext_seq (sRet_of (dI_of (dTup_of (adCons_of (dC_of (adCons_of (dB_of ?_)))))))
        refine takeU (r := []) (by decide) (by decide) fun b hb => ?_
        exact ⟨by show 2 ≤ 1000000; decide, h (.bl _) trivial⟩
  · exact h.elim
end Dl.Ea
end

section
set_option maxHeartbeats 4000000
namespace Dl.Ea
open PySem PySem.Spec PyProof.Rows L2 Co PySem.StrLaws Dl.Ut
def fChk (p : Str × Str) : Bool := (cl p.1).all (fun c => decide (97 ≤ c ∧ c ≤ 122)) && (decide (1 ≤ (cl p.1).length ∧ (cl p.1).length ≤ 9) && (decide (cl p.1 ≠ wTerm) && (decide (p.1 ≠ "integer" ∧ p.1 ≠ "text" ∧ p.1 ≠ "boolean" ∧ p.1 ≠ "term") && ((cl p.2).all (fun c => decide (c = 69 ∨ c = 84 ∨ c = 65 ∨ c = 70)) && (decide ((cl p.2).length ≤ 3) && ((match formsT.lookup p.1 with | some (.str z) => z == p.2 | _ => false) && ((match getK (formsP.map fun p => (Sum.inr p.1 : Key)) (formsP.map fun p => D.str p.2) (Sum.inr p.1) with | some (.str z) => z == p.2 | _ => false) && decide (formOf (cl p.1) = some (cl p.2)))))))))
theorem fchk_all : formsP.all fChk = true := by decide +kernel
structure FormOk (h f : List Nat) : Prop where
  let_ : ∀ c ∈ h, 97 ≤ c ∧ c ≤ 122
  l1 : 1 ≤ h.length
  l8 : h.length ≤ 9
  term : h ≠ wTerm
  ni : S h ≠ "integer"
  nt : S h ≠ "text"
  nb : S h ≠ "boolean"
  nm : S h ≠ "term"
  kinds : ∀ c ∈ f, c = 69 ∨ c = 84 ∨ c = 65 ∨ c = 70
  l3 : f.length ≤ 3
  tab : formsT.lookup (S h) = some (.str (S f))
  get : getK (formsP.map fun p => (Sum.inr p.1 : Key)) (formsP.map fun p => D.str p.2) (Sum.inr (S h)) = some (.str (S f))
  form : formOf h = some f
theorem form_in {p : Str × Str} (hp : p ∈ formsP) : FormOk (cl p.1) (cl p.2) ∧ S (cl p.1) = p.1 := by
  have h := List.all_eq_true.mp fchk_all p hp
  unfold fChk at h
  simp only [Bool.and_eq_true, decide_eq_true_eq, List.all_eq_true] at h
  obtain ⟨h1, h2, h3, h4, h5, h6, h8, h9, h10⟩ := h
  have e1 : S (cl p.1) = p.1 := rfl
  have e2 : S (cl p.2) = p.2 := rfl
  refine ⟨⟨h1, h2.1, h2.2, h3, by rw [e1]; exact h4.1, by rw [e1]; exact h4.2.1, by rw [e1]; exact h4.2.2.1, by rw [e1]; exact h4.2.2.2, h5, h6, ?_, ?_, h10⟩, e1⟩
  · rw [e1, e2]
    split at h8
    · rename_i z hz
      rw [hz, show z = p.2 from by simpa using h8]
    · cases h8
  · rw [e1, e2]
    split at h9
    · rename_i z hz
      rw [hz, show z = p.2 from by simpa using h9]
    · cases h9
theorem lookup_mem {α β : Type} [BEq α] [LawfulBEq α] : ∀ {l : List (α × β)} {a : α} {b : β}, l.lookup a = some b → (a, b) ∈ l
  | [], _, _, h => by cases h
  | (x, y) :: l, a, b, h => by
    rw [List.lookup_cons] at h
    split at h
    · rename_i e
      cases h
      rw [show a = x from by simpa using e]
      exact List.mem_cons_self
    · exact List.mem_cons_of_mem _ (lookup_mem h)
theorem form_ok {h f : List Nat} (e : formOf h = some f) : FormOk h f := by
  have := lookup_mem e
  obtain ⟨p, hp, e⟩ := List.mem_map.mp this
  cases e
  exact (form_in hp).1
theorem Ok_mono : ∀ {n m : Nat} {e : Ex}, Ok n e → n ≤ m → Ok m e := by
  intro n
  induction n with
  | zero =>
    intro m e h _
    cases e <;> first | exact False.elim h | (cases m <;> exact h)
  | succ n ih =>
    intro m e h hm
    cases m with
    | zero => omega
    | succ m =>
      cases e with
      | term l es => exact ⟨h.1, h.2.1, fun e he => ih (h.2.2 e he) (by omega)⟩
      | frm hd as =>
        obtain ⟨f, hf, ha⟩ := h
        refine ⟨f, hf, ?_⟩
        have key : ∀ (f : List Nat) (as : List Ex), Fit (Ok n) f as → Fit (Ok m) f as := by
          intro f
          induction f with
          | nil => intro as h; cases as <;> exact h
          | cons c f ihf =>
            intro as h
            cases as with
            | nil => exact h
            | cons a as =>
              obtain ⟨h1, h2⟩ := h
              refine ⟨?_, ihf as h2⟩
              by_cases hc : c = 69
              · rw [if_pos hc] at h1 ⊢
                exact ih h1 (by omega)
              · rw [if_neg hc] at h1 ⊢
                exact h1
        exact key f as ha
      | _ => exact h
def Kd (P : Ex → Prop) (c : Nat) (a : Ex) : Prop := if c = 69 then P a else if c = 84 then ∃ t, a = .qt t ∧ t.length ≤ 60 else ∃ t, a = .nm t ∧ NmOk t
theorem Fit_snoc {P : Ex → Prop} {c : Nat} {a : Ex} (h : Kd P c a) : ∀ {f : List Nat} {as : List Ex}, Fit P f as → Fit P (f ++ [c]) (as ++ [a])
  | [], [], _ => ⟨h, trivial⟩
  | [], _ :: _, z => z.elim
  | _ :: _, [], z => z.elim
  | _ :: f, _ :: as, z => ⟨z.1, Fit_snoc h z.2⟩
theorem Fit_len {P : Ex → Prop} : ∀ {f : List Nat} {as : List Ex}, Fit P f as → as.length = f.length
  | [], [], _ => rfl
  | [], _ :: _, z => z.elim
  | _ :: _, [], z => z.elim
  | _ :: f, _ :: as, z => by rw [List.length_cons, List.length_cons, Fit_len z.2]
theorem Fit_get {P : Ex → Prop} : ∀ {f : List Nat} {as : List Ex} {i c : Nat}, Fit P f as → f[i]? = some c → ∃ a, as[i]? = some a ∧ Kd P c a
  | [], _, i, c, _, h => by cases h
  | _ :: _, [], _, _, z, _ => z.elim
  | k :: f, a :: as, 0, c, z, h => by cases h; exact ⟨a, rfl, z.1⟩
  | k :: f, a :: as, i + 1, c, z, h => Fit_get (f := f) (as := as) z.2 h
theorem repl1 {c0 : Nat} {z : List Nat} : ∀ l : List Nat, replL [c0] z l = l.flatMap fun c => if c = c0 then z else [c]
  | [] => replL_nil
  | c :: r => by
    rw [List.flatMap_cons]
    by_cases h : c = c0
    · rw [replL_hit (by simp) (by rw [h]; rfl), if_pos h]
      rw [show (c :: r).drop ([c0] : List Nat).length = r from rfl, repl1 r]
    · rw [replL_miss (by intro e; exact h (List.cons.inj e).1), if_neg h, repl1 r]
      rfl
theorem repl1S {t : List Nat} {c0 : Nat} {y z : Str} (hy : y = S [c0]) : Txt.replace (S t) y z = S (t.flatMap fun c => if c = c0 then cl z else [c]) := by
  have h := replace_list (x := S t) (y := y) (z := z) (by rw [hy]; exact Nat.le_refl 1)
  rw [hy] at h ⊢
  rw [show ((S [c0] : Str).cps.toList) = [c0] from rfl, repl1] at h
  have e : (S t).cps.toList = t := rfl
  rw [e] at h
  rw [← h]
theorem two_q : ∀ t : List Nat, (t.flatMap fun c => if c = 92 then [92, 92] else [c]).flatMap (fun c => if c = 34 then [92, 34] else [c]) = t.flatMap qch
  | [] => rfl
  | c :: r => by
    rw [List.flatMap_cons, List.flatMap_append, two_q r, List.flatMap_cons]
    congr 1
    unfold qch
    by_cases h1 : c = 92
    · subst h1; rfl
    · rw [if_neg h1]
      by_cases h2 : c = 34
      · subst h2; rfl
      · rw [if_neg (by omega)]
        show (if c = 34 then _ else _) ++ [] = _
        rw [if_neg h2]
        rfl
theorem flat2 {l : List Nat} {f : Nat → List Nat} (h : ∀ c, (f c).length ≤ 2) : (l.flatMap f).length ≤ 2 * l.length := by
  induction l with
  | nil => exact Nat.zero_le _
  | cons c r ih =>
    rw [List.flatMap_cons, List.length_append, List.length_cons]
    have := h c
    omega
theorem quo_len {t : List Nat} (h : t.length ≤ 60) : (quo t).length ≤ 122 := by
  have := flat2 (l := t) (f := qch) (fun c => by unfold qch; split <;> simp)
  show (_ :: (_ ++ [34])).length ≤ 122
  rw [List.length_cons, List.length_append]
  show _ + 1 + 1 ≤ 122
  omega
end Dl.Ea
end

section
set_option maxHeartbeats 4000000
namespace Dl.Ea
open PySem PySem.Spec PyProof.Rows L2 Co PySem.StrLaws Dl.Ut
theorem two_t {b : Bool} {p q : Prop} (h : b = true) (k : p) : two b p q := by subst h; exact twoT k
theorem two_f {b : Bool} {p q : Prop} (h : b = false) (k : q) : two b p q := by subst h; exact twoF k
theorem chE {c c0 : Nat} {z : Str} (hz : z = S [c0]) : ((⟨#[c]⟩ : Str) = z) ↔ c = c0 := by
  subst hz
  constructor
  · intro h
    have := congrArg (fun z : Str => z.cps.toList) h
    simpa [S] using this
  · rintro rfl; rfl
theorem sE : ("E" : Str) = S [69] := rfl
theorem sT : ("T" : Str) = S [84] := rfl
theorem r_Lforms : ∀ ws st k ex, pf_Lforms ws st k ex → t_Lforms (EnD false st.length k ex) (startD N_Lforms ws) st := by
  intro ws st k ex h
  unfold pf_Lforms at h
  split at h
  · exact h
  · exact h.elim
theorem call_Lforms {st : Sto} {k : W → Sto → Prop} {ex : DX} (h : k (.im (.dct (formsP.map fun p => Sum.inr p.1) (formsP.map fun p => D.str p.2))) st) : callD pf_Lforms [] [] st k ex := ⟨rfl, h⟩
theorem sfm (t : List Nat) : chD (S t) = t.map fun c => D.str ⟨#[c]⟩ := rfl
theorem Ok_isE : ∀ {n : Nat} {e : Ex}, Ok n e → isE e = true
  | n, .num _, _ => rfl
  | n, .txt _, _ => rfl
  | n, .bl _, _ => rfl
  | n, .term _ _, _ => rfl
  | n, .frm _ _, _ => rfl
  | 0, .nm _, h => h.elim
  | n + 1, .nm _, h => h.elim
  | 0, .qt _, h => h.elim
  | n + 1, .qt _, h => h.elim
theorem Kd_isE {n c : Nat} {a : Ex} (h : Kd (Ok n) c a) : isE a = decide (c = 69) := by
  unfold Kd at h
  split at h
  · rename_i hc
    rw [Ok_isE h, hc]
    rfl
  · rename_i hc
    rw [decide_eq_false hc]
    split at h
    · obtain ⟨t, rfl, _⟩ := h; rfl
    · obtain ⟨t, rfl, _⟩ := h; rfl
theorem call_Lname {r : Sto} {k : W → Sto → Prop} {ex : DX} (h : ∀ t, NmOk t → k (.im (.str (S t))) (.pool :: r)) : callD pf_Lname [0] [.loc 0] (.pool :: r) k ex := ⟨rfl, fun t ht => by
  show k _ (back [0] (.pool :: r) [.pool])
  rw [backP]
  exact h t ht⟩
theorem call_LtextR {r : Sto} {k : W → Sto → Prop} {ex : DX} (h : ∀ t : List Nat, t.length ≤ 60 → k (.im (.str (S t))) (.pool :: r)) : callD pf_Ltext [0] [.loc 0] (.pool :: r) k ex := ⟨rfl, fun t ht => by
  show k _ (back [0] (.pool :: r) [.pool])
  rw [backP]
  exact h t ht⟩
theorem call_Lexp {n : Nat} {j : Int} {r : Sto} {k : W → Sto → Prop} {ex : DX} (h0 : 0 ≤ j) (h1 : j < n) (h2 : n ≤ 5) (h : ∀ e, Ok j.toNat e → k (.im (eX e)) (.pool :: r)) : callD (pf_Lexp n) [0] [.loc 0, .im (.int j)] (.pool :: r) k ex := ⟨rfl, h0, h1, h2, fun t ht => by
  show k _ (back [0] (.pool :: r) [.pool])
  rw [backP]
  exact h t ht⟩
theorem exs_of {P : Ex → Prop} : ∀ {ys : List D}, (∀ (i : Nat) y, ys[i]? = some y → ∃ e, y = eX e ∧ P e) → ∃ es : List Ex, ys = es.map eX ∧ (∀ e ∈ es, P e) ∧ es.length = ys.length
  | [], _ => ⟨[], rfl, fun _ h => (by cases h), rfl⟩
  | y :: ys, h => by
    obtain ⟨c, rfl, hc⟩ := h 0 y rfl
    obtain ⟨cs, rfl, h1, h2⟩ := exs_of (ys := ys) fun i z hz => h (i + 1) z hz
    refine ⟨c :: cs, rfl, fun z hz => ?_, by simp⟩
    rcases List.mem_cons.mp hz with rfl | hz
    · exact hc
    · exact h1 z hz
def lxS (j : Int) (a : Nat) (x3 x4 : Option D) (z : Str) : Sl := [some (.loc 0), some (.im (.int j)), some (.im (.int (a : Nat))), x3.map .im, x4.map .im, some (.im (.dct (formsP.map fun p => Sum.inr p.1) (formsP.map fun p => D.str p.2))), some (.im (.str z)), some (.loc 1)]
theorem r_Lexpression {n : Nat} : ∀ ws st k ex, pf_Lexp (n + 1) ws st k ex → t_Lexpression n (EnD false st.length k ex) (startD N_Lexpression ws) st := by
  intro ws st k ex h
  unfold pf_Lexp at h
  split at h
  · rename_i j
    obtain ⟨j0, j1, jn, h⟩ := h
    unfold t_Lexpression
    refine sSeq_of (sAsg_of ?_)
    refine takeU (r := []) (by decide) (by decide) fun a ha => ?_
    dsimp only
    refine sSeq_of (sIf_of (dOr_of ?_))
    show two (decide (j < 1)) _ _
    have pl : sRet (dCall pf_Lplain (aCons (dV 0) aNil)) (EnD false 1 k ex) [some (.loc 0), some (.im (.int j)), some (.im (.int (a : Nat))), none, none, none, none, none] [.pool] := by
      refine sRet_of (dCall_of (aCons_of (dV_at (w := .loc 0) rfl (aNil_of ?_))))
      exact call_Lplain fun e he => h e (Ok_mono he (Nat.zero_le _))
    refine oneD (fun _ => twoT pl) fun hj => ?_
    show two (decide ((a : Int) = 0)) _ _
    refine oneD (fun _ => pl) fun _ => ?_
    obtain ⟨m, hm⟩ : ∃ m, j.toNat = m + 1 := ⟨j.toNat - 1, by omega⟩
    have hm1 : (j - 1).toNat = m := by omega
    refine sNext_seq (sSeq_of (sIf_of ?_))
    show two (decide ((a : Int) = 1)) _ _
    refine oneD (fun _ => ?_) fun _ => ?_
    · refine sSeq_of (sAsg_of ?_)
      refine takeU (r := []) (by decide) (by decide) fun b hb => ?_
      dsimp only
      refine sRet_of (dI_of (dTup_of (adCons_of (dC_of (adCons_of ?_)))))
      refine call_Ltext fun l hl => ?_
      refine adCons_of ?_
      refine dCB_of (aCons_of (dI_of ?_))
      unfold dLc iRg1
      refine dD_at rfl ?_
      refine ⟨by omega, by omega, ?_⟩
      rw [Int.toNat_natCast]
      refine lc_all (fun _ d => ∃ e, d = eX e ∧ Ok m e) (by rw [rgD_len]; omega) rfl (fun i d hd Q hQ => ?_) fun ys hl2 hy => ?_
      · refine call_Lexp (r := []) (by omega) (by omega) (by omega) fun e he => ?_
        rw [hm1] at he
        exact hQ _ ⟨e, rfl, he⟩
      · rw [rgD_len] at hl2
        obtain ⟨es, rfl, he, hn⟩ := exs_of hy
        refine aNil_of ?_
        refine ⟨by show 3 ≤ 1000000; decide, ?_⟩
        have := h (.term l es) (by rw [hm]; exact ⟨hl, by omega, he⟩)
        rw [show eX (.term l es) = .tup [.str "term", .str (S l), .tup (eXs es)] from rfl, eXs_eq] at this
        exact this
    · refine sNext_seq (sSeq_of (sAsg_of ?_))
      refine call_Lforms ?_
      dsimp only
      refine sSeq_of (sAsg_of (dI_of (dIx_of (dI_of ?_))))
      refine ⟨formsP.map (·.1), by rw [List.map_map]; rfl, by decide, fun ys hp hs => ?_⟩
      refine takeU (r := []) (by show (0 : Int) < 35; decide) (by show (35 : Int) < _; decide) fun b hb => ?_
      have hb2 : b < 35 := by
        have h2 : (b : Int) < 35 := hb
        omega
      have hyl : ys.length = 35 := by rw [hp.length_eq]; rfl
      obtain ⟨z, hz⟩ : ∃ z, ys[b]? = some z := ⟨ys[b]'(by omega), List.getElem?_eq_getElem _⟩
      obtain ⟨p, hpm, rfl⟩ : ∃ p ∈ formsP, p.1 = z := by
        have := hp.mem_iff.mp (List.mem_of_getElem? hz)
        obtain ⟨p, h1, h2⟩ := List.mem_map.mp this
        exact ⟨p, h1, h2⟩
      obtain ⟨hh, f, F, hS⟩ : ∃ hh f, FormOk hh f ∧ p.1 = S hh := ⟨cl p.1, cl p.2, (form_in hpm).1, (form_in hpm).2.symm⟩
      refine lstAt (d := .str (S hh)) (by rw [List.getElem?_map, hz]; exact congrArg (fun z => some (D.str z)) hS) ?_
      dsimp only
      refine sSeq_of (sAsg_of (dLstM_of (adCons_of (dD_at rfl (adNil_of ⟨by show 1 ≤ 1000000; decide, ?_⟩)))))
      dsimp only
      refine sSeq_of ?_
      unfold sFor iSt
      unfold dGet
      refine dV_at (w := .im (.dct (formsP.map fun p => Sum.inr p.1) (formsP.map fun p => D.str p.2))) rfl (dD_at (d := .str (S hh)) rfl ?_)
      show (match getK (formsP.map fun p => (Sum.inr p.1 : Key)) (formsP.map fun p => D.str p.2) (Sum.inr (S hh)) with | some d => _ | none => False)
      rw [F.get]
      show ∃ I, _
      refine ⟨fun i σ' st' => ∃ (as : List Ex) (x4 : Option D), σ' = lxS j a none x4 (S hh) ∧ st' = [.pool, .lst (.str (S hh) :: as.map eX)] ∧ Fit (Ok m) (f.take i) as, ⟨[], none, rfl, rfl, trivial⟩, ?_, ?_⟩
      · rintro i dd σ' st' hi ⟨as, x4, rfl, rfl, hF⟩ -
        rw [sfm, List.getElem?_map] at hi
        cases hc : f[i]? with
        | none => rw [hc] at hi; cases hi
        | some c =>
          rw [hc] at hi
          cases hi
          obtain ⟨t1, _, _⟩ := takeGet hc
          have fin : ∀ e, Kd (Ok m) c e → (D.str (S hh) :: as.map eX).length ≤ 1000000 ∧ ∃ (as' : List Ex) (x4 : Option D), lxS j a none (some (.str ⟨#[c]⟩)) (S hh) = lxS j a none x4 (S hh) ∧ ([.pool, .lst ((.str (S hh) :: as.map eX) ++ [eX e])] : Sto) = [.pool, .lst (.str (S hh) :: as'.map eX)] ∧ Fit (Ok m) (f.take (i + 1)) as' := fun e he => by
            have hl := Fit_len hF
            rw [List.length_take] at hl
            have h3 := F.l3
            refine ⟨by rw [List.length_cons, List.length_map]; omega, as ++ [e], _, rfl, by rw [List.map_append]; rfl, ?_⟩
            rw [t1]
            exact Fit_snoc he hF
          show sIf _ _ _ _ (lxS j a none (some (.str ⟨#[c]⟩)) (S hh)) _
          refine sIf_of ?_
          show two (decide ((⟨#[c]⟩ : Str) = "E")) _ _
          refine oneD (fun h1 => ?_) fun h1 => ?_
          · have hc69 := (chE sE).mp h1
            refine sApp_of (dV_at (w := .loc 1) rfl ⟨⟨_, rfl⟩, ?_⟩)
            refine call_Lexp (j := j - 1) (r := [.lst (.str (S hh) :: as.map eX)]) (by omega) (by omega) (by omega) fun e he => ?_
            rw [hm1] at he
            exact fin e (by unfold Kd; rw [if_pos hc69]; exact he)
          · have hc69 : c ≠ 69 := fun z => h1 ((chE sE).mpr z)
            refine sIf_of ?_
            show two (decide ((⟨#[c]⟩ : Str) = "T")) _ _
            refine oneD (fun h2 => ?_) fun h2 => ?_
            · have hc84 := (chE sT).mp h2
              refine sApp_of (dV_at (w := .loc 1) rfl ⟨⟨_, rfl⟩, ?_⟩)
              refine call_LtextR (r := [.lst (.str (S hh) :: as.map eX)]) fun t ht => ?_
              exact fin (.qt t) (by unfold Kd; rw [if_neg hc69, if_pos hc84]; exact ⟨t, rfl, ht⟩)
            · have hc84 : c ≠ 84 := fun z => h2 ((chE sT).mpr z)
              refine sApp_of (dV_at (w := .loc 1) rfl ⟨⟨_, rfl⟩, ?_⟩)
              refine call_Lname (r := [.lst (.str (S hh) :: as.map eX)]) fun t ht => ?_
              exact fin (.nm t) (by unfold Kd; rw [if_neg hc69, if_neg hc84]; exact ⟨t, rfl, ht⟩)
      · rintro σ' st' ⟨as, x4, rfl, rfl, hF⟩ -
        rw [sfm, List.length_map, List.take_length] at hF
        have := h (.frm hh as) (by rw [hm]; exact ⟨f, F.form, hF⟩)
        rw [show eX (.frm hh as) = .tup (.str (S hh) :: eXs as) from rfl, eXs_eq] at this
        exact this
  · exact h.elim
end Dl.Ea
end

section
set_option maxHeartbeats 4000000
namespace Dl.Ea
open PySem PySem.Spec PyProof.Rows L2 Co PySem.StrLaws Dl.Ut
theorem isi_ex (e : Ex) : isiD (eX e) "tuple" = some (isE e) := by cases e <;> rfl
theorem Fit_mem {P : Ex → Prop} : ∀ {f : List Nat} {as : List Ex} {a : Ex}, Fit P f as → a ∈ as → ∃ c ∈ f, Kd P c a
  | [], [], _, _, h => by cases h
  | [], _ :: _, _, z, _ => z.elim
  | _ :: _, [], _, z, _ => z.elim
  | c :: f, b :: as, a, z, h => by
    rcases List.mem_cons.mp h with rfl | h
    · exact ⟨c, List.mem_cons_self, z.1⟩
    · obtain ⟨c', h1, h2⟩ := Fit_mem z.2 h
      exact ⟨c', List.mem_cons_of_mem _ h1, h2⟩
theorem kids_ok {n : Nat} {e x : Ex} (h : Ok n e) (hx : x ∈ kids e) : ∃ m, n = m + 1 ∧ Ok m x := by
  cases e with
  | term l es =>
    cases n with
    | zero => exact h.elim
    | succ m => exact ⟨m, rfl, h.2.2 x hx⟩
  | frm hd as =>
    cases n with
    | zero => exact h.elim
    | succ m =>
      obtain ⟨f, hf, ha⟩ := h
      obtain ⟨h1, h2⟩ := List.mem_filter.mp (show x ∈ as.filter isE from hx)
      obtain ⟨c, _, hk⟩ := Fit_mem ha h1
      refine ⟨m, rfl, ?_⟩
      have := Kd_isE hk
      rw [h2] at this
      unfold Kd at hk
      rw [if_pos (of_decide_eq_true this.symm)] at hk
      exact hk
  | _ => cases hx
theorem kids_len {n : Nat} {e : Ex} (h : Ok n e) : (kids e).length ≤ 3 := by
  cases e with
  | term l es =>
    cases n with
    | zero => exact h.elim
    | succ m => exact Nat.le_trans h.2.1 (by decide)
  | frm hd as =>
    cases n with
    | zero => exact h.elim
    | succ m =>
      obtain ⟨f, hf, ha⟩ := h
      have h1 := List.length_filter_le isE as
      have h2 := Fit_len ha
      have h3 := (form_ok hf).l3
      show (as.filter isE).length ≤ 3
      omega
  | _ => exact Nat.zero_le _
theorem pts_nE {e : Ex} (h : isE e = false) : pts e = [] := by cases e <;> first | rfl | cases h
theorem pts_flt : ∀ as : List Ex, as.flatMap pts = (as.filter isE).flatMap pts
  | [] => rfl
  | a :: as => by
    rw [List.flatMap_cons, pts_flt as]
    cases h : isE a with
    | true => rw [List.filter_cons_of_pos h, List.flatMap_cons]
    | false => rw [List.filter_cons_of_neg (by rw [h]; decide), pts_nE h]; rfl
theorem pts_kids {e : Ex} (h : isE e = true) : pts e = (kids e).flatMap pts ++ [e] := by
  cases e with
  | term l es => show ptss es ++ _ = _; rw [ptss_eq]; rfl
  | frm hd as => show ptss as ++ _ = _; rw [ptss_eq, pts_flt]; rfl
  | nm t => cases h
  | qt t => cases h
  | _ => rfl
theorem flatB {α β : Type} {f : α → List β} {B : Nat} : ∀ {l : List α}, (∀ x ∈ l, (f x).length ≤ B) → (l.flatMap f).length ≤ B * l.length
  | [], _ => Nat.zero_le _
  | x :: l, h => by
    rw [List.flatMap_cons, List.length_append, List.length_cons, Nat.mul_succ]
    have h1 := h x List.mem_cons_self
    have h2 := flatB (f := f) (B := B) (l := l) fun y hy => h y (List.mem_cons_of_mem _ hy)
    omega
theorem pts_len : ∀ {n : Nat} {e : Ex}, Ok n e → (pts e).length ≤ 4 ^ n := by
  intro n
  induction n with
  | zero =>
    intro e h
    rw [pts_kids (Ok_isE h)]
    cases e <;> first | exact Nat.le_refl _ | exact h.elim
  | succ n ih =>
    intro e h
    rw [pts_kids (Ok_isE h), List.length_append, List.length_singleton]
    have h1 := flatB (f := pts) (B := 4 ^ n) (l := kids e) fun x hx => by
      obtain ⟨m, e1, h2⟩ := kids_ok h hx
      cases e1
      exact ih h2
    have h2 := kids_len h
    have h3 : 4 ^ n * (kids e).length ≤ 4 ^ n * 3 := Nat.mul_le_mul_left _ h2
    have h4 : 1 ≤ 4 ^ n := Nat.one_le_iff_ne_zero.mpr (Nat.ne_of_gt (Nat.pow_pos (by decide)))
    rw [Nat.pow_succ]
    omega
end Dl.Ea
end

section
set_option maxHeartbeats 4000000
namespace Dl.Ea
open PySem PySem.Spec PyProof.Rows L2 Co PySem.StrLaws Dl.Ut
theorem noform : formsT.lookup ("integer" : Str) = none ∧ formsT.lookup ("text" : Str) = none ∧ formsT.lookup ("boolean" : Str) = none := by decide +kernel
theorem r_operands : ∀ ws st k ex, pf_operands ws st k ex → t_operands (EnD false st.length k ex) (startD N_operands ws) st := by
  intro ws st k ex h
  unfold pf_operands at h
  split at h
  · obtain ⟨e, n, rfl, hO, hk⟩ := h
    unfold t_operands
    have leaf : ∀ (z : Str) (d : D), z ≠ "term" → formsT.lookup z = none → k (.im (.tup [])) [] →
      (sSeq (sIf (dCmp cEq (dV 1) (dI (dC (.str "term")))) (sRet (dI (dIx (dV 0) (dC (.int 2))))) sNext)
      (sSeq (sIf (dNot (dGlIn Dl.Ea.formsT (dD (dV 1)))) (sRet (dI (dTup adNil))) sNext)
      (sSeq (sAsg 2 (dI (dGlIx Dl.Ea.formsT (dD (dV 1)))))
      (sRet (dI (dCB fTuple (aCons (dI (dLc (iRg1 (dCB fLen (aCons (dV 2) aNil))) (gN 3) (dCmp cEq (dI (dIx (dV 2) (dD (dV 3)))) (dI (dC (.str "E")))) (dIx (dV 0) (dOp fAdd (dD (dV 3)) (dC (.int 1)))) ([("k", 3)].map (·.2)))) aNil)))))))
      (EnD false 0 k ex) [some (.im (.tup [.str z, d])), some (.im (.str z)), none, none] [] := fun z d h1 h2 h3 => by
      refine sSeq_of (sIf_of ?_)
      show two (decide (z = "term")) _ _
      refine oneD (fun e => absurd e h1) fun _ => ?_
      refine sNext_seq (sSeq_of (sIf_of (dNot_of ?_)))
      show two (!(formsT.lookup z).isSome) _ _
      refine two_t (by rw [h2]; rfl) ?_
      exact ⟨Nat.zero_le _, h3⟩
    cases e with
    | num m =>
      refine sSeq_of (sAsg_of (dI_of (dIx_of (dV_at rfl (dC_of ?_)))))
      exact leaf "integer" _ (by decide) noform.1 hk
    | txt m =>
      refine sSeq_of (sAsg_of (dI_of (dIx_of (dV_at rfl (dC_of ?_)))))
      exact leaf "text" _ (by decide) noform.2.1 hk
    | bl m =>
      refine sSeq_of (sAsg_of (dI_of (dIx_of (dV_at rfl (dC_of ?_)))))
      exact leaf "boolean" _ (by decide) noform.2.2 hk
    | nm t => exact absurd (show false = true from Ok_isE hO) Bool.false_ne_true
    | qt t => exact absurd (show false = true from Ok_isE hO) Bool.false_ne_true
    | term l es =>
      refine sSeq_of (sAsg_of (dI_of (dIx_of (dV_at rfl (dC_of ?_)))))
      dsimp only
      refine sSeq_of (sIf_of ?_)
      show two (decide (("term" : Str) = "term")) _ _
      refine oneD (fun _ => ?_) fun e => absurd rfl e
      rw [← eXs_eq] at hk
      exact hk
    | frm hd as =>
      cases n with
      | zero => exact hO.elim
      | succ m =>
        obtain ⟨f, hf, ha⟩ := hO
        have F := form_ok hf
        refine sSeq_of (sAsg_of (dI_of (dIx_of (dV_at rfl (dC_of (tupAt (i := 0) (d := .str (S hd)) rfl ?_))))))
        dsimp only
        refine sSeq_of (sIf_of ?_)
        show two (decide (S hd = "term")) _ _
        refine oneD (fun e => absurd e F.nm) fun _ => ?_
        refine sNext_seq (sSeq_of (sIf_of (dNot_of ?_)))
        show two (!(formsT.lookup (S hd)).isSome) _ _
        refine two_f (by rw [F.tab]; rfl) ?_
        refine sNext_seq (sSeq_of (sAsg_of (dI_of ?_)))
        show (match formsT.lookup (S hd) with | some v => _ | none => False)
        rw [F.tab]
        dsimp only [dvD]
        refine sRet_of (dI_of (dCB_of (aCons_of (dI_of ?_))))
        have hl3 := F.l3
        have hlen := Fit_len ha
        unfold dLc iRg1
        show (_ ≤ sizeLine) ∧ _
        refine ⟨by rw [S_len, sizeLine_eq]; omega, ?_⟩
        rw [S_len]
        refine ⟨by omega, by omega, ?_⟩
        rw [Int.toNat_natCast]
        refine ⟨fun i acc st' => st' = [] ∧ acc = ((as.take i).filter isE).map eX, ⟨rfl, rfl⟩, ?_, ?_⟩
        · rintro i d acc st' hd' ⟨rfl, rfl⟩ -
          obtain ⟨hi, rfl⟩ := rgD_get hd'
          obtain ⟨c, hc⟩ : ∃ c, f[i]? = some c := ⟨f[i], List.getElem?_eq_getElem hi⟩
          obtain ⟨a, hga, hK⟩ := Fit_get ha hc
          obtain ⟨t1, _, _⟩ := takeGet hga
          show dCmp cEq (dI (dIx (dV 2) (dD (dV 3)))) (dI (dC (.str "E"))) [some (.im (.tup (.str (S hd) :: eXs as))), some (.im (.str (S hd))), some (.im (.str (S f))), some (.im (.int (0 + (i : Int))))] [] _ _
          rw [Int.zero_add]
          refine dCmp_of (dI_of (dIx_of (dV_at rfl (dD_at rfl ?_))))
          refine strAt (l := f) rfl (by omega) hc ?_
          show two (decide ((⟨#[c]⟩ : Str) = "E")) _ _
          refine oneD (fun h1 => ?_) fun h1 => ?_
          · have hE : isE a = true := by rw [Kd_isE hK, decide_eq_true ((chE sE).mp h1)]
            refine dIx_of (dV_at rfl (dOp_of (dD_at rfl (dC_of (addI ?_)))))
            refine tupAt (i := i + 1) (d := eX a) (by rw [eXs_eq, List.getElem?_cons_succ, List.getElem?_map, hga]; rfl) ?_
            refine ⟨?_, rfl, ?_⟩
            · have := List.length_filter_le isE (as.take i)
              rw [List.length_take] at this
              rw [List.length_map]
              omega
            · show _ = ((as.take (i + 1)).filter isE).map eX
              rw [t1, List.filter_append, List.filter_cons_of_pos hE, List.map_append]
              rfl
          · have hE : isE a = false := by rw [Kd_isE hK, decide_eq_false (fun z => h1 ((chE sE).mpr z))]
            refine ⟨rfl, ?_⟩
            show _ = ((as.take (i + 1)).filter isE).map eX
            rw [t1, List.filter_append, List.filter_cons_of_neg (by rw [hE]; decide)]
            simp
        · rintro acc st' ⟨rfl, rfl⟩ -
          rw [rgD_len, ← hlen, List.take_length]
          exact hk
  · exact h.elim
theorem pfKids {n : Nat} {e : Ex} {st : Sto} {k : W → Sto → Prop} {ex : DX} (h : Ok n e) (hk : k (.im (.tup ((kids e).map eX))) st) : callD pf_operands [] [.im (eX e)] st k ex := ⟨rfl, e, n, rfl, h, hk⟩
theorem callPrts {n m : Nat} {e : Ex} {st : Sto} {k : W → Sto → Prop} {ex : DX} (hn : n = m + 1) (h : Ok m e) (hm : m ≤ 4) (hk : k (.im (.lst ((pts e).map eX))) st) : callD (pf_prts n) [] [.im (eX e)] st k ex := ⟨rfl, e, m, hn, rfl, h, hm, hk⟩
theorem callLprts {n m : Nat} {e : Ex} {st : Sto} {k : W → Sto → Prop} {ex : DX} (hn : n = m + 1) (h : Ok m e) (hm : m ≤ 4) (hk : k (.im (.lst ((pts e).map eX))) st) : callD (pf_Lprts n) [] [.im (eX e)] st k ex := ⟨rfl, e, m, hn, rfl, h, hm, hk⟩
theorem callLbelow {n : Nat} {e : Ex} {st : Sto} {k : W → Sto → Prop} {ex : DX} (h : Ok n e) (hk : k (.im (.lst ((kids e).map eX))) st) : callD pf_Lbelow [] [.im (eX e)] st k ex := ⟨rfl, e, n, rfl, h, hk⟩
theorem flat_take {α β : Type} {f : α → List β} {l : List α} {i : Nat} {x : α} (h : l[i]? = some x) : (l.take (i + 1)).flatMap f = (l.take i).flatMap f ++ f x := by
  rw [(takeGet h).1, List.flatMap_append, List.flatMap_cons, List.flatMap_nil, List.append_nil]
theorem kids_pts {n : Nat} {e : Ex} (h : Ok n e) (hn : n ≤ 4) (i : Nat) : (((kids e).take i).flatMap pts).length ≤ 256 := by
  have h1 := flatB (f := pts) (B := 64) (l := (kids e).take i) fun x hx => by
    obtain ⟨m, e1, h2⟩ := kids_ok h (List.mem_of_mem_take hx)
    subst e1
    have := pts_len h2
    have h4 : 4 ^ m ≤ 4 ^ 3 := Nat.pow_le_pow_right (by decide) (by omega)
    omega
  have h2 := kids_len h
  rw [List.length_take] at h1
  have h3 : 64 * min i (kids e).length ≤ 64 * 3 := Nat.mul_le_mul_left _ (by omega)
  omega
theorem r_parts {n : Nat} : ∀ ws st k ex, pf_prts (n + 1) ws st k ex → t_parts n (EnD false st.length k ex) (startD N_parts ws) st := by
  intro ws st k ex h
  unfold pf_prts at h
  split at h
  · obtain ⟨e, m, hm, rfl, hO, hn, hk⟩ := h
    cases hm
    unfold t_parts
    refine sSeq_of (sAsg_of (dLstM_of (adNil_of ⟨Nat.zero_le _, ?_⟩)))
    dsimp only
    refine sSeq_of ?_
    unfold sFor iSq
    refine pfKids (st := [.lst []]) hO ?_
    show ∃ I, _
    refine ⟨fun i σ' st' => ∃ x : Option D, σ' = [some (.im (eX e)), some (.loc 0), x.map .im] ∧ st' = [.lst ((((kids e).take i).flatMap pts).map eX)], ⟨none, rfl, rfl⟩, ?_, ?_⟩
    · rintro i dd σ' st' hi ⟨x, rfl, rfl⟩ -
      rw [List.getElem?_map] at hi
      cases hx : (kids e)[i]? with
      | none => rw [hx] at hi; cases hi
      | some y =>
        rw [hx] at hi
        cases hi
        obtain ⟨m', e1, h2⟩ := kids_ok hO (List.mem_of_getElem? hx)
        show sExt (dV 1) (dCall (pf_prts n) (aCons (dV 2) aNil)) _ [some (.im (eX e)), some (.loc 0), some (.im (eX y))] _
        unfold sExt
        refine dV_at (w := .loc 0) rfl ⟨⟨_, rfl⟩, ?_⟩
        refine dCall_of (aCons_of (dV_at (w := .im (eX y)) rfl (aNil_of ?_)))
        refine callPrts (st := [.lst ((((kids e).take i).flatMap pts).map eX)]) e1 h2 (by omega) ?_
        have b1 := kids_pts hO hn i
        have b2 := pts_len h2
        have h4 : 4 ^ m' ≤ 4 ^ 4 := Nat.pow_le_pow_right (by decide) (by omega)
        refine ⟨by rw [List.length_map, List.length_map]; omega, some (eX y), rfl, ?_⟩
        show ([.lst ((((kids e).take i).flatMap pts).map eX ++ (pts y).map eX)] : Sto) = _
        rw [flat_take hx, List.map_append]
    · rintro σ' st' ⟨x, rfl, rfl⟩ -
      rw [List.length_map, List.take_length]
      rw [pts_kids (Ok_isE hO), List.map_append] at hk
      have b1 := kids_pts hO hn (kids e).length
      rw [List.take_length] at b1
      dsimp only
      refine sRet_of (dI_of (dOp_of ?_))
      refine ⟨by show 1 ≤ 1000000; decide, ?_⟩
      refine ⟨by rw [List.length_map]; show _ + 1 ≤ _; omega, hk⟩
  · exact h.elim
theorem r_Lparts {n : Nat} : ∀ ws st k ex, pf_Lprts (n + 1) ws st k ex → t_Lparts n (EnD false st.length k ex) (startD N_Lparts ws) st := by
  intro ws st k ex h
  unfold pf_Lprts at h
  split at h
  · obtain ⟨e, m, hm, rfl, hO, hn, hk⟩ := h
    cases hm
    unfold t_Lparts
    refine sSeq_of (sAsg_of (dI_of (dLst_of (adNil_of ⟨Nat.zero_le _, ?_⟩))))
    dsimp only
    refine sSeq_of ?_
    unfold sFor iSq
    refine callLbelow (st := []) hO ?_
    show ∃ I, _
    refine ⟨fun i σ' st' => ∃ x : Option D, σ' = [some (.im (eX e)), some (.im (.lst ((((kids e).take i).flatMap pts).map eX))), x.map .im] ∧ st' = [], ⟨none, rfl, rfl⟩, ?_, ?_⟩
    · rintro i dd σ' st' hi ⟨x, rfl, rfl⟩ -
      rw [List.getElem?_map] at hi
      cases hx : (kids e)[i]? with
      | none => rw [hx] at hi; cases hi
      | some y =>
        rw [hx] at hi
        cases hi
        obtain ⟨m', e1, h2⟩ := kids_ok hO (List.mem_of_getElem? hx)
        have b1 := kids_pts hO hn i
        have b2 := pts_len h2
        have h4 : 4 ^ m' ≤ 4 ^ 4 := Nat.pow_le_pow_right (by decide) (by omega)
        show sAsg 1 _ _ [some (.im (eX e)), some (.im (.lst ((((kids e).take i).flatMap pts).map eX))), some (.im (eX y))] _
        refine sAsg_of (dI_of (dOp_of (dD_at rfl ?_)))
        refine callLprts (st := []) e1 h2 (by omega) ?_
        refine ⟨by rw [List.length_map, List.length_map]; omega, some (eX y), ?_, rfl⟩
        show ([some (.im (eX e)), some (.im (.lst ((((kids e).take i).flatMap pts).map eX ++ (pts y).map eX))), some (.im (eX y))] : Sl) = _
        rw [flat_take hx, List.map_append]
        rfl
    · rintro σ' st' ⟨x, rfl, rfl⟩ -
      rw [List.length_map, List.take_length]
      rw [pts_kids (Ok_isE hO), List.map_append] at hk
      have b1 := kids_pts hO hn (kids e).length
      rw [List.take_length] at b1
      dsimp only
      refine sRet_of (dI_of (dOp_of (dD_at rfl ?_)))
      refine ⟨by show 1 ≤ 1000000; decide, ?_⟩
      refine ⟨by rw [List.length_map]; show _ + 1 ≤ _; omega, hk⟩
  · exact h.elim
end Dl.Ea
end

section
set_option maxHeartbeats 4000000
namespace Dl.Ea
open PySem PySem.Spec PyProof.Rows L2 Co PySem.StrLaws Dl.Ut
theorem cut1D (d : D) (ds : List D) : cutD (d :: ds) (some 1) none = ds := by
  unfold cutD
  rw [show (1 : Int) = ((1 : Nat) : Int) from rfl, HT.sIx_nat, HT.sIx_none, List.length_cons, Nat.min_eq_left (by omega)]
  show ds.take _ = ds
  exact List.take_of_length_le (by omega)
theorem dSl_t1 {i : Nat} {σ : Sl} {st : Sto} {z : D} {ds : List D} {k : D → Sto → Prop} {ex : DX} (h1 : σ[i]? = some (some (.im (.tup (z :: ds))))) (hk : k (.tup ds) st) : dSl (dV i) (dPart (dC (.int 1))) dNoPart σ st k ex := by
  unfold dSl
  refine dV_at h1 ?_
  rw [← cut1D z ds] at hk
  exact hk
theorem below_ok {ds : List D} {z : D} {k : D → Sto → Prop} {ex : DX} (hd : ∀ d ∈ ds, ∃ b, isiD d "tuple" = some b) (hl : ds.length ≤ 1000) (hk : k (.lst (ds.filter fun d => isiD d "tuple" == some true)) []) :
    dLc (iSq (dSl (dV 0) (dPart (dC (.int 1))) dNoPart)) (gN 1) (dTru (dI (dCB fIsi (aCons (dV 1) (aCons (dI (dC (.ty "tuple"))) aNil))))) (dD (dV 1)) ([("_law_part", 1)].map (·.2)) [some (.im (.tup (z :: ds))), none] [] k ex := by
  unfold dLc iSq
  refine dSl_t1 rfl ?_
  dsimp only
  have key := lcG_filter (g := gN 1) (as := ds) (a := fun d => d) (b := fun d => d) (tt := dTru (dI (dCB fIsi (aCons (dV 1) (aCons (dI (dC (.ty "tuple"))) aNil))))) (te := dD (dV 1)) (vs := [1]) (σ := [some (.im (.tup (z :: ds))), none]) (st := []) (K := fun acc st' => k (.lst acc) st')
    (fun d => [some (.im (.tup (z :: ds))), some (.im d)]) (fun d => isiD d "tuple" == some true) (fun d => d) (by omega) rfl (fun x _ k hk => hk) (fun x hx Q q => by
      obtain ⟨b, hb⟩ := hd x hx
      rw [hb] at q
      show (match isiD x "tuple" with | some b => _ | none => False)
      rw [hb]
      cases b <;> exact q) (fun x _ _ Q q => q) (by rw [List.map_id', List.map_id']; exact hk)
  rw [List.map_id'] at key
  exact key
theorem r_Lbelow : ∀ ws st k ex, pf_Lbelow ws st k ex → t_Lbelow (EnD false st.length k ex) (startD N_Lbelow ws) st := by
  intro ws st k ex h
  unfold pf_Lbelow at h
  split at h
  · obtain ⟨e, n, rfl, hO, hk⟩ := h
    unfold t_Lbelow
    have leaf : ∀ (z : Str) (d : D), z ≠ "term" → isiD d "tuple" = some false → k (.im (.lst [])) [] → t_Lbelow (EnD false 0 k ex) [some (.im (.tup [.str z, d])), none] [] := fun z d h1 h2 h3 => by
      unfold t_Lbelow
      refine sSeq_of (sIf_of ?_)
      show two (decide (z = "term")) _ _
      refine oneD (fun e => absurd e h1) fun _ => ?_
      refine sNext_seq (sRet_of (dI_of ?_))
      refine below_ok (fun x hx => ⟨false, by rw [List.mem_singleton.mp hx]; exact h2⟩) (by show 1 ≤ 1000; decide) ?_
      rw [List.filter_cons_of_neg (by rw [h2]; decide)]
      exact h3
    cases e with
    | num m => exact leaf "integer" _ (by decide) rfl hk
    | txt m => exact leaf "text" _ (by decide) rfl hk
    | bl m => exact leaf "boolean" _ (by decide) rfl hk
    | nm t => exact absurd (show false = true from Ok_isE hO) Bool.false_ne_true
    | qt t => exact absurd (show false = true from Ok_isE hO) Bool.false_ne_true
    | term l es =>
      refine sSeq_of (sIf_of (dCmp_of (dI_of (dIx_of (dV_at rfl (dC_of ?_))))))
      show two (decide (("term" : Str) = "term")) _ _
      refine oneD (fun _ => ?_) fun e => absurd rfl e
      rw [show (kids (.term l es)).map eX = eXs es from (eXs_eq es).symm] at hk
      exact hk
    | frm hd as =>
      cases n with
      | zero => exact hO.elim
      | succ m =>
        obtain ⟨f, hf, ha⟩ := hO
        have F := form_ok hf
        refine sSeq_of (sIf_of (dCmp_of (dI_of (dIx_of (dV_at rfl (dC_of (tupAt (i := 0) (d := .str (S hd)) rfl ?_)))))))
        show two (decide (S hd = "term")) _ _
        refine oneD (fun e => absurd e F.nm) fun _ => ?_
        refine sNext_seq (sRet_of (dI_of ?_))
        have hl3 := F.l3
        have hlen := Fit_len ha
        refine below_ok (ds := eXs as) (fun x hx => ?_) (by rw [eXs_eq, List.length_map]; omega) ?_
        · rw [eXs_eq] at hx
          obtain ⟨y, _, rfl⟩ := List.mem_map.mp hx
          exact ⟨_, isi_ex y⟩
        · rw [eXs_eq, List.filter_map]
          have : (fun d => isiD d "tuple" == some true) ∘ eX = isE := by
            funext y
            show (isiD (eX y) "tuple" == some true) = isE y
            rw [isi_ex]
            cases isE y <;> rfl
          rw [this]
          exact hk
  · exact h.elim
theorem memq (c : Nat) : memD (.str ⟨#[c]⟩) [.str "\"", .str "\\"] = decide (c = 34 ∨ c = 92) := by
  unfold memD
  simp only [List.any_cons, List.any_nil, Bool.or_false, eqvD]
  have h1 : (("\"" : Str) == (⟨#[c]⟩ : Str)) = decide (c = 34) := by
    by_cases h : c = 34
    · subst h; rfl
    · rw [decide_eq_false h]
      exact beq_eq_false_iff_ne.mpr fun e => h ((chE (c0 := 34) (z := "\"") rfl).mp e.symm)
  have h2 : (("\\" : Str) == (⟨#[c]⟩ : Str)) = decide (c = 92) := by
    by_cases h : c = 92
    · subst h; rfl
    · rw [decide_eq_false h]
      exact beq_eq_false_iff_ne.mpr fun e => h ((chE (c0 := 92) (z := "\\") rfl).mp e.symm)
  rw [h1, h2]
  simp
theorem r_quote : ∀ ws st k ex, pf_quote ws st k ex → t_quote (EnD false st.length k ex) (startD N_quote ws) st := by
  intro ws st k ex h
  unfold pf_quote at h
  split at h
  · obtain ⟨t, rfl, hl, hk⟩ := h
    unfold t_quote
    refine sSeq_of (sAsg_of (dI_of ?_))
    refine ⟨rfl, aCons_of (dI_of ?_)⟩
    unfold dLc iSt
    refine dD_at rfl ?_
    show lcB (chD (S t)) _ _ _ _ _ _ _
    rw [sfm]
    refine lc_fn (as := t) (a := fun c => .str ⟨#[c]⟩) (b := fun l => .str (S l)) qch (by omega) rfl (fun c _ Q q => ?_) ?_
    · have hq : (if c = 34 ∨ c = 92 then Q (.str ("\\" ++ (⟨#[c]⟩ : Str))) [] else Q (.str ⟨#[c]⟩) []) := by
        unfold qch at q
        split
        · rename_i h; rw [if_pos h] at q; exact q
        · rename_i h; rw [if_neg h] at q; exact q
      refine ⟨by show 2 ≤ 1000000; decide, rfl, rfl, ?_⟩
      rw [memq]
      refine oneD (fun h => ?_) fun h => ?_
      · rw [if_pos h] at hq
        exact ⟨by rw [sizeLine_eq]; show 1 + 1 ≤ _; decide, hq⟩
      · rw [if_neg h] at hq
        exact hq
    · refine aNil_of ?_
      have hf : (t.map qch).flatten.length ≤ 120 := by
        have := flatLe (B := 2) (ls := t.map qch) fun l hl => by
          obtain ⟨c, _, rfl⟩ := List.mem_map.mp hl
          unfold qch; split <;> simp
        rw [List.length_map] at this
        omega
      refine joinE (ls := t.map qch) (by rw [List.length_map]; omega) (by omega) ?_
      dsimp only
      refine sRet_of (dI_of (dOp_of (dOp_of (dC_of (dD_at rfl ?_)))))
      have e4 : (("\"" : Str).length) = 1 := by decide +kernel
      refine ⟨by show 1 + _ ≤ sizeLine; rw [S_len, sizeLine_eq]; omega, ?_⟩
      refine ⟨by rw [show ("\"" : Str) = S [34] from rfl, Sapp, S_len, S_len, sizeLine_eq]; simp only [List.length_append, List.length_cons, List.length_nil]; omega, ?_⟩
      rw [show ("\"" : Str) = S [34] from rfl, Sapp, Sapp, ← List.flatMap_def]
      exact hk
  · exact h.elim
theorem r_Lquoted : ∀ ws st k ex, pf_Lquoted ws st k ex → t_Lquoted (EnD false st.length k ex) (startD N_Lquoted ws) st := by
  intro ws st k ex h
  unfold pf_Lquoted at h
  split at h
  · obtain ⟨t, rfl, hl, hk⟩ := h
    unfold t_Lquoted
    have hl2 : (t.flatMap fun c => if c = 92 then cl ("\\\\" : Str) else [c]).length ≤ 120 := by
      have := flat2 (l := t) (f := fun c => if c = 92 then cl ("\\\\" : Str) else [c]) (fun c => by split <;> simp <;> decide)
      omega
    have hl3 : ((t.flatMap fun c => if c = 92 then cl ("\\\\" : Str) else [c]).flatMap fun c => if c = 34 then cl ("\\\"" : Str) else [c]).length ≤ 240 := by
      have := flat2 (l := (t.flatMap fun c => if c = 92 then cl ("\\\\" : Str) else [c])) (f := fun c => if c = 34 then cl ("\\\"" : Str) else [c]) (fun c => by split <;> simp <;> decide)
      omega
    refine sRet_of (dI_of (dOp_of (dOp_of (dC_of ?_))))
    unfold dRepl
    refine dD_at rfl ?_
    have e2 : (("\\\\" : Str).length) = 2 := by decide +kernel
    have e3 : (("\\\"" : Str).length) = 2 := by decide +kernel
    refine ⟨by rw [S_len, e2]; omega, ?_⟩
    rw [show Txt.replace (S t) "\\" "\\\\" = S (t.flatMap fun c => if c = 92 then cl ("\\\\" : Str) else [c]) from repl1S rfl]
    refine ⟨by rw [S_len, e3]; omega, ?_⟩
    rw [show Txt.replace (S (t.flatMap fun c => if c = 92 then cl ("\\\\" : Str) else [c])) "\"" "\\\"" = S ((t.flatMap fun c => if c = 92 then cl ("\\\\" : Str) else [c]).flatMap fun c => if c = 34 then cl ("\\\"" : Str) else [c]) from repl1S rfl]
    have e4 : (("\"" : Str).length) = 1 := by decide +kernel
    refine ⟨by show 1 + _ ≤ sizeLine; rw [S_len, sizeLine_eq]; omega, ?_⟩
    refine ⟨by rw [show ("\"" : Str) = S [34] from rfl, Sapp, S_len, S_len, sizeLine_eq]; simp only [List.length_append, List.length_cons, List.length_nil]; omega, ?_⟩
    rw [show ("\"" : Str) = S [34] from rfl, Sapp, Sapp, show cl ("\\\\" : Str) = [92, 92] from rfl, show cl ("\\\"" : Str) = [92, 34] from rfl, two_q]
    exact hk
  · exact h.elim
end Dl.Ea
end

section
set_option maxHeartbeats 4000000
namespace Dl.Ea
open PySem PySem.Spec PyProof.Rows L2 Co PySem.StrLaws Dl.Ut PySem.NumText
def fig (m : Nat) : List Nat := (Nat.toDigits 10 m).map Char.toNat
theorem dg_pos (m : Nat) : dg (m : Int) = fig m := PySem.W.KIN.signs_num m
theorem dg_neg (m : Nat) : dg (Int.negSucc m) = 45 :: fig (m + 1) := by
  unfold dg
  show (Str.ofString (toString (Int.negSucc m))).cps.toList = _
  rw [signs_ofString]
  have e : (toString (Int.negSucc m)) = "-" ++ Nat.repr (m + 1) := rfl
  rw [e, String.toList_append, List.map_append, Nat.toList_repr]
  rfl
theorem fig_dig {m : Nat} : ∀ c ∈ fig m, 48 ≤ c ∧ c ≤ 57 := by
  intro c hc
  obtain ⟨ch, hch, e⟩ := List.mem_map.mp hc
  have r := digit_range (Nat.isDigit_of_mem_toDigits (by decide) (by decide) hch)
  rw [← e]
  exact r
theorem fig_ne {m : Nat} : fig m ≠ [] := by
  intro e
  have h := toDigits_len_ge 10 m
  rw [List.map_eq_nil_iff.mp e] at h
  exact absurd h (by decide)
theorem fig_len {m : Nat} (h : m ≤ 1000000) : (fig m).length ≤ 7 := by
  have h1 := toString_length_le (v := (m : Int)) (k := 7) (Int.natCast_nonneg m) (by decide) (by omega)
  have e : (Str.ofString (toString (m : Int))).length = (fig m).length := by
    rw [← dg_pos]
    exact (Array.length_toList).symm
  omega
theorem fig_step {m : Nat} (h : 10 ≤ m) : fig m = fig (m / 10) ++ fig (m % 10) := by
  unfold fig
  have t : Nat.toDigits 10 (m / 10) ++ Nat.toDigits 10 (m % 10) = Nat.toDigits 10 (10 * (m / 10) + m % 10) := Nat.toDigits_append_toDigits (by decide) (by omega) (Nat.mod_lt m (by decide))
  rw [Nat.div_add_mod] at t
  rw [← t, List.map_append]
theorem fig_small : ∀ m : Nat, m < 10 → fig m = [48 + m] := by decide +kernel
theorem fig_head : ∀ (n m : Nat), m ≤ n → 1 ≤ m → (fig m).head? ≠ some 48 := by
  intro n
  induction n with
  | zero => intro m h1 h2; omega
  | succ n ih =>
    intro m h1 h2
    by_cases h : m < 10
    · rw [fig_small m h]
      intro e
      have : 48 + m = 48 := Option.some.inj e
      omega
    · rw [fig_step (by omega)]
      have h3 := ih (m / 10) (by omega) (by omega)
      cases hf : fig (m / 10) with
      | nil => exact absurd hf fig_ne
      | cons c r => rw [hf] at h3; exact h3
theorem fig_val (m : Nat) : digitsVal (fig m) = m := PySem.W.KIN.val_back m
theorem dg_read {n : Int} (h : n.natAbs ≤ 1000000) : PySem.intText? (S (dg n)) = some n := by
  cases n with
  | ofNat m =>
    have hm : m ≤ 1000000 := h
    have e := intText_digits (x := S (dg (m : Int))) (by rw [show (S (dg (m : Int))).cps.toList = dg (m : Int) from rfl, dg_pos]; exact fig_dig) (by rw [show (S (dg (m : Int))).cps.toList = dg (m : Int) from rfl, dg_pos]; exact fig_ne) (by
      rw [S_len, dg_pos]; have := fig_len hm; omega)
    rw [show (S (dg (m : Int))).cps.toList = dg (m : Int) from rfl, dg_pos, fig_val] at e
    rw [← dg_pos] at e
    exact e
  | negSucc m =>
    have hm : m + 1 ≤ 1000000 := h
    have e := intText_neg (x := S (dg (Int.negSucc m))) (cs := fig (m + 1)) (dg_neg m) fig_dig fig_ne (by
      rw [S_len, dg_neg, List.length_cons]; have := fig_len hm; omega)
    rw [fig_val] at e
    exact e
theorem dg_len {n : Int} (h : n.natAbs ≤ 1000000) : (dg n).length ≤ 8 := by
  cases n with
  | ofNat m =>
    have := fig_len (m := m) h
    rw [show Int.ofNat m = (m : Int) from rfl, dg_pos]
    omega
  | negSucc m =>
    have := fig_len (m := m + 1) h
    rw [dg_neg, List.length_cons]
    omega
inductive Shp : List Nat → Prop
  | open_ : Shp [40]
  | close : Shp [41]
  | quoted (t : List Nat) : Shp (quo t)
  | word (t : List Nat) : Wd t → Shp t
  | num (n : Int) : n.natAbs ≤ 1000000 → Shp (dg n)
theorem Shp.tok {t : List Nat} (h : Shp t) : Tok t := by
  cases h with
  | open_ => exact ⟨by simp, fun c e => by cases e; rfl⟩
  | close => exact ⟨by simp, fun c e => by cases e; rfl⟩
  | quoted t => exact ⟨by simp [quo], fun c e => by cases e; rfl⟩
  | word t h =>
    obtain ⟨h1, h2⟩ := h
    cases t with
    | nil => exact absurd h1 (by simp)
    | cons c r =>
      refine ⟨by simp, fun x e => ?_⟩
      cases e
      have := h2 c List.mem_cons_self
      unfold isBk
      simp
      omega
  | num n h =>
    cases n with
    | ofNat m =>
      rw [show dg (Int.ofNat m) = fig m from dg_pos m]
      refine ⟨fig_ne, fun c e => ?_⟩
      cases hf : fig m with
      | nil => exact absurd hf fig_ne
      | cons d r =>
        rw [hf] at e
        cases e
        have := fig_dig (m := m) c (by rw [hf]; exact List.mem_cons_self)
        unfold isBk
        simp
        omega
    | negSucc m =>
      rw [dg_neg]
      exact ⟨by simp, fun c e => by cases e; rfl⟩
theorem wd_true : Wd wTrue := by unfold Wd wTrue; decide
theorem wd_false : Wd wFalse := by unfold Wd wFalse; decide
theorem wd_term : Wd wTerm := by unfold Wd wTerm; decide
theorem FormOk.wd {h f : List Nat} (F : FormOk h f) : Wd h := ⟨F.l1, F.let_⟩
theorem NmOk.wd {t : List Nat} (h : NmOk t) : Wd t := ⟨h.1, h.2.2⟩
def TkOk (t : List Nat) : Prop := Shp t ∧ t.length ≤ 122
theorem tk_ok : ∀ {n : Nat} {e : Ex}, Ok n e → (∀ t ∈ tk e, TkOk t) ∧ (tk e).length ≤ 6 * 4 ^ n := by
  intro n
  have leaf : ∀ {m : Nat} {e : Ex}, kids e = [] → (∀ l es, e ≠ .term l es) → (∀ h as, e ≠ .frm h as) → Ok m e → (∀ t ∈ tk e, TkOk t) ∧ (tk e).length ≤ 1 := by
    intro m e _ n1 n2 h
    cases e with
    | num k =>
      refine ⟨fun t ht => ?_, Nat.le_refl _⟩
      have hk : k.natAbs ≤ 1000000 := by cases m <;> exact h
      rw [List.mem_singleton.mp ht]
      exact ⟨.num k hk, Nat.le_trans (dg_len hk) (by decide)⟩
    | txt k =>
      refine ⟨fun t ht => ?_, Nat.le_refl _⟩
      have hk : k.length ≤ 60 := by cases m <;> exact h
      rw [List.mem_singleton.mp ht]
      exact ⟨.quoted k, quo_len hk⟩
    | bl b =>
      refine ⟨fun t ht => ?_, Nat.le_refl _⟩
      rw [List.mem_singleton.mp ht]
      cases b
      · exact ⟨.word _ wd_false, by decide⟩
      · exact ⟨.word _ wd_true, by decide⟩
    | term l es => exact absurd rfl (n1 l es)
    | frm hd as => exact absurd rfl (n2 hd as)
    | nm t => exact absurd (show false = true from Ok_isE h) Bool.false_ne_true
    | qt t => exact absurd (show false = true from Ok_isE h) Bool.false_ne_true
  induction n with
  | zero =>
    intro e h
    cases e with
    | term l es => exact h.elim
    | frm hd as => exact h.elim
    | nm t => exact absurd (show false = true from Ok_isE h) Bool.false_ne_true
    | qt t => exact absurd (show false = true from Ok_isE h) Bool.false_ne_true
    | _ =>
      have := leaf rfl (fun _ _ z => by cases z) (fun _ _ z => by cases z) h
      exact ⟨this.1, by omega⟩
  | succ n ih =>
    intro e h
    have h4 : 1 ≤ 4 ^ n := Nat.one_le_iff_ne_zero.mpr (Nat.ne_of_gt (Nat.pow_pos (by decide)))
    cases e with
    | term l es =>
      obtain ⟨h1, h2, h3⟩ := h
      have b := flatB (f := tk) (B := 6 * 4 ^ n) (l := es) fun x hx => (ih (h3 x hx)).2
      refine ⟨fun t ht => ?_, ?_⟩
      · rcases List.mem_cons.mp ht with rfl | ht
        · exact ⟨.open_, by decide⟩
        rcases List.mem_cons.mp ht with rfl | ht
        · exact ⟨.word _ wd_term, by decide⟩
        rcases List.mem_cons.mp ht with rfl | ht
        · exact ⟨.quoted l, quo_len h1⟩
        rcases List.mem_append.mp ht with ht | ht
        · rw [tks_eq] at ht
          obtain ⟨x, hx, hm⟩ := List.mem_flatMap.mp ht
          exact (ih (h3 x hx)).1 t hm
        · rw [List.mem_singleton.mp ht]; exact ⟨.close, by decide⟩
      · show (_ :: _ :: _ :: (tks es ++ [[41]])).length ≤ _
        rw [List.length_cons, List.length_cons, List.length_cons, List.length_append, List.length_singleton, tks_eq, Nat.pow_succ]
        have h5 : 6 * 4 ^ n * es.length ≤ 6 * 4 ^ n * 2 := Nat.mul_le_mul_left _ h2
        omega
    | frm hd as =>
      obtain ⟨f, hf, ha⟩ := h
      have F := form_ok hf
      have arg : ∀ x ∈ as, (∀ t ∈ tk x, TkOk t) ∧ (tk x).length ≤ 6 * 4 ^ n := fun x hx => by
        obtain ⟨c, hc, hk⟩ := Fit_mem ha hx
        unfold Kd at hk
        split at hk
        · exact ih hk
        · split at hk
          · obtain ⟨t, rfl, h6⟩ := hk
            refine ⟨fun u hu => ?_, by show 1 ≤ _; omega⟩
            rw [List.mem_singleton.mp hu]
            exact ⟨.quoted t, quo_len h6⟩
          · obtain ⟨t, rfl, h6⟩ := hk
            refine ⟨fun u hu => ?_, by show 1 ≤ _; omega⟩
            rw [List.mem_singleton.mp hu]
            exact ⟨.word t h6.wd, by have := h6.2.1; omega⟩
      have b := flatB (f := tk) (B := 6 * 4 ^ n) (l := as) fun x hx => (arg x hx).2
      have hl := Fit_len ha
      have h3 := F.l3
      refine ⟨fun t ht => ?_, ?_⟩
      · rcases List.mem_cons.mp ht with rfl | ht
        · exact ⟨.open_, by decide⟩
        rcases List.mem_cons.mp ht with rfl | ht
        · exact ⟨.word _ F.wd, by have := F.l8; omega⟩
        rcases List.mem_append.mp ht with ht | ht
        · rw [tks_eq] at ht
          obtain ⟨x, hx, hm⟩ := List.mem_flatMap.mp ht
          exact (arg x hx).1 t hm
        · rw [List.mem_singleton.mp ht]; exact ⟨.close, by decide⟩
      · show (_ :: _ :: (tks as ++ [[41]])).length ≤ _
        rw [List.length_cons, List.length_cons, List.length_append, List.length_singleton, tks_eq, Nat.pow_succ]
        have h5 : 6 * 4 ^ n * as.length ≤ 6 * 4 ^ n * 3 := Nat.mul_le_mul_left _ (by omega)
        omega
    | nm t => exact absurd (show false = true from Ok_isE h) Bool.false_ne_true
    | qt t => exact absurd (show false = true from Ok_isE h) Bool.false_ne_true
    | _ =>
      have := leaf rfl (fun _ _ z => by cases z) (fun _ _ z => by cases z) h
      refine ⟨this.1, ?_⟩
      rw [Nat.pow_succ]
      omega
end Dl.Ea
end

section
set_option maxHeartbeats 4000000
namespace Dl.Ea
open PySem PySem.Spec PyProof.Rows L2 Co PySem.StrLaws Dl.Ut PySem.NumText
theorem can_cons (p t : List Nat) (r : List (List Nat)) : lay (can p (t :: r)) = (if p = [40] ∨ t = [41] then [] else [32]) ++ (t ++ lay (can t r)) := by
  unfold lay
  rw [can, List.flatMap_cons, List.append_assoc]
def gp (p : List Nat) : List Nat := if p = [40] then [] else [32]
theorem can_one {p t : List Nat} {r : List (List Nat)} (h : t ≠ [41]) : lay (can p (t :: r)) = gp p ++ (t ++ lay (can t r)) := by
  rw [can_cons]
  unfold gp
  by_cases hp : p = [40]
  · rw [if_pos (.inl hp), if_pos hp]
  · rw [if_neg (fun z => z.elim hp h), if_neg hp]
theorem quo_br {t : List Nat} : quo t ≠ [41] ∧ quo t ≠ [40] := by
  unfold quo
  constructor <;> intro e <;> cases e
theorem wd_br {t : List Nat} (h : Wd t) : t ≠ [41] ∧ t ≠ [40] := by
  constructor
  · rintro rfl
    have := h.2 41 (by simp)
    omega
  · rintro rfl
    have := h.2 40 (by simp)
    omega
theorem dg_br (n : Int) : dg n ≠ [41] ∧ dg n ≠ [40] := by
  cases n with
  | ofNat m =>
    rw [show dg (Int.ofNat m) = fig m from dg_pos m]
    constructor
    · intro e
      have := fig_dig (m := m) 41 (by rw [e]; simp)
      omega
    · intro e
      have := fig_dig (m := m) 40 (by rw [e]; simp)
      omega
  | negSucc m =>
    rw [dg_neg]
    constructor <;> intro e <;> cases e
def WP (e : Ex) : Prop := ∀ p r, ∃ last, last ≠ [40] ∧ lay (can p (tk e ++ r)) = gp p ++ (wr e ++ lay (can last r))
theorem wp1 {e : Ex} {t : List Nat} (h1 : tk e = [t]) (h2 : wr e = t) (h : t ≠ [41] ∧ t ≠ [40]) : WP e := fun p r => ⟨t, h.2, by rw [h1, h2]; exact can_one h.1⟩
theorem wps : ∀ {as : List Ex} {p : List Nat} {r : List (List Nat)}, (∀ a ∈ as, WP a) → p ≠ [40] → ∃ last, last ≠ [40] ∧ lay (can p (tks as ++ r)) = (as.flatMap fun a => 32 :: wr a) ++ lay (can last r)
  | [], p, r, _, hp => ⟨p, hp, rfl⟩
  | a :: as, p, r, h, hp => by
    obtain ⟨l1, n1, e1⟩ := h a List.mem_cons_self p (tks as ++ r)
    obtain ⟨l2, n2, e2⟩ := wps (as := as) (p := l1) (r := r) (fun x hx => h x (List.mem_cons_of_mem _ hx)) n1
    refine ⟨l2, n2, ?_⟩
    rw [show tks (a :: as) ++ r = tk a ++ (tks as ++ r) from List.append_assoc _ _ _, e1, e2, List.flatMap_cons]
    unfold gp
    rw [if_neg hp]
    simp
theorem join_flat (x : List Nat) : ∀ as : List Ex, joinU [32] (x :: wrs as) = x ++ as.flatMap fun a => 32 :: wr a
  | [] => by show x = _; simp
  | a :: as => by
    show x ++ ([32] ++ joinU [32] (wr a :: wrs as)) = _
    rw [join_flat (wr a) as, List.flatMap_cons]
    simp
theorem WP_all : ∀ {n : Nat} {e : Ex}, Ok n e → WP e := by
  intro n
  induction n with
  | zero =>
    intro e h
    cases e with
    | term l es => exact h.elim
    | frm hd as => exact h.elim
    | nm t => exact absurd (show false = true from Ok_isE h) Bool.false_ne_true
    | qt t => exact absurd (show false = true from Ok_isE h) Bool.false_ne_true
    | num k => exact wp1 rfl rfl (dg_br k)
    | txt k => exact wp1 rfl rfl quo_br
    | bl b => cases b; exact wp1 rfl rfl (wd_br wd_false); exact wp1 rfl rfl (wd_br wd_true)
  | succ n ih =>
    intro e h
    cases e with
    | num k => exact wp1 rfl rfl (dg_br k)
    | txt k => exact wp1 rfl rfl quo_br
    | bl b => cases b; exact wp1 rfl rfl (wd_br wd_false); exact wp1 rfl rfl (wd_br wd_true)
    | nm t => exact absurd (show false = true from Ok_isE h) Bool.false_ne_true
    | qt t => exact absurd (show false = true from Ok_isE h) Bool.false_ne_true
    | term l es =>
      obtain ⟨h1, h2, h3⟩ := h
      intro p r
      obtain ⟨l2, n2, e2⟩ := wps (as := es) (p := quo l) (r := [[41]] ++ r) (fun x hx => ih (h3 x hx)) quo_br.2
      refine ⟨[41], by decide, ?_⟩
      rw [show tk (.term l es) ++ r = [40] :: wTerm :: quo l :: ((tks es ++ [[41]]) ++ r) from rfl, List.append_assoc, can_one (by decide), can_one (wd_br wd_term).1, can_one quo_br.1, e2]
      rw [show [[41]] ++ r = [41] :: r from rfl, can_cons]
      rw [if_pos (.inr rfl), show wr (.term l es) = 40 :: (joinU [32] (wTerm :: quo l :: wrs es) ++ [41]) from rfl]
      have e3 : joinU [32] (wTerm :: quo l :: wrs es) = wTerm ++ ([32] ++ joinU [32] (quo l :: wrs es)) := rfl
      rw [e3, join_flat]
      have g1 : gp [40] = [] := rfl
      have g2 : gp wTerm = [32] := rfl
      rw [g1, g2]
      simp
    | frm hd as =>
      obtain ⟨f, hf, ha⟩ := h
      have F := form_ok hf
      have arg : ∀ x ∈ as, WP x := fun x hx => by
        obtain ⟨c, hc, hk⟩ := Fit_mem ha hx
        unfold Kd at hk
        split at hk
        · exact ih hk
        · split at hk
          · obtain ⟨t, rfl, h6⟩ := hk
            exact wp1 rfl rfl quo_br
          · obtain ⟨t, rfl, h6⟩ := hk
            exact wp1 rfl rfl (wd_br h6.wd)
      intro p r
      obtain ⟨l2, n2, e2⟩ := wps (as := as) (p := hd) (r := [[41]] ++ r) arg (wd_br F.wd).2
      refine ⟨[41], by decide, ?_⟩
      rw [show tk (.frm hd as) ++ r = [40] :: hd :: ((tks as ++ [[41]]) ++ r) from rfl, List.append_assoc, can_one (by decide), can_one (wd_br F.wd).1, e2]
      rw [show [[41]] ++ r = [41] :: r from rfl, can_cons]
      rw [if_pos (.inr rfl), show wr (.frm hd as) = 40 :: (joinU [32] (hd :: wrs as) ++ [41]) from rfl, join_flat]
      have g1 : gp [40] = [] := rfl
      rw [g1]
      simp
theorem wr_lay {n : Nat} {e : Ex} (h : Ok n e) : lay (can [40] (tk e)) = wr e := by
  obtain ⟨l, _, e1⟩ := WP_all h [40] []
  rw [List.append_nil] at e1
  rw [e1]
  show [] ++ (wr e ++ []) = _
  simp
theorem shut40 : shut [40] := ⟨[], .inl rfl⟩
theorem shut41 : shut [41] := ⟨[], .inr (.inl rfl)⟩
theorem Gd_can : ∀ {ls : List (List Nat)} {p : List Nat}, (∀ t ∈ ls, Tok t) → Gd (can p ls)
  | [], _, _ => trivial
  | [t], p, h => by
    have := h t List.mem_cons_self
    exact ⟨by split <;> decide, this.1, this.2⟩
  | t :: u :: r, p, h => by
    have := h t List.mem_cons_self
    refine ⟨by split <;> decide, this.1, this.2, fun e => ?_, Gd_can (ls := u :: r) (p := t) fun x hx => h x (List.mem_cons_of_mem _ hx)⟩
    split at e
    · rename_i z
      rcases z with z | z
      · rw [z]; exact .inl shut40
      · rw [z]; exact .inr shut41
    · cases e
theorem can_map : ∀ (ls : List (List Nat)) (p : List Nat), (can p ls).map (·.2) = ls
  | [], _ => rfl
  | t :: r, p => by show t :: _ = _; rw [can_map r t]
theorem lay_len {B : Nat} : ∀ {q : Sm}, (∀ p ∈ q, p.1.length + p.2.length ≤ B) → (lay q).length ≤ B * q.length := by
  intro q h
  exact flatB (f := fun p : List Nat × List Nat => p.1 ++ p.2) (l := q) fun p hp => by rw [List.length_append]; exact h p hp
theorem can_gap : ∀ {ls : List (List Nat)} {p : List Nat} {B : Nat}, (∀ t ∈ ls, t.length ≤ B) → ∀ x ∈ can p ls, x.1.length + x.2.length ≤ B + 1
  | [], _, _, _, _, h => by cases h
  | t :: r, p, B, h, x, hx => by
    rcases List.mem_cons.mp hx with rfl | hx
    · have := h t List.mem_cons_self
      show (if _ then _ else _ : List Nat).length + t.length ≤ _
      split
      · show 0 + _ ≤ _; omega
      · show 1 + _ ≤ _; omega
    · exact can_gap (fun y hy => h y (List.mem_cons_of_mem _ hy)) x hx
theorem pow4 {n : Nat} (h : n ≤ 4) : 4 ^ n ≤ 256 := by
  have : 4 ^ n ≤ 4 ^ 4 := Nat.pow_le_pow_right (by decide) h
  omega
theorem wr_len {n : Nat} {e : Ex} (h : Ok n e) (hn : n ≤ 4) : (wr e).length ≤ 200000 := by
  rw [← wr_lay h]
  have h1 := tk_ok h
  have h2 := lay_len (B := 123) (q := can [40] (tk e)) (can_gap fun t ht => (h1.1 t ht).2)
  have h3 : (can [40] (tk e)).length = (tk e).length := by rw [← List.length_map (f := (·.2)), can_map]
  rw [h3] at h2
  have h4 := pow4 hn
  have h5 := h1.2
  have h6 : 123 * (tk e).length ≤ 123 * 1536 := Nat.mul_le_mul_left _ (by omega)
  omega
end Dl.Ea
end

section
set_option maxHeartbeats 4000000
namespace Dl.Ea
open PySem PySem.Spec PyProof.Rows L2 Co PySem.StrLaws Dl.Ut PySem.NumText
theorem eqS_t {i : Nat} {z y : Str} {σ : Sl} {st : Sto} {k : Bool → Sto → Prop} {ex : DX} (h : σ[i]? = some (some (.im (.str z)))) (e : z = y) (hk : k true st) : dCmp cEq (dV i) (dI (dC (.str y))) σ st k ex := by
  refine dCmp_of (dV_at h ?_)
  show k (decide (z = y)) st
  rw [decide_eq_true e]
  exact hk
theorem eqS_f {i : Nat} {z y : Str} {σ : Sl} {st : Sto} {k : Bool → Sto → Prop} {ex : DX} (h : σ[i]? = some (some (.im (.str z)))) (e : z ≠ y) (hk : k false st) : dCmp cEq (dV i) (dI (dC (.str y))) σ st k ex := by
  refine dCmp_of (dV_at h ?_)
  show k (decide (z = y)) st
  rw [decide_eq_false e]
  exact hk
theorem log6 {i : Int} (h : i.natAbs ≤ 1000000) : i.natAbs.log2 < 1920 := log_lt (by decide) (Nat.lt_of_le_of_lt h (by decide +kernel))
theorem wrEnd {E : En} {ls : List (List Nat)} {x0 x1 x2 x4 x5 : Option W} (hl : ls.length ≤ 100) (hs : (joinU [32] ls).length ≤ 300000) (hk : E.rt (.im (.str (S (40 :: (joinU [32] ls ++ [41]))))) [.lst (lsD ls)]) :
    sRet (dI (dOp fAdd (dOp fAdd (dC (.str "(")) (dBM "str" mJoin (dI (dC (.str " "))) (aCons (dV 3) aNil))) (dC (.str ")")))) E [x0, x1, x2, some (.loc 0), x4, x5] [.lst (lsD ls)] := by
  refine sRet_of (dI_of (dOp_of (dOp_of (dC_of ?_))))
  refine ⟨rfl, aCons_of (dV_at (w := .loc 0) rfl (aNil_of ?_))⟩
  show mJoin (.str " ") [.lst (lsD ls)] _
  refine joinUt (a := [32]) rfl (by decide) (by omega) (by omega) ?_
  refine ⟨by show 1 + _ ≤ sizeLine; rw [S_len, sizeLine_eq]; omega, ?_⟩
  refine ⟨by rw [show ("(" : Str) = S [40] from rfl, Sapp, S_len, sizeLine_eq]; show _ + 1 ≤ _; simp only [List.length_append, List.length_cons, List.length_nil]; omega, ?_⟩
  rw [show ("(" : Str) = S [40] from rfl, show (")" : Str) = S [41] from rfl, Sapp, Sapp]
  exact hk
theorem call_quote {t : List Nat} {st : Sto} {k : W → Sto → Prop} {ex : DX} (h : t.length ≤ 60) (hk : k (.im (.str (S (quo t)))) st) : callD pf_quote [] [.im (.str (S t))] st k ex := ⟨rfl, t, rfl, h, hk⟩
theorem call_Lquoted {t : List Nat} {st : Sto} {k : W → Sto → Prop} {ex : DX} (h : t.length ≤ 60) (hk : k (.im (.str (S (quo t)))) st) : callD pf_Lquoted [] [.im (.str (S t))] st k ex := ⟨rfl, t, rfl, h, hk⟩
theorem call_wr {n m : Nat} {e : Ex} {st : Sto} {k : W → Sto → Prop} {ex : DX} (hn : n = m + 1) (h : Ok m e) (hm : m ≤ 4) (hk : k (.im (.str (S (wr e)))) st) : callD (pf_wr n) [] [.im (eX e)] st k ex := ⟨rfl, e, m, hn, rfl, h, hm, hk⟩
theorem call_Ltoks {n m : Nat} {e : Ex} {st : Sto} {k : W → Sto → Prop} {ex : DX} (hn : n = m + 1) (h : Ok m e) (hm : m ≤ 4) (hk : k (.im (.lst (lsD (tk e)))) st) : callD (pf_Ltoks n) [] [.im (eX e)] st k ex := ⟨rfl, e, m, hn, rfl, h, hm, hk⟩
theorem join_len (e : Ex) {n : Nat} (h : Ok n e) (hn : n ≤ 4) {ls : List (List Nat)} (hw : wr e = 40 :: (joinU [32] ls ++ [41])) : (joinU [32] ls).length ≤ 300000 := by
  have := wr_len h hn
  rw [hw] at this
  simp only [List.length_cons, List.length_append, List.length_nil] at this
  omega
def wrB (n : Nat) : DS := (sSeq (sAsg 2 (dI (dIx (dV 0) (dOp fAdd (dD (dV 5)) (dC (.int 1))))))
 (sIf (dCmp cEq (dI (dIx (dV 4) (dD (dV 5)))) (dI (dC (.str "E")))) (sApp (dV 3) (dD (dCall (pf_wr n) (aCons (dV 2) aNil)))) (sApp (dV 3) (dD (dIfE (dCmp cEq (dI (dIx (dV 4) (dD (dV 5)))) (dI (dC (.str "T")))) (dCall pf_quote (aCons (dV 2) aNil)) (dV 2))))))
theorem wrB_ok {n m i : Nat} {E : En} {hd f : List Nat} {as : List Ex} {c : Nat} {a : Ex} {x2 : Option W} {ls : List (List Nat)} (hn : n = m + 1) (hm : m ≤ 4) (hK : Kd (Ok m) c a) (hga : as[i]? = some a) (hc : f[i]? = some c) (hf : f.length ≤ 3) (hl : ls.length ≤ 100)
    (hE : E.nx [some (.im (.tup (.str (S hd) :: eXs as))), some (.im (.str (S hd))), some (.im (eX a)), some (.loc 0), some (.im (.str (S f))), some (.im (.int (i : Nat)))] [.lst (lsD (ls ++ [wr a]))]) :
    wrB n E [some (.im (.tup (.str (S hd) :: eXs as))), some (.im (.str (S hd))), x2, some (.loc 0), some (.im (.str (S f))), some (.im (.int (i : Nat)))] [.lst (lsD ls)] := by
  unfold wrB
  have hi : i < f.length := ltAt hc
  refine sSeq_of (sAsg_of (dI_of (dIx_of (dV_at rfl (dOp_of (dD_at rfl (dC_of (addI ?_))))))))
  refine tupAt (i := i + 1) (d := eX a) (by rw [eXs_eq, List.getElem?_cons_succ, List.getElem?_map, hga]; rfl) ?_
  have app : ∀ (t : DD), t [some (.im (.tup (.str (S hd) :: eXs as))), some (.im (.str (S hd))), some (.im (eX a)), some (.loc 0), some (.im (.str (S f))), some (.im (.int (i : Nat)))] [.lst (lsD ls)] (fun d st2 => st2 = [.lst (lsD ls)] ∧ d = .str (S (wr a))) exF → True := fun _ _ => trivial
  have fin : (lsD ls).length ≤ 1000000 ∧ E.nx [some (.im (.tup (.str (S hd) :: eXs as))), some (.im (.str (S hd))), some (.im (eX a)), some (.loc 0), some (.im (.str (S f))), some (.im (.int (i : Nat)))] [.lst (lsD ls ++ [.str (S (wr a))])] := ⟨by rw [lsD_len]; omega, by rw [lsD_snoc]; exact hE⟩
  dsimp only
  refine sIf_of (dCmp_of (dI_of (dIx_of (dV_at rfl (dD_at rfl ?_)))))
  refine strAt (l := f) rfl (by omega) hc ?_
  show two (decide ((⟨#[c]⟩ : Str) = "E")) _ _
  refine oneD (fun h1 => ?_) fun h1 => ?_
  · have hc69 := (chE sE).mp h1
    unfold Kd at hK
    rw [if_pos hc69] at hK
    refine sApp_of (dV_at (w := .loc 0) rfl ⟨⟨_, rfl⟩, ?_⟩)
    exact call_wr (st := [.lst (lsD ls)]) hn hK hm fin
  · have hc69 : c ≠ 69 := fun z => h1 ((chE sE).mpr z)
    unfold Kd at hK
    rw [if_neg hc69] at hK
    refine sApp_of (dV_at (w := .loc 0) rfl ⟨⟨_, rfl⟩, ?_⟩)
    refine dIfE_of (dCmp_of (dI_of (dIx_of (dV_at rfl (dD_at rfl ?_)))))
    refine strAt (l := f) rfl (by omega) hc ?_
    show two (decide ((⟨#[c]⟩ : Str) = "T")) _ _
    refine oneD (fun h2 => ?_) fun h2 => ?_
    · have hc84 := (chE sT).mp h2
      rw [if_pos hc84] at hK
      obtain ⟨t, rfl, h6⟩ := hK
      exact call_quote (st := [.lst (lsD ls)]) h6 fin
    · have hc84 : c ≠ 84 := fun z => h2 ((chE sT).mpr z)
      rw [if_neg hc84] at hK
      obtain ⟨t, rfl, h6⟩ := hK
      exact fin
theorem r_write_expression {n : Nat} : ∀ ws st k ex, pf_wr (n + 1) ws st k ex → t_write_expression n (EnD false st.length k ex) (startD N_write_expression ws) st := by
  intro ws st k ex h
  unfold pf_wr at h
  split at h
  · obtain ⟨e, m, hm, rfl, hO, hn, hk⟩ := h
    cases hm
    unfold t_write_expression
    cases e with
    | num i =>
      have hi : i.natAbs ≤ 1000000 := by cases n <;> exact hO
      refine sSeq_of (sAsg_of (dI_of (dIx_of (dV_at rfl (dC_of (tupAt (i := 0) (d := .str "integer") rfl ?_))))))
      dsimp only
      refine sSeq_of (sIf_of (eqS_t rfl rfl (twoT ?_)))
      exact ⟨log6 hi, hk⟩
    | txt t =>
      have hi : t.length ≤ 60 := by cases n <;> exact hO
      refine sSeq_of (sAsg_of (dI_of (dIx_of (dV_at rfl (dC_of (tupAt (i := 0) (d := .str "text") rfl ?_))))))
      dsimp only
      refine sSeq_of (sIf_of (eqS_f rfl (by decide) (twoF ?_)))
      refine sNext_seq (sSeq_of (sIf_of (eqS_t rfl rfl (twoT ?_))))
      exact call_quote (st := []) hi hk
    | bl b =>
      refine sSeq_of (sAsg_of (dI_of (dIx_of (dV_at rfl (dC_of (tupAt (i := 0) (d := .str "boolean") rfl ?_))))))
      dsimp only
      refine sSeq_of (sIf_of (eqS_f rfl (by decide) (twoF ?_)))
      refine sNext_seq (sSeq_of (sIf_of (eqS_f rfl (by decide) (twoF ?_))))
      refine sNext_seq (sSeq_of (sIf_of (eqS_t rfl rfl (twoT ?_))))
      cases b
      · exact two_f (by rfl) hk
      · exact two_t (by rfl) hk
    | nm t => exact absurd (show false = true from Ok_isE hO) Bool.false_ne_true
    | qt t => exact absurd (show false = true from Ok_isE hO) Bool.false_ne_true
    | term l es =>
      cases n with
      | zero => exact hO.elim
      | succ m =>
        obtain ⟨h1, h2, h3⟩ := hO
        have hjl := join_len (.term l es) (n := m + 1) ⟨h1, h2, h3⟩ hn (ls := wTerm :: quo l :: wrs es) rfl
        refine sSeq_of (sAsg_of (dI_of (dIx_of (dV_at rfl (dC_of (tupAt (i := 0) (d := .str "term") rfl ?_))))))
        dsimp only
        refine sSeq_of (sIf_of (eqS_f rfl (by decide) (twoF ?_)))
        refine sNext_seq (sSeq_of (sIf_of (eqS_f rfl (by decide) (twoF ?_))))
        refine sNext_seq (sSeq_of (sIf_of (eqS_f rfl (by decide) (twoF ?_))))
        refine sNext_seq (sSeq_of (sIf_of (eqS_t rfl rfl (twoT ?_))))
        refine sSeq_of (sAsg_of ?_)
        unfold dAddM
        refine dI_of (dLst_of (adCons_of (dC_of (adCons_of ?_))))
        refine call_quote (st := []) h1 ?_
        refine adNil_of ⟨by show 2 ≤ 1000000; decide, ?_⟩
        refine dI_of ?_
        unfold dLc iSq
        refine dIx_of (dV_at rfl (dC_of ?_))
        show lcB (eXs es) _ _ _ _ _ _ _
        rw [eXs_eq]
        refine lc_fn (as := es) (a := eX) (b := fun z : List Nat => D.str (S z)) wr (by omega) rfl (fun x hx Q q => ?_) ?_
        · exact call_wr (st := []) rfl (h3 x hx) (by omega) q
        · refine ⟨by rw [List.length_map, List.length_map]; show 2 + _ ≤ _; omega, ?_⟩
          have := wrEnd (E := EnD false 0 k ex) (ls := wTerm :: quo l :: wrs es) (x0 := some (.im (eX (.term l es)))) (x1 := some (.im (.str "term"))) (x2 := none) (x4 := none) (x5 := none) (by rw [wrs_eq]; show (es.map wr).length + 2 ≤ 100; rw [List.length_map]; omega) hjl hk
          rw [wrs_eq] at this
          exact this
    | frm hd as =>
      cases n with
      | zero => exact hO.elim
      | succ m =>
        have hO' := hO
        obtain ⟨f, hf, ha⟩ := hO
        have F := form_ok hf
        have hjl := join_len (.frm hd as) hO' hn (ls := hd :: wrs as) rfl
        have hlen := Fit_len ha
        have hl3 := F.l3
        refine sSeq_of (sAsg_of (dI_of (dIx_of (dV_at rfl (dC_of (tupAt (i := 0) (d := .str (S hd)) rfl ?_))))))
        dsimp only
        refine sSeq_of (sIf_of (eqS_f rfl F.ni (twoF ?_)))
        refine sNext_seq (sSeq_of (sIf_of (eqS_f rfl F.nt (twoF ?_))))
        refine sNext_seq (sSeq_of (sIf_of (eqS_f rfl F.nb (twoF ?_))))
        refine sNext_seq (sSeq_of (sIf_of (eqS_f rfl F.nm (twoF ?_))))
        refine sNext_seq (sSeq_of (sAsg_of (dI_of ?_)))
        show (match formsT.lookup (S hd) with | some v => _ | none => False)
        rw [F.tab]
        dsimp only [dvD]
        refine sSeq_of (sAsg_of (dLstM_of (adCons_of (dD_at rfl (adNil_of ⟨by show 1 ≤ 1000000; decide, ?_⟩)))))
        dsimp only
        refine sSeq_of ?_
        unfold sFor iRg1
        show (_ ≤ sizeLine) ∧ _
        refine ⟨by rw [S_len, sizeLine_eq]; omega, ?_⟩
        rw [S_len]
        refine ⟨by omega, by omega, ?_⟩
        rw [Int.toNat_natCast]
        refine ⟨fun i σ' st' => ∃ (x2 : Option W) (x5 : Option W), σ' = [some (.im (.tup (.str (S hd) :: eXs as))), some (.im (.str (S hd))), x2, some (.loc 0), some (.im (.str (S f))), x5] ∧ st' = [.lst (lsD (hd :: (as.take i).map wr))] ∧ (x2 = none ∨ ∃ d, x2 = some (.im d)) ∧ (x5 = none ∨ ∃ d, x5 = some (.im d)), ⟨none, none, rfl, rfl, .inl rfl, .inl rfl⟩, ?_, ?_⟩
        · rintro i d σ' st' hd' ⟨x2, x5, rfl, rfl, z2, z5⟩ -
          obtain ⟨hi, rfl⟩ := rgD_get hd'
          obtain ⟨c, hc⟩ : ∃ c, f[i]? = some c := ⟨f[i], List.getElem?_eq_getElem hi⟩
          obtain ⟨a, hga, hK⟩ := Fit_get ha hc
          obtain ⟨t1, _, _⟩ := takeGet hga
          rw [Int.zero_add]
          refine wrB_ok (as := as) (i := i) rfl (by omega) hK hga hc hl3 (by rw [List.length_cons, List.length_map, List.length_take]; omega) ?_
          refine ⟨_, _, rfl, ?_, .inr ⟨_, rfl⟩, .inr ⟨_, rfl⟩⟩
          rw [t1, List.map_append]
          rfl
        · rintro σ' st' ⟨x2, x5, rfl, rfl, z2, z5⟩ -
          rw [rgD_len, ← hlen, List.take_length, ← wrs_eq]
          exact wrEnd (E := EnD false 0 k ex) (ls := hd :: wrs as) (by rw [wrs_eq, List.length_cons, List.length_map]; omega) hjl hk
  · exact h.elim
end Dl.Ea
end

section
set_option maxHeartbeats 4000000
namespace Dl.Ea
open PySem PySem.Spec PyProof.Rows L2 Co PySem.StrLaws Dl.Ut PySem.NumText
theorem hd_t {z y : Str} {ds : List D} {σ : Sl} {st : Sto} {k : Bool → Sto → Prop} {ex : DX} (h : σ[0]? = some (some (.im (.tup (.str z :: ds))))) (e : z = y) (hk : k true st) : dCmp cEq (dI (dIx (dV 0) (dC (.int 0)))) (dI (dC (.str y))) σ st k ex := by
  refine dCmp_of (dI_of (dIx_of (dV_at h (dC_of (tupAt (i := 0) (d := .str z) rfl ?_)))))
  show k (decide (z = y)) st
  rw [decide_eq_true e]
  exact hk
theorem hd_f {z y : Str} {ds : List D} {σ : Sl} {st : Sto} {k : Bool → Sto → Prop} {ex : DX} (h : σ[0]? = some (some (.im (.tup (.str z :: ds))))) (e : z ≠ y) (hk : k false st) : dCmp cEq (dI (dIx (dV 0) (dC (.int 0)))) (dI (dC (.str y))) σ st k ex := by
  refine dCmp_of (dI_of (dIx_of (dV_at h (dC_of (tupAt (i := 0) (d := .str z) rfl ?_)))))
  show k (decide (z = y)) st
  rw [decide_eq_false e]
  exact hk
theorem toD_end (pre : Sto) (ds : List D) : toD (.loc pre.length) (pre ++ [.lst ds]) = some (.lst ds, pre ++ [.fz (.lst ds)]) := by
  unfold toD
  simp only [app_get, flat, app_set]
theorem seeW_end (pre : Sto) (ds : List D) : seeW (.loc pre.length) (pre ++ [.lst ds]) = some (.lst ds) := by
  unfold seeW
  simp only [app_get, flat]
theorem toksEnd {E : En} {i : Nat} {pre : Sto} {ls : List (List Nat)} {σ : Sl} (h : σ[1]? = some (some (.loc pre.length))) (hl : ls.length ≤ 10000) (hk : ∀ st, E.rt (.im (.lst (lsD (ls ++ [[41]])))) st) : sRet (dI (dOp fAdd (dD (dV 1)) (dLst (adCons (dC (.str ")")) adNil)))) E σ (pre ++ [.lst (lsD ls)]) := by
  refine sRet_of (dI_of (dOp_of ?_))
  unfold dD
  refine dV_at h ?_
  rw [toD_end]
  refine ⟨by show 1 ≤ 1000000; decide, ?_⟩
  refine ⟨by rw [lsD_len]; show _ + 1 ≤ _; omega, ?_⟩
  have := hk (pre ++ [.fz (.lst (lsD ls))])
  rw [← lsD_snoc] at this
  exact this
theorem addEnd {ta : DW} {pre : Sto} {ls ms : List (List Nat)} {σ : Sl} {k : W → Sto → Prop} {ex : DX} (h : σ[1]? = some (some (.loc pre.length))) (hl : ls.length + ms.length ≤ 1000000)
    (ha : ∀ k : W → Sto → Prop, k (.im (.lst (lsD ms))) (pre ++ [.lst (lsD ls)]) → ta σ (pre ++ [.lst (lsD ls)]) k ex) (hk : k (.loc (pre ++ [.lst (lsD ls)] : Sto).length) ((pre ++ [.lst (lsD ls)]) ++ [.lst (lsD (ls ++ ms))])) : dAddM (dV 1) ta σ (pre ++ [.lst (lsD ls)]) k ex := by
  unfold dAddM
  refine dV_at h (ha _ ?_)
  rw [seeW_end]
  show _ ∧ _
  refine ⟨by rw [lsD_len, lsD_len]; exact hl, ?_⟩
  have e : lsD ls ++ lsD ms = lsD (ls ++ ms) := by unfold lsD; rw [List.map_append]
  rw [e]
  exact hk
theorem tks_take {es : List Ex} {i : Nat} {x : Ex} (h : es[i]? = some x) : tks (es.take (i + 1)) = tks (es.take i) ++ tk x := by
  rw [tks_eq, tks_eq, flat_take h]
theorem tks_len {n : Nat} {as : List Ex} (h : ∀ x ∈ as, (tk x).length ≤ 6 * 4 ^ n) (hl : as.length ≤ 3) (hn : n ≤ 4) (i : Nat) : (tks (as.take i)).length ≤ 5000 := by
  rw [tks_eq]
  have b := flatB (f := tk) (B := 6 * 4 ^ n) (l := as.take i) fun x hx => h x (List.mem_of_mem_take hx)
  have h4 := pow4 hn
  have h5 : 6 * 4 ^ n * (as.take i).length ≤ 1536 * 3 := Nat.mul_le_mul (by omega) (by rw [List.length_take]; omega)
  omega
theorem Kd_tk {n c : Nat} {a : Ex} (h : Kd (Ok n) c a) : (tk a).length ≤ 6 * 4 ^ n := by
  have h4 : 1 ≤ 4 ^ n := Nat.one_le_iff_ne_zero.mpr (Nat.ne_of_gt (Nat.pow_pos (by decide)))
  unfold Kd at h
  split at h
  · exact (tk_ok h).2
  · split at h
    · obtain ⟨t, rfl, _⟩ := h; show 1 ≤ _; omega
    · obtain ⟨t, rfl, _⟩ := h; show 1 ≤ _; omega
def ltB (n : Nat) : DS := (sSeq (sAsg 2 (dI (dIx (dV 0) (dOp fAdd (dD (dV 4)) (dC (.int 1))))))
 (sIf (dCmp cEq (dI (dIx (dV 3) (dD (dV 4)))) (dI (dC (.str "E")))) (sAsg 1 (dAddM (dV 1) (dCall (pf_Ltoks n) (aCons (dV 2) aNil)))) (sApp (dV 1) (dD (dIfE (dCmp cEq (dI (dIx (dV 3) (dD (dV 4)))) (dI (dC (.str "T")))) (dCall pf_Lquoted (aCons (dV 2) aNil)) (dV 2))))))
theorem ltB_ok {n m i : Nat} {E : En} {hd f : List Nat} {as : List Ex} {c : Nat} {a : Ex} {x2 : Option W} {ls : List (List Nat)} {pre : Sto} (hn : n = m + 1) (hm : m ≤ 4) (hK : Kd (Ok m) c a) (hga : as[i]? = some a) (hc : f[i]? = some c) (hf : f.length ≤ 3) (hl : ls.length ≤ 10000)
    (hE : ∀ pre' : Sto, pre.length ≤ pre'.length → E.nx [some (.im (.tup (.str (S hd) :: eXs as))), some (.loc pre'.length), some (.im (eX a)), some (.im (.str (S f))), some (.im (.int (i : Nat)))] (pre' ++ [.lst (lsD (ls ++ tk a))])) :
    ltB n E [some (.im (.tup (.str (S hd) :: eXs as))), some (.loc pre.length), x2, some (.im (.str (S f))), some (.im (.int (i : Nat)))] (pre ++ [.lst (lsD ls)]) := by
  unfold ltB
  have hi : i < f.length := ltAt hc
  refine sSeq_of (sAsg_of (dI_of (dIx_of (dV_at rfl (dOp_of (dD_at rfl (dC_of (addI ?_))))))))
  refine tupAt (i := i + 1) (d := eX a) (by rw [eXs_eq, List.getElem?_cons_succ, List.getElem?_map, hga]; rfl) ?_
  dsimp only
  refine sIf_of (dCmp_of (dI_of (dIx_of (dV_at rfl (dD_at rfl ?_)))))
  refine strAt (l := f) rfl (by omega) hc ?_
  show two (decide ((⟨#[c]⟩ : Str) = "E")) _ _
  have app : ∀ (t : DD) (l : List Nat), tk a = [l] → (∀ k : D → Sto → Prop, k (.str (S l)) (pre ++ [.lst (lsD ls)]) → t [some (.im (.tup (.str (S hd) :: eXs as))), some (.loc pre.length), some (.im (eX a)), some (.im (.str (S f))), some (.im (.int (i : Nat)))] (pre ++ [.lst (lsD ls)]) k (exE E [some (.im (.tup (.str (S hd) :: eXs as))), some (.loc pre.length), some (.im (eX a)), some (.im (.str (S f))), some (.im (.int (i : Nat)))])) →
      sApp (dV 1) t E [some (.im (.tup (.str (S hd) :: eXs as))), some (.loc pre.length), some (.im (eX a)), some (.im (.str (S f))), some (.im (.int (i : Nat)))] (pre ++ [.lst (lsD ls)]) := fun t l e ht => by
    refine sApp_of (dV_at (w := .loc pre.length) rfl ⟨⟨_, seeW_end _ _⟩, ht _ ?_⟩)
    show (match (pre ++ [Ob.lst (lsD ls)])[pre.length]? with | some (.lst ds) => _ | _ => False)
    rw [app_get]
    refine ⟨by rw [lsD_len]; omega, ?_⟩
    rw [app_set, lsD_snoc, ← e]
    exact hE pre (Nat.le_refl _)
  refine oneD (fun h1 => ?_) fun h1 => ?_
  · have hc69 := (chE sE).mp h1
    have hK' := hK
    unfold Kd at hK
    rw [if_pos hc69] at hK
    have b := Kd_tk hK'
    have h4 := pow4 hm
    refine sAsg_of (addEnd (ms := tk a) rfl (by omega) (fun k hk => dCall_of (aCons_of (dV_at (w := .im (eX a)) rfl (aNil_of (call_Ltoks hn hK hm hk))))) ?_)
    have := hE (pre ++ [.lst (lsD ls)]) (by simp)
    exact this
  · have hc69 : c ≠ 69 := fun z => h1 ((chE sE).mpr z)
    unfold Kd at hK
    rw [if_neg hc69] at hK
    by_cases hc84 : c = 84
    · rw [if_pos hc84] at hK
      obtain ⟨t, rfl, h6⟩ := hK
      refine app _ (quo t) rfl fun k hk => ?_
      refine dIfE_of (dCmp_of (dI_of (dIx_of (dV_at rfl (dD_at rfl ?_)))))
      refine strAt (l := f) rfl (by omega) hc ?_
      show two (decide ((⟨#[c]⟩ : Str) = "T")) _ _
      refine oneD (fun h2 => ?_) fun h2 => absurd ((chE sT).mpr hc84) h2
      exact call_Lquoted h6 hk
    · rw [if_neg hc84] at hK
      obtain ⟨t, rfl, h6⟩ := hK
      refine app _ t rfl fun k hk => ?_
      refine dIfE_of (dCmp_of (dI_of (dIx_of (dV_at rfl (dD_at rfl ?_)))))
      refine strAt (l := f) rfl (by omega) hc ?_
      show two (decide ((⟨#[c]⟩ : Str) = "T")) _ _
      refine oneD (fun h2 => absurd ((chE sT).mp h2) hc84) fun h2 => ?_
      exact hk
theorem r_Ltokens {n : Nat} : ∀ ws st k ex, pf_Ltoks (n + 1) ws st k ex → t_Ltokens n (EnD false st.length k ex) (startD N_Ltokens ws) st := by
  intro ws st k ex h
  unfold pf_Ltoks at h
  split at h
  · obtain ⟨e, m, hm, rfl, hO, hn, hk⟩ := h
    cases hm
    unfold t_Ltokens
    cases e with
    | num i =>
      have hi : i.natAbs ≤ 1000000 := by cases n <;> exact hO
      refine sSeq_of (sIf_of (hd_t (z := "integer") rfl rfl (twoT ?_)))
      exact ⟨log6 hi, by show 1 ≤ 1000000; decide, hk⟩
    | txt t =>
      have hi : t.length ≤ 60 := by cases n <;> exact hO
      refine sSeq_of (sIf_of (hd_f (z := "text") rfl (by decide) (twoF ?_)))
      refine sNext_seq (sSeq_of (sIf_of (hd_t (z := "text") rfl rfl (twoT ?_))))
      refine sRet_of (dI_of (dLst_of (adCons_of ?_)))
      exact call_Lquoted (st := []) hi ⟨by show 1 ≤ 1000000; decide, hk⟩
    | bl b =>
      refine sSeq_of (sIf_of (hd_f (z := "boolean") rfl (by decide) (twoF ?_)))
      refine sNext_seq (sSeq_of (sIf_of (hd_f (z := "boolean") rfl (by decide) (twoF ?_))))
      refine sNext_seq (sSeq_of (sIf_of (hd_t (z := "boolean") rfl rfl (twoT ?_))))
      refine sRet_of (dI_of (dLst_of (adCons_of ?_)))
      cases b
      · exact two_f (by rfl) ⟨by show 1 ≤ 1000000; decide, hk⟩
      · exact two_t (by rfl) ⟨by show 1 ≤ 1000000; decide, hk⟩
    | nm t => exact absurd (show false = true from Ok_isE hO) Bool.false_ne_true
    | qt t => exact absurd (show false = true from Ok_isE hO) Bool.false_ne_true
    | term l es =>
      cases n with
      | zero => exact hO.elim
      | succ m =>
        obtain ⟨h1, h2, h3⟩ := hO
        refine sSeq_of (sIf_of (hd_f (z := "term") rfl (by decide) (twoF ?_)))
        refine sNext_seq (sSeq_of (sIf_of (hd_f (z := "term") rfl (by decide) (twoF ?_))))
        refine sNext_seq (sSeq_of (sIf_of (hd_f (z := "term") rfl (by decide) (twoF ?_))))
        refine sNext_seq (sSeq_of (sIf_of (hd_t (z := "term") rfl rfl (twoT ?_))))
        refine sSeq_of (sAsg_of (dLstM_of (adCons_of (dC_of (adCons_of (dC_of (adCons_of ?_)))))))
        refine call_Lquoted (st := []) h1 ?_
        refine adNil_of ⟨by show 3 ≤ 1000000; decide, ?_⟩
        dsimp only
        refine sSeq_of ?_
        unfold sForK iSq
        refine dIx_of (dV_at rfl (dC_of ?_))
        show ∃ I, _
        have bl := fun i => tks_len (n := m) (as := es) (fun x hx => (tk_ok (h3 x hx)).2) (by omega) (by omega) i
        refine ⟨fun i σ' st' => ∃ (pre : Sto) (x2 : Option W), σ' = [some (.im (eX (.term l es))), some (.loc pre.length), x2, none, none] ∧ st' = pre ++ [.lst (lsD ([40] :: wTerm :: quo l :: tks (es.take i)))], ⟨[], none, rfl, rfl⟩, ?_, ?_⟩
        · rintro i d σ' st' hd' ⟨pre, x2, rfl, rfl⟩ -
          rw [eXs_eq, List.getElem?_map] at hd'
          cases hx : es[i]? with
          | none => rw [hx] at hd'; cases hd'
          | some x =>
            rw [hx] at hd'
            cases hd'
            have hxm := h3 x (List.mem_of_getElem? hx)
            have b2 := (tk_ok hxm).2
            have h4 := pow4 (n := m) (by omega)
            have b3 := bl i
            show sAsg 1 (dAddM (dV 1) (dCall (pf_Ltoks (m + 1)) (aCons (dV 2) aNil))) _ [some (.im (eX (.term l es))), some (.loc pre.length), some (.im (eX x)), none, none] _
            refine sAsg_of (addEnd (ms := tk x) rfl (by simp only [List.length_cons]; omega) (fun k hk => dCall_of (aCons_of (dV_at (w := .im (eX x)) rfl (aNil_of (call_Ltoks rfl hxm (by omega) hk))))) ?_)
            refine ⟨pre ++ [.lst (lsD ([40] :: wTerm :: quo l :: tks (es.take i)))], _, rfl, ?_⟩
            rw [tks_take hx]
            rfl
        · rintro σ' st' ⟨pre, x2, rfl, rfl⟩ -
          rw [eXs_eq, List.length_map, List.take_length]
          have b3 := bl es.length
          rw [List.take_length] at b3
          dsimp only
          refine toksEnd (i := 0) rfl (by simp only [List.length_cons]; omega) fun st => ?_
          exact hk
    | frm hd as =>
      cases n with
      | zero => exact hO.elim
      | succ m =>
        obtain ⟨f, hf, ha⟩ := hO
        have F := form_ok hf
        have hlen := Fit_len ha
        have hl3 := F.l3
        have bl := fun i => tks_len (n := m) (as := as) (fun x hx => by
          obtain ⟨c, _, hK⟩ := Fit_mem ha hx
          exact Kd_tk hK) (by omega) (by omega) i
        refine sSeq_of (sIf_of (hd_f (z := S hd) rfl F.ni (twoF ?_)))
        refine sNext_seq (sSeq_of (sIf_of (hd_f (z := S hd) rfl F.nt (twoF ?_))))
        refine sNext_seq (sSeq_of (sIf_of (hd_f (z := S hd) rfl F.nb (twoF ?_))))
        refine sNext_seq (sSeq_of (sIf_of (hd_f (z := S hd) rfl F.nm (twoF ?_))))
        refine sNext_seq (sSeq_of (sAsg_of (dLstM_of (adCons_of (dC_of (adCons_of (dIx_of (dV_at rfl (dC_of (tupAt (i := 0) (d := .str (S hd)) rfl (adNil_of ⟨by show 2 ≤ 1000000; decide, ?_⟩)))))))))))
        dsimp only
        refine sSeq_of (sAsg_of (dI_of ?_))
        unfold dGet
        refine call_Lforms ?_
        refine dIx_of (dV_at rfl (dC_of (tupAt (i := 0) (d := .str (S hd)) rfl ?_)))
        show (match getK (formsP.map fun p => (Sum.inr p.1 : Key)) (formsP.map fun p => D.str p.2) (Sum.inr (S hd)) with | some d => _ | none => False)
        rw [F.get]
        dsimp only
        refine sSeq_of ?_
        unfold sForK iRg1
        show (_ ≤ sizeLine) ∧ _
        refine ⟨by rw [S_len, sizeLine_eq]; omega, ?_⟩
        rw [S_len]
        refine ⟨by omega, by omega, ?_⟩
        rw [Int.toNat_natCast]
        refine ⟨fun i σ' st' => ∃ (pre : Sto) (x2 x4 : Option W), σ' = [some (.im (.tup (.str (S hd) :: eXs as))), some (.loc pre.length), x2, some (.im (.str (S f))), x4] ∧ st' = pre ++ [.lst (lsD ([40] :: hd :: tks (as.take i)))], ⟨[], none, none, rfl, rfl⟩, ?_, ?_⟩
        · rintro i d σ' st' hd' ⟨pre, x2, x4, rfl, rfl⟩ -
          obtain ⟨hi, rfl⟩ := rgD_get hd'
          obtain ⟨c, hc⟩ : ∃ c, f[i]? = some c := ⟨f[i], List.getElem?_eq_getElem hi⟩
          obtain ⟨a, hga, hK⟩ := Fit_get ha hc
          rw [Int.zero_add]
          have b3 := bl i
          refine ltB_ok (as := as) (i := i) rfl (by omega) hK hga hc hl3 (by simp only [List.length_cons]; omega) fun pre' hp => ?_
          refine ⟨pre', _, _, rfl, ?_⟩
          rw [tks_take hga]
          rfl
        · rintro σ' st' ⟨pre, x2, x4, rfl, rfl⟩ -
          rw [rgD_len, ← hlen, List.take_length]
          have b3 := bl as.length
          rw [List.take_length] at b3
          dsimp only
          refine toksEnd (i := 0) rfl (by simp only [List.length_cons]; omega) fun st => ?_
          exact hk
  · exact h.elim
end Dl.Ea
end

section
set_option maxHeartbeats 4000000
namespace Dl.Ea
open PySem PySem.Spec PyProof.Rows L2 Co PySem.StrLaws Dl.Ut PySem.NumText
theorem S_inj {a b : List Nat} : (S a = S b) ↔ a = b := by
  constructor
  · intro h
    have := congrArg (fun z : Str => z.cps.toList) h
    exact this
  · rintro rfl; rfl
def prv (p : List Nat) (ls : List (List Nat)) : Nat → List Nat
  | 0 => p
  | i + 1 => ls.getD i []
theorem can_get : ∀ {ls : List (List Nat)} {p t : List Nat} {i : Nat}, ls[i]? = some t → (can p ls)[i]? = some (if prv p ls i = [40] ∨ t = [41] then [] else [32], t)
  | [], _, _, _, h => by cases h
  | u :: r, p, t, 0, h => by cases h; rfl
  | u :: r, p, t, i + 1, h => by
    show (can u r)[i]? = _
    rw [can_get (ls := r) (p := u) (t := t) (i := i) h]
    cases i <;> rfl
theorem can_len (p : List Nat) (ls : List (List Nat)) : (can p ls).length = ls.length := by rw [← List.length_map (f := (·.2)), can_map]
theorem lay_take {q : Sm} {i : Nat} {x : List Nat × List Nat} (h : q[i]? = some x) : lay (q.take (i + 1)) = lay (q.take i) ++ (x.1 ++ x.2) := flat_take h
theorem lay_take_len {B : Nat} {q : Sm} (h : ∀ p ∈ q, p.1.length + p.2.length ≤ B) (i : Nat) : (lay (q.take i)).length ≤ B * q.length := by
  have := lay_len (q := q.take i) fun p hp => h p (List.mem_of_mem_take hp)
  have h2 : B * (q.take i).length ≤ B * q.length := Nat.mul_le_mul_left _ (by rw [List.length_take]; omega)
  omega
theorem lsD_get {ls : List (List Nat)} {i : Nat} {t : List Nat} (h : ls[i]? = some t) : (lsD ls)[i]? = some (.str (S t)) := by
  unfold lsD
  rw [List.getElem?_map, h]
  rfl
theorem r_Lwritten : ∀ ws st k ex, pf_Lwritten ws st k ex → t_Lwritten (EnD false st.length k ex) (startD N_Lwritten ws) st := by
  intro ws st k ex h
  unfold pf_Lwritten at h
  split at h
  · obtain ⟨ls, rfl, hl, hb, hk⟩ := h
    unfold t_Lwritten
    refine sSeq_of (sAsg_of (dI_of (dC_of ?_)))
    dsimp only
    refine sSeq_of ?_
    unfold sFor iRg1
    refine ⟨by omega, by rw [lsD_len]; omega, ?_⟩
    rw [lsD_len, Int.toNat_natCast]
    have cg := can_gap (p := [40]) (B := 200) hb
    have tl := fun i => lay_take_len (q := can [40] ls) cg i
    have cn : 201 * (can [40] ls).length ≤ 201 * 10000 := Nat.mul_le_mul_left _ (by rw [can_len]; omega)
    refine ⟨fun i σ' st' => ∃ x2 : Option D, σ' = [some (.im (.lst (lsD ls))), some (.im (.str (S (lay ((can [40] ls).take i))))), x2.map .im] ∧ st' = [], ⟨none, rfl, rfl⟩, ?_, ?_⟩
    · rintro i d σ' st' hd' ⟨x2, rfl, rfl⟩ -
      obtain ⟨hi, rfl⟩ := rgD_get hd'
      rw [Int.zero_add]
      obtain ⟨t, ht⟩ : ∃ t, ls[i]? = some t := ⟨ls[i], List.getElem?_eq_getElem hi⟩
      have hc := can_get (p := [40]) ht
      have hstep := lay_take hc
      have b0 := tl i
      have b1 := tl (i + 1)
      have tb := hb t (List.mem_of_getElem? ht)
      have fin : ∀ (E : En) (g : List Nat), (if prv [40] ls i = [40] ∨ t = [41] then [] else [32]) = g → g.length ≤ 1 → (E.nx [some (.im (.lst (lsD ls))), some (.im (.str (S (lay ((can [40] ls).take (i + 1)))))), some (.im (.int (i : Nat)))] []) →
          sAsg 1 (dI (dOp fAdd (dD (dV 1)) (dIx (dV 0) (dD (dV 2))))) E [some (.im (.lst (lsD ls))), some (.im (.str (S (lay ((can [40] ls).take i) ++ g)))), some (.im (.int (i : Nat)))] [] := fun E g hg gl hE => by
        refine sAsg_of (dI_of (dOp_of (dD_at rfl (dIx_of (dV_at rfl (dD_at rfl (lstAt (lsD_get ht) ?_)))))))
        refine ⟨by rw [S_len, S_len, List.length_append, sizeLine_eq]; omega, ?_⟩
        rw [hstep, hg] at hE
        rw [Sapp, List.append_assoc]
        exact hE
      show sSeq _ _ _ [some (.im (.lst (lsD ls))), some (.im (.str (S (lay ((can [40] ls).take i))))), some (.im (.int (i : Nat)))] []
      refine sSeq_of (sIf_of (dAnd_of ?_))
      show two (decide ((0 : Int) < (i : Int))) _ _
      have done : ∀ (E : En), (E.nx [some (.im (.lst (lsD ls))), some (.im (.str (S (lay ((can [40] ls).take (i + 1)))))), some (.im (.int (i : Nat)))] []) → (prv [40] ls i = [40] ∨ t = [41]) →
          sAsg 1 (dI (dOp fAdd (dD (dV 1)) (dIx (dV 0) (dD (dV 2))))) E [some (.im (.lst (lsD ls))), some (.im (.str (S (lay ((can [40] ls).take i))))), some (.im (.int (i : Nat)))] [] := fun E hE z => by
        have := fin E [] (if_pos z) (by simp) hE
        rw [List.append_nil] at this
        exact this
      refine oneD (fun h0 => ?_) fun h0 => ?_
      · obtain ⟨j, rfl⟩ : ∃ j, i = j + 1 := ⟨i - 1, by omega⟩
        refine dAnd_of (dCmp_of (dI_of (dIx_of (dV_at rfl (dD_at rfl (lstAt (lsD_get ht) (dI_of (dC_of ?_))))))))
        show two (!decide (S t = ")")) _ _
        refine notD (fun h1 => ?_) fun h1 => ?_
        · obtain ⟨u, hu⟩ : ∃ u, ls[j]? = some u := ⟨ls[j], List.getElem?_eq_getElem (by omega)⟩
          refine dCmp_of (dI_of (dIx_of (dV_at rfl (dOp_of (dD_at rfl (dC_of (subI ?_)))))))
          rw [show ((j + 1 : Nat) : Int) - 1 = (j : Int) by omega]
          refine lstAt (lsD_get hu) (dI_of (dC_of ?_))
          show two (!decide (S u = "(")) _ _
          have pu : prv [40] ls (j + 1) = u := by
            show ls.getD j [] = u
            rw [List.getD_eq_getElem?_getD, hu]
            rfl
          refine notD (fun h2 => ?_) fun h2 => ?_
          · refine sAsg_of (dI_of (dOp_of (dD_at rfl (dC_of ⟨by show _ + 1 ≤ _; rw [S_len, sizeLine_eq]; omega, ?_⟩))))
            dsimp only
            rw [show (" " : Str) = S [32] from rfl, Sapp]
            refine fin _ [32] (if_neg (fun z => z.elim (fun z => h2 (by rw [← pu, z]; rfl)) (fun z => h1 (by rw [z]; rfl)))) (by simp) ?_
            exact ⟨some (.int ((j + 1 : Nat) : Int)), rfl, rfl⟩
          · exact sNext_seq (done _ ⟨some (.int ((j + 1 : Nat) : Int)), rfl, rfl⟩ (.inl (by rw [pu]; exact S_inj.mp h2)))
        · exact twoF (sNext_seq (done _ ⟨some (.int ((j + 1 : Nat) : Int)), rfl, rfl⟩ (.inr (S_inj.mp h1))))
      · refine twoF (sNext_seq (done _ ⟨some (.int (i : Int)), rfl, rfl⟩ (.inl ?_)))
        cases i with
        | zero => rfl
        | succ j => omega
    · rintro σ' st' ⟨x2, rfl, rfl⟩ -
      rw [rgD_len, ← can_len [40] ls, List.take_length]
      exact hk
  · exact h.elim
end Dl.Ea
end

section
set_option maxHeartbeats 4000000
namespace Dl.Ea
open PySem PySem.Spec PyProof.Rows L2 Co PySem.StrLaws Dl.Ut PySem.NumText
theorem mem2 {x y z : List Nat} {sy sz : Str} (hy : sy = S y) (hz : sz = S z) : memD (.str (S x)) [.str sy, .str sz] = decide (y = x ∨ z = x) := by
  subst hy hz
  unfold memD
  simp only [List.any_cons, List.any_nil, Bool.or_false, eqvD]
  have h : ∀ a : List Nat, (S a == S x) = decide (a = x) := fun a => by
    by_cases e : a = x
    · subst e; simp
    · rw [decide_eq_false e]
      exact beq_eq_false_iff_ne.mpr fun z => e (S_inj.mp z)
  rw [h, h]
  simp
theorem r_Lgap : ∀ ws st k ex, pf_Lgap ws st k ex → t_Lgap (EnD false st.length k ex) (startD N_Lgap ws) st := by
  intro ws st k ex h
  unfold pf_Lgap at h
  split at h
  · obtain ⟨l, r, rfl, rfl, hl0, hr0, hl1, hr1, hk⟩ := h
    unfold t_Lgap
    refine sSeq_of (sAsg_of (dI_of ?_))
    refine ⟨rfl, aCons_of (dI_of ?_)⟩
    unfold dLc iRg1
    refine takeU (r := []) (by decide) (by decide) fun n hn => ?_
    refine ⟨by omega, by omega, ?_⟩
    rw [Int.toNat_natCast]
    refine lc_all (fun _ d => ∃ c, d = .str (S [c]) ∧ isBk c = true) (by rw [rgD_len]; omega) rfl (fun i d hd Q hQ => ?_) fun ys hl hy => ?_
    · refine dIx_of (dI_of (dTup_of (adCons_of (dC_of (adCons_of (dC_of (adNil_of ⟨by decide, ?_⟩)))))))
      refine takeU (r := []) (by decide) (by decide) fun a ha => ?_
      match a, ha with
      | 0, _ => exact tupAt (d := .str " ") rfl (hQ _ ⟨32, rfl, rfl⟩)
      | 1, _ => exact tupAt (d := .str "\x0a") rfl (hQ _ ⟨10, rfl, rfl⟩)
      | a + 2, ha => omega
    · rw [rgD_len] at hl
      obtain ⟨g, rfl, hc, hn2⟩ := strs_of hy
      refine aNil_of (join1 (by omega) ?_)
      dsimp only
      have hg : g.all isBk = true := List.all_eq_true.mpr hc
      have fin : (g = [] → shut l ∨ shut r) → sRet (dV 3) (EnD false 1 k ex) [some (.loc 0), some (.im (.str (S l))), some (.im (.str (S r))), some (.im (.str (S g))), none] [.pool] := fun z => hk g ⟨by omega, hg, z⟩
      refine sSeq_of (sIf_of (dAnd_of ?_))
      show two (decide (S g = "")) _ _
      refine oneD (fun h1 => ?_) fun h1 => twoF (sNext_seq (fin fun z => absurd (by rw [z]; rfl) h1))
      have hg0 : g = [] := S_inj.mp h1
      refine dAnd_of ?_
      refine ⟨by show 2 ≤ 1000000; decide, rfl, rfl, ?_⟩
      rw [mem2 (sy := "(") (sz := ")") (y := [40]) (z := [41]) rfl rfl]
      refine notD (fun h2 => ?_) fun h2 => twoF (sNext_seq (fin fun _ => .inl (by rcases h2 with h2 | h2; exact ⟨[], .inl h2.symm⟩; exact ⟨[], .inr (.inl h2.symm)⟩)))
      refine dAnd_of ?_
      refine ⟨by show 2 ≤ 1000000; decide, rfl, rfl, ?_⟩
      rw [mem2 (sy := "(") (sz := ")") (y := [40]) (z := [41]) rfl rfl]
      refine notD (fun h3 => ?_) fun h3 => twoF (sNext_seq (fin fun _ => .inr (by rcases h3 with h3 | h3; exact ⟨[], .inl h3.symm⟩; exact ⟨[], .inr (.inl h3.symm)⟩)))
      obtain ⟨a, l', rfl⟩ : ∃ a l', l = a :: l' := by cases l with | nil => exact absurd rfl hl0 | cons a l' => exact ⟨a, l', rfl⟩
      obtain ⟨b, r', rfl⟩ : ∃ b r', r = b :: r' := by cases r with | nil => exact absurd rfl hr0 | cons b r' => exact ⟨b, r', rfl⟩
      refine dCmp_of (dI_of (dC_of (dI_of (dTup_of (adCons_of (dIx_of (dV_at rfl (dC_of ?_))))))))
      refine strAt (l := a :: l') (i := 0) rfl (by omega) rfl ?_
      refine adCons_of (dIx_of (dV_at rfl (dC_of ?_)))
      refine strAt (l := b :: r') (i := 0) rfl (by omega) rfl ?_
      refine adNil_of ⟨by show 2 ≤ 1000000; decide, rfl, rfl, ?_⟩
      rw [show ("\"" : Str) = S [34] from rfl, mem2 (y := [a]) (z := [b]) rfl rfl]
      refine notD (fun h4 => ?_) fun h4 => sNext_seq (fin fun _ => by
        rcases h4 with h4 | h4
        · have : a = 34 := (List.cons.inj h4).1
          exact .inl ⟨l', .inr (.inr (by rw [this]))⟩
        · have : b = 34 := (List.cons.inj h4).1
          exact .inr ⟨r', .inr (.inr (by rw [this]))⟩)
      exact hk [32] ⟨by decide, by decide, fun z => by cases z⟩
  · exact h.elim
theorem call_Lgap {l r : List Nat} {rs : Sto} {k : W → Sto → Prop} {ex : DX} (hl : l ≠ []) (hr : r ≠ []) (hl1 : l.length ≤ 1000) (hr1 : r.length ≤ 1000) (h : ∀ g, GapOk l r g → k (.im (.str (S g))) (.pool :: rs)) : callD pf_Lgap [0] [.loc 0, .im (.str (S l)), .im (.str (S r))] (.pool :: rs) k ex := ⟨rfl, l, r, rfl, rfl, hl, hr, hl1, hr1, fun g hg => by
  show k _ (back [0] (.pool :: rs) [.pool])
  rw [backP]
  exact h g hg⟩
theorem Gd_one {g t : List Nat} (h : Tok t) (hg : g.all isBk = true) : Gd [(g, t)] := ⟨hg, h.1, h.2⟩
theorem Gd_snoc : ∀ {q : Sm} {g t g' t' : List Nat}, Gd (q ++ [(g, t)]) → Tok t' → g'.all isBk = true → (g' = [] → shut t ∨ shut t') → Gd ((q ++ [(g, t)]) ++ [(g', t')])
  | [], g, t, g', t', h, ht, hg, hs => ⟨h.1, h.2.1, h.2.2, hs, hg, ht.1, ht.2⟩
  | [(a, b)], g, t, g', t', h, ht, hg, hs => ⟨h.1, h.2.1, h.2.2.1, h.2.2.2.1, Gd_snoc (q := []) h.2.2.2.2 ht hg hs⟩
  | (a, b) :: (c, d) :: r, g, t, g', t', h, ht, hg, hs => ⟨h.1, h.2.1, h.2.2.1, h.2.2.2.1, Gd_snoc (q := (c, d) :: r) h.2.2.2.2 ht hg hs⟩
theorem lay_snoc (q : Sm) (g t : List Nat) : lay (q ++ [(g, t)]) = lay q ++ g ++ t := by
  unfold lay
  rw [List.flatMap_append]
  simp
theorem places_snoc : ∀ (q : Sm) (i : Nat) (g t : List Nat), places i (q ++ [(g, t)]) = places i q ++ [i + (lay q ++ g).length]
  | [], i, g, t => by simp [places, lay]
  | (a, b) :: r, i, g, t => by
    show (i + a.length) :: places (i + a.length + b.length) (r ++ [(g, t)]) = (i + a.length) :: (places (i + a.length + b.length) r ++ _)
    rw [places_snoc r, show lay ((a, b) :: r) = (a ++ b) ++ lay r from rfl]
    simp only [List.length_append]
    rw [show i + a.length + b.length + ((lay r).length + g.length) = i + (a.length + b.length + (lay r).length + g.length) by omega]
def lyS (ls : List (List Nat)) (t : List Nat) (x4 : Option D) : Sl := [some (.loc 0), some (.im (.lst (lsD ls))), some (.im (.str (S t))), some (.loc 1), x4.map .im]
theorem r_Llayout : ∀ ws st k ex, pf_Llayout ws st k ex → t_Llayout (EnD false st.length k ex) (startD N_Llayout ws) st := by
  intro ws st k ex h
  unfold pf_Llayout at h
  split at h
  · obtain ⟨ls, rfl, h0, hl, hb, hk⟩ := h
    unfold t_Llayout
    refine sSeq_of (sAsg_of (dCall_of (aCons_of (dV_at (w := .loc 0) rfl (aCons_of (dI_of (dC_of (aCons_of (dI_of (dC_of (aNil_of ?_))))))))))) 
    refine call_Lgap (l := [40]) (r := [40]) (rs := []) (by simp) (by simp) (by decide) (by decide) fun g0 hg0 => ?_
    dsimp only
    refine sSeq_of (sAsg_of (dLstM_of (adNil_of ⟨Nat.zero_le _, ?_⟩)))
    dsimp only
    refine sSeq_of ?_
    unfold sFor iRg1
    refine ⟨by omega, by rw [lsD_len]; omega, ?_⟩
    rw [lsD_len, Int.toNat_natCast]
    obtain ⟨t0, ht0⟩ : ∃ t0, ls[0]? = some t0 := by
      cases ls with
      | nil => exact absurd rfl h0
      | cons a r => exact ⟨a, rfl⟩
    refine ⟨fun i σ' st' => ∃ (q : Sm) (g : List Nat) (x4 : Option D), σ' = lyS ls (lay q ++ g) x4 ∧ st' = [.pool, .lst ((places 0 q).map fun i : Nat => .int i)] ∧ q.map (·.2) = ls.take i ∧ i ≤ ls.length ∧ Gd q ∧ (∀ p ∈ q, p.1.length ≤ 3) ∧ g.length ≤ 3 ∧ (∀ t, ls[i]? = some t → Gd (q ++ [(g, t)])) ∧ (ls.length ≤ i → g = []),
      ⟨[], g0, none, rfl, rfl, rfl, Nat.zero_le _, trivial, fun _ z => (by cases z), hg0.1, fun t ht => Gd_one (hb t (List.mem_of_getElem? ht)).1 hg0.2.1, fun z => absurd (ltAt ht0) (by omega)⟩, ?_, ?_⟩
    · rintro i d σ' st' hd' ⟨q, g, x4, rfl, rfl, hq, hi', hG, h3, hg3, hGn, _⟩ -
      obtain ⟨hi, rfl⟩ := rgD_get hd'
      rw [Int.zero_add]
      obtain ⟨t, ht⟩ : ∃ t, ls[i]? = some t := ⟨ls[i], List.getElem?_eq_getElem hi⟩
      have tb := hb t (List.mem_of_getElem? ht)
      have hql : q.length = i := by
        have := congrArg List.length hq
        rw [List.length_map, List.length_take] at this
        omega
      have b0 := lay_len (B := 203) (q := q) fun p hp => by
        have h1 := h3 p hp
        have h2 : p.2 ∈ ls := List.mem_of_mem_take (hq ▸ List.mem_map.mpr ⟨p, hp, rfl⟩)
        have := (hb _ h2).2
        omega
      have b1 : 203 * q.length ≤ 203 * 2000 := Nat.mul_le_mul_left _ (by omega)
      show sSeq _ _ _ (lyS ls (lay q ++ g) (some (.int (i : Nat)))) _
      refine sSeq_of (sApp_of (dV_at (w := .loc 1) rfl ⟨⟨_, rfl⟩, ?_⟩))
      refine ⟨by rw [S_len, List.length_append, sizeLine_eq]; omega, ?_⟩
      have hpl : ((places 0 q).map fun i : Nat => D.int i).length ≤ 1000000 := by
        have : ∀ (q : Sm) (j : Nat), (places j q).length = q.length := fun q => by
          induction q with
          | nil => intro j; rfl
          | cons p r ih => intro j; obtain ⟨a, b⟩ := p; show (places _ r).length + 1 = _; rw [ih]; rfl
        rw [List.length_map, this]; omega
      refine ⟨hpl, ?_⟩
      rw [S_len]
      have hp2 : ((places 0 q).map fun i : Nat => D.int i) ++ [D.int ((lay q ++ g).length : Nat)] = (places 0 (q ++ [(g, t)])).map fun i : Nat => D.int i := by
        rw [places_snoc, List.map_append, Nat.zero_add]
        rfl
      dsimp only
      refine sSeq_of (sAsg_of (dI_of (dOp_of (dD_at rfl (dIx_of (dV_at rfl (dD_at rfl (lstAt (lsD_get ht) ?_))))))))
      refine ⟨by rw [S_len, S_len, List.length_append, sizeLine_eq]; omega, ?_⟩
      rw [Sapp]
      have hl2 : lay (q ++ [(g, t)]) = (lay q ++ g) ++ t := lay_snoc q g t
      have hq2 : (q ++ [(g, t)]).map (·.2) = ls.take (i + 1) := by
        rw [List.map_append, hq, (takeGet ht).1]
        rfl
      have hG2 := hGn t ht
      have h32 : ∀ p ∈ q ++ [(g, t)], p.1.length ≤ 3 := fun p hp => by
        rcases List.mem_append.mp hp with hp | hp
        · exact h3 p hp
        · rw [List.mem_singleton.mp hp]; exact hg3
      dsimp only
      refine sIf_of (dCmp_of (dI_of (dOp_of (dD_at rfl (dC_of (addI ?_))))))
      show two (decide ((i : Int) + 1 < ((lsD ls).length : Nat))) _ _
      rw [lsD_len]
      have st2 : ∀ g' : List Nat, g'.length ≤ 3 → (∀ t', ls[i + 1]? = some t' → Gd ((q ++ [(g, t)]) ++ [(g', t')])) → (ls.length ≤ i + 1 → g' = []) → ∃ (q' : Sm) (g'' : List Nat) (x4 : Option D), lyS ls ((lay q ++ g) ++ t ++ g') (some (.int (i : Nat))) = lyS ls (lay q' ++ g'') x4 ∧ ([.pool, .lst (((places 0 q).map fun i : Nat => D.int i) ++ [D.int ((lay q ++ g).length : Nat)])] : Sto) = [.pool, .lst ((places 0 q').map fun i : Nat => .int i)] ∧ q'.map (·.2) = ls.take (i + 1) ∧ i + 1 ≤ ls.length ∧ Gd q' ∧ (∀ p ∈ q', p.1.length ≤ 3) ∧ g''.length ≤ 3 ∧ (∀ t, ls[i + 1]? = some t → Gd (q' ++ [(g'', t)])) ∧ (ls.length ≤ i + 1 → g'' = []) := fun g' z1 z2 z3 =>
        ⟨q ++ [(g, t)], g', some (.int (i : Nat)), by rw [hl2], by rw [hp2], hq2, hi, hG2, h32, z1, z2, z3⟩
      refine oneD (fun h1 => ?_) fun h1 => ?_
      · obtain ⟨t', ht'⟩ : ∃ t', ls[i + 1]? = some t' := ⟨ls[i + 1]'(by omega), List.getElem?_eq_getElem _⟩
        have tb' := hb t' (List.mem_of_getElem? ht')
        refine sAsg_of (dI_of (dOp_of (dD_at rfl ?_)))
        refine dCall_of (aCons_of (dV_at (w := .loc 0) rfl (aCons_of (dI_of (dIx_of (dV_at rfl (dD_at rfl (lstAt (lsD_get ht) ?_))))))))
        refine aCons_of (dI_of (dIx_of (dV_at rfl (dOp_of (dD_at rfl (dC_of (addI ?_)))))))
        refine lstAt (i := i + 1) (lsD_get ht') (aNil_of ?_)
        refine call_Lgap (l := t) (r := t') (rs := [.lst (((places 0 q).map fun i : Nat => D.int i) ++ [D.int ((lay q ++ g).length : Nat)])]) tb.1.1 tb'.1.1 (by omega) (by omega) fun g' hg' => ?_
        refine ⟨by rw [S_len, S_len, List.length_append, List.length_append, sizeLine_eq]; have := hg'.1; omega, ?_⟩
        have := st2 g' hg'.1 (fun u hu => by
          rw [ht'] at hu
          cases hu
          exact Gd_snoc hG2 tb'.1 hg'.2.1 hg'.2.2) (fun z => by omega)
        rw [Sapp]
        exact this
      · have := st2 [] (by simp) (fun u hu => absurd (ltAt hu) (by omega)) (fun _ => rfl)
        rw [List.append_nil] at this
        exact sNext_of this
    · rintro σ' st' ⟨q, g, x4, rfl, rfl, hq, hi', hG, h3, hg3, hGn, hge⟩ -
      rw [rgD_len] at hq hge hi'
      rw [hge (Nat.le_refl _), List.append_nil]
      rw [List.take_length] at hq
      exact ⟨by show 2 ≤ 1000000; decide, hk q hG hq h3⟩
  · exact h.elim
end Dl.Ea
end

section
set_option maxHeartbeats 4000000
namespace Dl.Ea
open PySem PySem.Spec PyProof.Rows L2 Co PySem.StrLaws Dl.Ut PySem.NumText
theorem S_le {t : List Nat} {n : Nat} (h : t.length ≤ n) (h2 : n ≤ 10000000) : (S t).length ≤ sizeLine := by rw [S_len, sizeLine_eq]; omega
section
variable {t : List Nat} {i : Nat} {d m : Int} {r : Sto} {σ : Sl} {E : En} {k : W → Sto → Prop} {ex : DX}
theorem fld_at (h : σ[0]? = some (some (.loc 0))) (hk : k (.im (.int (i : Nat))) (rd t i d m :: r)) : dFld "Reader" "at" (dV 0) σ (rd t i d m :: r) k ex := by
  unfold dFld
  refine dV_at (w := .loc 0) h ?_
  exact ⟨rfl, hk⟩
theorem fld_text (h : σ[0]? = some (some (.loc 0))) (hk : k (.im (.str (S t))) (rd t i d m :: r)) : dFld "Reader" "text" (dV 0) σ (rd t i d m :: r) k ex := by
  unfold dFld
  refine dV_at (w := .loc 0) h ?_
  exact ⟨rfl, hk⟩
theorem fld_depth (h : σ[0]? = some (some (.loc 0))) (hk : k (.im (.int d)) (rd t i d m :: r)) : dFld "Reader" "depth" (dV 0) σ (rd t i d m :: r) k ex := by
  unfold dFld
  refine dV_at (w := .loc 0) h ?_
  exact ⟨rfl, hk⟩
theorem fld_many (h : σ[0]? = some (some (.loc 0))) (hk : k (.im (.int m)) (rd t i d m :: r)) : dFld "Reader" "many" (dV 0) σ (rd t i d m :: r) k ex := by
  unfold dFld
  refine dV_at (w := .loc 0) h ?_
  exact ⟨rfl, hk⟩
theorem aug_at (h : σ[0]? = some (some (.loc 0))) (hk : E.nx σ (rd t (i + 1) d m :: r)) : sFldAug "Reader" "at" fAddI (dV 0) (dC (.int 1)) E σ (rd t i d m :: r) := by
  unfold sFldAug
  refine dV_at (w := .loc 0) h ?_
  exact ⟨rfl, rfl, by show 4 < 1000; decide, hk⟩
theorem aug_depth {e : Int} (h : σ[0]? = some (some (.loc 0))) (hk : E.nx σ (rd t i (d + e) m :: r)) : sFldAug "Reader" "depth" fAddI (dV 0) (dC (.int e)) E σ (rd t i d m :: r) := by
  unfold sFldAug
  refine dV_at (w := .loc 0) h ?_
  exact ⟨rfl, rfl, by show 4 < 1000; decide, hk⟩
theorem sub_depth {e : Int} (h : σ[0]? = some (some (.loc 0))) (hk : E.nx σ (rd t i (d - e) m :: r)) : sFldAug "Reader" "depth" fSub (dV 0) (dC (.int e)) E σ (rd t i d m :: r) := by
  unfold sFldAug
  refine dV_at (w := .loc 0) h ?_
  exact ⟨rfl, rfl, by show 4 < 1000; decide, hk⟩
theorem aug_many {e : Int} (h : σ[0]? = some (some (.loc 0))) (hk : E.nx σ (rd t i d (m + e) :: r)) : sFldAug "Reader" "many" fAddI (dV 0) (dC (.int e)) E σ (rd t i d m :: r) := by
  unfold sFldAug
  refine dV_at (w := .loc 0) h ?_
  exact ⟨rfl, rfl, by show 4 < 1000; decide, hk⟩
end
theorem r_Reader_init : ∀ ws st k ex, pf_Reader_init ws st k ex → t_Reader_init (EnD false st.length k ex) (startD N_Reader_init ws) st := by
  intro ws st k ex h
  unfold pf_Reader_init at h
  split at h
  · obtain ⟨rfl, t, rfl, hk⟩ := h
    exact ⟨rfl, by decide, rfl, (by show 1 < 1000; decide), rfl, (by show 2 < 1000; decide), rfl, (by show 3 < 1000; decide), hk⟩
  · exact h.elim
theorem in1 (c : Nat) (y : Str) (k : Bool → Prop) (h : k (decide (c ∈ cl y))) : cIn (.str ⟨#[c]⟩) (.str y) k := h
theorem drop_get {t a r : List Nat} {i j c : Nat} (hd : t.drop i = a ++ r) (h : (a ++ r)[j]? = some c) : t[i + j]? = some c := by
  rw [← hd, List.getElem?_drop] at h
  exact h
theorem scan {E : En} {σ : Sl} {X : DW} {y : Str} {t a r : List Nat} {i : Nat} {d m : Int} (hσ : σ[0]? = some (some (.loc 0))) (hX : ∀ st k ex, k (.im (.str y)) st → X σ st k ex) (ht : trSl 1 σ = σ) (hi : i ≤ t.length) (hb : t.length ≤ 400000) (hd : t.drop i = a ++ r)
    (ha : ∀ c ∈ a, c ∈ cl y) (hr : ∀ c, r.head? = some c → c ∉ cl y) (hE : E.nx σ [rd t (i + a.length) d m]) :
    sWhile (dAnd (dCmp cLt (dFld "Reader" "at" (dV 0)) (dI (dCB fLen (aCons (dFld "Reader" "text" (dV 0)) aNil)))) (dCmp cIn (dI (dIx (dFld "Reader" "text" (dV 0)) (dD (dFld "Reader" "at" (dV 0))))) X))
      (sFldAug "Reader" "at" fAddI (dV 0) (dC (.int 1))) E σ [rd t i d m] := by
  have hlen : i + a.length + r.length = t.length := by
    have := congrArg List.length hd
    rw [List.length_drop, List.length_append] at this
    omega
  unfold sWhile
  refine ⟨fun mm σ' st' => ∃ j, j + mm = a.length ∧ σ' = σ ∧ st' = [rd t (i + j) d m], ⟨a.length, 0, by omega, rfl, rfl⟩, ?_⟩
  rintro mm σ' st' ⟨j, hj, rfl, rfl⟩ -
  refine dAnd_of (dCmp_of (fld_at hσ (dI_of (dCB_of (aCons_of (fld_text hσ (aNil_of ?_)))))))
  refine ⟨S_le hb (by decide), ?_⟩
  show two (decide (((i + j : Nat) : Int) < ((S t).length : Nat))) _ _
  rw [S_len]
  refine oneD (fun h1 => ?_) fun h1 => ?_
  · have hjl : i + j < t.length := by omega
    obtain ⟨c, hc⟩ : ∃ c, t[i + j]? = some c := ⟨t[i + j], List.getElem?_eq_getElem hjl⟩
    refine dCmp_of (dI_of (dIx_of (fld_text hσ (fld_at hσ ?_))))
    refine strAt (l := t) rfl (by omega) hc ?_
    refine hX _ _ _ ?_
    refine in1 c y _ ?_
    have hc2 : (a ++ r)[j]? = some c := by rw [← hd, List.getElem?_drop]; exact hc
    refine oneD (fun h2 => ?_) fun h2 => ?_
    · have hja : j < a.length := by
        rcases Nat.lt_or_ge j a.length with h | h
        · exact h
        · have e : j = a.length := by omega
          subst e
          rw [List.getElem?_append_right (Nat.le_refl _), Nat.sub_self, ← List.head?_eq_getElem?] at hc2
          exact absurd h2 (hr c hc2)
      refine aug_at hσ ?_
      refine ⟨mm - 1, by omega, j + 1, by omega, ht, rfl⟩
    · have hja : j = a.length := by
        rcases Nat.lt_or_ge j a.length with h | h
        · rw [List.getElem?_append_left h] at hc2
          exact absurd (ha c (List.mem_of_getElem? hc2)) h2
        · omega
      subst hja
      exact hE
  · have hja : j = a.length := by omega
    subst hja
    exact twoF hE
theorem bk_in (c : Nat) : isBk c = true ↔ c ∈ cl (" \x0a" : Str) := by
  rw [show cl (" \x0a" : Str) = [32, 10] from rfl]
  unfold isBk
  simp
theorem r_Reader_blank : ∀ ws st k ex, pf_Reader_blank ws st k ex → t_Reader_blank (EnD false st.length k ex) (startD N_Reader_blank ws) st := by
  intro ws st k ex h
  unfold pf_Reader_blank at h
  split at h
  · obtain ⟨t, i, d, m, g, r, rfl, hi, hb, hd, hg, hr, hk⟩ := h
    unfold t_Reader_blank
    refine scan (y := " \x0a") rfl (fun _ _ _ z => z) rfl hi hb hd (fun c hc => (bk_in c).mp (List.all_eq_true.mp hg c hc)) (fun c hc z => ?_) hk
    have := hr c hc
    rw [(bk_in c).mpr z] at this
    cases this
  · exact h.elim
theorem back0 {o : Ob} {r : Sto} {t : List Nat} {i : Nat} {d m : Int} : back [0] (o :: r) [rd t i d m] = rd t i d m :: r := by
  show (unO [0] _ (rd t i d m) :: backO [0] _ [rd t i d m] 1 r) ++ _ = _
  rw [backAuxU _ _ _ _ (Nat.le_refl _)]
  exact List.append_nil _
theorem call_blank {t : List Nat} {i : Nat} {d m : Int} {g z : List Nat} {r : Sto} {k : W → Sto → Prop} {ex : DX} (hi : i ≤ t.length) (hb : t.length ≤ 400000) (hd : t.drop i = g ++ z) (hg : g.all isBk = true) (hr : ∀ c, z.head? = some c → isBk c = false)
    (hk : k (.im .non) (rd t (i + g.length) d m :: r)) : callD pf_Reader_blank [0] [.loc 0] (rd t i d m :: r) k ex := ⟨rfl, t, i, d, m, g, z, rfl, hi, hb, hd, hg, hr, by
  show k _ (back [0] (_ :: r) [_])
  rw [back0]
  exact hk⟩
theorem cut1 (t : List Nat) {i : Nat} (h : i ≤ t.length) : cutS (S t) (some (i : Int)) (some ((i : Int) + 1)) = S ((t.drop i).take 1) := by
  unfold cutS
  rw [show (i : Int) + 1 = ((i + 1 : Nat) : Int) from rfl, HT.sIx_nat, HT.sIx_nat, S_len, Nat.min_eq_left h]
  by_cases z : i < t.length
  · rw [Nat.min_eq_left (show i + 1 ≤ t.length by omega), show i + 1 - i = 1 by omega]
  · have e : t.drop i = [] := List.drop_eq_nil_of_le (by omega)
    show S ((t.drop i).take _) = S ((t.drop i).take 1)
    rw [e, List.take_nil, List.take_nil]
theorem drop_more {t g z : List Nat} {i : Nat} (hd : t.drop i = g ++ z) : t.drop (i + g.length) = z := by
  rw [← List.drop_drop, hd, List.drop_left]
theorem drop_le {t g z : List Nat} {i : Nat} (hi : i ≤ t.length) (hd : t.drop i = g ++ z) : i + g.length ≤ t.length := by
  have := congrArg List.length hd
  rw [List.length_drop, List.length_append] at this
  omega
theorem r_Reader_sign : ∀ ws st k ex, pf_Reader_sign ws st k ex → t_Reader_sign (EnD false st.length k ex) (startD N_Reader_sign ws) st := by
  intro ws st k ex h
  unfold pf_Reader_sign at h
  split at h
  · obtain ⟨t, i, d, m, g, r, rfl, hi, hb, hd, hg, hr, hk⟩ := h
    unfold t_Reader_sign
    refine sSeq_of (sDrop_of ?_)
    unfold dMeth
    refine dV_at (w := .loc 0) rfl ⟨⟨rfl, rfl⟩, aNil_of ?_⟩
    refine call_blank (r := []) hi hb hd hg hr ?_
    have h2 := drop_le hi hd
    dsimp only
    refine sRet_of (dI_of ?_)
    unfold dSl
    refine fld_text rfl ?_
    have e := cut1 t h2
    rw [drop_more hd] at e
    rw [← e] at hk
    exact ⟨rfl, rfl, S_le hb (by decide), hk⟩
  · exact h.elim
theorem call_sign {t : List Nat} {i : Nat} {d m : Int} {g z : List Nat} {r : Sto} {k : W → Sto → Prop} {ex : DX} (hi : i ≤ t.length) (hb : t.length ≤ 400000) (hd : t.drop i = g ++ z) (hg : g.all isBk = true) (hr : ∀ c, z.head? = some c → isBk c = false)
    (hk : k (.im (.str (S (z.take 1)))) (rd t (i + g.length) d m :: r)) : callD pf_Reader_sign [0] [.loc 0] (rd t i d m :: r) k ex := ⟨rfl, t, i, d, m, g, z, rfl, hi, hb, hd, hg, hr, by
  show k _ (back [0] (_ :: r) [_])
  rw [back0]
  exact hk⟩
theorem cut_ab {t a r : List Nat} {i : Nat} (hi : i ≤ t.length) (hd : t.drop i = a ++ r) : cutS (S t) (some (i : Int)) (some ((i + a.length : Nat) : Int)) = S a := by
  have h2 := drop_le hi hd
  unfold cutS
  rw [HT.sIx_nat, HT.sIx_nat, S_len, Nat.min_eq_left hi, Nat.min_eq_left h2, Nat.add_sub_cancel_left]
  show S ((t.drop i).take a.length) = S a
  rw [hd, List.take_left]
theorem r_Reader_run : ∀ ws st k ex, pf_Reader_run ws st k ex → t_Reader_run (EnD false st.length k ex) (startD N_Reader_run ws) st := by
  intro ws st k ex h
  unfold pf_Reader_run at h
  split at h
  · obtain ⟨t, i, d, m, a, r, rfl, hi, hb, hd, ha, hr, hk⟩ := h
    rename_i y
    unfold t_Reader_run
    refine sSeq_of (sAsg_of (fld_at (r := []) rfl ?_))
    dsimp only
    refine sSeq_of ?_
    refine scan (y := y) rfl (fun _ _ _ z => z) rfl hi hb hd ha hr ?_
    dsimp only
    refine sRet_of (dI_of ?_)
    unfold dSl
    refine fld_text (r := []) rfl ?_
    rw [← cut_ab hi hd] at hk
    exact ⟨rfl, S_le hb (by decide), hk⟩
  · exact h.elim
theorem call_run {t : List Nat} {i : Nat} {d m : Int} {a z : List Nat} {y : Str} {r : Sto} {k : W → Sto → Prop} {ex : DX} (hi : i ≤ t.length) (hb : t.length ≤ 400000) (hd : t.drop i = a ++ z) (ha : ∀ c ∈ a, c ∈ cl y) (hr : ∀ c, z.head? = some c → c ∉ cl y)
    (hk : k (.im (.str (S a))) (rd t (i + a.length) d m :: r)) : callD pf_Reader_run [0] [.loc 0, .im (.str y)] (rd t i d m :: r) k ex := ⟨rfl, t, i, d, m, a, z, rfl, hi, hb, hd, ha, hr, by
  show k _ (back [0] (_ :: r) [_])
  rw [back0]
  exact hk⟩
end Dl.Ea
end

section
set_option maxHeartbeats 4000000
namespace Dl.Ea
open PySem PySem.Spec PyProof.Rows L2 Co PySem.StrLaws Dl.Ut PySem.NumText
def gapOf : Sm → List Nat → List Nat
  | [], z => z
  | p :: _, _ => p.1
def rstOf : Sm → List Nat → List Nat
  | [], _ => []
  | p :: q, z => p.2 ++ (lay q ++ z)
def stp : Sm → Sm
  | [] => []
  | p :: q => ([], p.2) :: q
def zz : Sm → List Nat → List Nat
  | [], _ => []
  | _ :: _, z => z
section
variable {t : List Nat} {i : Nat} {q : Sm} {z : List Nat}
theorem At.len (h : At t i q z) : i + (lay q ++ z).length = t.length := by
  have := congrArg List.length h.2.2.1
  rw [List.length_drop] at this
  have := h.1
  omega
theorem At.pos (h : At t i q z) : i = pos t q z := by
  have := h.len
  unfold Ea.pos
  omega
theorem Gd.hd {g x : List Nat} : ∀ {q : Sm}, Gd ((g, x) :: q) → g.all isBk = true ∧ Tok x
  | [], h => ⟨h.1, h.2.1, h.2.2⟩
  | _ :: _, h => ⟨h.1, h.2.1, h.2.2.1⟩
theorem Gd.tl {p : List Nat × List Nat} : ∀ {q : Sm}, Gd (p :: q) → Gd q
  | [], _ => trivial
  | _ :: _, h => h.2.2.2.2
theorem Gd.fst {g x g' : List Nat} (hg : g'.all isBk = true) : ∀ {q : Sm}, Gd ((g, x) :: q) → Gd ((g', x) :: q)
  | [], h => ⟨hg, h.2.1, h.2.2⟩
  | _ :: _, h => ⟨hg, h.2⟩
theorem At.split (h : At t i q z) : t.drop i = gapOf q z ++ rstOf q z ∧ (gapOf q z).all isBk = true ∧ ∀ c, (rstOf q z).head? = some c → isBk c = false := by
  obtain ⟨h1, h2, h3, h4, h5⟩ := h
  cases q with
  | nil => exact ⟨by rw [h3]; show [] ++ z = z ++ []; simp, h5, fun c e => by cases e⟩
  | cons p q =>
    obtain ⟨g, x⟩ := p
    have hd := h4.hd
    refine ⟨by rw [h3]; show (((g ++ x) ++ lay q) ++ z) = g ++ (x ++ (lay q ++ z)); simp, hd.1, fun c e => ?_⟩
    obtain ⟨a, r, hx⟩ : ∃ a r, x = a :: r := by cases x with | nil => exact absurd rfl hd.2.1 | cons a r => exact ⟨a, r, rfl⟩
    subst hx
    exact hd.2.2 c e
theorem At.stp (h : At t i q z) : At t (i + (gapOf q z).length) (stp q) (zz q z) := by
  have s := h.split
  have e := drop_more s.1
  refine ⟨drop_le h.1 s.1, h.2.1, ?_, ?_, ?_⟩
  · rw [e]
    cases q with
    | nil => rfl
    | cons p q => show p.2 ++ (lay q ++ z) = (([] ++ p.2) ++ lay q) ++ z; simp
  · cases q with
    | nil => trivial
    | cons p q => exact Gd.fst rfl h.2.2.2.1
  · cases q with
    | nil => rfl
    | cons p q => exact h.2.2.2.2
theorem At.next {g x : List Nat} (h : At t i ((g, x) :: q) z) : At t (i + g.length + x.length) q z := by
  have s := h.split
  have e := drop_more s.1
  have l1 := drop_le h.1 s.1
  refine ⟨drop_le l1 e, h.2.1, ?_, h.2.2.2.1.tl, h.2.2.2.2⟩
  exact drop_more e
theorem Wt.hd {g x a : List Nat} {ts : List (List Nat)} (h : Wt ((g, x) :: q) (a :: ts)) : x = a ∧ Wt q ts := by
  rcases h with h | h
  · obtain ⟨h1, h2⟩ := List.cons_prefix_cons.mp h
    exact ⟨h1, .inl h2⟩
  · obtain ⟨h1, h2⟩ := List.cons_prefix_cons.mp h
    exact ⟨h1.symm, .inr h2⟩
theorem Wt.stp {ts : List (List Nat)} (h : Wt q ts) : Wt (stp q) ts := by
  cases q with
  | nil => exact h
  | cons p q => exact h
theorem stop {g x : List Nat} (h : Gd ((g, x) :: q)) (hz : z.all isBk = true) (hx : ¬ shut x) (c : Nat) (e : (lay q ++ z).head? = some c) : isBk c = true ∨ c = 40 ∨ c = 41 ∨ c = 34 := by
  cases q with
  | nil =>
    cases z with
    | nil => cases e
    | cons a r =>
      cases e
      exact .inl (List.all_eq_true.mp hz _ List.mem_cons_self)
  | cons p q =>
    obtain ⟨g', x'⟩ := p
    have hd := h.tl.hd
    obtain ⟨_, _, _, hs, _⟩ := h
    cases g' with
    | cons a r =>
      cases e
      exact .inl (List.all_eq_true.mp hd.1 _ List.mem_cons_self)
    | nil =>
      rcases hs rfl with hs | hs
      · exact absurd hs hx
      · obtain ⟨r, hr | hr | hr⟩ := hs <;> subst hr <;> cases e
        · exact .inr (.inl rfl)
        · exact .inr (.inr (.inl rfl))
        · exact .inr (.inr (.inr rfl))
theorem wd_shut {x : List Nat} (h : Wd x) : ¬ shut x := by
  rintro ⟨r, hr | hr | hr⟩ <;> subst hr
  · have := h.2 40 List.mem_cons_self; omega
  · have := h.2 41 List.mem_cons_self; omega
  · have := h.2 34 List.mem_cons_self; omega
end
def ansG (t : List Nat) (q : Sm) (z : List Nat) (n : Nat) (v : D) (d m : Int) (k : W → Sto → Prop) (ex : DX) (r : Sto) : Prop :=
  if n ≤ q.length then k (.im v) (rd t (pos t (q.drop n) z) d m :: r) else ∀ (j : Nat) (d' m' : Int), ex "BadExpression" [("position", .int (t.length : Nat))] (rd t j d' m' :: r)
section
variable {t : List Nat} {i : Nat} {q : Sm} {z : List Nat} {n n' : Nat} {v v' : D} {d d' m m' : Int} {k k' : W → Sto → Prop} {ex ex' : DX} {r r' : Sto}
theorem ansG_stp (hn : 1 ≤ n) (h : ansG t q z n v d m k ex r) : ansG t (stp q) (zz q z) n v d m k ex r := by
  cases q with
  | nil =>
    unfold ansG at h ⊢
    rw [if_neg (show ¬ n ≤ ([] : Sm).length from by show ¬ n ≤ 0; omega)] at h
    rw [if_neg (show ¬ n ≤ (stp []).length from by show ¬ n ≤ 0; omega)]
    exact h
  | cons p q =>
    obtain ⟨n, rfl⟩ : ∃ n', n = n' + 1 := ⟨n - 1, by omega⟩
    exact h
theorem ansG_bind (hn : n' ≤ n) (h : ansG t q z n v d m k ex r) (hk : n' ≤ q.length → k' (.im v') (rd t (pos t (q.drop n') z) d' m' :: r')) (hx : q.length < n' → (∀ (j : Nat) (d' m' : Int), ex "BadExpression" [("position", .int (t.length : Nat))] (rd t j d' m' :: r)) → ∀ (j : Nat) (d' m' : Int), ex' "BadExpression" [("position", .int (t.length : Nat))] (rd t j d' m' :: r')) : ansG t q z n' v' d' m' k' ex' r' := by
  unfold ansG at h ⊢
  split
  · exact hk (by assumption)
  · rw [if_neg (by omega)] at h
    exact hx (by omega) h
theorem ans_call {o : Ob} (h : ansG t q z n v d m k ex r) : ans t q z n v d m (fun w st2 => k (unW [0] (o :: r).length w) (back [0] (o :: r) st2)) (fun c fs st2 => ex c fs (back [0] (o :: r) st2)) := by
  unfold ansG at h
  unfold ans
  split
  · rename_i hle
    rw [if_pos hle] at h
    show k _ (back [0] (o :: r) [_])
    rw [back0]
    exact h
  · rename_i hle
    rw [if_neg hle] at h
    intro j d' m'
    show ex _ _ (back [0] (o :: r) [_])
    rw [back0]
    exact h j d' m'
end
theorem dMeth_of {C m : Str} {f : Pf} {to : DW} {ta : DA} {σ : Sl} {st : Sto} {k : W → Sto → Prop} {ex : DX} (h : to σ st (fun o st1 => clsW C m o st1 ∧ ta σ st1 (fun ws st2 => callD f (reach st2 (o :: ws)) (o :: ws) st2 k ex) ex) ex) : dMeth C m f to ta σ st k ex := h
theorem sRaise1_of {c f : Str} {t : DD} {E : En} {σ : Sl} {st : Sto} (h : t σ st (fun d st1 => E.ex c [(f, d)] σ st1) (exE E σ)) : sRaise1 c f t E σ st := h
section
variable {t : List Nat} {i : Nat} {q : Sm} {z : List Nat} {d m : Int} {k : W → Sto → Prop} {ex : DX} {r : Sto}
theorem signAt (h : At t i q z) (hk : k (.im (.str (S ((rstOf q z).take 1)))) (rd t (i + (gapOf q z).length) d m :: r)) : callD pf_Reader_sign [0] [.loc 0] (rd t i d m :: r) k ex :=
  let s := h.split
  call_sign h.1 h.2.1 s.1 s.2.1 s.2.2 hk
theorem blankAt (h : At t i q z) (hk : k (.im .non) (rd t (i + (gapOf q z).length) d m :: r)) : callD pf_Reader_blank [0] [.loc 0] (rd t i d m :: r) k ex :=
  let s := h.split
  call_blank h.1 h.2.1 s.1 s.2.1 s.2.2 hk
theorem At.endz (h : At t i [] z) : i + z.length = t.length := h.len
end
theorem alf_mem (c : Nat) : c ∈ alf ↔ 97 ≤ c ∧ c ≤ 122 := by
  unfold alf
  simp only [List.mem_map, List.mem_range]
  constructor
  · rintro ⟨a, h, rfl⟩; omega
  · rintro ⟨h1, h2⟩; exact ⟨c - 97, by omega, by omega⟩
theorem alf_cl : cl ("abcdefghijklmnopqrstuvwxyz" : Str) = alf := by rw [alf_eq]
theorem r_Reader_word : ∀ ws st k ex, pf_Reader_word ws st k ex → t_Reader_word (EnD false st.length k ex) (startD N_Reader_word ws) st := by
  intro ws st k ex h
  unfold pf_Reader_word at h
  split at h
  · obtain ⟨t, i, d, m, q, z, x, rfl, hA, hx, hw, hk⟩ := h
    unfold t_Reader_word
    refine sSeq_of (sIf_of (dOr_of (dCmp_of (dMeth_of (dV_at (w := .loc 0) rfl ⟨⟨rfl, rfl⟩, aNil_of ?_⟩)))))
    refine signAt (r := []) hA ?_
    have hS := hA.stp
    cases q with
    | nil =>
      refine two_t (decide_eq_true rfl) (two_t rfl ?_)
      refine sRaise1_of ?_
      unfold dD
      refine fld_at (r := []) rfl ?_
      have e := hA.endz
      show ex "BadExpression" [("position", .int ((i + z.length : Nat) : Int))] [rd t (i + z.length) d m]
      rw [e]
      exact hk _ _ _
    | cons p q =>
      obtain ⟨g, tok⟩ := p
      obtain ⟨rfl, _⟩ := hw.hd
      have hk : k (.im (.str (S tok))) [rd t (pos t q z) d m] := hk
      have hN := hA.next
      obtain ⟨c, l, rfl⟩ : ∃ c l, tok = c :: l := by
        cases tok with
        | nil => exact absurd hx.1 (by simp)
        | cons c l => exact ⟨c, l, rfl⟩
      refine two_f (decide_eq_false fun e => absurd (S_inj.mp (show S [c] = S [] from e)) (by simp)) ?_
      refine dCmp_of (dMeth_of (dV_at (w := .loc 0) rfl ⟨⟨rfl, rfl⟩, aNil_of ?_⟩))
      refine signAt (r := []) hS ?_
      show two (!decide (c ∈ cl ("abcdefghijklmnopqrstuvwxyz" : Str))) _ _
      rw [alf_cl]
      refine notD (fun e => absurd ((alf_mem c).mpr (hx.2 c List.mem_cons_self)) e) fun _ => ?_
      refine sNext_seq (sRet_of (dMeth_of (dV_at (w := .loc 0) rfl ⟨⟨rfl, rfl⟩, aCons_of (dI_of (dC_of (aNil_of ?_)))⟩)))
      have s := hS.split
      refine call_run (r := []) (a := c :: l) (z := lay q ++ z) hS.1 hS.2.1 s.1 (fun b hb => by rw [alf_cl]; exact (alf_mem b).mpr (hx.2 b hb)) (fun b hb e => ?_) ?_
      · rw [alf_cl] at e
        have e := (alf_mem b).mp e
        have := stop hA.2.2.2.1 hA.2.2.2.2 (wd_shut hx) b hb
        rcases this with h | h
        · unfold isBk at h; simp at h; omega
        · omega
      · have e := hN.pos
        rw [← e] at hk
        exact hk
  · exact h.elim
theorem call_word {t : List Nat} {i : Nat} {q : Sm} {z x : List Nat} {d m : Int} {k : W → Sto → Prop} {ex : DX} {r : Sto} (h : At t i q z) (hx : Wd x) (hw : Wt q [x]) (hk : ansG t q z 1 (.str (S x)) d m k ex r) : callD pf_Reader_word [0] [.loc 0] (rd t i d m :: r) k ex := ⟨rfl, t, i, d, m, q, z, x, rfl, h, hx, hw, ans_call hk⟩
theorem r_Reader_close : ∀ ws st k ex, pf_Reader_close ws st k ex → t_Reader_close (EnD false st.length k ex) (startD N_Reader_close ws) st := by
  intro ws st k ex h
  unfold pf_Reader_close at h
  split at h
  · obtain ⟨t, i, d, m, q, z, rfl, hA, hw, hk⟩ := h
    unfold t_Reader_close
    refine sSeq_of (sIf_of (dCmp_of (dMeth_of (dV_at (w := .loc 0) rfl ⟨⟨rfl, rfl⟩, aNil_of ?_⟩))))
    refine signAt (r := []) hA ?_
    cases q with
    | nil =>
      refine two_t (by show (!decide (S [] = ")")) = true; decide) ?_
      refine sRaise1_of ?_
      unfold dD
      refine fld_at (r := []) rfl ?_
      have e := hA.endz
      show ex "BadExpression" [("position", .int ((i + z.length : Nat) : Int))] [rd t (i + z.length) d m]
      rw [e]
      exact hk _ _ _
    | cons p q =>
      obtain ⟨g, tok⟩ := p
      obtain ⟨rfl, _⟩ := hw.hd
      have hk : k (.im .non) [rd t (pos t q z) (d - 1) m] := hk
      have hN := hA.next
      refine two_f (by show (!decide (S [41] = ")")) = false; decide) ?_
      refine sNext_seq (sSeq_of (aug_at (r := []) rfl ?_))
      dsimp only
      refine sub_depth (r := []) rfl ?_
      have e := hN.pos
      rw [← e] at hk
      exact hk
  · exact h.elim
theorem call_close {t : List Nat} {i : Nat} {q : Sm} {z : List Nat} {d m : Int} {k : W → Sto → Prop} {ex : DX} {r : Sto} (h : At t i q z) (hw : Wt q [[41]]) (hk : ansG t q z 1 .non (d - 1) m k ex r) : callD pf_Reader_close [0] [.loc 0] (rd t i d m :: r) k ex := ⟨rfl, t, i, d, m, q, z, rfl, h, hw, ans_call hk⟩
theorem r_Reader_name : ∀ ws st k ex, pf_Reader_name ws st k ex → t_Reader_name (EnD false st.length k ex) (startD N_Reader_name ws) st := by
  intro ws st k ex h
  unfold pf_Reader_name at h
  split at h
  · obtain ⟨t, i, d, m, q, z, x, rfl, hA, hx, hw, hk⟩ := h
    unfold t_Reader_name
    refine sSeq_of (sDrop_of (dMeth_of (dV_at (w := .loc 0) rfl ⟨⟨rfl, rfl⟩, aNil_of ?_⟩)))
    refine blankAt (r := []) hA ?_
    dsimp only
    refine sSeq_of (sAsg_of (fld_at (r := []) rfl ?_))
    dsimp only
    refine sSeq_of (sAsg_of (dMeth_of (dV_at (w := .loc 0) rfl ⟨⟨rfl, rfl⟩, aNil_of ?_⟩)))
    have hG : ansG t q z 1 (.str (S x)) d m k ex [] := hk
    refine call_word (r := []) hA.stp hx.wd hw.stp (ansG_bind (Nat.le_refl _) (ansG_stp (Nat.le_refl _) hG) (fun hle => ?_) fun _ h => h)
    have hk2 := ansG_stp (Nat.le_refl _) hG
    unfold ansG at hk2
    rw [if_pos hle] at hk2
    dsimp only
    refine sSeq_of (sIf_of (dCmp_of (dI_of (dCB_of (aCons_of (dV_at rfl (aNil_of ?_)))))))
    refine ⟨by rw [S_len, sizeLine_eq]; have := hx.2.1; omega, ?_⟩
    show two (decide ((12 : Int) < ((S x).length : Nat))) _ _
    rw [S_len]
    refine oneD (fun e => absurd e (by have := hx.2.1; omega)) fun _ => ?_
    refine sNext_seq (sRet_of (dV_at rfl ?_))
    exact hk2
  · exact h.elim
theorem call_name {t : List Nat} {i : Nat} {q : Sm} {z x : List Nat} {d m : Int} {k : W → Sto → Prop} {ex : DX} {r : Sto} (h : At t i q z) (hx : NmOk x) (hw : Wt q [x]) (hk : ansG t q z 1 (.str (S x)) d m k ex r) : callD pf_Reader_name [0] [.loc 0] (rd t i d m :: r) k ex := ⟨rfl, t, i, d, m, q, z, x, rfl, h, hx, hw, ans_call hk⟩
end Dl.Ea
end

section
set_option maxHeartbeats 4000000
namespace Dl.Ea
open PySem PySem.Spec PyProof.Rows L2 Co PySem.StrLaws Dl.Ut PySem.NumText
def intR : DS := (sSeq (sAsg 2 (dMeth "Reader" "run" pf_Reader_run (dV 0) (aCons (dI (dC (.str "0123456789"))) aNil)))
 (sSeq (sAsg 3 (dI (dSl (dFld "Reader" "text" (dV 0)) (dPart (dD (dV 1))) (dPart (dD (dFld "Reader" "at" (dV 0)))))))
 (sSeq (sIf (dOr (dCmp cEq (dV 2) (dI (dC (.str "")))) (dOr (dAnd (dCmp cEq (dI (dIx (dV 2) (dC (.int 0)))) (dI (dC (.str "0")))) (dCmp cNe (dV 3) (dI (dC (.str "0"))))) (dCmp cGt (dI (dCB fLen (aCons (dV 2) aNil))) (dI (dC (.int 7)))))) (sRaise1 "BadExpression" "position" (dD (dV 1))) sNext)
 (sSeq (sIf (dCmp cGt (dI (dCB fAbs (aCons (dI (dCB fInt (aCons (dV 3) aNil))) aNil))) (dI (dC (.int (1000000))))) (sRaise1 "BadExpression" "position" (dD (dV 1))) sNext)
 (sRet (dI (dCB fInt (aCons (dV 3) aNil))))))))
theorem fig_cl (c : Nat) : c ∈ cl ("0123456789" : Str) ↔ 48 ≤ c ∧ c ≤ 57 := by
  have e : cl ("0123456789" : Str) = (List.range 10).map (· + 48) := by decide +kernel
  rw [e]
  simp only [List.mem_map, List.mem_range]
  constructor
  · rintro ⟨a, h, rfl⟩; omega
  · rintro ⟨h1, h2⟩; exact ⟨c - 48, by omega, by omega⟩
theorem intR_ok {E : En} {t R : List Nat} {i j mm : Nat} {n d m : Int} (hn : n.natAbs = mm) (h6 : mm ≤ 1000000) (hj : j ≤ t.length) (hb : t.length ≤ 400000) (hd : t.drop j = fig mm ++ R) (hR : ∀ c, R.head? = some c → ¬ (48 ≤ c ∧ c ≤ 57)) (hc : cutS (S t) (some (i : Int)) (some ((j + (fig mm).length : Nat) : Int)) = S (dg n))
    (h0 : mm = 0 → dg n = [48]) (hE : E.rt (.im (.int n)) [rd t (j + (fig mm).length) d m]) : intR E [some (.loc 0), some (.im (.int (i : Nat))), none, none] [rd t j d m] := by
  unfold intR
  refine sSeq_of (sAsg_of (dMeth_of (dV_at (w := .loc 0) rfl ⟨⟨rfl, rfl⟩, aCons_of (dI_of (dC_of (aNil_of ?_)))⟩)))
  refine call_run (r := []) (a := fig mm) (z := R) hj hb hd (fun c hc => (fig_cl c).mpr (fig_dig c hc)) (fun c hc z => hR c hc ((fig_cl c).mp z)) ?_
  dsimp only
  refine sSeq_of (sAsg_of (dI_of ?_))
  unfold dSl
  refine fld_text (r := []) rfl ?_
  refine ⟨rfl, S_le hb (by decide), ?_⟩
  rw [hc]
  dsimp only
  refine sSeq_of (sIf_of (dOr_of ?_))
  show two (decide (S (fig mm) = "")) _ _
  refine oneD (fun e => absurd (S_inj.mp (show S (fig mm) = S [] from e)) fig_ne) fun _ => ?_
  have fl := fig_len h6
  have dl := dg_len (n := n) (by omega)
  have dr := dg_read (n := n) (by omega)
  have last : (sSeq (sIf (dCmp cGt (dI (dCB fAbs (aCons (dI (dCB fInt (aCons (dV 3) aNil))) aNil))) (dI (dC (.int (1000000))))) (sRaise1 "BadExpression" "position" (dD (dV 1))) sNext)
      (sRet (dI (dCB fInt (aCons (dV 3) aNil))))) E [some (.loc 0), some (.im (.int (i : Nat))), some (.im (.str (S (fig mm)))), some (.im (.str (S (dg n))))] [rd t (j + (fig mm).length) d m] := by
    refine sSeq_of (sIf_of (dCmp_of (dI_of (dCB_of (aCons_of (dI_of (dCB_of (aCons_of (dV_at rfl (aNil_of ?_))))))))))
    refine ⟨n, dr, by rw [S_len]; omega, ?_⟩
    show two (decide ((1000000 : Int) < (n.natAbs : Int))) _ _
    refine oneD (fun e => absurd e (by omega)) fun _ => ?_
    refine sNext_seq (sRet_of (dI_of (dCB_of (aCons_of (dV_at rfl (aNil_of ?_))))))
    exact ⟨n, dr, by rw [S_len]; omega, hE⟩
  have len7 : ∀ (K : Bool → Sto → Prop) (X : DX), K false [rd t (j + (fig mm).length) d m] → dCmp cGt (dI (dCB fLen (aCons (dV 2) aNil))) (dI (dC (.int 7))) [some (.loc 0), some (.im (.int (i : Nat))), some (.im (.str (S (fig mm)))), some (.im (.str (S (dg n))))] [rd t (j + (fig mm).length) d m] K X := fun K X hK => by
    refine dCmp_of (dI_of (dCB_of (aCons_of (dV_at rfl (aNil_of ?_)))))
    refine ⟨by rw [S_len, sizeLine_eq]; omega, ?_⟩
    show K (decide ((7 : Int) < ((S (fig mm)).length : Nat))) _
    rw [S_len, decide_eq_false (by omega)]
    exact hK
  obtain ⟨c, r, hf⟩ : ∃ c r, fig mm = c :: r := by
    cases hx : fig mm with
    | nil => exact absurd hx fig_ne
    | cons c r => exact ⟨c, r, rfl⟩
  refine dOr_of (dAnd_of (dCmp_of (dI_of (dIx_of (dV_at rfl (dC_of ?_))))))
  refine strAt (l := fig mm) (i := 0) (c := c) rfl (by omega) (by rw [hf]; rfl) ?_
  show two (decide (S [c] = "0")) _ _
  refine oneD (fun e => ?_) fun _ => ?_
  · have hc48 : c = 48 := by
      have := S_inj.mp (show S [c] = S [48] from e)
      exact (List.cons.inj this).1
    have hm0 : mm = 0 := by
      rcases Nat.eq_zero_or_pos mm with z | z
      · exact z
      · have := fig_head mm mm (Nat.le_refl _) z
        rw [hf, hc48] at this
        exact absurd rfl this
    refine dCmp_of (dV_at rfl ?_)
    show two (!decide (S (dg n) = "0")) _ _
    refine notD (fun e => absurd (by rw [h0 hm0]; rfl) e) fun _ => ?_
    exact len7 _ _ (twoF (sNext_of last))
  · refine twoF ?_
    exact len7 _ _ (twoF (sNext_of last))
theorem r_Reader_integer : ∀ ws st k ex, pf_Reader_integer ws st k ex → t_Reader_integer (EnD false st.length k ex) (startD N_Reader_integer ws) st := by
  intro ws st k ex h
  unfold pf_Reader_integer at h
  split at h
  · obtain ⟨t, i, d, m, q, z, n, rfl, hA, h6, hk⟩ := h
    show (sSeq (sAsg 1 (dFld "Reader" "at" (dV 0))) (sSeq (sIf (dCmp cEq (dI (dIx (dFld "Reader" "text" (dV 0)) (dD (dFld "Reader" "at" (dV 0))))) (dI (dC (.str "-")))) (sFldAug "Reader" "at" fAddI (dV 0) (dC (.int 1))) sNext) intR)) (EnD false 1 k ex) [some (.loc 0), none, none, none] [rd t i d m]
    have s := hA.split
    have hd : t.drop i = dg n ++ (lay q ++ z) := s.1
    have hN := hA.next
    have eN := hN.pos
    rw [← eN] at hk
    have hk : k (.im (.int n)) [rd t (i + (dg n).length) d m] := hk
    have hR : ∀ c, (lay q ++ z).head? = some c → ¬ (48 ≤ c ∧ c ≤ 57) := fun c hc => by
      have hs : ¬ shut (dg n) := by
        rintro ⟨r, hr | hr | hr⟩
        all_goals
          cases n with
          | ofNat mm =>
            rw [show dg (Int.ofNat mm) = fig mm from dg_pos mm] at hr
            have := fig_dig (m := mm) _ (by rw [hr]; exact List.mem_cons_self)
            omega
          | negSucc mm => rw [dg_neg] at hr; cases hr
      have := stop hA.2.2.2.1 hA.2.2.2.2 hs c hc
      rcases this with h | h
      · unfold isBk at h; simp at h; omega
      · omega
    refine sSeq_of (sAsg_of (fld_at (r := []) rfl ?_))
    dsimp only
    have hcut := cut_ab hA.1 hd
    obtain ⟨c, r, hf⟩ : ∃ c r, dg n = c :: r := by
      cases hx : dg n with
      | nil =>
        have := (Shp.num n h6).tok.1
        exact absurd hx this
      | cons c r => exact ⟨c, r, rfl⟩
    have hti : t[i]? = some c := by
      have := drop_get (j := 0) hd (by rw [hf]; rfl)
      exact this
    refine sSeq_of (sIf_of (dCmp_of (dI_of (dIx_of (fld_text (r := []) rfl (fld_at (r := []) rfl ?_))))))
    refine strAt (l := t) rfl (by have := hA.2.1; omega) hti ?_
    show two (decide (S [c] = "-")) _ _
    cases n with
    | ofNat mm =>
      have e := dg_pos mm
      rw [show ((mm : Nat) : Int) = Int.ofNat mm from rfl] at e
      refine oneD (fun z => ?_) fun _ => ?_
      · have hc45 : c = 45 := (List.cons.inj (S_inj.mp (show S [c] = S [45] from z))).1
        have := fig_dig (m := mm) c (by rw [← e, hf]; exact List.mem_cons_self)
        omega
      · refine sNext_seq ?_
        refine intR_ok (mm := mm) (R := lay q ++ z) (n := Int.ofNat mm) rfl h6 hA.1 hA.2.1 (by rw [← e]; exact hd) hR (by rw [← e]; exact hcut) (fun z => by rw [e, z]; exact fig_small 0 (by decide)) ?_
        rw [← e]
        exact hk
    | negSucc mm =>
      have e := dg_neg mm
      refine oneD (fun _ => ?_) fun zz => ?_
      · refine aug_at (r := []) rfl ?_
        dsimp only
        have hd2 : t.drop (i + 1) = fig (mm + 1) ++ (lay q ++ z) := by
          have := drop_more (g := [45]) (z := fig (mm + 1) ++ (lay q ++ z)) (i := i) (t := t) (by rw [hd, e]; rfl)
          exact this
        have l1 : i + 1 ≤ t.length := drop_le (g := [45]) (z := fig (mm + 1) ++ (lay q ++ z)) hA.1 (by rw [hd, e]; rfl)
        have el : (dg (Int.negSucc mm)).length = (fig (mm + 1)).length + 1 := by rw [e]; rfl
        rw [el, show i + ((fig (mm + 1)).length + 1) = i + 1 + (fig (mm + 1)).length by omega] at hcut hk
        exact intR_ok (mm := mm + 1) (R := lay q ++ z) (n := Int.negSucc mm) rfl h6 l1 hA.2.1 hd2 hR hcut (fun z => by omega) hk
      · rw [e] at hf
        have : c = 45 := (List.cons.inj hf).1.symm
        subst this
        exact absurd rfl zz
  · exact h.elim
end Dl.Ea
end

section
set_option maxHeartbeats 4000000
namespace Dl.Ea
open PySem PySem.Spec PyProof.Rows L2 Co PySem.StrLaws Dl.Ut PySem.NumText
def qB : DS := (sSeq (sAsg 3 (dI (dSl (dFld "Reader" "text" (dV 0)) (dPart (dD (dFld "Reader" "at" (dV 0)))) (dPart (dOp fAdd (dD (dFld "Reader" "at" (dV 0))) (dC (.int 1)))))))
 (sSeq (sIf (dCmp cEq (dV 3) (dI (dC (.str "\"")))) sBrk sNext)
 (sSeq (sIf (dCmp cEq (dV 3) (dI (dC (.str "\\")))) (sSeq (sFldAug "Reader" "at" fAddI (dV 0) (dC (.int 1)))
 (sSeq (sAsg 3 (dI (dSl (dFld "Reader" "text" (dV 0)) (dPart (dD (dFld "Reader" "at" (dV 0)))) (dPart (dOp fAdd (dD (dFld "Reader" "at" (dV 0))) (dC (.int 1)))))))
 (sIf (dCmp cNotIn (dV 3) (dI (dTup (adCons (dC (.str "\"")) (adCons (dC (.str "\\")) adNil))))) (sRaise1 "BadExpression" "position" (dD (dV 1))) sNext))) sNext)
 (sSeq (sIf (dCmp cEq (dV 3) (dI (dC (.str "")))) (sRaise1 "BadExpression" "position" (dD (dV 1))) sNext)
 (sSeq (sApp (dV 2) (dD (dV 3)))
 (sFldAug "Reader" "at" fAddI (dV 0) (dC (.int 1))))))))
def qS (x3 : Option D) (i0 : Nat) : Sl := [some (.loc 0), some (.im (.int (i0 : Nat))), some (.loc 1), x3.map .im]
def qW (t : List Nat) (a : Nat) (d m : Int) (l : List Nat) : Sto := [rd t a d m, .lst (lsD (l.map fun c => [c]))]
theorem sgnAt {t u : List Nat} {a : Nat} {d m : Int} {r : Sto} {σ : Sl} {k : D → Sto → Prop} {ex : DX} (h : σ[0]? = some (some (.loc 0))) (ha : a ≤ t.length) (hb : t.length ≤ 400000) (hd : t.drop a = u) (hk : k (.str (S (u.take 1))) (rd t a d m :: r)) :
    dSl (dFld "Reader" "text" (dV 0)) (dPart (dD (dFld "Reader" "at" (dV 0)))) (dPart (dOp fAdd (dD (dFld "Reader" "at" (dV 0))) (dC (.int 1)))) σ (rd t a d m :: r) k ex := by
  unfold dSl
  refine fld_text h ?_
  unfold dPart dD
  refine fld_at h ?_
  refine dOp_of ?_
  refine fld_at h ?_
  have e := cut1 t ha
  rw [hd] at e
  rw [← e] at hk
  exact ⟨S_le hb (by decide), hk⟩
theorem qB_stop {E : En} {t rest l : List Nat} {a i0 : Nat} {d m : Int} {x3 : Option D} (ha : a ≤ t.length) (hb : t.length ≤ 400000) (hd : t.drop a = 34 :: rest) (hE : E.bk (qS (some (.str "\"")) i0) (qW t a d m l)) : qB E (qS x3 i0) (qW t a d m l) := by
  unfold qB
  refine sSeq_of (sAsg_of (dI_of (sgnAt (r := [.lst (lsD (l.map fun c => [c]))]) rfl ha hb hd ?_)))
  dsimp only
  refine sSeq_of (sIf_of (dCmp_of (dV_at (w := .im (.str (S [34]))) rfl ?_)))
  exact two_t (by show decide (S [34] = "\"") = true; decide) hE
def qC : DS := (sSeq (sIf (dCmp cEq (dV 3) (dI (dC (.str "")))) (sRaise1 "BadExpression" "position" (dD (dV 1))) sNext)
 (sSeq (sApp (dV 2) (dD (dV 3)))
 (sFldAug "Reader" "at" fAddI (dV 0) (dC (.int 1)))))
theorem qC_ok {E : En} {t l : List Nat} {a i0 c : Nat} {d m : Int} (hl : l.length ≤ 1000) (hE : E.nx (qS (some (.str (S [c]))) i0) (qW t (a + 1) d m (l ++ [c]))) : qC E (qS (some (.str (S [c]))) i0) (qW t a d m l) := by
  unfold qC
  refine sSeq_of (sIf_of (dCmp_of (dV_at (w := .im (.str (S [c]))) rfl ?_)))
  refine two_f (by show decide (S [c] = "") = false; exact decide_eq_false fun e => absurd (S_inj.mp (show S [c] = S [] from e)) (by simp)) ?_
  refine sNext_seq (sSeq_of (sApp_of (dV_at (w := .loc 1) rfl ⟨⟨_, rfl⟩, dD_at (d := .str (S [c])) rfl ?_⟩)))
  refine ⟨by rw [lsD_len, List.length_map]; omega, ?_⟩
  show sFldAug "Reader" "at" fAddI (dV 0) (dC (.int 1)) E (qS (some (.str (S [c]))) i0) (rd t a d m :: [.lst (lsD (l.map fun c => [c]) ++ [.str (S [c])])])
  refine aug_at rfl ?_
  rw [lsD_snoc]
  have : (l ++ [c]).map (fun c => [c]) = l.map (fun c => [c]) ++ [[c]] := by rw [List.map_append]; rfl
  unfold qW at hE
  rw [this] at hE
  exact hE
theorem qB_go {E : En} {t rest l : List Nat} {a i0 c : Nat} {d m : Int} {x3 : Option D} (ha : a ≤ t.length) (hb : t.length ≤ 400000) (hl : l.length ≤ 1000) (hd : t.drop a = qch c ++ rest) (hE : E.nx (qS (some (.str (S [c]))) i0) (qW t (a + (qch c).length) d m (l ++ [c]))) : qB E (qS x3 i0) (qW t a d m l) := by
  unfold qB
  by_cases hc : c = 34 ∨ c = 92
  · have hq : qch c = [92, c] := by unfold qch; rw [if_pos hc]
    rw [hq] at hd hE
    refine sSeq_of (sAsg_of (dI_of (sgnAt (r := [.lst (lsD (l.map fun c => [c]))]) rfl ha hb hd ?_)))
    dsimp only
    refine sSeq_of (sIf_of (dCmp_of (dV_at (w := .im (.str (S [92]))) rfl ?_)))
    refine two_f (by show decide (S [92] = "\"") = false; decide) ?_
    refine sNext_seq (sSeq_of (sIf_of (dCmp_of (dV_at (w := .im (.str (S [92]))) rfl ?_))))
    refine two_t (by show decide (S [92] = "\\") = true; decide) ?_
    refine sSeq_of ?_
    refine aug_at (r := [.lst (lsD (l.map fun c => [c]))]) rfl ?_
    dsimp only
    have hd2 : t.drop (a + 1) = c :: rest := drop_more (g := [92]) (z := c :: rest) hd
    have l1 : a + 1 ≤ t.length := drop_le (g := [92]) (z := c :: rest) ha hd
    refine sSeq_of (sAsg_of (dI_of (sgnAt (r := [.lst (lsD (l.map fun c => [c]))]) rfl l1 hb hd2 ?_)))
    dsimp only
    refine sIf_of (dCmp_of (dV_at (w := .im (.str (S [c]))) rfl ?_))
    refine dI_of (dTup_of (adCons_of (dC_of (adCons_of (dC_of (adNil_of ⟨by show 2 ≤ 1000000; decide, rfl, rfl, ?_⟩))))))
    rw [mem2 (sy := "\"") (sz := "\\") (y := [34]) (z := [92]) rfl rfl]
    refine notD (fun z => absurd (by rcases hc with h | h; exact .inl (by rw [h]); exact .inr (by rw [h])) z) fun _ => ?_
    refine sNext_of ?_
    dsimp only
    exact qC_ok (a := a + 1) hl hE
  · have hq : qch c = [c] := by unfold qch; rw [if_neg hc]
    rw [hq] at hd hE
    refine sSeq_of (sAsg_of (dI_of (sgnAt (r := [.lst (lsD (l.map fun c => [c]))]) rfl ha hb hd ?_)))
    dsimp only
    refine sSeq_of (sIf_of (dCmp_of (dV_at (w := .im (.str (S [c]))) rfl ?_)))
    refine two_f (by show decide (S [c] = "\"") = false; exact decide_eq_false fun e => hc (.inl (List.cons.inj (S_inj.mp (show S [c] = S [34] from e))).1)) ?_
    refine sNext_seq (sSeq_of (sIf_of (dCmp_of (dV_at (w := .im (.str (S [c]))) rfl ?_))))
    refine two_f (by show decide (S [c] = "\\") = false; exact decide_eq_false fun e => hc (.inr (List.cons.inj (S_inj.mp (show S [c] = S [92] from e))).1)) ?_
    refine sNext_of ?_
    dsimp only
    exact qC_ok (a := a) hl hE
theorem r_Reader_quoted : ∀ ws st k ex, pf_Reader_quoted ws st k ex → t_Reader_quoted (EnD false st.length k ex) (startD N_Reader_quoted ws) st := by
  intro ws st k ex h
  unfold pf_Reader_quoted at h
  split at h
  · obtain ⟨t, i, d, m, q, z, l, rfl, hA, h6, hw, hk⟩ := h
    unfold t_Reader_quoted
    refine sSeq_of (sIf_of (dCmp_of (dMeth_of (dV_at (w := .loc 0) rfl ⟨⟨rfl, rfl⟩, aNil_of ?_⟩))))
    refine signAt (r := []) hA ?_
    cases q with
    | nil =>
      refine two_t (by show (!decide (S [] = "\"")) = true; decide) ?_
      refine sRaise1_of ?_
      unfold dD
      refine fld_at (r := []) rfl ?_
      have e := hA.endz
      show ex "BadExpression" [("position", .int ((i + z.length : Nat) : Int))] [rd t (i + z.length) d m]
      rw [e]
      exact hk _ _ _
    | cons p q =>
      obtain ⟨g, tok⟩ := p
      obtain ⟨rfl, _⟩ := hw.hd
      have hk : k (.im (.str (S l))) [rd t (pos t q z) d m] := hk
      have hN := hA.next
      have hS := hA.stp
      have s := hS.split
      have hd0 : t.drop (i + g.length) = 34 :: (l.flatMap qch ++ (34 :: (lay q ++ z))) := by
        have := s.1
        rw [show gapOf (Ea.stp ((g, quo l) :: q)) (zz ((g, quo l) :: q) z) ++ rstOf (Ea.stp ((g, quo l) :: q)) (zz ((g, quo l) :: q) z) = quo l ++ (lay q ++ z) from rfl] at this
        rw [show i + g.length = i + (gapOf ((g, quo l) :: q) z).length from rfl, this]
        unfold quo
        simp
      refine two_f (by show (!decide (S [34] = "\"")) = false; decide) ?_
      refine sNext_seq (sSeq_of (sAsg_of (fld_at (r := []) rfl ?_)))
      dsimp only
      refine sSeq_of (aug_at (r := []) rfl ?_)
      dsimp only
      refine sSeq_of (sAsg_of (dLstM_of (adNil_of ⟨Nat.zero_le _, ?_⟩)))
      dsimp only
      have l0 := hS.1
      have hb := hA.2.1
      have l1 : i + g.length + 1 ≤ t.length := drop_le (g := [34]) (z := l.flatMap qch ++ (34 :: (lay q ++ z))) l0 hd0
      have hd1 : t.drop (i + g.length + 1) = l.flatMap qch ++ (34 :: (lay q ++ z)) := drop_more (g := [34]) (z := l.flatMap qch ++ (34 :: (lay q ++ z))) hd0
      refine sSeq_of ?_
      unfold sWhile
      refine ⟨fun mm σ' st' => ∃ (j a : Nat) (x3 : Option D), mm = l.length - j ∧ j ≤ l.length ∧ σ' = qS x3 (i + g.length) ∧ st' = qW t a d m (l.take j) ∧ a ≤ t.length ∧ t.drop a = (l.drop j).flatMap qch ++ (34 :: (lay q ++ z)), ⟨_, 0, i + g.length + 1, none, rfl, Nat.zero_le _, rfl, rfl, l1, hd1⟩, ?_⟩
      rintro mm σ' st' ⟨j, a, x3, rfl, hj, rfl, rfl, hal, had⟩ -
      refine twoT ?_
      rcases Nat.lt_or_ge j l.length with hlt | hge
      · obtain ⟨c, hc⟩ : ∃ c, l[j]? = some c := ⟨l[j], List.getElem?_eq_getElem hlt⟩
        obtain ⟨t1, t2, _⟩ := takeGet hc
        have had2 : t.drop a = qch c ++ ((l.drop (j + 1)).flatMap qch ++ (34 :: (lay q ++ z))) := by
          rw [had, t2, List.flatMap_cons, List.append_assoc]
        refine qB_go hal hb (by rw [List.length_take]; omega) had2 ?_
        refine ⟨l.length - (j + 1), by omega, j + 1, a + (qch c).length, some (.str (S [c])), rfl, hlt, rfl, ?_, drop_le hal had2, drop_more had2⟩
        rw [t1]
        rfl
      · have hjl : j = l.length := by omega
        subst hjl
        rw [List.drop_length] at had
        rw [List.take_length]
        refine qB_stop hal hb had ?_
        dsimp only
        refine sSeq_of (aug_at (r := [.lst (lsD (l.map fun c => [c]))]) rfl ?_)
        dsimp only
        refine sSeq_of (sIf_of (dCmp_of (dI_of (dCB_of (aCons_of (dV_at (w := .loc 1) rfl (aNil_of ?_)))))))
        show two (decide ((60 : Int) < ((lsD (l.map fun c => [c])).length : Nat))) _ _
        rw [lsD_len, List.length_map]
        refine oneD (fun e => absurd e (by omega)) fun _ => ?_
        refine sNext_seq (sRet_of (dI_of ?_))
        refine ⟨rfl, aCons_of (dV_at (w := .loc 1) rfl (aNil_of ?_))⟩
        show mJoin (.str "") [.lst (lsD (l.map fun c => [c]))] _
        refine join1 (by omega) ?_
        have e2 : t.drop (a + 1) = lay q ++ z := drop_more (g := [34]) (z := lay q ++ z) had
        have hA2 : At t (a + 1) q z := ⟨drop_le (g := [34]) (z := lay q ++ z) hal had, hb, e2, hA.2.2.2.1.tl, hA.2.2.2.2⟩
        rw [← hA2.pos] at hk
        exact hk
  · exact h.elim
theorem call_quoted {t : List Nat} {i : Nat} {q : Sm} {z l : List Nat} {d m : Int} {k : W → Sto → Prop} {ex : DX} {r : Sto} (h : At t i q z) (hl : l.length ≤ 60) (hw : Wt q [quo l]) (hk : ansG t q z 1 (.str (S l)) d m k ex r) : callD pf_Reader_quoted [0] [.loc 0] (rd t i d m :: r) k ex := ⟨rfl, t, i, d, m, q, z, l, rfl, h, hl, hw, ans_call hk⟩
theorem call_integer {t : List Nat} {i : Nat} {q : Sm} {z : List Nat} {n d m : Int} {k : W → Sto → Prop} {ex : DX} {r : Sto} (h : At t i (([], dg n) :: q) z) (h6 : n.natAbs ≤ 1000000) (hk : k (.im (.int n)) (rd t (pos t q z) d m :: r)) : callD pf_Reader_integer [0] [.loc 0] (rd t i d m :: r) k ex := ⟨rfl, t, i, d, m, q, z, n, rfl, h, h6, by
  show k _ (back [0] (_ :: r) [_])
  rw [back0]
  exact hk⟩
end Dl.Ea
end

section
set_option maxHeartbeats 4000000
namespace Dl.Ea
open PySem PySem.Spec PyProof.Rows L2 Co PySem.StrLaws Dl.Ut PySem.NumText
section
variable {t : List Nat} {i : Nat} {q : Sm} {z : List Nat}
theorem At.drop : ∀ {q : Sm} {i : Nat} {a : Nat}, At t i q z → a ≤ q.length → At t (Ea.pos t (q.drop a) z) (q.drop a) z
  | q, i, 0, h, _ => by
    have e := h.pos
    show At t (Ea.pos t q z) q z
    rw [← e]
    exact h
  | [], i, a + 1, h, hl => by simp at hl
  | (g, x) :: q, i, a + 1, h, hl => At.drop (q := q) (a := a) h.next (by simpa using hl)
theorem Wt.l {a b : List (List Nat)} (h : Wt q (a ++ b)) : Wt q a := by
  rcases h with h | h
  · exact List.prefix_or_prefix_of_prefix h (List.prefix_append a b)
  · exact .inr ((List.prefix_append a b).trans h)
theorem Wt.d {a b : List (List Nat)} (h : Wt q (a ++ b)) (hl : a.length ≤ q.length) : Wt (q.drop a.length) b := by
  have h1 : a <+: q.map (·.2) := by
    rcases h.l with z | z
    · have e : q.map (·.2) = a := z.eq_of_length_le (by rw [List.length_map]; exact hl)
      exact e ▸ List.prefix_refl _
    · exact z
  obtain ⟨u, hu⟩ := h1
  have e : (q.drop a.length).map (·.2) = u := by rw [List.map_drop, ← hu, List.drop_left]
  rcases h with z | z
  · rw [← hu] at z
    exact .inl (by rw [e]; exact (List.prefix_append_right_inj a).mp z)
  · rw [← hu] at z
    exact .inr (by rw [e]; exact (List.prefix_append_right_inj a).mp z)
end
section
variable {t : List Nat} {i : Nat} {q : Sm} {z : List Nat} {a b : Nat} {v : D} {d m : Int} {k : W → Sto → Prop} {ex : DX} {r : Sto}
theorem ansG_drop (h : ansG t q z (a + b) v d m k ex r) (ha : a ≤ q.length) : ansG t (q.drop a) z b v d m k ex r := by
  unfold ansG at h ⊢
  rw [List.length_drop, List.drop_drop]
  by_cases hz : a + b ≤ q.length
  · rw [if_pos hz] at h
    rw [if_pos (by omega)]
    exact h
  · rw [if_neg hz] at h
    rw [if_neg (by omega)]
    exact h
theorem ansG_bad (h : ansG t q z a v d m k ex r) (ha : q.length < a) : ∀ (j : Nat) (d' m' : Int), ex "BadExpression" [("position", .int (t.length : Nat))] (rd t j d' m' :: r) := by
  unfold ansG at h
  rw [if_neg (by omega)] at h
  exact h
theorem call_exp {n n' : Nat} {e : Ex} (hn : n = n' + 1) (h : At t i q z) (hO : Ok n' e) (hw : Wt q (tk e)) (hd : d + n' ≤ 12) (hm : q ≠ [] → m + cnt e ≤ 60) (hk : ansG t q z (tk e).length (eX e) d (m + cnt e) k ex r) : callD (pf_exp n) [0] [.loc 0] (rd t i d m :: r) k ex :=
  ⟨rfl, t, i, d, m, q, z, e, n', hn, rfl, h, hO, hw, hd, hm, ans_call hk⟩
theorem call_cmp {n : Nat} {e : Ex} {r' : List (List Nat)} (h : At t i (([], [40]) :: q) z) (hO : Ok n e) (he : tk e = [40] :: r') (hw : Wt q r') (hd : d + n ≤ 12) (hm : m + cnt e ≤ 61) (hk : ansG t (([], [40]) :: q) z (tk e).length (eX e) d (m + cnt e - 1) k ex r) : callD (pf_cmp n) [0] [.loc 0] (rd t i d m :: r) k ex :=
  ⟨rfl, t, i, d, m, q, z, e, rfl, h, hO, ⟨r', he, hw⟩, hd, hm, ans_call hk⟩
theorem call_trm {n n' : Nat} {l : List Nat} {es : List Ex} (hn : n = n' + 1) (h : At t i q z) (hl : l.length ≤ 60) (h2 : es.length ≤ 2) (hO : ∀ e ∈ es, Ok n' e) (hw : Wt q (quo l :: (tks es ++ [[41]]))) (hd : d + n' ≤ 12) (hm : m + (ptss es).length ≤ 60) (hk : ansG t q z ((tks es).length + 2) (eX (.term l es)) (d - 1) (m + (ptss es).length) k ex r) :
    callD (pf_trm n) [0] [.loc 0] (rd t i d m :: r) k ex := ⟨rfl, t, i, d, m, q, z, l, es, n', hn, rfl, h, hl, h2, hO, hw, hd, hm, ans_call hk⟩
end
theorem tk_len1 {n : Nat} {e : Ex} (h : Ok n e) : ∃ x r, tk e = x :: r ∧ ∃ c y, x = c :: y ∧ c ≠ 41 := by
  cases e with
  | num k =>
    refine ⟨dg k, [], rfl, ?_⟩
    have hk : k.natAbs ≤ 1000000 := by cases n <;> exact h
    cases hx : dg k with
    | nil => exact absurd hx (Shp.num k hk).tok.1
    | cons c y =>
      refine ⟨c, y, rfl, ?_⟩
      rintro rfl
      cases k with
      | ofNat mm =>
        rw [show dg (Int.ofNat mm) = fig mm from dg_pos mm] at hx
        have := fig_dig (m := mm) 41 (by rw [hx]; exact List.mem_cons_self)
        omega
      | negSucc mm => rw [dg_neg] at hx; cases hx
  | txt l => exact ⟨_, _, rfl, 34, _, rfl, by decide⟩
  | bl b => cases b; exact ⟨_, _, rfl, 102, _, rfl, by decide⟩; exact ⟨_, _, rfl, 116, _, rfl, by decide⟩
  | term l es => exact ⟨_, _, rfl, 40, _, rfl, by decide⟩
  | frm hd as => exact ⟨_, _, rfl, 40, _, rfl, by decide⟩
  | nm l => exact absurd (show false = true from Ok_isE h) Bool.false_ne_true
  | qt l => exact absurd (show false = true from Ok_isE h) Bool.false_ne_true
def exR (n : Nat) : DS := (sSeq (sIf (dCmp cEq (dV 1) (dI (dC (.str "(")))) (sRet (dMeth "Reader" "compound" (pf_cmp n) (dV 0) aNil)) sNext)
 (sSeq (sIf (dCmp cEq (dV 1) (dI (dC (.str "\"")))) (sRet (dI (dTup (adCons (dC (.str "text")) (adCons (dD (dMeth "Reader" "quoted" pf_Reader_quoted (dV 0) aNil)) adNil))))) sNext)
 (sSeq (sIf (dOr (dCmp cEq (dV 1) (dI (dC (.str "-")))) (dCmp cIn (dV 1) (dI (dC (.str "0123456789"))))) (sRet (dI (dTup (adCons (dC (.str "integer")) (adCons (dD (dMeth "Reader" "integer" pf_Reader_integer (dV 0) aNil)) adNil))))) sNext)
 (sSeq (sAsg 2 (dFld "Reader" "at" (dV 0)))
 (sSeq (sAsg 3 (dMeth "Reader" "word" pf_Reader_word (dV 0) aNil))
 (sSeq (sIf (dCmp cNotIn (dV 3) (dI (dTup (adCons (dC (.str "true")) (adCons (dC (.str "false")) adNil))))) (sRaise1 "BadExpression" "position" (dD (dV 2))) sNext)
 (sRet (dI (dTup (adCons (dC (.str "boolean")) (adCons (dB (dCmp cEq (dV 3) (dI (dC (.str "true"))))) adNil)))))))))))
theorem r_Reader_expression {n : Nat} : ∀ ws st k ex, pf_exp (n + 1) ws st k ex → t_Reader_expression n (EnD false st.length k ex) (startD N_Reader_expression ws) st := by
  intro ws st k ex h
  unfold pf_exp at h
  split at h
  · obtain ⟨t, i, d, m, q, z, e, n', hn, rfl, hA, hO, hw, hd, hm, hk⟩ := h
    cases hn
    have hG : ansG t q z (tk e).length (eX e) d (m + cnt e) k ex [] := hk
    show (sSeq (sAsg 1 (dMeth "Reader" "sign" pf_Reader_sign (dV 0) aNil)) (sSeq (sFldAug "Reader" "many" fAddI (dV 0) (dC (.int 1))) (sSeq (sIf (dOr (dCmp cEq (dV 1) (dI (dC (.str "")))) (dCmp cGt (dFld "Reader" "many" (dV 0)) (dI (dC (.int (60)))))) (sRaise1 "BadExpression" "position" (dD (dFld "Reader" "at" (dV 0)))) sNext) (exR n)))) (EnD false 1 k ex) [some (.loc 0), none, none, none] [rd t i d m]
    refine sSeq_of (sAsg_of (dMeth_of (dV_at (w := .loc 0) rfl ⟨⟨rfl, rfl⟩, aNil_of ?_⟩)))
    refine signAt (r := []) hA ?_
    dsimp only
    refine sSeq_of (aug_many (r := []) rfl ?_)
    dsimp only
    obtain ⟨x, xr, hx, c, y, hxc, hc41⟩ := tk_len1 hO
    cases q with
    | nil =>
      refine sSeq_of (sIf_of (dOr_of (dCmp_of (dV_at (w := .im (.str (S []))) rfl ?_))))
      refine two_t (decide_eq_true rfl) (two_t rfl ?_)
      refine sRaise1_of ?_
      unfold dD
      refine fld_at (r := []) rfl ?_
      have e := hA.endz
      show ex "BadExpression" [("position", .int ((i + z.length : Nat) : Int))] [rd t (i + z.length) d (m + 1)]
      rw [e]
      exact ansG_bad hG (by rw [hx]; simp) _ _ _
    | cons p q =>
      obtain ⟨g, tok⟩ := p
      have hm := hm (by simp)
      rw [hx] at hw
      obtain ⟨rfl, hw2⟩ := hw.hd
      subst hxc
      have hS : At t (i + g.length) (([], c :: y) :: q) z := hA.stp
      have hN := hA.next
      have hG2 : ansG t (([], c :: y) :: q) z (tk e).length (eX e) d (m + cnt e) k ex [] := ansG_stp (q := (g, c :: y) :: q) (by rw [hx]; simp) hG
      have c1 : 1 ≤ cnt e := by
        unfold cnt
        rw [pts_kids (Ok_isE hO), List.length_append]
        simp
      refine sSeq_of (sIf_of (dOr_of (dCmp_of (dV_at (w := .im (.str (S [c]))) rfl ?_))))
      refine two_f (decide_eq_false fun e => absurd (S_inj.mp (show S [c] = S [] from e)) (by simp)) ?_
      refine dCmp_of (fld_many (r := []) rfl ?_)
      show two (decide ((60 : Int) < m + 1)) _ _
      refine oneD (fun e => absurd e (by omega)) fun _ => ?_
      refine sNext_of ?_
      show exR n (EnD false 1 k ex) [some (.loc 0), some (.im (.str (S [c]))), none, none] [rd t (i + g.length) d (m + 1)]
      have ne : ∀ (b : Nat) (w : Str), w = S [b] → c ≠ b → S [c] ≠ w := fun b w hw hb e => hb (List.cons.inj (S_inj.mp (e.trans hw))).1
      have cmp : ∀ r', tk e = [40] :: r' → Wt q r' → exR n (EnD false 1 k ex) [some (.loc 0), some (.im (.str (S [c]))), none, none] [rd t (i + g.length) d (m + 1)] := fun r' hr hw' => by
        unfold exR
        have e1 : c :: y = [40] ∧ xr = r' := by rw [hx] at hr; exact List.cons.inj hr
        obtain ⟨e1, rfl⟩ := e1
        cases e1
        refine sSeq_of (sIf_of (eqS_t (z := S [40]) rfl rfl (twoT ?_)))
        refine sRet_of (dMeth_of (dV_at (w := .loc 0) rfl ⟨⟨rfl, rfl⟩, aNil_of ?_⟩))
        refine call_cmp (r := []) (q := q) (e := e) hS hO hr hw' (by omega) (by omega) ?_
        rw [show m + 1 + (cnt e : Int) - 1 = m + cnt e by omega]
        exact hG2
      cases e with
      | nm l => exact absurd (show false = true from Ok_isE hO) Bool.false_ne_true
      | qt l => exact absurd (show false = true from Ok_isE hO) Bool.false_ne_true
      | term l es => exact cmp _ rfl (by have := (List.cons.inj hx).2; rw [← this] at hw2; exact hw2)
      | frm hd' as => exact cmp _ rfl (by have := (List.cons.inj hx).2; rw [← this] at hw2; exact hw2)
      | txt l =>
        have h6 : l.length ≤ 60 := by cases n <;> exact hO
        obtain ⟨e1, e2⟩ := List.cons.inj hx
        have e1 : quo l = c :: y := e1
        have hc : c = 34 := by unfold quo at e1; exact (List.cons.inj e1).1.symm
        subst hc
        unfold exR
        refine sSeq_of (sIf_of (eqS_f (z := S [34]) rfl (ne 40 _ rfl (by decide)) (twoF ?_)))
        refine sNext_seq (sSeq_of (sIf_of (eqS_t (z := S [34]) rfl rfl (twoT ?_))))
        refine sRet_of (dI_of (dTup_of (adCons_of (dC_of (adCons_of ?_)))))
        unfold dD
        refine dMeth_of (dV_at (w := .loc 0) rfl ⟨⟨rfl, rfl⟩, aNil_of ?_⟩)
        refine call_quoted (r := []) (l := l) hS h6 (.inr (by rw [e1]; exact ⟨_, rfl⟩)) ?_
        unfold ansG at hG2 ⊢
        rw [if_pos (show 1 ≤ _ by simp)]
        rw [if_pos (show (tk (.txt l)).length ≤ _ by show 1 ≤ _; simp)] at hG2
        exact ⟨by show 2 ≤ 1000000; decide, hG2⟩
      | num l =>
        have h6 : l.natAbs ≤ 1000000 := by cases n <;> exact hO
        obtain ⟨e1, e2⟩ := List.cons.inj hx
        have e1 : dg l = c :: y := e1
        have hc : c = 45 ∨ (48 ≤ c ∧ c ≤ 57) := by
          cases l with
          | ofNat mm =>
            rw [show dg (Int.ofNat mm) = fig mm from dg_pos mm] at e1
            exact .inr (fig_dig (m := mm) c (by rw [e1]; exact List.mem_cons_self))
          | negSucc mm => rw [dg_neg] at e1; exact .inl (List.cons.inj e1).1.symm
        unfold exR
        refine sSeq_of (sIf_of (eqS_f (z := S [c]) rfl (ne 40 _ rfl (by omega)) (twoF ?_)))
        refine sNext_seq (sSeq_of (sIf_of (eqS_f (z := S [c]) rfl (ne 34 _ rfl (by omega)) (twoF ?_))))
        have go : sRet (dI (dTup (adCons (dC (.str "integer")) (adCons (dD (dMeth "Reader" "integer" pf_Reader_integer (dV 0) aNil)) adNil)))) (EnD false 1 k ex) [some (.loc 0), some (.im (.str (S [c]))), none, none] [rd t (i + g.length) d (m + 1)] := by
          refine sRet_of (dI_of (dTup_of (adCons_of (dC_of (adCons_of ?_)))))
          unfold dD
          refine dMeth_of (dV_at (w := .loc 0) rfl ⟨⟨rfl, rfl⟩, aNil_of ?_⟩)
          refine call_integer (r := []) (q := q) (z := z) (n := l) (by rw [e1]; exact hS) h6 ?_
          unfold ansG at hG2
          rw [if_pos (show (tk (.num l)).length ≤ _ by show 1 ≤ _; simp)] at hG2
          exact ⟨by show 2 ≤ 1000000; decide, hG2⟩
        refine sNext_seq (sSeq_of (sIf_of (dOr_of (dCmp_of (dV_at (w := .im (.str (S [c]))) rfl ?_)))))
        show two (decide (S [c] = "-")) _ _
        refine oneD (fun _ => twoT go) fun h45 => ?_
        have hc2 : 48 ≤ c ∧ c ≤ 57 := by
          rcases hc with h | h
          · subst h; exact absurd rfl h45
          · exact h
        refine dCmp_of (dV_at (w := .im (.str (S [c]))) rfl ?_)
        show two (decide (c ∈ cl ("0123456789" : Str))) _ _
        exact two_t (decide_eq_true ((fig_cl c).mpr hc2)) go
      | bl b =>
        obtain ⟨e1, e2⟩ := List.cons.inj hx
        have wd : Wd (c :: y) := by
          rw [← show (if b then wTrue else wFalse) = c :: y from e1]
          cases b
          · exact wd_false
          · exact wd_true
        have hcl := wd.2 c List.mem_cons_self
        unfold exR
        refine sSeq_of (sIf_of (eqS_f (z := S [c]) rfl (ne 40 _ rfl (by omega)) (twoF ?_)))
        refine sNext_seq (sSeq_of (sIf_of (eqS_f (z := S [c]) rfl (ne 34 _ rfl (by omega)) (twoF ?_))))
        refine sNext_seq (sSeq_of (sIf_of (dOr_of (eqS_f (z := S [c]) rfl (ne 45 _ rfl (by omega)) (twoF ?_)))))
        refine dCmp_of (dV_at (w := .im (.str (S [c]))) rfl ?_)
        show two (decide (c ∈ cl ("0123456789" : Str))) _ _
        refine two_f (decide_eq_false fun z => by have := (fig_cl c).mp z; omega) ?_
        refine sNext_seq (sSeq_of (sAsg_of (fld_at (r := []) rfl ?_)))
        dsimp only
        refine sSeq_of (sAsg_of (dMeth_of (dV_at (w := .loc 0) rfl ⟨⟨rfl, rfl⟩, aNil_of ?_⟩)))
        refine call_word (r := []) hS wd (.inr ⟨_, rfl⟩) ?_
        unfold ansG at hG2 ⊢
        rw [if_pos (show 1 ≤ _ by simp)]
        rw [if_pos (show (tk (.bl b)).length ≤ _ by show 1 ≤ _; simp)] at hG2
        dsimp only
        rw [← show (if b then wTrue else wFalse) = c :: y from e1]
        refine sSeq_of (sIf_of (dCmp_of (dV_at (w := .im (.str (S (if b then wTrue else wFalse)))) rfl (dI_of (dTup_of (adCons_of (dC_of (adCons_of (dC_of (adNil_of ⟨by show 2 ≤ 1000000; decide, rfl, rfl, ?_⟩))))))))))
        rw [mem2 (sy := "true") (sz := "false") (y := wTrue) (z := wFalse) rfl rfl]
        refine notD (fun z => absurd (by cases b; exact .inr rfl; exact .inl rfl) z) fun _ => ?_
        refine sNext_seq (sRet_of (dI_of (dTup_of (adCons_of (dC_of (adCons_of (dB_of (dCmp_of (dV_at (w := .im (.str (S (if b then wTrue else wFalse)))) rfl ?_)))))))))
        have eb : decide (S (if b then wTrue else wFalse) = "true") = b := by cases b <;> decide +kernel
        refine ⟨by show 2 ≤ 1000000; decide, ?_⟩
        rw [eb]
        exact hG2
  · exact h.elim
end Dl.Ea
end

section
set_option maxHeartbeats 4000000
namespace Dl.Ea
open PySem PySem.Spec PyProof.Rows L2 Co PySem.StrLaws Dl.Ut PySem.NumText
theorem ptss_take {as : List Ex} {i : Nat} {a : Ex} (h : as[i]? = some a) : ptss (as.take (i + 1)) = ptss (as.take i) ++ pts a := by
  rw [ptss_eq, ptss_eq, flat_take h]
theorem ptss_le (as : List Ex) (i : Nat) : (ptss (as.take i)).length ≤ (ptss as).length := by
  rw [ptss_eq, ptss_eq]
  conv => rhs; rw [← List.take_append_drop i as]
  rw [List.flatMap_append, List.length_append]
  omega
theorem tks_drop {as : List Ex} {i : Nat} {a : Ex} (h : as[i]? = some a) : tks (as.drop i) = tk a ++ tks (as.drop (i + 1)) := by
  rw [(takeGet h).2.1]
  rfl
theorem r_Reader_compound {n : Nat} : ∀ ws st k ex, pf_cmp n ws st k ex → t_Reader_compound n (EnD false st.length k ex) (startD N_Reader_compound ws) st := by
  intro ws st k ex h
  unfold pf_cmp at h
  split at h
  · obtain ⟨t, i, d, m, q, z, e, rfl, hA, hO, ⟨r', he, hw⟩, hd, hm, hk⟩ := h
    have hG0 : ansG t (([], [40]) :: q) z (tk e).length (eX e) d (m + cnt e - 1) k ex [] := hk
    rw [he, show ([40] :: r').length = 1 + r'.length by rw [List.length_cons]; omega] at hG0
    have hG : ansG t q z r'.length (eX e) d (m + cnt e - 1) k ex [] := ansG_drop hG0 (by simp)
    have hA2 : At t (i + 1) q z := hA.next
    have cn : cnt e = (ptss (match e with | .term _ es => es | .frm _ as => as | _ => [])).length + 1 := by
      cases e with
      | term l es => show (_ ++ [_]).length = _; simp
      | frm hd as => show (_ ++ [_]).length = _; simp
      | num l => rfl
      | txt l => rfl
      | bl l => rfl
      | nm l => exact absurd (show false = true from Ok_isE hO) Bool.false_ne_true
      | qt l => exact absurd (show false = true from Ok_isE hO) Bool.false_ne_true
    have n1 : 1 ≤ n := by
      cases n with
      | succ n => omega
      | zero =>
        cases e with
        | term l es => exact hO.elim
        | frm hd as => exact hO.elim
        | num l => exact absurd (List.cons.inj (show [dg l] = [40] :: r' from he)).1 (dg_br l).2
        | txt l => exact absurd (List.cons.inj (show [quo l] = [40] :: r' from he)).1 quo_br.2
        | bl b => cases b; exact absurd (List.cons.inj (show [wFalse] = [40] :: r' from he)).1 (by decide); exact absurd (List.cons.inj (show [wTrue] = [40] :: r' from he)).1 (by decide)
        | nm l => exact absurd (show false = true from Ok_isE hO) Bool.false_ne_true
        | qt l => exact absurd (show false = true from Ok_isE hO) Bool.false_ne_true
    obtain ⟨n, rfl⟩ : ∃ n', n = n' + 1 := ⟨n - 1, by omega⟩
    unfold t_Reader_compound
    refine sSeq_of (sIf_of (dCmp_of (fld_depth (r := []) rfl ?_)))
    show two (decide (d = 12)) _ _
    refine oneD (fun e => absurd e (by omega)) fun _ => ?_
    refine sNext_seq (sSeq_of (aug_at (r := []) rfl ?_))
    dsimp only
    refine sSeq_of (aug_depth (r := []) rfl ?_)
    dsimp only
    refine sSeq_of (sDrop_of (dMeth_of (dV_at (w := .loc 0) rfl ⟨⟨rfl, rfl⟩, aNil_of ?_⟩)))
    refine blankAt (r := []) hA2 ?_
    dsimp only
    refine sSeq_of (sAsg_of (fld_at (r := []) rfl ?_))
    dsimp only
    refine sSeq_of (sAsg_of (dMeth_of (dV_at (w := .loc 0) rfl ⟨⟨rfl, rfl⟩, aNil_of ?_⟩)))
    have hdW : ∀ hd : List Nat, r'.head? = some hd → Wt q [hd] := fun hd hh => by
      cases r' with
      | nil => cases hh
      | cons a b => cases hh; exact Wt.l (a := [hd]) (b := b) hw
    have rest : ∀ (hd : List Nat) (rr : List (List Nat)), r' = hd :: rr → 1 ≤ q.length → At t (Ea.pos t (q.drop 1) z) (q.drop 1) z ∧ Wt (q.drop 1) rr ∧ ansG t (q.drop 1) z rr.length (eX e) d (m + cnt e - 1) k ex [] := fun hd rr hr hl => by
      subst hr
      refine ⟨hA2.drop hl, Wt.d (a := [hd]) (b := rr) hw hl, ?_⟩
      rw [show (hd :: rr).length = 1 + rr.length by rw [List.length_cons]; omega] at hG
      exact ansG_drop hG hl
    cases e with
    | num l => exact absurd (List.cons.inj (show [dg l] = [40] :: r' from he)).1 (dg_br l).2
    | txt l => exact absurd (List.cons.inj (show [quo l] = [40] :: r' from he)).1 quo_br.2
    | bl b => cases b; exact absurd (List.cons.inj (show [wFalse] = [40] :: r' from he)).1 (by decide); exact absurd (List.cons.inj (show [wTrue] = [40] :: r' from he)).1 (by decide)
    | nm l => exact absurd (show false = true from Ok_isE hO) Bool.false_ne_true
    | qt l => exact absurd (show false = true from Ok_isE hO) Bool.false_ne_true
    | term l es =>
      obtain ⟨h1, h2, h3⟩ := hO
      have hr : r' = wTerm :: quo l :: (tks es ++ [[41]]) := (List.cons.inj he).2.symm
      refine call_word (r := []) hA2.stp wd_term (hdW wTerm (by rw [hr]; rfl)).stp (ansG_stp (Nat.le_refl _) (ansG_bind (by rw [hr]; simp) hG (fun hle => ?_) fun _ h => h))
      obtain ⟨hAq, hWq, hGq⟩ := rest _ _ hr hle
      dsimp only
      refine sSeq_of (sIf_of (eqS_t (z := S wTerm) rfl rfl (twoT ?_)))
      refine sRet_of (dMeth_of (dV_at (w := .loc 0) rfl ⟨⟨rfl, rfl⟩, aNil_of ?_⟩))
      refine call_trm (r := []) (n' := n) rfl hAq h1 h2 h3 hWq (by omega) (by have := cn; simp only at this; omega) ?_
      rw [show d + 1 - 1 = d by omega, show m + ((ptss es).length : Int) = m + cnt (.term l es) - 1 by have := cn; simp only at this; omega]
      rw [show (tks es).length + 2 = (quo l :: (tks es ++ [[41]])).length by rw [List.length_cons, List.length_append]; rfl]
      exact hGq
    | frm hd' as =>
      obtain ⟨f, hf, ha⟩ := hO
      have F := form_ok hf
      have hlen := Fit_len ha
      have hl3 := F.l3
      have cn : cnt (.frm hd' as) = (ptss as).length + 1 := cn
      have hr : r' = hd' :: (tks as ++ [[41]]) := (List.cons.inj he).2.symm
      refine call_word (r := []) hA2.stp F.wd (hdW hd' (by rw [hr]; rfl)).stp (ansG_stp (Nat.le_refl _) (ansG_bind (by rw [hr]; simp) hG (fun hle => ?_) fun _ h => h))
      obtain ⟨hAq, hWq, hGq⟩ := rest _ _ hr hle
      dsimp only
      refine sSeq_of (sIf_of (eqS_f (z := S hd') rfl F.nm (twoF ?_)))
      refine sNext_seq (sSeq_of (sIf_of (dNot_of ?_)))
      show two (!(formsT.lookup (S hd')).isSome) _ _
      refine two_f (by rw [F.tab]; rfl) ?_
      refine sNext_seq (sSeq_of (sAsg_of (dLstM_of (adCons_of (dD_at (d := .str (S hd')) rfl (adNil_of ⟨by show 1 ≤ 1000000; decide, ?_⟩))))))
      dsimp only
      refine sSeq_of ?_
      unfold sFor iSt
      show (match formsT.lookup (S hd') with | some v => _ | none => False)
      rw [F.tab]
      dsimp only [dvD]
      have hGq9 : ansG t (q.drop 1) z ((tks (as.drop 0)).length + 1) (eX (.frm hd' as)) d (m + cnt (.frm hd' as) - 1) k ex [] := by
        have e9 : (tks as ++ [[41]]).length = (tks (as.drop 0)).length + 1 := by rw [List.length_append]; rfl
        rw [e9] at hGq
        exact hGq
      refine ⟨fun j σ' st' => ∃ (qi : Sm) (x4 : Option D), σ' = [some (.loc 0), some (.im (.int ((i + 1 + (gapOf q z).length : Nat) : Int))), some (.im (.str (S hd'))), some (.loc 1), x4.map .im] ∧ st' = [rd t (Ea.pos t qi z) (d + 1) (m + (ptss (as.take j)).length), .lst (.str (S hd') :: (as.take j).map eX)] ∧ At t (Ea.pos t qi z) qi z ∧ Wt qi (tks (as.drop j) ++ [[41]]) ∧ ansG t qi z ((tks (as.drop j)).length + 1) (eX (.frm hd' as)) d (m + cnt (.frm hd' as) - 1) k ex [],
        ⟨q.drop 1, none, rfl, by show _ = [rd t _ _ (m + ((0 : Nat) : Int)), _]; rw [show m + ((0 : Nat) : Int) = m by omega]; rfl, hAq, hWq, hGq9⟩, ?_, ?_⟩
      · rintro j dd σ' st' hi ⟨qi, x4, rfl, rfl, hAi, hWi, hGi⟩ -
        rw [sfm, List.getElem?_map] at hi
        cases hc : f[j]? with
        | none => rw [hc] at hi; cases hi
        | some c =>
          rw [hc] at hi
          cases hi
          obtain ⟨a, hga, hK⟩ := Fit_get ha hc
          have hj : j < as.length := ltAt hga
          rw [tks_drop hga, List.append_assoc] at hWi
          rw [tks_drop hga, List.length_append, Nat.add_assoc] at hGi
          have b1 := ptss_le as (j + 1)
          rw [ptss_take hga, List.length_append] at b1
          have fin : (tk a).length ≤ qi.length → (D.str (S hd') :: (as.take j).map eX).length ≤ 1000000 ∧ ∃ (qi' : Sm) (x4' : Option D), ([some (.loc 0), some (.im (.int ((i + 1 + (gapOf q z).length : Nat) : Int))), some (.im (.str (S hd'))), some (.loc 1), some (.im (.str ⟨#[c]⟩))] : Sl) = [some (.loc 0), some (.im (.int ((i + 1 + (gapOf q z).length : Nat) : Int))), some (.im (.str (S hd'))), some (.loc 1), x4'.map .im] ∧
              ([rd t (Ea.pos t (qi.drop (tk a).length) z) (d + 1) (m + (ptss (as.take j)).length + cnt a), .lst ((.str (S hd') :: (as.take j).map eX) ++ [eX a])] : Sto) = [rd t (Ea.pos t qi' z) (d + 1) (m + (ptss (as.take (j + 1))).length), .lst (.str (S hd') :: (as.take (j + 1)).map eX)] ∧ At t (Ea.pos t qi' z) qi' z ∧ Wt qi' (tks (as.drop (j + 1)) ++ [[41]]) ∧ ansG t qi' z ((tks (as.drop (j + 1))).length + 1) (eX (.frm hd' as)) d (m + cnt (.frm hd' as) - 1) k ex [] := fun hle => by
            refine ⟨by rw [List.length_cons, List.length_map, List.length_take]; omega, qi.drop (tk a).length, some (.str ⟨#[c]⟩), rfl, ?_, hAi.drop hle, Wt.d hWi hle, ansG_drop hGi hle⟩
            rw [ptss_take hga, List.length_append, (takeGet hga).1, List.map_append]
            rw [show m + ((ptss (as.take j)).length : Int) + (cnt a : Int) = m + (((ptss (as.take j)).length + (pts a).length : Nat) : Int) by unfold cnt; omega]
            rfl
          have bad : qi.length < (tk a).length → ∀ (jj : Nat) (d' m' : Int), ex "BadExpression" [("position", .int (t.length : Nat))] [rd t jj d' m'] := fun hlt => ansG_bad hGi (by omega)
          show sIf _ _ _ _ [some (.loc 0), some (.im (.int ((i + 1 + (gapOf q z).length : Nat) : Int))), some (.im (.str (S hd'))), some (.loc 1), some (.im (.str ⟨#[c]⟩))] _
          refine sIf_of ?_
          show two (decide ((⟨#[c]⟩ : Str) = "E")) _ _
          refine oneD (fun h1 => ?_) fun h1 => ?_
          · have hc69 := (chE sE).mp h1
            unfold Kd at hK
            rw [if_pos hc69] at hK
            refine sApp_of (dV_at (w := .loc 1) rfl ⟨⟨_, rfl⟩, ?_⟩)
            unfold dD
            refine dMeth_of (dV_at (w := .loc 0) rfl ⟨⟨rfl, rfl⟩, aNil_of ?_⟩)
            refine call_exp (r := [.lst (.str (S hd') :: (as.take j).map eX)]) (n' := n) rfl hAi hK hWi.l (by omega) (fun _ => by unfold cnt; omega) ?_
            unfold ansG
            split
            · rename_i hle; exact fin hle
            · rename_i hle; exact fun jj d' m' => bad (by omega) jj d' m'
          · have hc69 : c ≠ 69 := fun z => h1 ((chE sE).mpr z)
            unfold Kd at hK
            rw [if_neg hc69] at hK
            refine sIf_of ?_
            show two (decide ((⟨#[c]⟩ : Str) = "T")) _ _
            refine oneD (fun h2 => ?_) fun h2 => ?_
            · have hc84 := (chE sT).mp h2
              rw [if_pos hc84] at hK
              obtain ⟨l, rfl, h6⟩ := hK
              refine sApp_of (dV_at (w := .loc 1) rfl ⟨⟨_, rfl⟩, ?_⟩)
              unfold dD
              refine dMeth_of (dV_at (w := .loc 0) rfl ⟨⟨rfl, rfl⟩, aNil_of ?_⟩)
              refine call_quoted (r := [.lst (.str (S hd') :: (as.take j).map eX)]) hAi h6 hWi.l ?_
              unfold ansG
              split
              · rename_i hle
                have := fin hle
                rw [show m + ((ptss (as.take j)).length : Int) + (cnt (.qt l) : Int) = m + ((ptss (as.take j)).length : Int) from Int.add_zero _] at this
                exact this
              · rename_i hle; exact fun jj d' m' => bad (by show _ < 1; omega) jj d' m'
            · have hc84 : c ≠ 84 := fun z => h2 ((chE sT).mpr z)
              rw [if_neg hc84] at hK
              obtain ⟨l, rfl, h6⟩ := hK
              refine sApp_of (dV_at (w := .loc 1) rfl ⟨⟨_, rfl⟩, ?_⟩)
              unfold dD
              refine dMeth_of (dV_at (w := .loc 0) rfl ⟨⟨rfl, rfl⟩, aNil_of ?_⟩)
              refine call_name (r := [.lst (.str (S hd') :: (as.take j).map eX)]) hAi h6 hWi.l ?_
              unfold ansG
              split
              · rename_i hle
                have := fin hle
                rw [show m + ((ptss (as.take j)).length : Int) + (cnt (.nm l) : Int) = m + ((ptss (as.take j)).length : Int) from Int.add_zero _] at this
                exact this
              · rename_i hle; exact fun jj d' m' => bad (by show _ < 1; omega) jj d' m'
      · rintro σ' st' ⟨qi, x4, rfl, rfl, hAi, hWi, hGi⟩ -
        rw [sfm, List.length_map, ← hlen] at *
        rw [List.take_length]
        rw [List.drop_length] at hWi hGi
        refine sSeq_of (sDrop_of (dMeth_of (dV_at (w := .loc 0) rfl ⟨⟨rfl, rfl⟩, aNil_of ?_⟩)))
        refine call_close (r := [.lst (.str (S hd') :: as.map eX)]) hAi hWi (ansG_bind (Nat.le_refl _) hGi (fun hle => ?_) fun _ h jj d' m' => h jj d' m')
        have hGi : ansG t qi z 1 (eX (.frm hd' as)) d (m + cnt (.frm hd' as) - 1) k ex [] := hGi
        unfold ansG at hGi
        rw [if_pos hle] at hGi
        dsimp only
        refine sRet_of (dI_of (dCB_of (aCons_of (dV_at (w := .loc 1) rfl (aNil_of ?_)))))
        rw [show eX (.frm hd' as) = .tup (.str (S hd') :: eXs as) from rfl, eXs_eq, show m + (cnt (.frm hd' as) : Int) - 1 = m + (ptss as).length by omega] at hGi
        rw [show d + 1 - 1 = d by omega]
        exact hGi
  · exact h.elim
end Dl.Ea
end

section
set_option maxHeartbeats 4000000
namespace Dl.Ea
open PySem PySem.Spec PyProof.Rows L2 Co PySem.StrLaws Dl.Ut PySem.NumText
def trB (n : Nat) : DS := (sSeq (sIf (dCmp cEq (dI (dCB fLen (aCons (dV 2) aNil))) (dI (dC (.int (6))))) (sRaise1 "BadExpression" "position" (dD (dFld "Reader" "at" (dV 0)))) sNext)
 (sApp (dV 2) (dD (dMeth "Reader" "expression" (pf_exp n) (dV 0) aNil))))
theorem trB_ok {n n' i : Nat} {E : En} {t : List Nat} {q : Sm} {z : List Nat} {d m : Int} {lb : W} {ds : List D} {e : Ex} (hn : n = n' + 1) (hl : ds.length ≤ 5) (hA : At t i q z) (hO : Ok n' e) (hw : Wt q (tk e)) (hd : d + n' ≤ 12) (hm : q ≠ [] → m + cnt e ≤ 60)
    (h1 : (tk e).length ≤ q.length → E.nx [some (.loc 0), some lb, some (.loc 1)] [rd t (Ea.pos t (q.drop (tk e).length) z) d (m + cnt e), .lst (ds ++ [eX e])])
    (h2 : q.length < (tk e).length → ∀ (j : Nat) (d' m' : Int), E.ex "BadExpression" [("position", .int (t.length : Nat))] [some (.loc 0), some lb, some (.loc 1)] [rd t j d' m', .lst ds]) : trB n E [some (.loc 0), some lb, some (.loc 1)] [rd t i d m, .lst ds] := by
  unfold trB
  refine sSeq_of (sIf_of (dCmp_of (dI_of (dCB_of (aCons_of (dV_at (w := .loc 1) rfl (aNil_of ?_)))))))
  show two (decide (((ds.length : Nat) : Int) = 6)) _ _
  refine oneD (fun e => absurd e (by omega)) fun _ => ?_
  refine sNext_seq (sApp_of (dV_at (w := .loc 1) rfl ⟨⟨_, rfl⟩, ?_⟩))
  unfold dD
  refine dMeth_of (dV_at (w := .loc 0) rfl ⟨⟨rfl, rfl⟩, aNil_of ?_⟩)
  refine call_exp (r := [.lst ds]) hn hA hO hw hd hm ?_
  unfold ansG
  split
  · rename_i hle
    exact ⟨by omega, h1 hle⟩
  · rename_i hle
    exact fun j d' m' => h2 (by omega) j d' m'
theorem r_Reader_term {n : Nat} : ∀ ws st k ex, pf_trm n ws st k ex → t_Reader_term n (EnD false st.length k ex) (startD N_Reader_term ws) st := by
  intro ws st k ex h
  unfold pf_trm at h
  split at h
  · obtain ⟨t, i, d, m, q, z, l, es, n', hn, rfl, hA, hl6, hl2, hO, hw, hd, hm, hk⟩ := h
    have hG : ansG t q z ((tks es).length + 2) (eX (.term l es)) (d - 1) (m + (ptss es).length) k ex [] := hk
    show (sSeq (sAsg 1 (dMeth "Reader" "quoted" pf_Reader_quoted (dV 0) aNil)) (sSeq (sAsg 2 (dLstM adNil)) (sSeq (sWhile (dCmp cNe (dMeth "Reader" "sign" pf_Reader_sign (dV 0) aNil) (dI (dC (.str ")")))) (trB n)) (sSeq (sDrop (dMeth "Reader" "close" pf_Reader_close (dV 0) aNil))
      (sRet (dI (dTup (adCons (dC (.str "term")) (adCons (dD (dV 1)) (adCons (dCB fTuple (aCons (dV 2) aNil)) adNil)))))))))) (EnD false 1 k ex) [some (.loc 0), none, none] [rd t i d m]
    refine sSeq_of (sAsg_of (dMeth_of (dV_at (w := .loc 0) rfl ⟨⟨rfl, rfl⟩, aNil_of ?_⟩)))
    refine call_quoted (r := []) hA hl6 (Wt.l (a := [quo l]) (b := tks es ++ [[41]]) hw) (ansG_bind (by omega) hG (fun hle => ?_) fun _ h => h)
    have hA1 := hA.drop hle
    have hW1 : Wt (q.drop 1) (tks es ++ [[41]]) := Wt.d (a := [quo l]) (b := tks es ++ [[41]]) hw hle
    have hG1 : ansG t (q.drop 1) z ((tks es).length + 1) (eX (.term l es)) (d - 1) (m + (ptss es).length) k ex [] := by
      rw [show (tks es).length + 2 = 1 + ((tks es).length + 1) by omega] at hG
      exact ansG_drop hG hle
    dsimp only
    refine sSeq_of (sAsg_of (dLstM_of (adNil_of ⟨Nat.zero_le _, ?_⟩)))
    dsimp only
    refine sSeq_of ?_
    unfold sWhile
    refine ⟨fun mm σ' st' => ∃ (j a : Nat) (qi : Sm) (zi : List Nat), mm = es.length - j ∧ j ≤ es.length ∧ σ' = [some (.loc 0), some (.im (.str (S l))), some (.loc 1)] ∧ st' = [rd t a d (m + (ptss (es.take j)).length), .lst ((es.take j).map eX)] ∧ At t a qi zi ∧ Wt qi (tks (es.drop j) ++ [[41]]) ∧ ansG t qi zi ((tks (es.drop j)).length + 1) (eX (.term l es)) (d - 1) (m + (ptss es).length) k ex [],
      ⟨_, 0, Ea.pos t (q.drop 1) z, q.drop 1, z, rfl, Nat.zero_le _, rfl, by show _ = [rd t _ _ (m + ((0 : Nat) : Int)), _]; rw [show m + ((0 : Nat) : Int) = m by omega]; rfl, hA1, hW1, hG1⟩, ?_⟩
    rintro mm σ' st' ⟨j, a, qi, zi, rfl, hj, rfl, rfl, hAi, hWi, hGi⟩ -
    refine dCmp_of (dMeth_of (dV_at (w := .loc 0) rfl ⟨⟨rfl, rfl⟩, aNil_of ?_⟩))
    refine signAt (r := [.lst ((es.take j).map eX)]) hAi ?_
    have hlt5 : ((es.take j).map eX).length ≤ 5 := by rw [List.length_map, List.length_take]; omega
    cases qi with
    | nil =>
      refine two_t (by show (!decide (S [] = ")")) = true; decide) ?_
      refine trB_ok (e := .bl true) hn hlt5 hAi.stp (by cases n' <;> trivial) (.inl (List.nil_prefix)) hd (fun z => absurd rfl z) (fun z => absurd z (by show ¬ 1 ≤ 0; omega)) fun _ jj d' m' => ?_
      exact ansG_bad hGi (by show 0 < _; omega) jj d' m'
    | cons p r =>
      obtain ⟨g, tok⟩ := p
      have hS : At t (a + g.length) (([], tok) :: r) zi := hAi.stp
      rcases Nat.lt_or_ge j es.length with hlt | hge
      · obtain ⟨e, he⟩ : ∃ e, es[j]? = some e := ⟨es[j], List.getElem?_eq_getElem hlt⟩
        have hOe := hO e (List.mem_of_getElem? he)
        rw [tks_drop he, List.append_assoc] at hWi
        rw [tks_drop he, List.length_append, Nat.add_assoc] at hGi
        obtain ⟨x, xr, hx, c, y, hxc, hc41⟩ := tk_len1 hOe
        have htok : tok = c :: y := by
          rw [hx] at hWi
          exact hWi.hd.1.trans hxc
        subst htok
        have hGs : ansG t (([], c :: y) :: r) zi ((tk e).length + ((tks (es.drop (j + 1))).length + 1)) (eX (.term l es)) (d - 1) (m + (ptss es).length) k ex [] := ansG_stp (q := (g, c :: y) :: r) (by omega) hGi
        have b1 := ptss_le es (j + 1)
        rw [ptss_take he, List.length_append] at b1
        refine two_t (by show (!decide (S [c] = ")")) = true; rw [decide_eq_false (show ¬ (S [c] = ")") from fun z => hc41 (List.cons.inj (S_inj.mp (show S [c] = S [41] from z))).1)]; rfl) ?_
        refine trB_ok (e := e) hn hlt5 hS hOe (Wt.l (q := ([], c :: y) :: r) (a := tk e) hWi) hd (fun _ => by unfold cnt; omega) (fun hle => ?_) fun hlt2 jj d' m' => ansG_bad hGi (by show r.length + 1 < _; have : r.length + 1 < (tk e).length := hlt2; omega) jj d' m'
        refine ⟨es.length - (j + 1), by omega, j + 1, _, (([], c :: y) :: r).drop (tk e).length, zi, rfl, hlt, rfl, ?_, hS.drop hle, Wt.d (q := ([], c :: y) :: r) hWi hle, ansG_drop hGs hle⟩
        rw [ptss_take he, (takeGet he).1, List.map_append]
        rw [show m + (((ptss (es.take j) ++ pts e).length : Nat) : Int) = m + ((ptss (es.take j)).length : Int) + (cnt e : Int) by rw [List.length_append]; unfold cnt; omega]
        rfl
      · have hjl : j = es.length := by omega
        subst hjl
        rw [List.drop_length] at hWi hGi
        rw [List.take_length]
        have htok : tok = [41] := (Wt.hd (q := r) (ts := []) hWi).1
        subst htok
        refine two_f (by show (!decide (S [41] = ")")) = false; decide) ?_
        have hGi : ansG t ((g, [41]) :: r) zi 1 (eX (.term l es)) (d - 1) (m + (ptss es).length) k ex [] := hGi
        dsimp only
        refine sSeq_of (sDrop_of (dMeth_of (dV_at (w := .loc 0) rfl ⟨⟨rfl, rfl⟩, aNil_of ?_⟩)))
        refine call_close (r := [.lst (es.map eX)]) hS hWi (ansG_stp (q := (g, [41]) :: r) (Nat.le_refl _) (ansG_bind (Nat.le_refl _) hGi (fun hle => ?_) fun _ h jj d' m' => h jj d' m'))
        unfold ansG at hGi
        rw [if_pos hle] at hGi
        dsimp only
        refine sRet_of (dI_of (dTup_of (adCons_of (dC_of (adCons_of (dD_at (d := .str (S l)) rfl (adCons_of (dCB_of (aCons_of (dV_at (w := .loc 1) rfl (aNil_of ?_)))))))))))
        rw [show eX (.term l es) = .tup [.str "term", .str (S l), .tup (eXs es)] from rfl, eXs_eq] at hGi
        exact ⟨by show 3 ≤ 1000000; decide, hGi⟩
  · exact h.elim
end Dl.Ea
end

section
set_option maxHeartbeats 4000000
namespace Dl.Ea
open PySem PySem.Spec PyProof.Rows L2 Co PySem.StrLaws Dl.Ut PySem.NumText
theorem r_read_expression : ∀ ws st k ex, pf_read_expression ws st k ex → t_read_expression (EnD false st.length k ex) (startD N_read_expression ws) st := by
  intro ws st k ex h
  unfold pf_read_expression at h
  split at h
  · obtain ⟨t, q, z, e, n, rfl, hA, hO, hn, hw, hc, hk⟩ := h
    have hO4 := Ok_mono hO hn
    unfold t_read_expression
    refine sSeq_of (sAsg_of ?_)
    refine ⟨rfl, rfl, t, rfl, ?_⟩
    show (sSeq (sAsg 2 (dMeth "Reader" "expression" (pf_exp 5) (dV 1) aNil)) (sSeq (sIf (dCmp cNe (dMeth "Reader" "sign" pf_Reader_sign (dV 1) aNil) (dI (dC (.str "")))) (sRaise1 "BadExpression" "position" (dD (dFld "Reader" "at" (dV 1)))) sNext) (sRet (dV 2)))) (EnD false 0 k ex) [some (.im (.str (S t))), some (.loc 0), none] [rd t 0 0 0]
    refine sSeq_of (sAsg_of (dMeth_of (dV_at (w := .loc 0) rfl ⟨⟨rfl, rfl⟩, aNil_of ?_⟩)))
    refine call_exp (r := []) (i := 0) (d := 0) (m := 0) (n' := 4) rfl hA hO4 hw (by omega) (fun _ => by omega) ?_
    unfold ansG
    split
    · rename_i hle
      rw [if_pos hle] at hk
      dsimp only
      refine sSeq_of (sIf_of (dCmp_of (dMeth_of (dV_at (w := .loc 0) rfl ⟨⟨rfl, rfl⟩, aNil_of ?_⟩))))
      refine signAt (r := []) (hA.drop hle) ?_
      cases hq : q.drop (tk e).length with
      | nil =>
        have hl : (tk e).length = q.length := by
          have := congrArg List.length hq
          rw [List.length_drop] at this
          simp at this
          omega
        rw [if_pos hl] at hk
        refine two_f (by show (!decide (S [] = "")) = false; decide) ?_
        refine sNext_seq (sRet_of (dV_at rfl ?_))
        exact hk
      | cons p r =>
        have hl : (tk e).length ≠ q.length := fun h => by
          rw [h, List.drop_length] at hq
          cases hq
        rw [if_neg hl, hq] at hk
        obtain ⟨g, tok⟩ := p
        have hd := hA.drop hle
        rw [hq] at hd
        have ht := hd.2.2.2.1.hd.2
        obtain ⟨a, b, rfl⟩ : ∃ a b, tok = a :: b := by cases tok with | nil => exact absurd rfl ht.1 | cons a b => exact ⟨a, b, rfl⟩
        refine two_t (by show (!decide (S [a] = "")) = true; rw [decide_eq_false (show ¬ (S [a] = "") from fun e => absurd (S_inj.mp (show S [a] = S [] from e)) (by simp))]; rfl) ?_
        refine sRaise1_of ?_
        unfold dD dFld
        refine dV_at (w := .loc 0) rfl ?_
        exact ⟨rfl, hk⟩
    · rename_i hle
      rw [if_neg hle] at hk
      exact fun _ _ _ => hk
  · exact h.elim
theorem call_read {t : List Nat} {q : Sm} {z : List Nat} {e : Ex} {n : Nat} {st : Sto} {k : W → Sto → Prop} {ex : DX} (hA : At t 0 q z) (hO : Ok n e) (hn : n ≤ 4) (hw : Wt q (tk e)) (hc : cnt e ≤ 60) (hl : (tk e).length = q.length) (hk : k (.im (eX e)) st) : callD pf_read_expression [] [.im (.str (S t))] st k ex :=
  ⟨rfl, t, q, z, e, n, rfl, hA, hO, hn, hw, hc, by rw [if_pos (by omega), if_pos hl]; exact hk⟩
theorem r_Lrefused : ∀ ws st k ex, pf_Lrefused ws st k ex → t_Lrefused (EnD false st.length k ex) (startD N_Lrefused ws) st := by
  intro ws st k ex h
  unfold pf_Lrefused at h
  split at h
  · obtain ⟨t, q, z, e, n, rfl, hA, hO, hn, hw, hc, hl, hk⟩ := h
    unfold t_Lrefused
    refine sSeq_of ?_
    unfold sTryAs
    refine sDrop_of (dCall_of (aCons_of (dV_at rfl (aNil_of ?_))))
    refine ⟨rfl, t, q, z, e, n, rfl, hA, hO, hn, hw, hc, ?_⟩
    by_cases hle : (tk e).length ≤ q.length
    · rw [if_pos hle] at hk ⊢
      rw [if_neg hl]
      exact ⟨by simp, fun a dd => ⟨rfl, rfl, rfl, twoT ⟨rfl, rfl, rfl, hk⟩⟩⟩
    · rw [if_neg hle] at hk ⊢
      exact ⟨by simp, fun a dd => ⟨rfl, rfl, rfl, twoT ⟨rfl, rfl, rfl, hk⟩⟩⟩
  · exact h.elim
end Dl.Ea
end

section
set_option maxHeartbeats 4000000
namespace Dl.Ea
open PySem PySem.Spec PyProof.Rows L2 Co PySem.StrLaws Dl.Ut PySem.NumText
def ez0 : DS := (sAsg 1 (dCall pf_pool (aCons (dV 0) aNil)))
def ez1 : DS := (sAsg 2 (dCall (pf_Lexp 5) (aCons (dV 1) (aCons (dCall pf_take (aCons (dV 1) (aCons (dI (dC (.int 5))) aNil))) aNil))))
def ez2 : DS := (sIf (dCmp cGt (dI (dCB fLen (aCons (dCall (pf_Lprts 5) (aCons (dV 2) aNil)) aNil))) (dI (dC (.int 60)))) (sAsg 2 (dCall pf_Lplain (aCons (dV 1) aNil))) sNext)
def ez3 : DS := (sAsg 3 (dCall (pf_Ltoks 5) (aCons (dV 2) aNil)))
def ez4 : DS := (sAsg 4 (dCall pf_Llayout (aCons (dV 1) (aCons (dV 3) aNil))))
def ez5 : DS := (sAsg 5 (dI (dIx (dV 4) (dC (.int 0)))))
def ez6 : DS := (sIf (dOr (dCmp cNe (dCall pf_read_expression (aCons (dV 5) aNil)) (dV 2)) (dCmp cNe (dCall (pf_wr 5) (aCons (dV 2) aNil)) (dCall pf_Lwritten (aCons (dV 3) aNil)))) (sRet (dI (dC (.bl false)))) sNext)
def ez7 : DS := (sIf (dCmp cNe (dCall pf_read_expression (aCons (dCall (pf_wr 5) (aCons (dV 2) aNil)) aNil)) (dV 2)) (sRet (dI (dC (.bl false)))) sNext)
def ez8 : DS := (sIf (dOr (dCmp cNe (dI (dCB fList (aCons (dCall pf_operands (aCons (dV 2) aNil)) aNil))) (dCall pf_Lbelow (aCons (dV 2) aNil))) (dCmp cNe (dI (dCB fList (aCons (dCall (pf_prts 5) (aCons (dV 2) aNil)) aNil))) (dCall (pf_Lprts 5) (aCons (dV 2) aNil)))) (sRet (dI (dC (.bl false)))) sNext)
def ez9 : DS := (sAsg 6 (dI (dIx (dI (dTup (adCons (dC (.str "$")) (adCons (dC (.str "zzz")) (adCons (dC (.str ")")) (adCons (dC (.str "2")) adNil)))))) (dD (dCall pf_take (aCons (dV 1) (aCons (dI (dC (.int 4))) aNil)))))))
def ez10 : DS := (sIf (dCmp cNe (dCall pf_Lrefused (aCons (dI (dOp fAdd (dOp fAdd (dD (dV 5)) (dC (.str " "))) (dD (dV 6)))) aNil)) (dI (dOp fAdd (dCB fLen (aCons (dV 5) aNil)) (dC (.int 1))))) (sRet (dI (dC (.bl false)))) sNext)
def ez11 : DS := (sIf (dOr (dCmp cNe (dCall pf_Lrefused (aCons (dI (dC (.str ""))) aNil)) (dI (dC (.int 0)))) (dCmp cNe (dCall pf_Lrefused (aCons (dI (dC (.str " "))) aNil)) (dI (dC (.int 1))))) (sRet (dI (dC (.bl false)))) sNext)
def ez12 : DS := (sAsg 7 (dCall pf_take (aCons (dV 1) (aCons (dI (dCB fLen (aCons (dV 3) aNil))) aNil))))
def ez13 : DS := (sAsg 8 (dI (dSl (dV 5) dNoPart (dPart (dIx (dI (dIx (dV 4) (dC (.int 1)))) (dD (dV 7)))))))
def ez14 : DS := (sRet (dI (dB (dCmp cEq (dCall pf_Lrefused (aCons (dV 8) aNil)) (dI (dCB fLen (aCons (dV 8) aNil)))))))
def ezr14 : DS := ez14
def ezr13 : DS := (sSeq ez13 ezr14)
def ezr12 : DS := (sSeq ez12 ezr13)
def ezr11 : DS := (sSeq ez11 ezr12)
def ezr10 : DS := (sSeq ez10 ezr11)
def ezr9 : DS := (sSeq ez9 ezr10)
def ezr8 : DS := (sSeq ez8 ezr9)
def ezr7 : DS := (sSeq ez7 ezr8)
def ezr6 : DS := (sSeq ez6 ezr7)
def ezr5 : DS := (sSeq ez5 ezr6)
def ezr4 : DS := (sSeq ez4 ezr5)
def ezr3 : DS := (sSeq ez3 ezr4)
def ezr2 : DS := (sSeq ez2 ezr3)
def ezr1 : DS := (sSeq ez1 ezr2)
def ezr0 : DS := (sSeq ez0 ezr1)
def eS (ns : List Int) (x1 x2 x3 x4 x5 x6 x7 x8 : Option W) : Sl := [some (.im (.scr ns)), x1, x2, x3, x4, x5, x6, x7, x8]
theorem shp_up : ∀ {n m : Nat} {d : D}, n ≤ m → shp n d = true → shp m d = true := by
  intro n m d h
  induction h with
  | refl => exact id
  | step _ ih => exact fun z => shp_mono _ _ (ih z)
theorem shp_eX : ∀ {n : Nat} {e : Ex}, Ok n e → shp (2 * n + 1) (eX e) = true := by
  intro n
  induction n with
  | zero =>
    intro e h
    cases e with
    | term l es => exact h.elim
    | frm hd as => exact h.elim
    | nm t => exact absurd (show false = true from Ok_isE h) Bool.false_ne_true
    | qt t => exact absurd (show false = true from Ok_isE h) Bool.false_ne_true
    | _ => rfl
  | succ n ih =>
    intro e h
    cases e with
    | nm t => exact absurd (show false = true from Ok_isE h) Bool.false_ne_true
    | qt t => exact absurd (show false = true from Ok_isE h) Bool.false_ne_true
    | term l es =>
      show shp (2 * n + 1 + 1 + 1) (.tup [.str "term", .str (S l), .tup (eXs es)]) = true
      show ([.str "term", .str (S l), .tup (eXs es)] : List D).all (shp (2 * n + 1 + 1)) = true
      rw [List.all_cons, List.all_cons, List.all_cons]
      show (true && (true && ((eXs es).all (shp (2 * n + 1)) && true))) = true
      rw [Bool.true_and, Bool.true_and, Bool.and_true, eXs_eq]
      refine List.all_eq_true.mpr fun d hd => ?_
      obtain ⟨x, hx, rfl⟩ := List.mem_map.mp hd
      exact ih (h.2.2 x hx)
    | frm hd as =>
      obtain ⟨f, hf, ha⟩ := h
      show (D.str (S hd) :: eXs as).all (shp (2 * n + 1 + 1)) = true
      rw [List.all_cons]
      show (true && (eXs as).all (shp (2 * n + 1 + 1))) = true
      rw [Bool.true_and, eXs_eq]
      refine List.all_eq_true.mpr fun d hd => ?_
      obtain ⟨x, hx, rfl⟩ := List.mem_map.mp hd
      obtain ⟨c, _, hk⟩ := Fit_mem ha hx
      unfold Kd at hk
      split at hk
      · exact shp_mono _ _ (ih hk)
      · split at hk
        · obtain ⟨t, rfl, _⟩ := hk; rfl
        · obtain ⟨t, rfl, _⟩ := hk; rfl
    | _ => rfl
theorem pts_ok : ∀ {n : Nat} {e x : Ex}, Ok n e → x ∈ pts e → Ok n x := by
  intro n
  induction n with
  | zero =>
    intro e x h hx
    rw [pts_kids (Ok_isE h)] at hx
    rcases List.mem_append.mp hx with hx | hx
    · obtain ⟨y, hy, _⟩ := List.mem_flatMap.mp hx
      obtain ⟨m, e1, _⟩ := kids_ok h hy
      omega
    · rw [List.mem_singleton.mp hx]; exact h
  | succ n ih =>
    intro e x h hx
    rw [pts_kids (Ok_isE h)] at hx
    rcases List.mem_append.mp hx with hx | hx
    · obtain ⟨y, hy, hx⟩ := List.mem_flatMap.mp hx
      obtain ⟨m, e1, h2⟩ := kids_ok h hy
      cases e1
      exact Ok_mono (ih h2 hx) (Nat.le_succ _)
    · rw [List.mem_singleton.mp hx]; exact h
theorem neX {σ : Sl} {st : Sto} {ta tb : DW} {d : D} {k : Bool → Sto → Prop} {ex : DX} (hs : shp 60 d = true) (hn : eqSD d d = none) (ha : ∀ k : W → Sto → Prop, k (.im d) st → ta σ st k ex) (hb : ∀ k : W → Sto → Prop, k (.im d) st → tb σ st k ex) (hk : k false st) : dCmp cNe ta tb σ st k ex := by
  refine dCmp_of (ha _ (hb _ ?_))
  show cNe d d _
  unfold cNe
  rw [hn]
  refine ⟨hs, hs, ?_⟩
  rw [eqvD_refl d 60 hs]
  exact hk
theorem neS {σ : Sl} {st : Sto} {ta tb : DW} {s : Str} {k : Bool → Sto → Prop} {ex : DX} (ha : ∀ k : W → Sto → Prop, k (.im (.str s)) st → ta σ st k ex) (hb : ∀ k : W → Sto → Prop, k (.im (.str s)) st → tb σ st k ex) (hk : k false st) : dCmp cNe ta tb σ st k ex := by
  refine dCmp_of (ha _ (hb _ ?_))
  show k (!decide (s = s)) st
  rw [decide_eq_true rfl]
  exact hk
theorem neI {σ : Sl} {st : Sto} {ta tb : DW} {s : Int} {k : Bool → Sto → Prop} {ex : DX} (ha : ∀ k : W → Sto → Prop, k (.im (.int s)) st → ta σ st k ex) (hb : ∀ k : W → Sto → Prop, k (.im (.int s)) st → tb σ st k ex) (hk : k false st) : dCmp cNe ta tb σ st k ex := by
  refine dCmp_of (ha _ (hb _ ?_))
  show k (!decide (s = s)) st
  rw [decide_eq_true rfl]
  exact hk
theorem eX_tup {n : Nat} {e : Ex} (h : Ok n e) : eqSD (eX e) (eX e) = none := by
  cases e with
  | nm t => exact absurd (show false = true from Ok_isE h) Bool.false_ne_true
  | qt t => exact absurd (show false = true from Ok_isE h) Bool.false_ne_true
  | _ => rfl
theorem shp60 {n : Nat} {e : Ex} (h : Ok n e) (hn : n ≤ 4) : shp 59 (eX e) = true := shp_up (by omega) (shp_eX h)
theorem Gd_take : ∀ {q : Sm} (i : Nat), Gd q → Gd (q.take i)
  | _, 0, _ => trivial
  | [], _ + 1, _ => trivial
  | [(g, t)], _ + 1, h => by rw [List.take_succ_cons]; simp; exact h
  | (g, t) :: p :: r, 1, h => ⟨h.1, h.2.1, h.2.2.1⟩
  | (g, t) :: (g', t') :: r, i + 2, h => ⟨h.1, h.2.1, h.2.2.1, h.2.2.2.1, Gd_take (q := (g', t') :: r) (i + 1) h.2.2.2.2⟩
theorem Gd_more {q : Sm} {g t : List Nat} (h : Gd q) (ht : Tok t) (hg : g.all isBk = true) (hn : g ≠ []) : Gd (q ++ [(g, t)]) := by
  rcases List.eq_nil_or_concat q with rfl | ⟨q0, p, rfl⟩
  · exact Gd_one ht hg
  · obtain ⟨a, b⟩ := p
    rw [List.concat_eq_append] at h ⊢
    exact Gd_snoc h ht hg fun e => absurd e hn
theorem places_get : ∀ {q : Sm} {j i : Nat} {g t : List Nat}, q[i]? = some (g, t) → (places j q)[i]? = some (j + (lay (q.take i) ++ g).length)
  | [], _, _, _, _, h => by cases h
  | (a, b) :: r, j, 0, g, t, h => by cases h; show some _ = some _; simp [lay]
  | (a, b) :: r, j, i + 1, g, t, h => by
    show (places (j + a.length + b.length) r)[i]? = _
    rw [places_get (q := r) h, List.take_succ_cons, show lay ((a, b) :: r.take i) = (a ++ b) ++ lay (r.take i) from rfl]
    simp only [List.length_append]
    congr 1
    omega
theorem call_refused {t : List Nat} {q : Sm} {z : List Nat} {e : Ex} {n v : Nat} {st : Sto} {k : W → Sto → Prop} {ex : DX} (hA : At t 0 q z) (hO : Ok n e) (hn : n ≤ 4) (hw : Wt q (tk e)) (hc : cnt e ≤ 60) (hl : (tk e).length ≠ q.length)
    (hv : (if (tk e).length ≤ q.length then pos t (q.drop (tk e).length) z + fgap (q.drop (tk e).length) else t.length) = v) (hk : k (.im (.int (v : Nat))) st) : callD pf_Lrefused [] [.im (.str (S t))] st k ex :=
  ⟨rfl, t, q, z, e, n, rfl, hA, hO, hn, hw, hc, hl, by
    rw [← hv] at hk
    split
    · rename_i h; rw [if_pos h] at hk; exact hk
    · rename_i h; rw [if_neg h] at hk; exact hk⟩
end Dl.Ea
end

section
set_option maxHeartbeats 4000000
namespace Dl.Ea
open PySem PySem.Spec PyProof.Rows L2 Co PySem.StrLaws Dl.Ut PySem.NumText
theorem call_Lplain' {k : W → Sto → Prop} {ex : DX} (h : ∀ e, Ok 0 e → k (.im (eX e)) [.pool]) : callD pf_Lplain [0] [.loc 0] [.pool] k ex := ⟨rfl, h⟩
theorem call_Lwritten {ls : List (List Nat)} {st : Sto} {k : W → Sto → Prop} {ex : DX} (h1 : ls.length ≤ 10000) (h2 : ∀ l ∈ ls, l.length ≤ 200) (hk : k (.im (.str (S (lay (can [40] ls))))) st) : callD pf_Lwritten [] [.im (.lst (lsD ls))] st k ex := ⟨rfl, ls, rfl, h1, h2, hk⟩
theorem lawR {ns : List Int} {e : Ex} {k : W → Sto → Prop} {ex : DX} (hO : Ok 4 e) (hc : cnt e ≤ 60) (hk : k (.im (.bl true)) []) : ezr3 (EnD false 0 k ex) (eS ns (some (.loc 0)) (some (.im (eX e))) none none none none none none) [.pool] := by
  obtain ⟨T1, T2⟩ := tk_ok hO
  have T2 : (tk e).length ≤ 1536 := T2
  have hsh := shp60 hO (Nat.le_refl _)
  have hne : tk e ≠ [] := by obtain ⟨x, r, hx, _⟩ := tk_len1 hO; rw [hx]; simp
  refine sSeq_of (sAsg_of (dCall_of (aCons_of (dV_at (w := .im (eX e)) rfl (aNil_of ?_)))))
  refine call_Ltoks (st := [.pool]) (m := 4) rfl hO (Nat.le_refl _) ?_
  show ezr4 (EnD false 0 k ex) (eS ns (some (.loc 0)) (some (.im (eX e))) (some (.im (.lst (lsD (tk e))))) none none none none none) [.pool]
  refine sSeq_of (sAsg_of (dCall_of (aCons_of (dV_at (w := .loc 0) rfl (aCons_of (dV_at (w := .im (.lst (lsD (tk e)))) rfl (aNil_of ?_)))))))
  refine ⟨rfl, tk e, rfl, hne, by omega, fun l hl => ⟨(T1 l hl).1.tok, by have := (T1 l hl).2; omega⟩, fun q hG hq hg3 => ?_⟩
  have hql : q.length = (tk e).length := by rw [← List.length_map (f := (·.2)), hq]
  have hlen : (lay q).length ≤ 200000 := by
    have := lay_len (B := 125) (q := q) fun p hp => by
      have h1 := hg3 p hp
      have h2 : p.2 ∈ tk e := hq ▸ List.mem_map.mpr ⟨p, hp, rfl⟩
      have := (T1 _ h2).2
      omega
    have h2 : 125 * q.length ≤ 125 * 1536 := Nat.mul_le_mul_left _ (by omega)
    omega
  have hAt : At (lay q) 0 q [] := ⟨Nat.zero_le _, by omega, by simp, hG, rfl⟩
  have hWt : Wt q (tk e) := .inl (by rw [hq]; exact List.prefix_refl _)
  show ezr5 (EnD false 0 k ex) (eS ns (some (.loc 0)) (some (.im (eX e))) (some (.im (.lst (lsD (tk e))))) (some (.im (.tup [.str (S (lay q)), .lst ((places 0 q).map fun i : Nat => .int i)]))) none none none none) [.pool]
  refine sSeq_of (sAsg_of (dI_of (dIx_of (dV_at rfl (dC_of (tupAt (i := 0) (d := .str (S (lay q))) rfl ?_))))))
  have at6 : ∀ (x6 : Option W), ezr6 (EnD false 0 k ex) (eS ns (some (.loc 0)) (some (.im (eX e))) (some (.im (.lst (lsD (tk e))))) (some (.im (.tup [.str (S (lay q)), .lst ((places 0 q).map fun i : Nat => .int i)]))) (some (.im (.str (S (lay q))))) none none none) [.pool] → True := fun _ _ => trivial
  show ezr6 (EnD false 0 k ex) (eS ns (some (.loc 0)) (some (.im (eX e))) (some (.im (.lst (lsD (tk e))))) (some (.im (.tup [.str (S (lay q)), .lst ((places 0 q).map fun i : Nat => .int i)]))) (some (.im (.str (S (lay q))))) none none none) [.pool]
  refine sSeq_of (sIf_of (dOr_of ?_))
  refine neX (d := eX e) (shp_mono _ _ hsh) (eX_tup hO) (fun k hk => dCall_of (aCons_of (dV_at (w := .im (.str (S (lay q)))) rfl (aNil_of (call_read hAt hO (Nat.le_refl _) hWt hc hql.symm hk))))) (fun k hk => dV_at rfl hk) (twoF ?_)
  refine neS (s := S (wr e)) (fun k hk => dCall_of (aCons_of (dV_at (w := .im (eX e)) rfl (aNil_of (call_wr (m := 4) rfl hO (Nat.le_refl _) hk))))) (fun k hk => dCall_of (aCons_of (dV_at (w := .im (.lst (lsD (tk e)))) rfl (aNil_of (call_Lwritten (by omega) (fun l hl => by have := (T1 l hl).2; omega) (by rw [wr_lay hO]; exact hk)))))) (twoF (sNext_seq ?_))
  show ezr7 (EnD false 0 k ex) (eS ns (some (.loc 0)) (some (.im (eX e))) (some (.im (.lst (lsD (tk e))))) (some (.im (.tup [.str (S (lay q)), .lst ((places 0 q).map fun i : Nat => .int i)]))) (some (.im (.str (S (lay q))))) none none none) [.pool]
  have hwl := wr_len hO (Nat.le_refl _)
  have hAw : At (wr e) 0 (can [40] (tk e)) [] := ⟨Nat.zero_le _, by omega, by rw [List.drop_zero, wr_lay hO, List.append_nil], Gd_can fun t ht => (T1 t ht).1.tok, rfl⟩
  refine sSeq_of (sIf_of ?_)
  refine neX (d := eX e) (shp_mono _ _ hsh) (eX_tup hO) (fun k hk => dCall_of (aCons_of (dCall_of (aCons_of (dV_at (w := .im (eX e)) rfl (aNil_of (call_wr (m := 4) rfl hO (Nat.le_refl _) (aNil_of (call_read hAw hO (Nat.le_refl _) (.inl (by rw [can_map]; exact List.prefix_refl _)) hc (can_len _ _).symm hk))))))))) (fun k hk => dV_at rfl hk) (twoF (sNext_seq ?_))
  show ezr8 (EnD false 0 k ex) (eS ns (some (.loc 0)) (some (.im (eX e))) (some (.im (.lst (lsD (tk e))))) (some (.im (.tup [.str (S (lay q)), .lst ((places 0 q).map fun i : Nat => .int i)]))) (some (.im (.str (S (lay q))))) none none none) [.pool]
  have sK : shp 60 (.lst ((kids e).map eX)) = true := List.all_eq_true.mpr fun d hd => by
    obtain ⟨x, hx, rfl⟩ := List.mem_map.mp hd
    obtain ⟨m, e1, h2⟩ := kids_ok hO hx
    exact shp60 h2 (by omega)
  have sP : shp 60 (.lst ((pts e).map eX)) = true := List.all_eq_true.mpr fun d hd => by
    obtain ⟨x, hx, rfl⟩ := List.mem_map.mp hd
    exact shp60 (pts_ok hO hx) (Nat.le_refl _)
  refine sSeq_of (sIf_of (dOr_of ?_))
  refine neX (d := .lst ((kids e).map eX)) sK rfl (fun k hk => dI_of (dCB_of (aCons_of (dCall_of (aCons_of (dV_at (w := .im (eX e)) rfl (aNil_of (pfKids hO (aNil_of hk)))))))))  (fun k hk => dCall_of (aCons_of (dV_at (w := .im (eX e)) rfl (aNil_of (callLbelow hO hk))))) (twoF ?_)
  refine neX (d := .lst ((pts e).map eX)) sP rfl (fun k hk => dI_of (dCB_of (aCons_of (dCall_of (aCons_of (dV_at (w := .im (eX e)) rfl (aNil_of (callPrts (m := 4) rfl hO (Nat.le_refl _) (aNil_of hk)))))))))  (fun k hk => dCall_of (aCons_of (dV_at (w := .im (eX e)) rfl (aNil_of (callLprts (m := 4) rfl hO (Nat.le_refl _) hk))))) (twoF (sNext_seq ?_))
  show ezr9 (EnD false 0 k ex) (eS ns (some (.loc 0)) (some (.im (eX e))) (some (.im (.lst (lsD (tk e))))) (some (.im (.tup [.str (S (lay q)), .lst ((places 0 q).map fun i : Nat => .int i)]))) (some (.im (.str (S (lay q))))) none none none) [.pool]
  refine sSeq_of (sAsg_of (dI_of (dIx_of (dI_of (dTup_of (adCons_of (dC_of (adCons_of (dC_of (adCons_of (dC_of (adCons_of (dC_of (adNil_of ⟨by show 4 ≤ 1000000; decide, ?_⟩))))))))))))))
  refine takeU (r := []) (by decide) (by decide) fun b hb => ?_
  have hst : ∃ s : List Nat, ([.str "$", .str "zzz", .str ")", .str "2"] : List D)[b]? = some (.str (S s)) ∧ Tok s ∧ s.length ≤ 3 := by
    match b, hb with
    | 0, _ => exact ⟨[36], rfl, ⟨by simp, fun c e => by cases e; rfl⟩, by decide⟩
    | 1, _ => exact ⟨[122, 122, 122], rfl, ⟨by simp, fun c e => by cases e; rfl⟩, by decide⟩
    | 2, _ => exact ⟨[41], rfl, ⟨by simp, fun c e => by cases e; rfl⟩, by decide⟩
    | 3, _ => exact ⟨[50], rfl, ⟨by simp, fun c e => by cases e; rfl⟩, by decide⟩
    | b + 4, hb => omega
  obtain ⟨s, hs, hsT, hsl⟩ := hst
  refine tupAt (d := .str (S s)) hs ?_
  show ezr10 (EnD false 0 k ex) (eS ns (some (.loc 0)) (some (.im (eX e))) (some (.im (.lst (lsD (tk e))))) (some (.im (.tup [.str (S (lay q)), .lst ((places 0 q).map fun i : Nat => .int i)]))) (some (.im (.str (S (lay q))))) (some (.im (.str (S s)))) none none) [.pool]
  have hA10 : At ((lay q ++ [32]) ++ s) 0 (q ++ [([32], s)]) [] := ⟨Nat.zero_le _, by simp only [List.length_append, List.length_cons, List.length_nil]; omega, by rw [List.drop_zero, lay_snoc, List.append_nil], Gd_more hG hsT rfl (by simp), rfl⟩
  have hd10 : (q ++ [([32], s)]).drop (tk e).length = [([32], s)] := by rw [← hql, List.drop_left]
  refine sSeq_of (sIf_of ?_)
  refine neI (s := ((lay q).length + 1 : Nat)) (fun k hk => dCall_of (aCons_of (dI_of (dOp_of (dOp_of (dD_at (d := .str (S (lay q))) rfl (dC_of ?_))))))) (fun k hk => dI_of (dOp_of (dCB_of (aCons_of (dV_at (w := .im (.str (S (lay q)))) rfl (aNil_of ⟨by rw [S_len, sizeLine_eq]; omega, dC_of (by rw [S_len]; exact hk)⟩)))))) (twoF (sNext_seq ?_))
  · refine ⟨by show _ + 1 ≤ _; rw [S_len, sizeLine_eq]; omega, dD_at (d := .str (S s)) rfl ?_⟩
    rw [show (" " : Str) = S [32] from rfl, Sapp]
    refine ⟨by rw [S_len, S_len, sizeLine_eq]; simp only [List.length_append, List.length_cons, List.length_nil]; omega, ?_⟩
    rw [Sapp]
    refine aNil_of (call_refused (e := e) hA10 hO (Nat.le_refl _) (.inr (by rw [List.map_append, hq]; exact List.prefix_append _ _)) hc (by rw [List.length_append, hql]; simp) ?_ hk)
    rw [if_pos (by rw [List.length_append, hql]; omega), hd10]
    unfold pos
    simp only [fgap, lay, List.flatMap_cons, List.flatMap_nil, List.length_append, List.length_cons, List.length_nil]
    omega
  show ezr11 (EnD false 0 k ex) (eS ns (some (.loc 0)) (some (.im (eX e))) (some (.im (.lst (lsD (tk e))))) (some (.im (.tup [.str (S (lay q)), .lst ((places 0 q).map fun i : Nat => .int i)]))) (some (.im (.str (S (lay q))))) (some (.im (.str (S s)))) none none) [.pool]
  refine sSeq_of (sIf_of (dOr_of ?_))
  refine neI (s := 0) (fun k hk => dCall_of (aCons_of (dI_of (dC_of (aNil_of (call_refused (t := []) (q := []) (z := []) (e := .bl true) (n := 0) (v := 0) ⟨Nat.le_refl _, by simp, rfl, trivial, rfl⟩ trivial (by decide) (.inl List.nil_prefix) (by decide) (by decide) rfl hk)))))) (fun k hk => dI_of (dC_of hk)) (twoF ?_)
  refine neI (s := 1) (fun k hk => dCall_of (aCons_of (dI_of (dC_of (aNil_of (call_refused (t := [32]) (q := []) (z := [32]) (e := .bl true) (n := 0) (v := 1) ⟨by simp, by simp, rfl, trivial, rfl⟩ trivial (by decide) (.inl List.nil_prefix) (by decide) (by decide) rfl hk)))))) (fun k hk => dI_of (dC_of hk)) (twoF (sNext_seq ?_))
  show ezr12 (EnD false 0 k ex) (eS ns (some (.loc 0)) (some (.im (eX e))) (some (.im (.lst (lsD (tk e))))) (some (.im (.tup [.str (S (lay q)), .lst ((places 0 q).map fun i : Nat => .int i)]))) (some (.im (.str (S (lay q))))) (some (.im (.str (S s)))) none none) [.pool]
  refine sSeq_of (sAsg_of (dCall_of (aCons_of (dV_at (w := .loc 0) rfl (aCons_of (dI_of (dCB_of (aCons_of (dV_at (w := .im (.lst (lsD (tk e)))) rfl (aNil_of ?_))))))))))
  have htl : 1 ≤ (tk e).length := by cases hx : tk e with | nil => exact absurd hx hne | cons a b => simp
  refine takeU (r := []) (by rw [lsD_len]; omega) (by rw [lsD_len]; omega) fun p hp => ?_
  rw [lsD_len] at hp
  show ezr13 (EnD false 0 k ex) (eS ns (some (.loc 0)) (some (.im (eX e))) (some (.im (.lst (lsD (tk e))))) (some (.im (.tup [.str (S (lay q)), .lst ((places 0 q).map fun i : Nat => .int i)]))) (some (.im (.str (S (lay q))))) (some (.im (.str (S s)))) (some (.im (.int (p : Nat)))) none) [.pool]
  obtain ⟨⟨g, tok⟩, hqp⟩ : ∃ x, q[p]? = some x := ⟨q[p]'(by omega), List.getElem?_eq_getElem _⟩
  have hpl := places_get (j := 0) hqp
  rw [Nat.zero_add] at hpl
  have hsplit : lay q = (lay (q.take p) ++ g) ++ (tok ++ lay (q.drop (p + 1))) := by
    conv => lhs; rw [← List.take_append_drop p q]
    rw [(takeGet hqp).2.1]
    unfold lay
    rw [List.flatMap_append, List.flatMap_cons]
    simp
  have hcut : (lay q).take (lay (q.take p) ++ g).length = lay (q.take p) ++ g := by rw [hsplit, List.take_left]
  refine sSeq_of (sAsg_of (dI_of ?_))
  unfold dSl dNoPart dPart
  refine dV_at rfl ?_
  refine dIx_of (dI_of (dIx_of (dV_at rfl (dC_of (tupAt (i := 1) (d := .lst ((places 0 q).map fun i : Nat => .int i)) rfl (dD_at rfl ?_))))))
  refine lstAt (d := .int ((lay (q.take p) ++ g).length : Nat)) (by rw [List.getElem?_map, hpl]; rfl) ?_
  refine ⟨by rw [S_len, sizeLine_eq]; omega, ?_⟩
  rw [cutTo, hcut]
  show ezr14 (EnD false 0 k ex) (eS ns (some (.loc 0)) (some (.im (eX e))) (some (.im (.lst (lsD (tk e))))) (some (.im (.tup [.str (S (lay q)), .lst ((places 0 q).map fun i : Nat => .int i)]))) (some (.im (.str (S (lay q))))) (some (.im (.str (S s)))) (some (.im (.int (p : Nat)))) (some (.im (.str (S (lay (q.take p) ++ g)))))) [.pool]
  have hcl : (lay (q.take p) ++ g).length ≤ 200000 := by
    have := congrArg List.length hcut
    rw [List.length_take] at this
    omega
  have hgb : g.all isBk = true := by
    have := Gd_take (p + 1) hG
    have hm : (g, tok) ∈ q := List.mem_of_getElem? hqp
    have key : ∀ {q : Sm}, Gd q → (g, tok) ∈ q → g.all isBk = true := fun {q} => by
      intro h hm
      induction q with
      | nil => cases hm
      | cons a r ih =>
        rcases List.mem_cons.mp hm with rfl | hm
        · exact h.hd.1
        · exact ih h.tl hm
    exact key hG hm
  have hAc : At (lay (q.take p) ++ g) 0 (q.take p) g := ⟨Nat.zero_le _, by omega, by simp, Gd_take p hG, hgb⟩
  refine sRet_of (dI_of (dB_of (dCmp_of (dCall_of (aCons_of (dV_at (w := .im (.str (S (lay (q.take p) ++ g)))) rfl (aNil_of ?_)))))))
  refine call_refused (e := e) (v := (lay (q.take p) ++ g).length) hAc hO (Nat.le_refl _) (.inl (by rw [List.map_take, hq]; exact List.take_prefix _ _)) hc (by rw [List.length_take]; omega) (by rw [if_neg (by rw [List.length_take]; omega)]) ?_
  refine dI_of (dCB_of (aCons_of (dV_at (w := .im (.str (S (lay (q.take p) ++ g)))) rfl (aNil_of ⟨by rw [S_len, sizeLine_eq]; omega, ?_⟩))))
  show k (.im (.bl (decide ((((lay (q.take p) ++ g).length : Nat) : Int) = ((S (lay (q.take p) ++ g)).length : Nat))))) []
  rw [S_len, decide_eq_true rfl]
  exact hk
theorem r_law : ∀ ws st k ex, pf_law ws st k ex → t_law (EnD false st.length k ex) (startD N_law ws) st := by
  intro ws st k ex h
  unfold pf_law at h
  split at h
  · rename_i ns
    obtain ⟨hn, hk⟩ := h
    show ezr0 (EnD false 0 k ex) (eS ns none none none none none none none none) []
    refine sSeq_of (sAsg_of (dCall_of (aCons_of (dV_at rfl (aNil_of ⟨rfl, hn, ?_⟩)))))
    show ezr1 (EnD false 0 k ex) (eS ns (some (.loc 0)) none none none none none none none) [.pool]
    refine sSeq_of (sAsg_of (dCall_of (aCons_of (dV_at (w := .loc 0) rfl (aCons_of (dCall_of (aCons_of (dV_at (w := .loc 0) rfl (aCons_of (dI_of (dC_of (aNil_of ?_)))))))))))) 
    refine takeU (r := []) (by decide) (by decide) fun b hb => ?_
    refine aNil_of (call_Lexp (r := []) (by omega) (by omega) (by decide) fun e he => ?_)
    have hO : Ok 4 e := Ok_mono he (by omega)
    show ezr2 (EnD false 0 k ex) (eS ns (some (.loc 0)) (some (.im (eX e))) none none none none none none) [.pool]
    refine sSeq_of (sIf_of (dCmp_of (dI_of (dCB_of (aCons_of (dCall_of (aCons_of (dV_at (w := .im (eX e)) rfl (aNil_of ?_)))))))))
    refine callLprts (st := [.pool]) (m := 4) rfl hO (Nat.le_refl _) (aNil_of ?_)
    show two (decide ((60 : Int) < (((pts e).map eX).length : Nat))) _ _
    rw [List.length_map]
    refine oneD (fun _ => ?_) fun h60 => ?_
    · refine sAsg_of (dCall_of (aCons_of (dV_at (w := .loc 0) rfl (aNil_of ?_))))
      refine call_Lplain' fun e0 he0 => ?_
      have h0 : cnt e0 = 1 := by
        unfold cnt
        rw [pts_kids (Ok_isE he0)]
        cases e0 <;> first | rfl | exact he0.elim
      exact lawR (Ok_mono he0 (by decide)) (by omega) hk
    · exact sNext_of (lawR hO (by unfold cnt; omega) hk)
  · exact h.elim
end Dl.Ea
end

section
set_option maxHeartbeats 0
namespace Co.EaF
open PySem PySem.Spec PyProof.Rows L2 Co
section
variable {P : Program} {w : World} {K : PySem.W.Frag} {mg : Str → Option Value} {base : Heap}
theorem ok_Lpool (T : Dl.Fz fa fn xs kds w K mg) : Def P w K mg base 1 (He.ga K "_law_pool") ["_law_script"] (sp_pool K) := by
  obtain ⟨fd, F⟩ := T.c.def_ 17 (d := df_Lpool) rfl
  refine Def.of (k := 0) (N := N_Lpool) F sc_Lpool (fun _ _ _ _ _ _ us hl => match us, hl with | [_], _ => rfl) (fun vs H Q E h => by unfold sp_pool at h; split at h <;> first | rfl | exact h.elim) (fun cdv A outer s H vs Q E hr h => ⟨_, ?_, r_Lpool h⟩)
  exact (pss_one (ps_ret (pe_lst (pa_cons (e_lc (own := [("_law_cell", 1)]) (g := (gName 1)) rfl sc_Lpool.nd (pi_list (va 0)) (blkOk_by (own := [("_law_cell", 1)]) (N := N_Lpool) (sc := defScope s_Lpool) (by decide +kernel)) (fun _ _ _ _ _ => (pg_name (i := 1) sc_Lpool.nd rfl (Or.inl rfl))) (fun _ _ _ _ _ => pts_nil) (fun _ _ _ _ _ => (e_if (t_cmp o_ge (va 1) pe_int (nomark _)) (pe_op o_mul pe_int (va 1)) (pe_op o_sub (pe_op o_mul (pe_un u_neg pe_int) (va 1)) pe_int)))) (pa_cons pe_int (pa_cons pe_int (pa_cons pe_int pa_nil)))))))
theorem ok_Ltake (n : Nat) (T : Dl.Fz fa fn xs kds w K mg) (D_Ltake : Def P w K mg base n (He.ga K "_law_take") ["_law_pool_here", "_law_many"] (sp_take n)) : Def P w K mg base (n + 1) (He.ga K "_law_take") ["_law_pool_here", "_law_many"] (sp_take (n + 1)) := by
  obtain ⟨fd, F⟩ := T.c.def_ 18 (d := df_Ltake) rfl
  refine Def.of (k := n) (N := N_Ltake) F sc_Ltake (fun _ _ _ _ _ _ us hl => match us, hl with | [_, _], _ => rfl) (fun vs H Q E h => by unfold sp_take at h; split at h <;> first | rfl | exact h.elim) (fun cdv A outer s H vs Q E hr h => ⟨_, ?_, r_Ltake (K := K) h⟩)
  exact (pss_cons (s_if (t_cmp o_gt (pe_ix ix_list (va 0) pe_int (fun _ _ => rfl)) pe_int (nomark _)) (pss_cons (ps_set (i := 2) sc_Ltake.nd rfl (Or.inl rfl) (pe_op o_mod (pe_callTy c_int (by rfl) (T.free 18) (by decide +kernel) (pa_cons (pe_ix ix_list (va 0) pe_int (fun _ _ => rfl)) pa_nil)) (va 1)))
 (pss_cons (ps_asg (pe_op o_div (pe_ix ix_list (va 0) pe_int (fun _ _ => rfl)) (va 1)) (pg_sub (va 0) pe_int set_list))
 (pss_one (ps_ret (va 2))))) pss_nil)
 (pss_cons (ps_set (i := 3) sc_Ltake.nd rfl (Or.inl rfl) pe_int)
 (pss_cons (s_if (t_cmp o_lt (pe_ix ix_list (va 0) pe_int (fun _ _ => rfl)) (pe_callB c_lenA (by rfl) (T.free 1) PySem.boot_len (pa_cons (pe_ix ix_list (va 0) pe_int (fun _ _ => rfl)) pa_nil)) (nomark _)) (pss_one (ps_set (i := 3) sc_Ltake.nd rfl (Or.inl rfl) (pe_ix ix_seq (pe_ix ix_list (va 0) pe_int (fun _ _ => rfl)) (pe_ix ix_list (va 0) pe_int (fun _ _ => rfl)) (fun _ _ => rfl)))) pss_nil)
 (pss_cons (ps_asg (pe_op o_add (pe_ix ix_list (va 0) pe_int (fun _ _ => rfl)) pe_int) (pg_sub (va 0) pe_int set_list))
 (pss_cons (s_if (t_cmp o_ge (va 3) (pe_op o_pow pe_int pe_int) (nomark _)) (pss_cons (ps_asg (pe_op o_div (va 3) pe_int) (pg_sub (va 0) pe_int set_list))
 (pss_one (ps_ret (e_call D_Ltake hr rfl (T.glo 37) passL (pa_cons (va 0) (pa_cons (va 1) pa_nil)))))) pss_nil)
 (pss_cons (ps_asg (pe_op o_mod (pe_callTy c_int (by rfl) (T.free 18) (by decide +kernel) (pa_cons (pe_op o_add (pe_op o_add (pe_op o_mul (pe_ix ix_list (va 0) pe_int (fun _ _ => rfl)) pe_int) (pe_op o_mul (va 3) pe_int)) (pe_op o_mul (pe_ix ix_list (va 0) pe_int (fun _ _ => rfl)) pe_int)) pa_nil)) pe_int) (pg_sub (va 0) pe_int set_list))
 (pss_cons (ps_set (i := 4) sc_Ltake.nd rfl (Or.inl rfl) (pe_op o_mod (pe_callTy c_int (by rfl) (T.free 18) (by decide +kernel) (pa_cons (pe_op o_add (pe_op o_add (pe_op o_mul (pe_ix ix_list (va 0) pe_int (fun _ _ => rfl)) (pe_ix ix_list (va 0) pe_int (fun _ _ => rfl))) (pe_op o_mul (pe_ix ix_list (va 0) pe_int (fun _ _ => rfl)) pe_int)) pe_int) pa_nil)) pe_int))
 (pss_one (ps_ret (pe_op o_mod (pe_callTy c_int (by rfl) (T.free 18) (by decide +kernel) (pa_cons (pe_op o_div (va 4) pe_int) pa_nil)) (va 1)))))))))))
theorem no_Ltake (T : Dl.Fz fa fn xs kds w K mg) : Def P w K mg base 0 (He.ga K "_law_take") ["_law_pool_here", "_law_many"] (fun _ _ _ _ => False) := by
  obtain ⟨fd, F⟩ := T.c.def_ 18 (d := df_Ltake) rfl
  exact Def.zero F (fun _ _ _ _ _ _ us hl => match us, hl with | [_, _], _ => rfl)
end
end Co.EaF
namespace Dl.Ea
open PySem PySem.Spec PyProof.Rows L2 Co Co.EaF
section
variable {P : Program} {w : World} {K : PySem.W.Frag} {mg : Str → Option Value} {base : Heap}
theorem bs_BadExpression_init : Dl.Sup.BindS ["position"] := by
  intro nm qual body scope cl kV doc pm cdv ct an a0 as us h0 h1 h2
  obtain ⟨n0, t0, p0⟩ := a0
  match as, us, h1, h2 with
  | [⟨n1, t1, p1⟩], [u0, u1], h1, _ =>
    simp only [List.map_cons, List.map_nil, List.cons.injEq, and_true] at h0 h1
    subst h0 h1
    rfl
theorem sc_operands : FnScope N_operands ["expression"] (defScope s_operands) := ⟨rfl, rfl, rfl, by decide +kernel, rfl, by decide +kernel, by decide +kernel⟩
theorem ok_operands (T : Dl.Fz fa fn xs kds w K mg) : Def P w K mg base 1 (He.ga K "operands") ["expression"] (spD ⟨K, true⟩ pf_operands) := by
  obtain ⟨fd, F⟩ := T.c.def_ 0 (d := df_operands) rfl
  refine Def.of (k := 0) (N := N_operands) F sc_operands (fun _ _ _ _ _ _ us hl => match us, hl with | [_], _ => rfl) (spD_len fun ws st k ex h => by unfold pf_operands at h; split at h <;> first | rfl | exact h.elim) (fun cdv A outer s H vs Q E hr h => ⟨lS (XN (cxOf (L2.CX P w) P w K mg base N_operands df_operands.qual df_operands.scope (He.ga K "operands") cdv A outer s H E) true) (fun cls d _ H => E cls d H) (t_operands), ?_, body_ok (kp := false) (Nm := N_operands) r_operands h⟩)
  exact (ss_cons (s_asg (ps_set (i := 1) sc_operands.nd rfl (Or.inl rfl) (e_I (e_ix (e_var 0) (e_con pe_int (fun _ => rfl))))))
 (ss_cons (s_if (t_cmpD (o_eq' hr.units) ok_eq (e_var 1) (e_I (e_con pe_str (fun _ => rfl))) (nomark _)) (ss_one (s_ret (e_I (e_ix (e_var 0) (e_con pe_int (fun _ => rfl)))))) ss_nil)
 (ss_cons (s_if (t_glNotIn (T.gd 0) (pe_glob (v := .ref (He.ga K "FORMS")) rfl (T.glo 0) rfl) (e_D (e_var 1)) (by rfl)) (ss_one (s_ret (e_I (e_tup ad_nil)))) ss_nil)
 (ss_cons (s_asg (ps_set (i := 2) sc_operands.nd rfl (Or.inr rfl) (e_I (e_glIx (T.gd 0) (pe_glob (v := .ref (He.ga K "FORMS")) rfl (T.glo 0) rfl) (e_D (e_var 1)) (fun _ _ => rfl)))))
 (ss_one (s_ret (e_I (e_cty call_tuple_of ok_tuple (by rfl) (T.free 3) (by decide +kernel) (a_cons (e_I (e_lcD (own := [("k", 3)]) (g := (gN 3)) (gV := (gName 3)) (gok_name (by decide)) rfl sc_operands.nd (i_rg1 rfl (T.free 2) (pa_cons (e_cb c_lenW ok_len (by rfl) (T.free 1) PySem.boot_len (a_cons (e_var 2) a_nil)) pa_nil)) (blkOk_by (own := [("k", 3)]) (N := N_operands) (sc := defScope s_operands) (by decide +kernel)) (fun _ _ _ _ _ => (pg_name (i := 3) sc_operands.nd rfl (Or.inl rfl))) (fun _ _ _ _ _ => (ts_one (t_cmpD (o_eq' hr.units) ok_eq (e_I (e_ix (e_var 2) (e_D (e_var 3)))) (e_I (e_con pe_str (fun _ => rfl))) (nomark _)))) (fun _ _ _ _ _ => (e_ix (e_var 0) (e_op o_add' ok_add (e_D (e_var 3)) (e_con pe_int (fun _ => rfl))))))) a_nil)))))))))
theorem sc_parts : FnScope N_parts ["expression"] (defScope s_parts) := ⟨rfl, rfl, rfl, by decide +kernel, rfl, by decide +kernel, by decide +kernel⟩
theorem ok_parts (n : Nat) (T : Dl.Fz fa fn xs kds w K mg) (D_operands : Def P w K mg base 1 (He.ga K "operands") ["expression"] (spD ⟨K, true⟩ pf_operands)) (D_parts : Def P w K mg base (10 * n) (He.ga K "parts") ["expression"] (spD ⟨K, true⟩ (pf_prts n))) : Def P w K mg base (10 * n + 10) (He.ga K "parts") ["expression"] (spD ⟨K, true⟩ (pf_prts (n + 1))) := by
  obtain ⟨fd, F⟩ := T.c.def_ 1 (d := df_parts) rfl
  refine Def.of (N := N_parts) F sc_parts (fun _ _ _ _ _ _ us hl => match us, hl with | [_], _ => rfl) (spD_len fun ws st k ex h => by unfold pf_prts at h; split at h <;> first | rfl | exact h.elim) (fun cdv A outer s H vs Q E hr h => ⟨lS (XN (cxOf (L2.CX P w) P w K mg base N_parts df_parts.qual df_parts.scope (He.ga K "parts") cdv A outer s H E) true) (fun cls d _ H => E cls d H) (t_parts n), ?_, body_ok (kp := false) (Nm := N_parts) r_parts h⟩)
  exact (ss_cons (s_asg (ps_set (i := 1) sc_parts.nd rfl (Or.inl rfl) (e_lstM ad_nil)))
 (ss_cons (s_for (vs := [2]) (gV := (gName 2)) (gok_name (by decide)) (passes_of rfl) rfl (i_sq (e_D (e_call D_operands (hr.mono (by omega)) rfl (T.glo 4) (fun σ => passAt (takes_of rfl rfl rfl rfl) σ) (a_cons (e_var 0) a_nil)))) (pg_name (i := 2) sc_parts.nd rfl (Or.inl rfl))
 (ss_one (s_ext (ps_expr (pe_bm PySem.F.plainAttrs_list PySem.F.slot_list_extend PySem.F.type_list_extend mt_extendA (e_var 1) (pa_cons (e_call D_parts (hr.mono (by omega)) rfl (T.glo 5) (fun σ => passAt (takes_of rfl rfl rfl rfl) σ) (a_cons (e_var 2) a_nil)) pa_nil))))))
 (ss_one (s_ret (e_I (e_op o_add' ok_add (e_D (e_var 1)) (e_lst (ad_cons (e_D (e_var 0)) ad_nil))))))))
theorem no_parts (T : Dl.Fz fa fn xs kds w K mg) : Def P w K mg base 0 (He.ga K "parts") ["expression"] (spD ⟨K, true⟩ (pf_prts 0)) := by
  obtain ⟨fd, F⟩ := T.c.def_ 1 (d := df_parts) rfl
  exact (Def.zero F (fun _ _ _ _ _ _ us hl => match us, hl with | [_], _ => rfl)).imp fun vs H Q E h => by
    obtain ⟨M, ρ, ws, st, k, ex, r, rw, hf, _⟩ := h
    exact (pf_prts0 : ∀ ws st k ex, ¬ (pf_prts 0) ws st k ex) _ _ _ _ hf
theorem all_parts (T : Dl.Fz fa fn xs kds w K mg) (D_operands : Def P w K mg base 1 (He.ga K "operands") ["expression"] (spD ⟨K, true⟩ pf_operands)) : ∀ n : Nat, Def P w K mg base (10 * n) (He.ga K "parts") ["expression"] (spD ⟨K, true⟩ (pf_prts n))
  | 0 => (no_parts T).mono (by omega)
  | n + 1 => ok_parts n T D_operands (all_parts T D_operands n)
theorem sc_Reader_init : FnScope N_Reader_init ["self", "text"] (defScope s_Reader_init) := ⟨rfl, rfl, rfl, by decide +kernel, rfl, by decide +kernel, by decide +kernel⟩
theorem ok_Reader_init (T : Dl.Fz fa fn xs kds w K mg) : Def P w K mg base 1 (He.ma K (He.ga K "Reader") "__init__") ["self", "text"] (spD ⟨K, true⟩ pf_Reader_init) := by
  obtain ⟨fd, F⟩ := T.c.def_ 2 (d := df_Reader_init) rfl
  refine Def.of (k := 0) (N := N_Reader_init) F sc_Reader_init (fun _ _ _ _ _ _ us hl => match us, hl with | [_, _], _ => rfl) (spD_len fun ws st k ex h => by unfold pf_Reader_init at h; split at h <;> first | rfl | exact h.elim) (fun cdv A outer s H vs Q E hr h => ⟨lS (XN (cxOf (L2.CX P w) P w K mg base N_Reader_init df_Reader_init.qual df_Reader_init.scope (He.ma K (He.ga K "Reader") "__init__") cdv A outer s H E) true) (fun cls d _ H => E cls d H) (t_Reader_init), ?_, body_ok (kp := false) (Nm := N_Reader_init) r_Reader_init h⟩)
  exact (ss_cons (s_fld (T.cls 6) (T.noat 7) (e_var 0) (e_var 1))
 (ss_cons (s_fld (T.cls 6) (T.noat 8) (e_var 0) (e_I (e_con pe_int (fun _ => rfl))))
 (ss_cons (s_fld (T.cls 6) (T.noat 9) (e_var 0) (e_I (e_con pe_int (fun _ => rfl))))
 (ss_one (s_fld (T.cls 6) (T.noat 10) (e_var 0) (e_I (e_con pe_int (fun _ => rfl))))))))
theorem sc_Reader_blank : FnScope N_Reader_blank ["self"] (defScope s_Reader_blank) := ⟨rfl, rfl, rfl, by decide +kernel, rfl, by decide +kernel, by decide +kernel⟩
theorem ok_Reader_blank (T : Dl.Fz fa fn xs kds w K mg) : Def P w K mg base 1 (He.ma K (He.ga K "Reader") "blank") ["self"] (spD ⟨K, true⟩ pf_Reader_blank) := by
  obtain ⟨fd, F⟩ := T.c.def_ 3 (d := df_Reader_blank) rfl
  refine Def.of (k := 0) (N := N_Reader_blank) F sc_Reader_blank (fun _ _ _ _ _ _ us hl => match us, hl with | [_], _ => rfl) (spD_len fun ws st k ex h => by unfold pf_Reader_blank at h; split at h <;> first | rfl | exact h.elim) (fun cdv A outer s H vs Q E hr h => ⟨lS (XN (cxOf (L2.CX P w) P w K mg base N_Reader_blank df_Reader_blank.qual df_Reader_blank.scope (He.ma K (He.ga K "Reader") "blank") cdv A outer s H E) true) (fun cls d _ H => E cls d H) (t_Reader_blank), ?_, body_ok (kp := false) (Nm := N_Reader_blank) r_Reader_blank h⟩)
  exact (ss_one (s_while (passes_of rfl) (PW.pt (w_and (t_cmpD o_lt' ok_lt (e_fld (T.cls 6) (T.noat 8) (e_var 0)) (e_I (e_cb c_lenW ok_len (by rfl) (T.free 1) PySem.boot_len (a_cons (e_fld (T.cls 6) (T.noat 7) (e_var 0)) a_nil))) (nomark _)) (w_and1 (t_cmpD (o_in hr.units65) ok_in (e_I (e_ix (e_fld (T.cls 6) (T.noat 7) (e_var 0)) (e_D (e_fld (T.cls 6) (T.noat 8) (e_var 0))))) (e_I (e_con pe_str (fun _ => rfl))) (by rfl)))))
 (ss_one (s_fldaug (T.cls 6) (T.noat 8) (e_var 0) (e_con pe_int (fun _ => rfl)) in_add ok_inadd))))
theorem sc_Reader_sign : FnScope N_Reader_sign ["self"] (defScope s_Reader_sign) := ⟨rfl, rfl, rfl, by decide +kernel, rfl, by decide +kernel, by decide +kernel⟩
theorem ok_Reader_sign (T : Dl.Fz fa fn xs kds w K mg) (D_Reader_blank : Def P w K mg base 1 (He.ma K (He.ga K "Reader") "blank") ["self"] (spD ⟨K, true⟩ pf_Reader_blank)) : Def P w K mg base 2 (He.ma K (He.ga K "Reader") "sign") ["self"] (spD ⟨K, true⟩ pf_Reader_sign) := by
  obtain ⟨fd, F⟩ := T.c.def_ 4 (d := df_Reader_sign) rfl
  refine Def.of (k := 1) (N := N_Reader_sign) F sc_Reader_sign (fun _ _ _ _ _ _ us hl => match us, hl with | [_], _ => rfl) (spD_len fun ws st k ex h => by unfold pf_Reader_sign at h; split at h <;> first | rfl | exact h.elim) (fun cdv A outer s H vs Q E hr h => ⟨lS (XN (cxOf (L2.CX P w) P w K mg base N_Reader_sign df_Reader_sign.qual df_Reader_sign.scope (He.ma K (He.ga K "Reader") "sign") cdv A outer s H E) true) (fun cls d _ H => E cls d H) (t_Reader_sign), ?_, body_ok (kp := false) (Nm := N_Reader_sign) r_Reader_sign h⟩)
  exact (ss_cons (s_drop (ps_expr (e_meth0 (e_var 0) (T.cls 6) (T.meth 11) D_Reader_blank (hr.mono (by decide)) (fun σ => passAt (takes_of rfl rfl rfl rfl) σ))))
 (ss_one (s_ret (e_I (e_sl (e_fld (T.cls 6) (T.noat 7) (e_var 0)) (o_some (e_D (e_fld (T.cls 6) (T.noat 8) (e_var 0)))) (o_some (e_op o_add' ok_add (e_D (e_fld (T.cls 6) (T.noat 8) (e_var 0))) (e_con pe_int (fun _ => rfl)))))))))
theorem sc_Reader_run : FnScope N_Reader_run ["self", "characters"] (defScope s_Reader_run) := ⟨rfl, rfl, rfl, by decide +kernel, rfl, by decide +kernel, by decide +kernel⟩
theorem ok_Reader_run (T : Dl.Fz fa fn xs kds w K mg) : Def P w K mg base 1 (He.ma K (He.ga K "Reader") "run") ["self", "characters"] (spD ⟨K, true⟩ pf_Reader_run) := by
  obtain ⟨fd, F⟩ := T.c.def_ 5 (d := df_Reader_run) rfl
  refine Def.of (k := 0) (N := N_Reader_run) F sc_Reader_run (fun _ _ _ _ _ _ us hl => match us, hl with | [_, _], _ => rfl) (spD_len fun ws st k ex h => by unfold pf_Reader_run at h; split at h <;> first | rfl | exact h.elim) (fun cdv A outer s H vs Q E hr h => ⟨lS (XN (cxOf (L2.CX P w) P w K mg base N_Reader_run df_Reader_run.qual df_Reader_run.scope (He.ma K (He.ga K "Reader") "run") cdv A outer s H E) true) (fun cls d _ H => E cls d H) (t_Reader_run), ?_, body_ok (kp := false) (Nm := N_Reader_run) r_Reader_run h⟩)
  exact (ss_cons (s_asg (ps_set (i := 2) sc_Reader_run.nd rfl (Or.inl rfl) (e_fld (T.cls 6) (T.noat 8) (e_var 0))))
 (ss_cons (s_while (passes_of rfl) (PW.pt (w_and (t_cmpD o_lt' ok_lt (e_fld (T.cls 6) (T.noat 8) (e_var 0)) (e_I (e_cb c_lenW ok_len (by rfl) (T.free 1) PySem.boot_len (a_cons (e_fld (T.cls 6) (T.noat 7) (e_var 0)) a_nil))) (nomark _)) (w_and1 (t_cmpD (o_in hr.units65) ok_in (e_I (e_ix (e_fld (T.cls 6) (T.noat 7) (e_var 0)) (e_D (e_fld (T.cls 6) (T.noat 8) (e_var 0))))) (e_var 1) (by rfl)))))
 (ss_one (s_fldaug (T.cls 6) (T.noat 8) (e_var 0) (e_con pe_int (fun _ => rfl)) in_add ok_inadd)))
 (ss_one (s_ret (e_I (e_sl (e_fld (T.cls 6) (T.noat 7) (e_var 0)) (o_some (e_D (e_var 2))) (o_some (e_D (e_fld (T.cls 6) (T.noat 8) (e_var 0))))))))))
theorem sc_Reader_word : FnScope N_Reader_word ["self"] (defScope s_Reader_word) := ⟨rfl, rfl, rfl, by decide +kernel, rfl, by decide +kernel, by decide +kernel⟩
theorem ok_Reader_word (T : Dl.Fz fa fn xs kds w K mg) (D_Reader_sign : Def P w K mg base 2 (He.ma K (He.ga K "Reader") "sign") ["self"] (spD ⟨K, true⟩ pf_Reader_sign)) (D_BadExpression_init : Def P w K mg base 1 (He.ma K (He.ga K "BadExpression") "__init__") ["self", "position"] (Dl.Sup.sp_sup1 K (He.ga K "BadExpression") "position")) (D_Reader_run : Def P w K mg base 1 (He.ma K (He.ga K "Reader") "run") ["self", "characters"] (spD ⟨K, true⟩ pf_Reader_run)) : Def P w K mg base 4 (He.ma K (He.ga K "Reader") "word") ["self"] (spD ⟨K, true⟩ pf_Reader_word) := by
  obtain ⟨fd, F⟩ := T.c.def_ 6 (d := df_Reader_word) rfl
  refine Def.of (k := 3) (N := N_Reader_word) F sc_Reader_word (fun _ _ _ _ _ _ us hl => match us, hl with | [_], _ => rfl) (spD_len fun ws st k ex h => by unfold pf_Reader_word at h; split at h <;> first | rfl | exact h.elim) (fun cdv A outer s H vs Q E hr h => ⟨lS (XN (cxOf (L2.CX P w) P w K mg base N_Reader_word df_Reader_word.qual df_Reader_word.scope (He.ma K (He.ga K "Reader") "word") cdv A outer s H E) true) (fun cls d _ H => E cls d H) (t_Reader_word), ?_, body_ok (kp := false) (Nm := N_Reader_word) r_Reader_word h⟩)
  exact (ss_cons (s_if (PW.pt (w_or (t_cmpD (o_eq' hr.units) ok_eq (e_meth0 (e_var 0) (T.cls 6) (T.meth 12) D_Reader_sign (hr.mono (by decide)) (fun σ => passAt (takes_of rfl rfl rfl rfl) σ)) (e_I (e_con pe_str (fun _ => rfl))) (nomark _)) (w_or1 (t_cmpD (o_notIn hr.units65) ok_notIn (e_meth0 (e_var 0) (T.cls 6) (T.meth 12) D_Reader_sign (hr.mono (by decide)) (fun σ => passAt (takes_of rfl rfl rfl rfl) σ)) (e_I (e_con (e_gstr rfl (T.strg 13)) (fun _ => rfl))) (by rfl))))) (ss_one (Dl.Sup.s_raise1S (s_raiseO rfl (takes_of rfl rfl rfl rfl) (ex_oex (T.more 0)) (ex_init (T.more 1)) D_BadExpression_init (hr.mono (by decide)) rfl (T.glo 14) (pa_cons (e_D (e_fld (T.cls 6) (T.noat 8) (e_var 0))) pa_nil)) (ex_oex (T.more 0)) (ex_nofld (T.more 2)))) ss_nil)
 (ss_one (s_ret (e_meth (e_var 0) (T.cls 6) (T.meth 15) D_Reader_run (hr.mono (by decide)) (fun σ => passAt (takes_of rfl rfl rfl rfl) σ) (a_cons (e_I (e_con (e_gstr rfl (T.strg 13)) (fun _ => rfl))) a_nil)))))
theorem sc_Reader_name : FnScope N_Reader_name ["self"] (defScope s_Reader_name) := ⟨rfl, rfl, rfl, by decide +kernel, rfl, by decide +kernel, by decide +kernel⟩
theorem ok_Reader_name (T : Dl.Fz fa fn xs kds w K mg) (D_Reader_blank : Def P w K mg base 1 (He.ma K (He.ga K "Reader") "blank") ["self"] (spD ⟨K, true⟩ pf_Reader_blank)) (D_Reader_word : Def P w K mg base 4 (He.ma K (He.ga K "Reader") "word") ["self"] (spD ⟨K, true⟩ pf_Reader_word)) (D_BadExpression_init : Def P w K mg base 1 (He.ma K (He.ga K "BadExpression") "__init__") ["self", "position"] (Dl.Sup.sp_sup1 K (He.ga K "BadExpression") "position")) : Def P w K mg base 5 (He.ma K (He.ga K "Reader") "name") ["self"] (spD ⟨K, true⟩ pf_Reader_name) := by
  obtain ⟨fd, F⟩ := T.c.def_ 7 (d := df_Reader_name) rfl
  refine Def.of (k := 4) (N := N_Reader_name) F sc_Reader_name (fun _ _ _ _ _ _ us hl => match us, hl with | [_], _ => rfl) (spD_len fun ws st k ex h => by unfold pf_Reader_name at h; split at h <;> first | rfl | exact h.elim) (fun cdv A outer s H vs Q E hr h => ⟨lS (XN (cxOf (L2.CX P w) P w K mg base N_Reader_name df_Reader_name.qual df_Reader_name.scope (He.ma K (He.ga K "Reader") "name") cdv A outer s H E) true) (fun cls d _ H => E cls d H) (t_Reader_name), ?_, body_ok (kp := false) (Nm := N_Reader_name) r_Reader_name h⟩)
  exact (ss_cons (s_drop (ps_expr (e_meth0 (e_var 0) (T.cls 6) (T.meth 11) D_Reader_blank (hr.mono (by decide)) (fun σ => passAt (takes_of rfl rfl rfl rfl) σ))))
 (ss_cons (s_asg (ps_set (i := 1) sc_Reader_name.nd rfl (Or.inl rfl) (e_fld (T.cls 6) (T.noat 8) (e_var 0))))
 (ss_cons (s_asg (ps_set (i := 2) sc_Reader_name.nd rfl (Or.inl rfl) (e_meth0 (e_var 0) (T.cls 6) (T.meth 16) D_Reader_word (hr.mono (by decide)) (fun σ => passAt (takes_of rfl rfl rfl rfl) σ))))
 (ss_cons (s_if (t_cmpD o_gt ok_gt (e_I (e_cb c_lenW ok_len (by rfl) (T.free 1) PySem.boot_len (a_cons (e_var 2) a_nil))) (e_I (e_con pe_int (fun _ => rfl))) (nomark _)) (ss_one (Dl.Sup.s_raise1S (s_raiseO rfl (takes_of rfl rfl rfl rfl) (ex_oex (T.more 0)) (ex_init (T.more 1)) D_BadExpression_init (hr.mono (by decide)) rfl (T.glo 14) (pa_cons (e_D (e_var 1)) pa_nil)) (ex_oex (T.more 0)) (ex_nofld (T.more 2)))) ss_nil)
 (ss_one (s_ret (e_var 2)))))))
theorem sc_Reader_integer : FnScope N_Reader_integer ["self"] (defScope s_Reader_integer) := ⟨rfl, rfl, rfl, by decide +kernel, rfl, by decide +kernel, by decide +kernel⟩
theorem ok_Reader_integer (T : Dl.Fz fa fn xs kds w K mg) (D_Reader_run : Def P w K mg base 1 (He.ma K (He.ga K "Reader") "run") ["self", "characters"] (spD ⟨K, true⟩ pf_Reader_run)) (D_BadExpression_init : Def P w K mg base 1 (He.ma K (He.ga K "BadExpression") "__init__") ["self", "position"] (Dl.Sup.sp_sup1 K (He.ga K "BadExpression") "position")) : Def P w K mg base 3 (He.ma K (He.ga K "Reader") "integer") ["self"] (spD ⟨K, true⟩ pf_Reader_integer) := by
  obtain ⟨fd, F⟩ := T.c.def_ 8 (d := df_Reader_integer) rfl
  refine Def.of (k := 2) (N := N_Reader_integer) F sc_Reader_integer (fun _ _ _ _ _ _ us hl => match us, hl with | [_], _ => rfl) (spD_len fun ws st k ex h => by unfold pf_Reader_integer at h; split at h <;> first | rfl | exact h.elim) (fun cdv A outer s H vs Q E hr h => ⟨lS (XN (cxOf (L2.CX P w) P w K mg base N_Reader_integer df_Reader_integer.qual df_Reader_integer.scope (He.ma K (He.ga K "Reader") "integer") cdv A outer s H E) true) (fun cls d _ H => E cls d H) (t_Reader_integer), ?_, body_ok (kp := false) (Nm := N_Reader_integer) r_Reader_integer h⟩)
  exact (ss_cons (s_asg (ps_set (i := 1) sc_Reader_integer.nd rfl (Or.inl rfl) (e_fld (T.cls 6) (T.noat 8) (e_var 0))))
 (ss_cons (s_if (t_cmpD (o_eq' hr.units) ok_eq (e_I (e_ix (e_fld (T.cls 6) (T.noat 7) (e_var 0)) (e_D (e_fld (T.cls 6) (T.noat 8) (e_var 0))))) (e_I (e_con pe_str (fun _ => rfl))) (nomark _)) (ss_one (s_fldaug (T.cls 6) (T.noat 8) (e_var 0) (e_con pe_int (fun _ => rfl)) in_add ok_inadd)) ss_nil)
 (ss_cons (s_asg (ps_set (i := 2) sc_Reader_integer.nd rfl (Or.inl rfl) (e_meth (e_var 0) (T.cls 6) (T.meth 15) D_Reader_run (hr.mono (by decide)) (fun σ => passAt (takes_of rfl rfl rfl rfl) σ) (a_cons (e_I (e_con (e_gstr rfl (T.strg 17)) (fun _ => rfl))) a_nil))))
 (ss_cons (s_asg (ps_set (i := 3) sc_Reader_integer.nd rfl (Or.inl rfl) (e_I (e_sl (e_fld (T.cls 6) (T.noat 7) (e_var 0)) (o_some (e_D (e_var 1))) (o_some (e_D (e_fld (T.cls 6) (T.noat 8) (e_var 0))))))))
 (ss_cons (s_if (PW.pt (w_or (t_cmpD (o_eq' hr.units) ok_eq (e_var 2) (e_I (e_con pe_str (fun _ => rfl))) (nomark _)) (w_or (PW.pt (w_and (t_cmpD (o_eq' hr.units) ok_eq (e_I (e_ix (e_var 2) (e_con pe_int (fun _ => rfl)))) (e_I (e_con pe_str (fun _ => rfl))) (nomark _)) (w_and1 (t_cmpD (o_ne' hr.units) ok_ne (e_var 3) (e_I (e_con pe_str (fun _ => rfl))) (nomark _))))) (w_or1 (t_cmpD o_gt ok_gt (e_I (e_cb c_lenW ok_len (by rfl) (T.free 1) PySem.boot_len (a_cons (e_var 2) a_nil))) (e_I (e_con pe_int (fun _ => rfl))) (nomark _)))))) (ss_one (Dl.Sup.s_raise1S (s_raiseO rfl (takes_of rfl rfl rfl rfl) (ex_oex (T.more 0)) (ex_init (T.more 1)) D_BadExpression_init (hr.mono (by decide)) rfl (T.glo 14) (pa_cons (e_D (e_var 1)) pa_nil)) (ex_oex (T.more 0)) (ex_nofld (T.more 2)))) ss_nil)
 (ss_cons (s_if (t_cmpD o_gt ok_gt (e_I (e_cb c_abs ok_abs (by rfl) (T.free 19) (by decide +kernel) (a_cons (e_I (e_cty c_intA ok_int (by rfl) (T.free 18) (by decide +kernel) (a_cons (e_var 3) a_nil))) a_nil))) (e_I (e_con (e_gint rfl (T.intg 20)) (fun _ => rfl))) (nomark _)) (ss_one (Dl.Sup.s_raise1S (s_raiseO rfl (takes_of rfl rfl rfl rfl) (ex_oex (T.more 0)) (ex_init (T.more 1)) D_BadExpression_init (hr.mono (by decide)) rfl (T.glo 14) (pa_cons (e_D (e_var 1)) pa_nil)) (ex_oex (T.more 0)) (ex_nofld (T.more 2)))) ss_nil)
 (ss_one (s_ret (e_I (e_cty c_intA ok_int (by rfl) (T.free 18) (by decide +kernel) (a_cons (e_var 3) a_nil)))))))))))
theorem sc_Reader_quoted : FnScope N_Reader_quoted ["self"] (defScope s_Reader_quoted) := ⟨rfl, rfl, rfl, by decide +kernel, rfl, by decide +kernel, by decide +kernel⟩
theorem ok_Reader_quoted (T : Dl.Fz fa fn xs kds w K mg) (D_Reader_sign : Def P w K mg base 2 (He.ma K (He.ga K "Reader") "sign") ["self"] (spD ⟨K, true⟩ pf_Reader_sign)) (D_BadExpression_init : Def P w K mg base 1 (He.ma K (He.ga K "BadExpression") "__init__") ["self", "position"] (Dl.Sup.sp_sup1 K (He.ga K "BadExpression") "position")) : Def P w K mg base 4 (He.ma K (He.ga K "Reader") "quoted") ["self"] (spD ⟨K, true⟩ pf_Reader_quoted) := by
  obtain ⟨fd, F⟩ := T.c.def_ 9 (d := df_Reader_quoted) rfl
  refine Def.of (k := 3) (N := N_Reader_quoted) F sc_Reader_quoted (fun _ _ _ _ _ _ us hl => match us, hl with | [_], _ => rfl) (spD_len fun ws st k ex h => by unfold pf_Reader_quoted at h; split at h <;> first | rfl | exact h.elim) (fun cdv A outer s H vs Q E hr h => ⟨lS (XN (cxOf (L2.CX P w) P w K mg base N_Reader_quoted df_Reader_quoted.qual df_Reader_quoted.scope (He.ma K (He.ga K "Reader") "quoted") cdv A outer s H E) true) (fun cls d _ H => E cls d H) (t_Reader_quoted), ?_, body_ok (kp := false) (Nm := N_Reader_quoted) r_Reader_quoted h⟩)
  exact (ss_cons (s_if (t_cmpD (o_ne' hr.units) ok_ne (e_meth0 (e_var 0) (T.cls 6) (T.meth 12) D_Reader_sign (hr.mono (by decide)) (fun σ => passAt (takes_of rfl rfl rfl rfl) σ)) (e_I (e_con pe_str (fun _ => rfl))) (nomark _)) (ss_one (Dl.Sup.s_raise1S (s_raiseO rfl (takes_of rfl rfl rfl rfl) (ex_oex (T.more 0)) (ex_init (T.more 1)) D_BadExpression_init (hr.mono (by decide)) rfl (T.glo 14) (pa_cons (e_D (e_fld (T.cls 6) (T.noat 8) (e_var 0))) pa_nil)) (ex_oex (T.more 0)) (ex_nofld (T.more 2)))) ss_nil)
 (ss_cons (s_asg (ps_set (i := 1) sc_Reader_quoted.nd rfl (Or.inl rfl) (e_fld (T.cls 6) (T.noat 8) (e_var 0))))
 (ss_cons (s_fldaug (T.cls 6) (T.noat 8) (e_var 0) (e_con pe_int (fun _ => rfl)) in_add ok_inadd)
 (ss_cons (s_asg (ps_set (i := 2) sc_Reader_quoted.nd rfl (Or.inl rfl) (e_lstM ad_nil)))
 (ss_cons (s_while (passes_of rfl) (t_tru (e_I (e_con pe_bl (fun _ => rfl))))
 (ss_cons (s_asg (ps_set (i := 3) sc_Reader_quoted.nd rfl (Or.inl rfl) (e_I (e_sl (e_fld (T.cls 6) (T.noat 7) (e_var 0)) (o_some (e_D (e_fld (T.cls 6) (T.noat 8) (e_var 0)))) (o_some (e_op o_add' ok_add (e_D (e_fld (T.cls 6) (T.noat 8) (e_var 0))) (e_con pe_int (fun _ => rfl))))))))
 (ss_cons (s_if (t_cmpD (o_eq' hr.units) ok_eq (e_var 3) (e_I (e_con pe_str (fun _ => rfl))) (nomark _)) (ss_one s_brk) ss_nil)
 (ss_cons (s_if (t_cmpD (o_eq' hr.units) ok_eq (e_var 3) (e_I (e_con pe_str (fun _ => rfl))) (nomark _)) (ss_cons (s_fldaug (T.cls 6) (T.noat 8) (e_var 0) (e_con pe_int (fun _ => rfl)) in_add ok_inadd)
 (ss_cons (s_asg (ps_set (i := 3) sc_Reader_quoted.nd rfl (Or.inl rfl) (e_I (e_sl (e_fld (T.cls 6) (T.noat 7) (e_var 0)) (o_some (e_D (e_fld (T.cls 6) (T.noat 8) (e_var 0)))) (o_some (e_op o_add' ok_add (e_D (e_fld (T.cls 6) (T.noat 8) (e_var 0))) (e_con pe_int (fun _ => rfl))))))))
 (ss_one (s_if (t_cmpD (o_notIn hr.units65) ok_notIn (e_var 3) (e_I (e_tup (ad_cons (e_con pe_str (fun _ => rfl)) (ad_cons (e_con pe_str (fun _ => rfl)) ad_nil)))) (by rfl)) (ss_one (Dl.Sup.s_raise1S (s_raiseO rfl (takes_of rfl rfl rfl rfl) (ex_oex (T.more 0)) (ex_init (T.more 1)) D_BadExpression_init (hr.mono (by decide)) rfl (T.glo 14) (pa_cons (e_D (e_var 1)) pa_nil)) (ex_oex (T.more 0)) (ex_nofld (T.more 2)))) ss_nil)))) ss_nil)
 (ss_cons (s_if (t_cmpD (o_eq' hr.units) ok_eq (e_var 3) (e_I (e_con pe_str (fun _ => rfl))) (nomark _)) (ss_one (Dl.Sup.s_raise1S (s_raiseO rfl (takes_of rfl rfl rfl rfl) (ex_oex (T.more 0)) (ex_init (T.more 1)) D_BadExpression_init (hr.mono (by decide)) rfl (T.glo 14) (pa_cons (e_D (e_var 1)) pa_nil)) (ex_oex (T.more 0)) (ex_nofld (T.more 2)))) ss_nil)
 (ss_cons (s_app (ps_expr (pe_bm PySem.F.plainAttrs_list PySem.F.slot_list_append PySem.F.type_list_append mt_append (e_var 2) (pa_cons (e_D (e_var 3)) pa_nil))))
 (ss_one (s_fldaug (T.cls 6) (T.noat 8) (e_var 0) (e_con pe_int (fun _ => rfl)) in_add ok_inadd))))))))
 (ss_cons (s_fldaug (T.cls 6) (T.noat 8) (e_var 0) (e_con pe_int (fun _ => rfl)) in_add ok_inadd)
 (ss_cons (s_if (t_cmpD o_gt ok_gt (e_I (e_cb c_lenW ok_len (by rfl) (T.free 1) PySem.boot_len (a_cons (e_var 2) a_nil))) (e_I (e_con (e_gint rfl (T.intg 21)) (fun _ => rfl))) (nomark _)) (ss_one (Dl.Sup.s_raise1S (s_raiseO rfl (takes_of rfl rfl rfl rfl) (ex_oex (T.more 0)) (ex_init (T.more 1)) D_BadExpression_init (hr.mono (by decide)) rfl (T.glo 14) (pa_cons (e_D (e_var 1)) pa_nil)) (ex_oex (T.more 0)) (ex_nofld (T.more 2)))) ss_nil)
 (ss_one (s_ret (e_I (e_m1 PySem.F.slot_str_join PySem.F.type_str_join m_join ok_join (e_I (e_con pe_str (fun _ => rfl))) (e_var 2))))))))))))
theorem sc_Reader_close : FnScope N_Reader_close ["self"] (defScope s_Reader_close) := ⟨rfl, rfl, rfl, by decide +kernel, rfl, by decide +kernel, by decide +kernel⟩
theorem ok_Reader_close (T : Dl.Fz fa fn xs kds w K mg) (D_Reader_sign : Def P w K mg base 2 (He.ma K (He.ga K "Reader") "sign") ["self"] (spD ⟨K, true⟩ pf_Reader_sign)) (D_BadExpression_init : Def P w K mg base 1 (He.ma K (He.ga K "BadExpression") "__init__") ["self", "position"] (Dl.Sup.sp_sup1 K (He.ga K "BadExpression") "position")) : Def P w K mg base 4 (He.ma K (He.ga K "Reader") "close") ["self"] (spD ⟨K, true⟩ pf_Reader_close) := by
  obtain ⟨fd, F⟩ := T.c.def_ 10 (d := df_Reader_close) rfl
  refine Def.of (k := 3) (N := N_Reader_close) F sc_Reader_close (fun _ _ _ _ _ _ us hl => match us, hl with | [_], _ => rfl) (spD_len fun ws st k ex h => by unfold pf_Reader_close at h; split at h <;> first | rfl | exact h.elim) (fun cdv A outer s H vs Q E hr h => ⟨lS (XN (cxOf (L2.CX P w) P w K mg base N_Reader_close df_Reader_close.qual df_Reader_close.scope (He.ma K (He.ga K "Reader") "close") cdv A outer s H E) true) (fun cls d _ H => E cls d H) (t_Reader_close), ?_, body_ok (kp := false) (Nm := N_Reader_close) r_Reader_close h⟩)
  exact (ss_cons (s_if (t_cmpD (o_ne' hr.units) ok_ne (e_meth0 (e_var 0) (T.cls 6) (T.meth 12) D_Reader_sign (hr.mono (by decide)) (fun σ => passAt (takes_of rfl rfl rfl rfl) σ)) (e_I (e_con pe_str (fun _ => rfl))) (nomark _)) (ss_one (Dl.Sup.s_raise1S (s_raiseO rfl (takes_of rfl rfl rfl rfl) (ex_oex (T.more 0)) (ex_init (T.more 1)) D_BadExpression_init (hr.mono (by decide)) rfl (T.glo 14) (pa_cons (e_D (e_fld (T.cls 6) (T.noat 8) (e_var 0))) pa_nil)) (ex_oex (T.more 0)) (ex_nofld (T.more 2)))) ss_nil)
 (ss_cons (s_fldaug (T.cls 6) (T.noat 8) (e_var 0) (e_con pe_int (fun _ => rfl)) in_add ok_inadd)
 (ss_one (s_fldaug (T.cls 6) (T.noat 9) (e_var 0) (e_con pe_int (fun _ => rfl)) in_sub ok_insub))))
theorem sc_Reader_term : FnScope N_Reader_term ["self"] (defScope s_Reader_term) := ⟨rfl, rfl, rfl, by decide +kernel, rfl, by decide +kernel, by decide +kernel⟩
theorem ok_Reader_term (n : Nat) (T : Dl.Fz fa fn xs kds w K mg) (D_Reader_quoted : Def P w K mg base 4 (He.ma K (He.ga K "Reader") "quoted") ["self"] (spD ⟨K, true⟩ pf_Reader_quoted)) (D_Reader_sign : Def P w K mg base 2 (He.ma K (He.ga K "Reader") "sign") ["self"] (spD ⟨K, true⟩ pf_Reader_sign)) (D_BadExpression_init : Def P w K mg base 1 (He.ma K (He.ga K "BadExpression") "__init__") ["self", "position"] (Dl.Sup.sp_sup1 K (He.ga K "BadExpression") "position")) (D_Reader_close : Def P w K mg base 4 (He.ma K (He.ga K "Reader") "close") ["self"] (spD ⟨K, true⟩ pf_Reader_close)) (D_Reader_expression : Def P w K mg base (10 * n) (He.ma K (He.ga K "Reader") "expression") ["self"] (spD ⟨K, true⟩ (pf_exp n))) : Def P w K mg base (10 * n + 6) (He.ma K (He.ga K "Reader") "term") ["self"] (spD ⟨K, true⟩ (pf_trm n)) := by
  obtain ⟨fd, F⟩ := T.c.def_ 11 (d := df_Reader_term) rfl
  refine Def.of (N := N_Reader_term) F sc_Reader_term (fun _ _ _ _ _ _ us hl => match us, hl with | [_], _ => rfl) (spD_len fun ws st k ex h => by unfold pf_trm at h; split at h <;> first | rfl | exact h.elim) (fun cdv A outer s H vs Q E hr h => ⟨lS (XN (cxOf (L2.CX P w) P w K mg base N_Reader_term df_Reader_term.qual df_Reader_term.scope (He.ma K (He.ga K "Reader") "term") cdv A outer s H E) true) (fun cls d _ H => E cls d H) (t_Reader_term n), ?_, body_ok (kp := false) (Nm := N_Reader_term) r_Reader_term h⟩)
  exact (ss_cons (s_asg (ps_set (i := 1) sc_Reader_term.nd rfl (Or.inl rfl) (e_meth0 (e_var 0) (T.cls 6) (T.meth 22) D_Reader_quoted (hr.mono (by omega)) (fun σ => passAt (takes_of rfl rfl rfl rfl) σ))))
 (ss_cons (s_asg (ps_set (i := 2) sc_Reader_term.nd rfl (Or.inl rfl) (e_lstM ad_nil)))
 (ss_cons (s_while (passes_of rfl) (t_cmpD (o_ne' hr.units) ok_ne (e_meth0 (e_var 0) (T.cls 6) (T.meth 12) D_Reader_sign (hr.mono (by omega)) (fun σ => passAt (takes_of rfl rfl rfl rfl) σ)) (e_I (e_con pe_str (fun _ => rfl))) (nomark _))
 (ss_cons (s_if (t_cmpD (o_eq' hr.units) ok_eq (e_I (e_cb c_lenW ok_len (by rfl) (T.free 1) PySem.boot_len (a_cons (e_var 2) a_nil))) (e_I (e_con (e_gint rfl (T.intg 23)) (fun _ => rfl))) (nomark _)) (ss_one (Dl.Sup.s_raise1S (s_raiseO rfl (takes_of rfl rfl rfl rfl) (ex_oex (T.more 0)) (ex_init (T.more 1)) D_BadExpression_init (hr.mono (by omega)) rfl (T.glo 14) (pa_cons (e_D (e_fld (T.cls 6) (T.noat 8) (e_var 0))) pa_nil)) (ex_oex (T.more 0)) (ex_nofld (T.more 2)))) ss_nil)
 (ss_one (s_app (ps_expr (pe_bm PySem.F.plainAttrs_list PySem.F.slot_list_append PySem.F.type_list_append mt_append (e_var 2) (pa_cons (e_D (e_meth0 (e_var 0) (T.cls 6) (T.meth 24) D_Reader_expression (hr.mono (by omega)) (fun σ => passAt (takes_of rfl rfl rfl rfl) σ))) pa_nil)))))))
 (ss_cons (s_drop (ps_expr (e_meth0 (e_var 0) (T.cls 6) (T.meth 25) D_Reader_close (hr.mono (by omega)) (fun σ => passAt (takes_of rfl rfl rfl rfl) σ))))
 (ss_one (s_ret (e_I (e_tup (ad_cons (e_con pe_str (fun _ => rfl)) (ad_cons (e_D (e_var 1)) (ad_cons (e_cty call_tuple_of ok_tuple (by rfl) (T.free 3) (by decide +kernel) (a_cons (e_var 2) a_nil)) ad_nil)))))))))))
theorem sc_Reader_compound : FnScope N_Reader_compound ["self"] (defScope s_Reader_compound) := ⟨rfl, rfl, rfl, by decide +kernel, rfl, by decide +kernel, by decide +kernel⟩
theorem ok_Reader_compound (n : Nat) (T : Dl.Fz fa fn xs kds w K mg) (D_BadExpression_init : Def P w K mg base 1 (He.ma K (He.ga K "BadExpression") "__init__") ["self", "position"] (Dl.Sup.sp_sup1 K (He.ga K "BadExpression") "position")) (D_Reader_blank : Def P w K mg base 1 (He.ma K (He.ga K "Reader") "blank") ["self"] (spD ⟨K, true⟩ pf_Reader_blank)) (D_Reader_word : Def P w K mg base 4 (He.ma K (He.ga K "Reader") "word") ["self"] (spD ⟨K, true⟩ pf_Reader_word)) (D_Reader_quoted : Def P w K mg base 4 (He.ma K (He.ga K "Reader") "quoted") ["self"] (spD ⟨K, true⟩ pf_Reader_quoted)) (D_Reader_name : Def P w K mg base 5 (He.ma K (He.ga K "Reader") "name") ["self"] (spD ⟨K, true⟩ pf_Reader_name)) (D_Reader_close : Def P w K mg base 4 (He.ma K (He.ga K "Reader") "close") ["self"] (spD ⟨K, true⟩ pf_Reader_close)) (D_Reader_term : Def P w K mg base (10 * n + 6) (He.ma K (He.ga K "Reader") "term") ["self"] (spD ⟨K, true⟩ (pf_trm n))) (D_Reader_expression : Def P w K mg base (10 * n) (He.ma K (He.ga K "Reader") "expression") ["self"] (spD ⟨K, true⟩ (pf_exp n))) : Def P w K mg base (10 * n + 7) (He.ma K (He.ga K "Reader") "compound") ["self"] (spD ⟨K, true⟩ (pf_cmp n)) := by
  obtain ⟨fd, F⟩ := T.c.def_ 12 (d := df_Reader_compound) rfl
  refine Def.of (N := N_Reader_compound) F sc_Reader_compound (fun _ _ _ _ _ _ us hl => match us, hl with | [_], _ => rfl) (spD_len fun ws st k ex h => by unfold pf_cmp at h; split at h <;> first | rfl | exact h.elim) (fun cdv A outer s H vs Q E hr h => ⟨lS (XN (cxOf (L2.CX P w) P w K mg base N_Reader_compound df_Reader_compound.qual df_Reader_compound.scope (He.ma K (He.ga K "Reader") "compound") cdv A outer s H E) true) (fun cls d _ H => E cls d H) (t_Reader_compound n), ?_, body_ok (kp := false) (Nm := N_Reader_compound) r_Reader_compound h⟩)
  exact (ss_cons (s_if (t_cmpD (o_eq' hr.units) ok_eq (e_fld (T.cls 6) (T.noat 9) (e_var 0)) (e_I (e_con (e_gint rfl (T.intg 26)) (fun _ => rfl))) (nomark _)) (ss_one (Dl.Sup.s_raise1S (s_raiseO rfl (takes_of rfl rfl rfl rfl) (ex_oex (T.more 0)) (ex_init (T.more 1)) D_BadExpression_init (hr.mono (by omega)) rfl (T.glo 14) (pa_cons (e_D (e_fld (T.cls 6) (T.noat 8) (e_var 0))) pa_nil)) (ex_oex (T.more 0)) (ex_nofld (T.more 2)))) ss_nil)
 (ss_cons (s_fldaug (T.cls 6) (T.noat 8) (e_var 0) (e_con pe_int (fun _ => rfl)) in_add ok_inadd)
 (ss_cons (s_fldaug (T.cls 6) (T.noat 9) (e_var 0) (e_con pe_int (fun _ => rfl)) in_add ok_inadd)
 (ss_cons (s_drop (ps_expr (e_meth0 (e_var 0) (T.cls 6) (T.meth 11) D_Reader_blank (hr.mono (by omega)) (fun σ => passAt (takes_of rfl rfl rfl rfl) σ))))
 (ss_cons (s_asg (ps_set (i := 1) sc_Reader_compound.nd rfl (Or.inl rfl) (e_fld (T.cls 6) (T.noat 8) (e_var 0))))
 (ss_cons (s_asg (ps_set (i := 2) sc_Reader_compound.nd rfl (Or.inl rfl) (e_meth0 (e_var 0) (T.cls 6) (T.meth 16) D_Reader_word (hr.mono (by omega)) (fun σ => passAt (takes_of rfl rfl rfl rfl) σ))))
 (ss_cons (s_if (t_cmpD (o_eq' hr.units) ok_eq (e_var 2) (e_I (e_con pe_str (fun _ => rfl))) (nomark _)) (ss_one (s_ret (e_meth0 (e_var 0) (T.cls 6) (T.meth 27) D_Reader_term (hr.mono (by omega)) (fun σ => passAt (takes_of rfl rfl rfl rfl) σ)))) ss_nil)
 (ss_cons (s_if (t_glNotIn (T.gd 0) (pe_glob (v := .ref (He.ga K "FORMS")) rfl (T.glo 0) rfl) (e_D (e_var 2)) (by rfl)) (ss_one (Dl.Sup.s_raise1S (s_raiseO rfl (takes_of rfl rfl rfl rfl) (ex_oex (T.more 0)) (ex_init (T.more 1)) D_BadExpression_init (hr.mono (by omega)) rfl (T.glo 14) (pa_cons (e_D (e_var 1)) pa_nil)) (ex_oex (T.more 0)) (ex_nofld (T.more 2)))) ss_nil)
 (ss_cons (s_asg (ps_set (i := 3) sc_Reader_compound.nd rfl (Or.inl rfl) (e_lstM (ad_cons (e_D (e_var 2)) ad_nil))))
 (ss_cons (s_for (vs := [4]) (gV := (gName 4)) (gok_name (by decide)) (passes_of rfl) rfl (i_st (e_glIx (T.gd 0) (pe_glob (v := .ref (He.ga K "FORMS")) rfl (T.glo 0) rfl) (e_D (e_var 2)) (fun _ _ => rfl))) (pg_name (i := 4) sc_Reader_compound.nd rfl (Or.inl rfl))
 (ss_one (s_if (t_cmpD (o_eq' hr.units) ok_eq (e_var 4) (e_I (e_con pe_str (fun _ => rfl))) (nomark _)) (ss_one (s_app (ps_expr (pe_bm PySem.F.plainAttrs_list PySem.F.slot_list_append PySem.F.type_list_append mt_append (e_var 3) (pa_cons (e_D (e_meth0 (e_var 0) (T.cls 6) (T.meth 24) D_Reader_expression (hr.mono (by omega)) (fun σ => passAt (takes_of rfl rfl rfl rfl) σ))) pa_nil))))) (ss_one (s_if (t_cmpD (o_eq' hr.units) ok_eq (e_var 4) (e_I (e_con pe_str (fun _ => rfl))) (nomark _)) (ss_one (s_app (ps_expr (pe_bm PySem.F.plainAttrs_list PySem.F.slot_list_append PySem.F.type_list_append mt_append (e_var 3) (pa_cons (e_D (e_meth0 (e_var 0) (T.cls 6) (T.meth 22) D_Reader_quoted (hr.mono (by omega)) (fun σ => passAt (takes_of rfl rfl rfl rfl) σ))) pa_nil))))) (ss_one (s_app (ps_expr (pe_bm PySem.F.plainAttrs_list PySem.F.slot_list_append PySem.F.type_list_append mt_append (e_var 3) (pa_cons (e_D (e_meth0 (e_var 0) (T.cls 6) (T.meth 28) D_Reader_name (hr.mono (by omega)) (fun σ => passAt (takes_of rfl rfl rfl rfl) σ))) pa_nil))))))))))
 (ss_cons (s_drop (ps_expr (e_meth0 (e_var 0) (T.cls 6) (T.meth 25) D_Reader_close (hr.mono (by omega)) (fun σ => passAt (takes_of rfl rfl rfl rfl) σ))))
 (ss_one (s_ret (e_I (e_cty call_tuple_of ok_tuple (by rfl) (T.free 3) (by decide +kernel) (a_cons (e_var 3) a_nil))))))))))))))))
theorem sc_Reader_expression : FnScope N_Reader_expression ["self"] (defScope s_Reader_expression) := ⟨rfl, rfl, rfl, by decide +kernel, rfl, by decide +kernel, by decide +kernel⟩
theorem ok_Reader_expression (n : Nat) (T : Dl.Fz fa fn xs kds w K mg) (D_Reader_sign : Def P w K mg base 2 (He.ma K (He.ga K "Reader") "sign") ["self"] (spD ⟨K, true⟩ pf_Reader_sign)) (D_BadExpression_init : Def P w K mg base 1 (He.ma K (He.ga K "BadExpression") "__init__") ["self", "position"] (Dl.Sup.sp_sup1 K (He.ga K "BadExpression") "position")) (D_Reader_quoted : Def P w K mg base 4 (He.ma K (He.ga K "Reader") "quoted") ["self"] (spD ⟨K, true⟩ pf_Reader_quoted)) (D_Reader_integer : Def P w K mg base 3 (He.ma K (He.ga K "Reader") "integer") ["self"] (spD ⟨K, true⟩ pf_Reader_integer)) (D_Reader_word : Def P w K mg base 4 (He.ma K (He.ga K "Reader") "word") ["self"] (spD ⟨K, true⟩ pf_Reader_word)) (D_Reader_compound : Def P w K mg base (10 * n + 7) (He.ma K (He.ga K "Reader") "compound") ["self"] (spD ⟨K, true⟩ (pf_cmp n))) : Def P w K mg base (10 * n + 10) (He.ma K (He.ga K "Reader") "expression") ["self"] (spD ⟨K, true⟩ (pf_exp (n + 1))) := by
  obtain ⟨fd, F⟩ := T.c.def_ 13 (d := df_Reader_expression) rfl
  refine Def.of (N := N_Reader_expression) F sc_Reader_expression (fun _ _ _ _ _ _ us hl => match us, hl with | [_], _ => rfl) (spD_len fun ws st k ex h => by unfold pf_exp at h; split at h <;> first | rfl | exact h.elim) (fun cdv A outer s H vs Q E hr h => ⟨lS (XN (cxOf (L2.CX P w) P w K mg base N_Reader_expression df_Reader_expression.qual df_Reader_expression.scope (He.ma K (He.ga K "Reader") "expression") cdv A outer s H E) true) (fun cls d _ H => E cls d H) (t_Reader_expression n), ?_, body_ok (kp := false) (Nm := N_Reader_expression) r_Reader_expression h⟩)
  exact (ss_cons (s_asg (ps_set (i := 1) sc_Reader_expression.nd rfl (Or.inl rfl) (e_meth0 (e_var 0) (T.cls 6) (T.meth 12) D_Reader_sign (hr.mono (by omega)) (fun σ => passAt (takes_of rfl rfl rfl rfl) σ))))
 (ss_cons (s_fldaug (T.cls 6) (T.noat 10) (e_var 0) (e_con pe_int (fun _ => rfl)) in_add ok_inadd)
 (ss_cons (s_if (PW.pt (w_or (t_cmpD (o_eq' hr.units) ok_eq (e_var 1) (e_I (e_con pe_str (fun _ => rfl))) (nomark _)) (w_or1 (t_cmpD o_gt ok_gt (e_fld (T.cls 6) (T.noat 10) (e_var 0)) (e_I (e_con (e_gint rfl (T.intg 29)) (fun _ => rfl))) (nomark _))))) (ss_one (Dl.Sup.s_raise1S (s_raiseO rfl (takes_of rfl rfl rfl rfl) (ex_oex (T.more 0)) (ex_init (T.more 1)) D_BadExpression_init (hr.mono (by omega)) rfl (T.glo 14) (pa_cons (e_D (e_fld (T.cls 6) (T.noat 8) (e_var 0))) pa_nil)) (ex_oex (T.more 0)) (ex_nofld (T.more 2)))) ss_nil)
 (ss_cons (s_if (t_cmpD (o_eq' hr.units) ok_eq (e_var 1) (e_I (e_con pe_str (fun _ => rfl))) (nomark _)) (ss_one (s_ret (e_meth0 (e_var 0) (T.cls 6) (T.meth 30) D_Reader_compound (hr.mono (by omega)) (fun σ => passAt (takes_of rfl rfl rfl rfl) σ)))) ss_nil)
 (ss_cons (s_if (t_cmpD (o_eq' hr.units) ok_eq (e_var 1) (e_I (e_con pe_str (fun _ => rfl))) (nomark _)) (ss_one (s_ret (e_I (e_tup (ad_cons (e_con pe_str (fun _ => rfl)) (ad_cons (e_D (e_meth0 (e_var 0) (T.cls 6) (T.meth 22) D_Reader_quoted (hr.mono (by omega)) (fun σ => passAt (takes_of rfl rfl rfl rfl) σ))) ad_nil)))))) ss_nil)
 (ss_cons (s_if (PW.pt (w_or (t_cmpD (o_eq' hr.units) ok_eq (e_var 1) (e_I (e_con pe_str (fun _ => rfl))) (nomark _)) (w_or1 (t_cmpD (o_in hr.units65) ok_in (e_var 1) (e_I (e_con (e_gstr rfl (T.strg 17)) (fun _ => rfl))) (by rfl))))) (ss_one (s_ret (e_I (e_tup (ad_cons (e_con pe_str (fun _ => rfl)) (ad_cons (e_D (e_meth0 (e_var 0) (T.cls 6) (T.meth 31) D_Reader_integer (hr.mono (by omega)) (fun σ => passAt (takes_of rfl rfl rfl rfl) σ))) ad_nil)))))) ss_nil)
 (ss_cons (s_asg (ps_set (i := 2) sc_Reader_expression.nd rfl (Or.inl rfl) (e_fld (T.cls 6) (T.noat 8) (e_var 0))))
 (ss_cons (s_asg (ps_set (i := 3) sc_Reader_expression.nd rfl (Or.inl rfl) (e_meth0 (e_var 0) (T.cls 6) (T.meth 16) D_Reader_word (hr.mono (by omega)) (fun σ => passAt (takes_of rfl rfl rfl rfl) σ))))
 (ss_cons (s_if (t_cmpD (o_notIn hr.units65) ok_notIn (e_var 3) (e_I (e_tup (ad_cons (e_con pe_str (fun _ => rfl)) (ad_cons (e_con pe_str (fun _ => rfl)) ad_nil)))) (by rfl)) (ss_one (Dl.Sup.s_raise1S (s_raiseO rfl (takes_of rfl rfl rfl rfl) (ex_oex (T.more 0)) (ex_init (T.more 1)) D_BadExpression_init (hr.mono (by omega)) rfl (T.glo 14) (pa_cons (e_D (e_var 2)) pa_nil)) (ex_oex (T.more 0)) (ex_nofld (T.more 2)))) ss_nil)
 (ss_one (s_ret (e_I (e_tup (ad_cons (e_con pe_str (fun _ => rfl)) (ad_cons (e_cmpD (o_eq' hr.units) ok_eq (e_var 3) (e_I (e_con pe_str (fun _ => rfl))) (nomark _)) ad_nil)))))))))))))))
theorem no_Reader_expression (T : Dl.Fz fa fn xs kds w K mg) : Def P w K mg base 0 (He.ma K (He.ga K "Reader") "expression") ["self"] (spD ⟨K, true⟩ (pf_exp 0)) := by
  obtain ⟨fd, F⟩ := T.c.def_ 13 (d := df_Reader_expression) rfl
  exact (Def.zero F (fun _ _ _ _ _ _ us hl => match us, hl with | [_], _ => rfl)).imp fun vs H Q E h => by
    obtain ⟨M, ρ, ws, st, k, ex, r, rw, hf, _⟩ := h
    exact (pf_exp0 : ∀ ws st k ex, ¬ (pf_exp 0) ws st k ex) _ _ _ _ hf
theorem all_Reader_expression (T : Dl.Fz fa fn xs kds w K mg) (D_Reader_quoted : Def P w K mg base 4 (He.ma K (He.ga K "Reader") "quoted") ["self"] (spD ⟨K, true⟩ pf_Reader_quoted)) (D_Reader_sign : Def P w K mg base 2 (He.ma K (He.ga K "Reader") "sign") ["self"] (spD ⟨K, true⟩ pf_Reader_sign)) (D_BadExpression_init : Def P w K mg base 1 (He.ma K (He.ga K "BadExpression") "__init__") ["self", "position"] (Dl.Sup.sp_sup1 K (He.ga K "BadExpression") "position")) (D_Reader_close : Def P w K mg base 4 (He.ma K (He.ga K "Reader") "close") ["self"] (spD ⟨K, true⟩ pf_Reader_close)) (D_Reader_blank : Def P w K mg base 1 (He.ma K (He.ga K "Reader") "blank") ["self"] (spD ⟨K, true⟩ pf_Reader_blank)) (D_Reader_word : Def P w K mg base 4 (He.ma K (He.ga K "Reader") "word") ["self"] (spD ⟨K, true⟩ pf_Reader_word)) (D_Reader_name : Def P w K mg base 5 (He.ma K (He.ga K "Reader") "name") ["self"] (spD ⟨K, true⟩ pf_Reader_name)) (D_Reader_integer : Def P w K mg base 3 (He.ma K (He.ga K "Reader") "integer") ["self"] (spD ⟨K, true⟩ pf_Reader_integer)) : ∀ n : Nat, Def P w K mg base (10 * n) (He.ma K (He.ga K "Reader") "expression") ["self"] (spD ⟨K, true⟩ (pf_exp n))
  | 0 => (no_Reader_expression T).mono (by omega)
  | n + 1 => ok_Reader_expression n T D_Reader_sign D_BadExpression_init D_Reader_quoted D_Reader_integer D_Reader_word (ok_Reader_compound n T D_BadExpression_init D_Reader_blank D_Reader_word D_Reader_quoted D_Reader_name D_Reader_close (ok_Reader_term n T D_Reader_quoted D_Reader_sign D_BadExpression_init D_Reader_close (all_Reader_expression T D_Reader_quoted D_Reader_sign D_BadExpression_init D_Reader_close D_Reader_blank D_Reader_word D_Reader_name D_Reader_integer n)) (all_Reader_expression T D_Reader_quoted D_Reader_sign D_BadExpression_init D_Reader_close D_Reader_blank D_Reader_word D_Reader_name D_Reader_integer n))
theorem sc_read_expression : FnScope N_read_expression ["text"] (defScope s_read_expression) := ⟨rfl, rfl, rfl, by decide +kernel, rfl, by decide +kernel, by decide +kernel⟩
theorem ok_read_expression (T : Dl.Fz fa fn xs kds w K mg) (D_Reader_init : Def P w K mg base 1 (He.ma K (He.ga K "Reader") "__init__") ["self", "text"] (spD ⟨K, true⟩ pf_Reader_init)) (D_Reader_expression : Def P w K mg base 50 (He.ma K (He.ga K "Reader") "expression") ["self"] (spD ⟨K, true⟩ (pf_exp 5))) (D_Reader_sign : Def P w K mg base 2 (He.ma K (He.ga K "Reader") "sign") ["self"] (spD ⟨K, true⟩ pf_Reader_sign)) (D_BadExpression_init : Def P w K mg base 1 (He.ma K (He.ga K "BadExpression") "__init__") ["self", "position"] (Dl.Sup.sp_sup1 K (He.ga K "BadExpression") "position")) : Def P w K mg base 51 (He.ga K "read_expression") ["text"] (spD ⟨K, true⟩ pf_read_expression) := by
  obtain ⟨fd, F⟩ := T.c.def_ 14 (d := df_read_expression) rfl
  refine Def.of (k := 50) (N := N_read_expression) F sc_read_expression (fun _ _ _ _ _ _ us hl => match us, hl with | [_], _ => rfl) (spD_len fun ws st k ex h => by unfold pf_read_expression at h; split at h <;> first | rfl | exact h.elim) (fun cdv A outer s H vs Q E hr h => ⟨lS (XN (cxOf (L2.CX P w) P w K mg base N_read_expression df_read_expression.qual df_read_expression.scope (He.ga K "read_expression") cdv A outer s H E) true) (fun cls d _ H => E cls d H) (t_read_expression), ?_, body_ok (kp := false) (Nm := N_read_expression) r_read_expression h⟩)
  exact (ss_cons (s_asg (ps_set (i := 1) sc_read_expression.nd rfl (Or.inl rfl) (e_new (T.mkr 32) D_Reader_init (hr.mono (by decide)) rfl (T.glo 33) (fun σ => passAt (takes_of rfl rfl rfl rfl) σ) (a_cons (e_var 0) a_nil))))
 (ss_cons (s_asg (ps_set (i := 2) sc_read_expression.nd rfl (Or.inl rfl) (e_meth0 (e_var 1) (T.cls 6) (T.meth 24) D_Reader_expression (hr.mono (by decide)) (fun σ => passAt (takes_of rfl rfl rfl rfl) σ))))
 (ss_cons (s_if (t_cmpD (o_ne' hr.units) ok_ne (e_meth0 (e_var 1) (T.cls 6) (T.meth 12) D_Reader_sign (hr.mono (by decide)) (fun σ => passAt (takes_of rfl rfl rfl rfl) σ)) (e_I (e_con pe_str (fun _ => rfl))) (nomark _)) (ss_one (Dl.Sup.s_raise1S (s_raiseO rfl (takes_of rfl rfl rfl rfl) (ex_oex (T.more 0)) (ex_init (T.more 1)) D_BadExpression_init (hr.mono (by decide)) rfl (T.glo 14) (pa_cons (e_D (e_fld (T.cls 6) (T.noat 8) (e_var 1))) pa_nil)) (ex_oex (T.more 0)) (ex_nofld (T.more 2)))) ss_nil)
 (ss_one (s_ret (e_var 2))))))
theorem sc_quote : FnScope N_quote ["text"] (defScope s_quote) := ⟨rfl, rfl, rfl, by decide +kernel, rfl, by decide +kernel, by decide +kernel⟩
theorem ok_quote (T : Dl.Fz fa fn xs kds w K mg) : Def P w K mg base 1 (He.ga K "quote") ["text"] (spD ⟨K, true⟩ pf_quote) := by
  obtain ⟨fd, F⟩ := T.c.def_ 15 (d := df_quote) rfl
  refine Def.of (k := 0) (N := N_quote) F sc_quote (fun _ _ _ _ _ _ us hl => match us, hl with | [_], _ => rfl) (spD_len fun ws st k ex h => by unfold pf_quote at h; split at h <;> first | rfl | exact h.elim) (fun cdv A outer s H vs Q E hr h => ⟨lS (XN (cxOf (L2.CX P w) P w K mg base N_quote df_quote.qual df_quote.scope (He.ga K "quote") cdv A outer s H E) true) (fun cls d _ H => E cls d H) (t_quote), ?_, body_ok (kp := false) (Nm := N_quote) r_quote h⟩)
  exact (ss_cons (s_asg (ps_set (i := 1) sc_quote.nd rfl (Or.inl rfl) (e_I (e_m1 PySem.F.slot_str_join PySem.F.type_str_join m_join ok_join (e_I (e_con pe_str (fun _ => rfl))) (e_I (e_lcD (own := [("sign", 2)]) (g := (gN 2)) (gV := (gName 2)) (gok_name (by decide)) rfl sc_quote.nd (i_st (e_D (e_var 0))) (blkOk_by (own := [("sign", 2)]) (N := N_quote) (sc := defScope s_quote) (by decide +kernel)) (fun _ _ _ _ _ => (pg_name (i := 2) sc_quote.nd rfl (Or.inl rfl))) (fun _ _ _ _ _ => ts_nil) (fun _ _ _ _ _ => (e_D (e_ifW (t_cmpD (o_in hr.units65) ok_in (e_var 2) (e_I (e_tup (ad_cons (e_con pe_str (fun _ => rfl)) (ad_cons (e_con pe_str (fun _ => rfl)) ad_nil)))) (by rfl)) (e_I (e_op o_add' ok_add (e_con pe_str (fun _ => rfl)) (e_D (e_var 2)))) (e_var 2))))))))))
 (ss_one (s_ret (e_I (e_op o_add' ok_add (e_op o_add' ok_add (e_con pe_str (fun _ => rfl)) (e_D (e_var 1))) (e_con pe_str (fun _ => rfl)))))))
theorem sc_write_expression : FnScope N_write_expression ["expression"] (defScope s_write_expression) := ⟨rfl, rfl, rfl, by decide +kernel, rfl, by decide +kernel, by decide +kernel⟩
theorem ok_write_expression (n : Nat) (T : Dl.Fz fa fn xs kds w K mg) (D_quote : Def P w K mg base 1 (He.ga K "quote") ["text"] (spD ⟨K, true⟩ pf_quote)) (D_write_expression : Def P w K mg base (10 * n) (He.ga K "write_expression") ["expression"] (spD ⟨K, true⟩ (pf_wr n))) : Def P w K mg base (10 * n + 10) (He.ga K "write_expression") ["expression"] (spD ⟨K, true⟩ (pf_wr (n + 1))) := by
  obtain ⟨fd, F⟩ := T.c.def_ 16 (d := df_write_expression) rfl
  refine Def.of (N := N_write_expression) F sc_write_expression (fun _ _ _ _ _ _ us hl => match us, hl with | [_], _ => rfl) (spD_len fun ws st k ex h => by unfold pf_wr at h; split at h <;> first | rfl | exact h.elim) (fun cdv A outer s H vs Q E hr h => ⟨lS (XN (cxOf (L2.CX P w) P w K mg base N_write_expression df_write_expression.qual df_write_expression.scope (He.ga K "write_expression") cdv A outer s H E) true) (fun cls d _ H => E cls d H) (t_write_expression n), ?_, body_ok (kp := false) (Nm := N_write_expression) r_write_expression h⟩)
  exact (ss_cons (s_asg (ps_set (i := 1) sc_write_expression.nd rfl (Or.inl rfl) (e_I (e_ix (e_var 0) (e_con pe_int (fun _ => rfl))))))
 (ss_cons (s_if (t_cmpD (o_eq' hr.units) ok_eq (e_var 1) (e_I (e_con pe_str (fun _ => rfl))) (nomark _)) (ss_one (s_ret (e_I (e_cty c_strI ok_strI (by rfl) (T.free 34) (by decide +kernel) (a_cons (e_I (e_ix (e_var 0) (e_con pe_int (fun _ => rfl)))) a_nil))))) ss_nil)
 (ss_cons (s_if (t_cmpD (o_eq' hr.units) ok_eq (e_var 1) (e_I (e_con pe_str (fun _ => rfl))) (nomark _)) (ss_one (s_ret (e_call D_quote (hr.mono (by omega)) rfl (T.glo 35) (fun σ => passAt (takes_of rfl rfl rfl rfl) σ) (a_cons (e_I (e_ix (e_var 0) (e_con pe_int (fun _ => rfl)))) a_nil)))) ss_nil)
 (ss_cons (s_if (t_cmpD (o_eq' hr.units) ok_eq (e_var 1) (e_I (e_con pe_str (fun _ => rfl))) (nomark _)) (ss_one (s_ret (e_ifW (t_tru (e_I (e_ix (e_var 0) (e_con pe_int (fun _ => rfl))))) (e_I (e_con pe_str (fun _ => rfl))) (e_I (e_con pe_str (fun _ => rfl)))))) ss_nil)
 (ss_cons (s_if (t_cmpD (o_eq' hr.units) ok_eq (e_var 1) (e_I (e_con pe_str (fun _ => rfl))) (nomark _)) (ss_cons (s_asg (ps_set (i := 3) sc_write_expression.nd rfl (Or.inl rfl) (e_addM (e_I (e_lst (ad_cons (e_con pe_str (fun _ => rfl)) (ad_cons (e_D (e_call D_quote (hr.mono (by omega)) rfl (T.glo 35) (fun σ => passAt (takes_of rfl rfl rfl rfl) σ) (a_cons (e_I (e_ix (e_var 0) (e_con pe_int (fun _ => rfl)))) a_nil))) ad_nil)))) (e_I (e_lcD (own := [("part", 2)]) (g := (gN 2)) (gV := (gName 2)) (gok_name (by decide)) rfl sc_write_expression.nd (i_sq (e_ix (e_var 0) (e_con pe_int (fun _ => rfl)))) (blkOk_by (own := [("part", 2)]) (N := N_write_expression) (sc := defScope s_write_expression) (by decide +kernel)) (fun _ _ _ _ _ => (pg_name (i := 2) sc_write_expression.nd rfl (Or.inl rfl))) (fun _ _ _ _ _ => ts_nil) (fun _ _ _ _ _ => (e_D (e_call D_write_expression (hr.mono (by omega)) rfl (T.glo 36) (fun _ => pass_none (fun _ _ _ _ h => h)) (a_cons (e_var 2) a_nil)))))))))
 (ss_one (s_ret (e_I (e_op o_add' ok_add (e_op o_add' ok_add (e_con pe_str (fun _ => rfl)) (e_m1 PySem.F.slot_str_join PySem.F.type_str_join m_join ok_join (e_I (e_con pe_str (fun _ => rfl))) (e_var 3))) (e_con pe_str (fun _ => rfl))))))) ss_nil)
 (ss_cons (s_asg (ps_set (i := 4) sc_write_expression.nd rfl (Or.inl rfl) (e_I (e_glIx (T.gd 0) (pe_glob (v := .ref (He.ga K "FORMS")) rfl (T.glo 0) rfl) (e_D (e_var 1)) (fun _ _ => rfl)))))
 (ss_cons (s_asg (ps_set (i := 3) sc_write_expression.nd rfl (Or.inl rfl) (e_lstM (ad_cons (e_D (e_var 1)) ad_nil))))
 (ss_cons (s_for (vs := [5]) (gV := (gName 5)) (gok_name (by decide)) (passes_of rfl) rfl (i_rg1 rfl (T.free 2) (pa_cons (e_cb c_lenW ok_len (by rfl) (T.free 1) PySem.boot_len (a_cons (e_var 4) a_nil)) pa_nil)) (pg_name (i := 5) sc_write_expression.nd rfl (Or.inl rfl))
 (ss_cons (s_asg (ps_set (i := 2) sc_write_expression.nd rfl (Or.inl rfl) (e_I (e_ix (e_var 0) (e_op o_add' ok_add (e_D (e_var 5)) (e_con pe_int (fun _ => rfl)))))))
 (ss_one (s_if (t_cmpD (o_eq' hr.units) ok_eq (e_I (e_ix (e_var 4) (e_D (e_var 5)))) (e_I (e_con pe_str (fun _ => rfl))) (nomark _)) (ss_one (s_app (ps_expr (pe_bm PySem.F.plainAttrs_list PySem.F.slot_list_append PySem.F.type_list_append mt_append (e_var 3) (pa_cons (e_D (e_call D_write_expression (hr.mono (by omega)) rfl (T.glo 36) (fun σ => passAt (takes_of rfl rfl rfl rfl) σ) (a_cons (e_var 2) a_nil))) pa_nil))))) (ss_one (s_app (ps_expr (pe_bm PySem.F.plainAttrs_list PySem.F.slot_list_append PySem.F.type_list_append mt_append (e_var 3) (pa_cons (e_D (e_ifW (t_cmpD (o_eq' hr.units) ok_eq (e_I (e_ix (e_var 4) (e_D (e_var 5)))) (e_I (e_con pe_str (fun _ => rfl))) (nomark _)) (e_call D_quote (hr.mono (by omega)) rfl (T.glo 35) (fun σ => passAt (takes_of rfl rfl rfl rfl) σ) (a_cons (e_var 2) a_nil)) (e_var 2))) pa_nil)))))))))
 (ss_one (s_ret (e_I (e_op o_add' ok_add (e_op o_add' ok_add (e_con pe_str (fun _ => rfl)) (e_m1 PySem.F.slot_str_join PySem.F.type_str_join m_join ok_join (e_I (e_con pe_str (fun _ => rfl))) (e_var 3))) (e_con pe_str (fun _ => rfl))))))))))))))
theorem no_write_expression (T : Dl.Fz fa fn xs kds w K mg) : Def P w K mg base 0 (He.ga K "write_expression") ["expression"] (spD ⟨K, true⟩ (pf_wr 0)) := by
  obtain ⟨fd, F⟩ := T.c.def_ 16 (d := df_write_expression) rfl
  exact (Def.zero F (fun _ _ _ _ _ _ us hl => match us, hl with | [_], _ => rfl)).imp fun vs H Q E h => by
    obtain ⟨M, ρ, ws, st, k, ex, r, rw, hf, _⟩ := h
    exact (pf_wr0 : ∀ ws st k ex, ¬ (pf_wr 0) ws st k ex) _ _ _ _ hf
theorem all_write_expression (T : Dl.Fz fa fn xs kds w K mg) (D_quote : Def P w K mg base 1 (He.ga K "quote") ["text"] (spD ⟨K, true⟩ pf_quote)) : ∀ n : Nat, Def P w K mg base (10 * n) (He.ga K "write_expression") ["expression"] (spD ⟨K, true⟩ (pf_wr n))
  | 0 => (no_write_expression T).mono (by omega)
  | n + 1 => ok_write_expression n T D_quote (all_write_expression T D_quote n)
theorem sc_Lforms : FnScope N_Lforms [] (defScope s_Lforms) := ⟨rfl, rfl, rfl, by decide +kernel, rfl, by decide +kernel, by decide +kernel⟩
theorem ok_Lforms (T : Dl.Fz fa fn xs kds w K mg) : Def P w K mg base 1 (He.ga K "_law_forms") [] (spD ⟨K, true⟩ pf_Lforms) := by
  obtain ⟨fd, F⟩ := T.c.def_ 19 (d := df_Lforms) rfl
  refine Def.of (k := 0) (N := N_Lforms) F sc_Lforms (fun _ _ _ _ _ _ us hl => match us, hl with | [], _ => rfl) (spD_len fun ws st k ex h => by unfold pf_Lforms at h; split at h <;> first | rfl | exact h.elim) (fun cdv A outer s H vs Q E hr h => ⟨lS (XN (cxOf (L2.CX P w) P w K mg base N_Lforms df_Lforms.qual df_Lforms.scope (He.ga K "_law_forms") cdv A outer s H E) true) (fun cls d _ H => E cls d H) (t_Lforms), ?_, body_ok (kp := false) (Nm := N_Lforms) r_Lforms h⟩)
  exact (ss_one (s_ret (e_I (e_dispC Dl.Ea.formsP (by decide +kernel) (by decide +kernel) (by decide +kernel)))))
theorem sc_Lname : FnScope N_Lname ["_law_pool_here"] (defScope s_Lname) := ⟨rfl, rfl, rfl, by decide +kernel, rfl, by decide +kernel, by decide +kernel⟩
theorem ok_Lname (T : Dl.Fz fa fn xs kds w K mg) (D_Ltake : Def P w K mg base 2 (He.ga K "_law_take") ["_law_pool_here", "_law_many"] (spD ⟨K, true⟩ pf_take)) : Def P w K mg base 3 (He.ga K "_law_name") ["_law_pool_here"] (spD ⟨K, true⟩ pf_Lname) := by
  obtain ⟨fd, F⟩ := T.c.def_ 20 (d := df_Lname) rfl
  refine Def.of (k := 2) (N := N_Lname) F sc_Lname (fun _ _ _ _ _ _ us hl => match us, hl with | [_], _ => rfl) (spD_len fun ws st k ex h => by unfold pf_Lname at h; split at h <;> first | rfl | exact h.elim) (fun cdv A outer s H vs Q E hr h => ⟨lS (XN (cxOf (L2.CX P w) P w K mg base N_Lname df_Lname.qual df_Lname.scope (He.ga K "_law_name") cdv A outer s H E) true) (fun cls d _ H => E cls d H) (t_Lname), ?_, body_ok (kp := false) (Nm := N_Lname) r_Lname h⟩)
  exact (ss_cons (s_asg (ps_set (i := 1) sc_Lname.nd rfl (Or.inr rfl) (e_I (e_con pe_str (fun _ => rfl)))))
 (ss_one (s_ret (e_I (e_m1 PySem.F.slot_str_join PySem.F.type_str_join m_join ok_join (e_I (e_con pe_str (fun _ => rfl))) (e_I (e_lcD (own := [("_law_k", 2)]) (g := (gN 2)) (gV := (gName 2)) (gok_name (by decide)) rfl sc_Lname.nd (i_rg1 rfl (T.free 2) (pa_cons (e_op o_add' ok_add (e_con pe_int (fun _ => rfl)) (e_D (e_call D_Ltake (hr.mono (by decide)) rfl (T.glo 37) (fun σ => passAt (takes_of rfl rfl rfl rfl) σ) (a_cons (e_var 0) (a_cons (e_I (e_con pe_int (fun _ => rfl))) a_nil))))) pa_nil)) (blkOk_by (own := [("_law_k", 2)]) (N := N_Lname) (sc := defScope s_Lname) (by decide +kernel)) (fun _ _ _ _ _ => (pg_name (i := 2) sc_Lname.nd rfl (Or.inl rfl))) (fun _ _ _ _ _ => ts_nil) (fun _ _ _ _ _ => (e_ix (e_var 1) (e_D (e_call D_Ltake (hr.mono (by decide)) rfl (T.glo 37) (fun _ => pass_none (fun _ _ _ _ h => h)) (a_cons (e_var 0) (a_cons (e_I (e_con pe_int (fun _ => rfl))) a_nil)))))))))))))
theorem sc_Ltext : FnScope N_Ltext ["_law_pool_here"] (defScope s_Ltext) := ⟨rfl, rfl, rfl, by decide +kernel, rfl, by decide +kernel, by decide +kernel⟩
theorem ok_Ltext (T : Dl.Fz fa fn xs kds w K mg) (D_Ltake : Def P w K mg base 2 (He.ga K "_law_take") ["_law_pool_here", "_law_many"] (spD ⟨K, true⟩ pf_take)) : Def P w K mg base 3 (He.ga K "_law_text") ["_law_pool_here"] (spD ⟨K, true⟩ pf_Ltext) := by
  obtain ⟨fd, F⟩ := T.c.def_ 21 (d := df_Ltext) rfl
  refine Def.of (k := 2) (N := N_Ltext) F sc_Ltext (fun _ _ _ _ _ _ us hl => match us, hl with | [_], _ => rfl) (spD_len fun ws st k ex h => by unfold pf_Ltext at h; split at h <;> first | rfl | exact h.elim) (fun cdv A outer s H vs Q E hr h => ⟨lS (XN (cxOf (L2.CX P w) P w K mg base N_Ltext df_Ltext.qual df_Ltext.scope (He.ga K "_law_text") cdv A outer s H E) true) (fun cls d _ H => E cls d H) (t_Ltext), ?_, body_ok (kp := false) (Nm := N_Ltext) r_Ltext h⟩)
  exact (ss_cons (s_asg (ps_set (i := 1) sc_Ltext.nd rfl (Or.inr rfl) (e_I (e_con pe_str (fun _ => rfl)))))
 (ss_cons (s_asg (ps_set (i := 2) sc_Ltext.nd rfl (Or.inl rfl) (e_I (e_ix (e_I (e_tup (ad_cons (e_con pe_int (fun _ => rfl)) (ad_cons (e_con pe_int (fun _ => rfl)) (ad_cons (e_con pe_int (fun _ => rfl)) (ad_cons (e_con pe_int (fun _ => rfl)) ad_nil)))))) (e_D (e_call D_Ltake (hr.mono (by decide)) rfl (T.glo 37) (fun σ => passAt (takes_of rfl rfl rfl rfl) σ) (a_cons (e_var 0) (a_cons (e_I (e_con pe_int (fun _ => rfl))) a_nil))))))))
 (ss_one (s_ret (e_I (e_m1 PySem.F.slot_str_join PySem.F.type_str_join m_join ok_join (e_I (e_con pe_str (fun _ => rfl))) (e_I (e_lcD (own := [("_law_k", 3)]) (g := (gN 3)) (gV := (gName 3)) (gok_name (by decide)) rfl sc_Ltext.nd (i_rg1 rfl (T.free 2) (pa_cons (e_D (e_var 2)) pa_nil)) (blkOk_by (own := [("_law_k", 3)]) (N := N_Ltext) (sc := defScope s_Ltext) (by decide +kernel)) (fun _ _ _ _ _ => (pg_name (i := 3) sc_Ltext.nd rfl (Or.inl rfl))) (fun _ _ _ _ _ => ts_nil) (fun _ _ _ _ _ => (e_ix (e_var 1) (e_D (e_call D_Ltake (hr.mono (by decide)) rfl (T.glo 37) (fun _ => pass_none (fun _ _ _ _ h => h)) (a_cons (e_var 0) (a_cons (e_I (e_cb c_lenW ok_len (by rfl) (T.free 1) PySem.boot_len (a_cons (e_var 1) a_nil))) a_nil))))))))))))))
theorem sc_Linteger : FnScope N_Linteger ["_law_pool_here"] (defScope s_Linteger) := ⟨rfl, rfl, rfl, by decide +kernel, rfl, by decide +kernel, by decide +kernel⟩
theorem ok_Linteger (T : Dl.Fz fa fn xs kds w K mg) (D_Ltake : Def P w K mg base 2 (He.ga K "_law_take") ["_law_pool_here", "_law_many"] (spD ⟨K, true⟩ pf_take)) : Def P w K mg base 3 (He.ga K "_law_integer") ["_law_pool_here"] (spD ⟨K, true⟩ pf_Linteger) := by
  obtain ⟨fd, F⟩ := T.c.def_ 22 (d := df_Linteger) rfl
  refine Def.of (k := 2) (N := N_Linteger) F sc_Linteger (fun _ _ _ _ _ _ us hl => match us, hl with | [_], _ => rfl) (spD_len fun ws st k ex h => by unfold pf_Linteger at h; split at h <;> first | rfl | exact h.elim) (fun cdv A outer s H vs Q E hr h => ⟨lS (XN (cxOf (L2.CX P w) P w K mg base N_Linteger df_Linteger.qual df_Linteger.scope (He.ga K "_law_integer") cdv A outer s H E) true) (fun cls d _ H => E cls d H) (t_Linteger), ?_, body_ok (kp := false) (Nm := N_Linteger) r_Linteger h⟩)
  exact (ss_cons (s_asg (ps_set (i := 1) sc_Linteger.nd rfl (Or.inl rfl) (e_call D_Ltake (hr.mono (by decide)) rfl (T.glo 37) (fun σ => passAt (takes_of rfl rfl rfl rfl) σ) (a_cons (e_var 0) (a_cons (e_I (e_con pe_int (fun _ => rfl))) a_nil)))))
 (ss_cons (s_if (t_cmpD (o_eq' hr.units) ok_eq (e_var 1) (e_I (e_con pe_int (fun _ => rfl))) (nomark _)) (ss_one (s_ret (e_I (e_ix (e_I (e_tup (ad_cons (e_con pe_int (fun _ => rfl)) (ad_cons (e_un u_neg ok_neg (e_con pe_int (fun _ => rfl))) (ad_cons (e_con pe_int (fun _ => rfl)) (ad_cons (e_con pe_int (fun _ => rfl)) ad_nil)))))) (e_D (e_call D_Ltake (hr.mono (by decide)) rfl (T.glo 37) (fun σ => passAt (takes_of rfl rfl rfl rfl) σ) (a_cons (e_var 0) (a_cons (e_I (e_con pe_int (fun _ => rfl))) a_nil)))))))) ss_nil)
 (ss_cons (s_if (t_cmpD (o_eq' hr.units) ok_eq (e_var 1) (e_I (e_con pe_int (fun _ => rfl))) (nomark _)) (ss_one (s_ret (e_I (e_op o_sub ok_sub (e_D (e_call D_Ltake (hr.mono (by decide)) rfl (T.glo 37) (fun σ => passAt (takes_of rfl rfl rfl rfl) σ) (a_cons (e_var 0) (a_cons (e_I (e_con pe_int (fun _ => rfl))) a_nil)))) (e_con pe_int (fun _ => rfl)))))) ss_nil)
 (ss_one (s_ret (e_I (e_op o_sub ok_sub (e_D (e_call D_Ltake (hr.mono (by decide)) rfl (T.glo 37) (fun σ => passAt (takes_of rfl rfl rfl rfl) σ) (a_cons (e_var 0) (a_cons (e_I (e_con pe_int (fun _ => rfl))) a_nil)))) (e_con pe_int (fun _ => rfl)))))))))
theorem sc_Lplain : FnScope N_Lplain ["_law_pool_here"] (defScope s_Lplain) := ⟨rfl, rfl, rfl, by decide +kernel, rfl, by decide +kernel, by decide +kernel⟩
theorem ok_Lplain (T : Dl.Fz fa fn xs kds w K mg) (D_Ltake : Def P w K mg base 2 (He.ga K "_law_take") ["_law_pool_here", "_law_many"] (spD ⟨K, true⟩ pf_take)) (D_Linteger : Def P w K mg base 3 (He.ga K "_law_integer") ["_law_pool_here"] (spD ⟨K, true⟩ pf_Linteger)) (D_Ltext : Def P w K mg base 3 (He.ga K "_law_text") ["_law_pool_here"] (spD ⟨K, true⟩ pf_Ltext)) : Def P w K mg base 4 (He.ga K "_law_plain") ["_law_pool_here"] (spD ⟨K, true⟩ pf_Lplain) := by
  obtain ⟨fd, F⟩ := T.c.def_ 23 (d := df_Lplain) rfl
  refine Def.of (k := 3) (N := N_Lplain) F sc_Lplain (fun _ _ _ _ _ _ us hl => match us, hl with | [_], _ => rfl) (spD_len fun ws st k ex h => by unfold pf_Lplain at h; split at h <;> first | rfl | exact h.elim) (fun cdv A outer s H vs Q E hr h => ⟨lS (XN (cxOf (L2.CX P w) P w K mg base N_Lplain df_Lplain.qual df_Lplain.scope (He.ga K "_law_plain") cdv A outer s H E) true) (fun cls d _ H => E cls d H) (t_Lplain), ?_, body_ok (kp := false) (Nm := N_Lplain) r_Lplain h⟩)
  exact (ss_cons (s_asg (ps_set (i := 1) sc_Lplain.nd rfl (Or.inl rfl) (e_call D_Ltake (hr.mono (by decide)) rfl (T.glo 37) (fun σ => passAt (takes_of rfl rfl rfl rfl) σ) (a_cons (e_var 0) (a_cons (e_I (e_con pe_int (fun _ => rfl))) a_nil)))))
 (ss_cons (s_if (t_cmpD (o_eq' hr.units) ok_eq (e_var 1) (e_I (e_con pe_int (fun _ => rfl))) (nomark _)) (ss_one (s_ret (e_I (e_tup (ad_cons (e_con pe_str (fun _ => rfl)) (ad_cons (e_D (e_call D_Linteger (hr.mono (by decide)) rfl (T.glo 38) (fun σ => passAt (takes_of rfl rfl rfl rfl) σ) (a_cons (e_var 0) a_nil))) ad_nil)))))) ss_nil)
 (ss_cons (s_if (t_cmpD (o_eq' hr.units) ok_eq (e_var 1) (e_I (e_con pe_int (fun _ => rfl))) (nomark _)) (ss_one (s_ret (e_I (e_tup (ad_cons (e_con pe_str (fun _ => rfl)) (ad_cons (e_D (e_call D_Ltext (hr.mono (by decide)) rfl (T.glo 39) (fun σ => passAt (takes_of rfl rfl rfl rfl) σ) (a_cons (e_var 0) a_nil))) ad_nil)))))) ss_nil)
 (ss_one (s_ret (e_I (e_tup (ad_cons (e_con pe_str (fun _ => rfl)) (ad_cons (e_cmpD (o_eq' hr.units) ok_eq (e_call D_Ltake (hr.mono (by decide)) rfl (T.glo 37) (fun σ => passAt (takes_of rfl rfl rfl rfl) σ) (a_cons (e_var 0) (a_cons (e_I (e_con pe_int (fun _ => rfl))) a_nil))) (e_I (e_con pe_int (fun _ => rfl))) (nomark _)) ad_nil)))))))))
theorem sc_Lexpression : FnScope N_Lexpression ["_law_pool_here", "_law_depth"] (defScope s_Lexpression) := ⟨rfl, rfl, rfl, by decide +kernel, rfl, by decide +kernel, by decide +kernel⟩
theorem ok_Lexpression (n : Nat) (T : Dl.Fz fa fn xs kds w K mg) (D_Ltake : Def P w K mg base 2 (He.ga K "_law_take") ["_law_pool_here", "_law_many"] (spD ⟨K, true⟩ pf_take)) (D_Lplain : Def P w K mg base 4 (He.ga K "_law_plain") ["_law_pool_here"] (spD ⟨K, true⟩ pf_Lplain)) (D_Ltext : Def P w K mg base 3 (He.ga K "_law_text") ["_law_pool_here"] (spD ⟨K, true⟩ pf_Ltext)) (D_Lforms : Def P w K mg base 1 (He.ga K "_law_forms") [] (spD ⟨K, true⟩ pf_Lforms)) (D_Lname : Def P w K mg base 3 (He.ga K "_law_name") ["_law_pool_here"] (spD ⟨K, true⟩ pf_Lname)) (D_Lexpression : Def P w K mg base (10 * n) (He.ga K "_law_expression") ["_law_pool_here", "_law_depth"] (spD ⟨K, true⟩ (pf_Lexp n))) : Def P w K mg base (10 * n + 10) (He.ga K "_law_expression") ["_law_pool_here", "_law_depth"] (spD ⟨K, true⟩ (pf_Lexp (n + 1))) := by
  obtain ⟨fd, F⟩ := T.c.def_ 24 (d := df_Lexpression) rfl
  refine Def.of (N := N_Lexpression) F sc_Lexpression (fun _ _ _ _ _ _ us hl => match us, hl with | [_, _], _ => rfl) (spD_len fun ws st k ex h => by unfold pf_Lexp at h; split at h <;> first | rfl | exact h.elim) (fun cdv A outer s H vs Q E hr h => ⟨lS (XN (cxOf (L2.CX P w) P w K mg base N_Lexpression df_Lexpression.qual df_Lexpression.scope (He.ga K "_law_expression") cdv A outer s H E) true) (fun cls d _ H => E cls d H) (t_Lexpression n), ?_, body_ok (kp := false) (Nm := N_Lexpression) r_Lexpression h⟩)
  exact (ss_cons (s_asg (ps_set (i := 2) sc_Lexpression.nd rfl (Or.inl rfl) (e_call D_Ltake (hr.mono (by omega)) rfl (T.glo 37) (fun σ => passAt (takes_of rfl rfl rfl rfl) σ) (a_cons (e_var 0) (a_cons (e_I (e_con pe_int (fun _ => rfl))) a_nil)))))
 (ss_cons (s_if (PW.pt (w_or (t_cmpD o_lt' ok_lt (e_var 1) (e_I (e_con pe_int (fun _ => rfl))) (nomark _)) (w_or1 (t_cmpD (o_eq' hr.units) ok_eq (e_var 2) (e_I (e_con pe_int (fun _ => rfl))) (nomark _))))) (ss_one (s_ret (e_call D_Lplain (hr.mono (by omega)) rfl (T.glo 40) (fun σ => passAt (takes_of rfl rfl rfl rfl) σ) (a_cons (e_var 0) a_nil)))) ss_nil)
 (ss_cons (s_if (t_cmpD (o_eq' hr.units) ok_eq (e_var 2) (e_I (e_con pe_int (fun _ => rfl))) (nomark _)) (ss_cons (s_asg (ps_set (i := 3) sc_Lexpression.nd rfl (Or.inl rfl) (e_call D_Ltake (hr.mono (by omega)) rfl (T.glo 37) (fun σ => passAt (takes_of rfl rfl rfl rfl) σ) (a_cons (e_var 0) (a_cons (e_I (e_con pe_int (fun _ => rfl))) a_nil)))))
 (ss_one (s_ret (e_I (e_tup (ad_cons (e_con pe_str (fun _ => rfl)) (ad_cons (e_D (e_call D_Ltext (hr.mono (by omega)) rfl (T.glo 39) (fun σ => passAt (takes_of rfl rfl rfl rfl) σ) (a_cons (e_var 0) a_nil))) (ad_cons (e_cty call_tuple_of ok_tuple (by rfl) (T.free 3) (by decide +kernel) (a_cons (e_I (e_lcD (own := [("_law_k", 4)]) (g := (gN 4)) (gV := (gName 4)) (gok_name (by decide)) rfl sc_Lexpression.nd (i_rg1 rfl (T.free 2) (pa_cons (e_D (e_var 3)) pa_nil)) (blkOk_by (own := [("_law_k", 4)]) (N := N_Lexpression) (sc := defScope s_Lexpression) (by decide +kernel)) (fun _ _ _ _ _ => (pg_name (i := 4) sc_Lexpression.nd rfl (Or.inl rfl))) (fun _ _ _ _ _ => ts_nil) (fun _ _ _ _ _ => (e_D (e_call D_Lexpression (hr.mono (by omega)) rfl (T.glo 41) (fun _ => pass_none (fun _ _ _ _ h => h)) (a_cons (e_var 0) (a_cons (e_I (e_op o_sub ok_sub (e_D (e_var 1)) (e_con pe_int (fun _ => rfl)))) a_nil))))))) a_nil)) ad_nil)))))))) ss_nil)
 (ss_cons (s_asg (ps_set (i := 5) sc_Lexpression.nd rfl (Or.inl rfl) (e_call0 D_Lforms (hr.mono (by omega)) rfl (T.glo 42))))
 (ss_cons (s_asg (ps_set (i := 6) sc_Lexpression.nd rfl (Or.inl rfl) (e_I (e_ix (e_I (e_cb (cr_srtT rfl) ok_srtT (by rfl) (T.free 43) (by decide +kernel) (a_cons (e_var 5) a_nil))) (e_D (e_call D_Ltake (hr.mono (by omega)) rfl (T.glo 37) (fun σ => passAt (takes_of rfl rfl rfl rfl) σ) (a_cons (e_var 0) (a_cons (e_I (e_cb c_lenW ok_len (by rfl) (T.free 1) PySem.boot_len (a_cons (e_var 5) a_nil))) a_nil))))))))
 (ss_cons (s_asg (ps_set (i := 7) sc_Lexpression.nd rfl (Or.inl rfl) (e_lstM (ad_cons (e_D (e_var 6)) ad_nil))))
 (ss_cons (s_for (vs := [4]) (gV := (gName 4)) (gok_name (by decide)) (passes_of rfl) rfl (i_st (e_get (hu_of hr) (fun z => nomatch z) (e_var 5) (e_D (e_var 6)))) (pg_name (i := 4) sc_Lexpression.nd rfl (Or.inl rfl))
 (ss_one (s_if (t_cmpD (o_eq' hr.units) ok_eq (e_var 4) (e_I (e_con pe_str (fun _ => rfl))) (nomark _)) (ss_one (s_app (ps_expr (pe_bm PySem.F.plainAttrs_list PySem.F.slot_list_append PySem.F.type_list_append mt_append (e_var 7) (pa_cons (e_D (e_call D_Lexpression (hr.mono (by omega)) rfl (T.glo 41) (fun σ => passAt (takes_of rfl rfl rfl rfl) σ) (a_cons (e_var 0) (a_cons (e_I (e_op o_sub ok_sub (e_D (e_var 1)) (e_con pe_int (fun _ => rfl)))) a_nil)))) pa_nil))))) (ss_one (s_if (t_cmpD (o_eq' hr.units) ok_eq (e_var 4) (e_I (e_con pe_str (fun _ => rfl))) (nomark _)) (ss_one (s_app (ps_expr (pe_bm PySem.F.plainAttrs_list PySem.F.slot_list_append PySem.F.type_list_append mt_append (e_var 7) (pa_cons (e_D (e_call D_Ltext (hr.mono (by omega)) rfl (T.glo 39) (fun σ => passAt (takes_of rfl rfl rfl rfl) σ) (a_cons (e_var 0) a_nil))) pa_nil))))) (ss_one (s_app (ps_expr (pe_bm PySem.F.plainAttrs_list PySem.F.slot_list_append PySem.F.type_list_append mt_append (e_var 7) (pa_cons (e_D (e_call D_Lname (hr.mono (by omega)) rfl (T.glo 44) (fun σ => passAt (takes_of rfl rfl rfl rfl) σ) (a_cons (e_var 0) a_nil))) pa_nil))))))))))
 (ss_one (s_ret (e_I (e_cty call_tuple_of ok_tuple (by rfl) (T.free 3) (by decide +kernel) (a_cons (e_var 7) a_nil))))))))))))
theorem no_Lexpression (T : Dl.Fz fa fn xs kds w K mg) : Def P w K mg base 0 (He.ga K "_law_expression") ["_law_pool_here", "_law_depth"] (spD ⟨K, true⟩ (pf_Lexp 0)) := by
  obtain ⟨fd, F⟩ := T.c.def_ 24 (d := df_Lexpression) rfl
  exact (Def.zero F (fun _ _ _ _ _ _ us hl => match us, hl with | [_, _], _ => rfl)).imp fun vs H Q E h => by
    obtain ⟨M, ρ, ws, st, k, ex, r, rw, hf, _⟩ := h
    exact (pf_Lexp0 : ∀ ws st k ex, ¬ (pf_Lexp 0) ws st k ex) _ _ _ _ hf
theorem all_Lexpression (T : Dl.Fz fa fn xs kds w K mg) (D_Ltake : Def P w K mg base 2 (He.ga K "_law_take") ["_law_pool_here", "_law_many"] (spD ⟨K, true⟩ pf_take)) (D_Lplain : Def P w K mg base 4 (He.ga K "_law_plain") ["_law_pool_here"] (spD ⟨K, true⟩ pf_Lplain)) (D_Ltext : Def P w K mg base 3 (He.ga K "_law_text") ["_law_pool_here"] (spD ⟨K, true⟩ pf_Ltext)) (D_Lforms : Def P w K mg base 1 (He.ga K "_law_forms") [] (spD ⟨K, true⟩ pf_Lforms)) (D_Lname : Def P w K mg base 3 (He.ga K "_law_name") ["_law_pool_here"] (spD ⟨K, true⟩ pf_Lname)) : ∀ n : Nat, Def P w K mg base (10 * n) (He.ga K "_law_expression") ["_law_pool_here", "_law_depth"] (spD ⟨K, true⟩ (pf_Lexp n))
  | 0 => (no_Lexpression T).mono (by omega)
  | n + 1 => ok_Lexpression n T D_Ltake D_Lplain D_Ltext D_Lforms D_Lname (all_Lexpression T D_Ltake D_Lplain D_Ltext D_Lforms D_Lname n)
theorem sc_Lbelow : FnScope N_Lbelow ["_law_expression_here"] (defScope s_Lbelow) := ⟨rfl, rfl, rfl, by decide +kernel, rfl, by decide +kernel, by decide +kernel⟩
theorem ok_Lbelow (T : Dl.Fz fa fn xs kds w K mg) : Def P w K mg base 1 (He.ga K "_law_below") ["_law_expression_here"] (spD ⟨K, true⟩ pf_Lbelow) := by
  obtain ⟨fd, F⟩ := T.c.def_ 25 (d := df_Lbelow) rfl
  refine Def.of (k := 0) (N := N_Lbelow) F sc_Lbelow (fun _ _ _ _ _ _ us hl => match us, hl with | [_], _ => rfl) (spD_len fun ws st k ex h => by unfold pf_Lbelow at h; split at h <;> first | rfl | exact h.elim) (fun cdv A outer s H vs Q E hr h => ⟨lS (XN (cxOf (L2.CX P w) P w K mg base N_Lbelow df_Lbelow.qual df_Lbelow.scope (He.ga K "_law_below") cdv A outer s H E) true) (fun cls d _ H => E cls d H) (t_Lbelow), ?_, body_ok (kp := false) (Nm := N_Lbelow) r_Lbelow h⟩)
  exact (ss_cons (s_if (t_cmpD (o_eq' hr.units) ok_eq (e_I (e_ix (e_var 0) (e_con pe_int (fun _ => rfl)))) (e_I (e_con pe_str (fun _ => rfl))) (nomark _)) (ss_one (s_ret (e_I (e_cty call_list_of ok_list (by rfl) (T.free 45) (by decide +kernel) (a_cons (e_I (e_ix (e_var 0) (e_con pe_int (fun _ => rfl)))) a_nil))))) ss_nil)
 (ss_one (s_ret (e_I (e_lcD (own := [("_law_part", 1)]) (g := (gN 1)) (gV := (gName 1)) (gok_name (by decide)) rfl sc_Lbelow.nd (i_sq (e_sl (e_var 0) (o_some (e_con pe_int (fun _ => rfl))) o_none)) (blkOk_by (own := [("_law_part", 1)]) (N := N_Lbelow) (sc := defScope s_Lbelow) (by decide +kernel)) (fun _ _ _ _ _ => (pg_name (i := 1) sc_Lbelow.nd rfl (Or.inl rfl))) (fun _ _ _ _ _ => (ts_one (t_tru (e_I (e_cb c_isi ok_isi (by rfl) (T.free 46) (by decide +kernel) (a_cons (e_var 1) (a_cons (e_I (e_con (pe_bltn (v := .ty "tuple") (u := .type "tuple") (by rfl) (T.free 3) (by decide +kernel) rfl) (fun _ => rfl))) a_nil))))))) (fun _ _ _ _ _ => (e_D (e_var 1))))))))
theorem sc_Lparts : FnScope N_Lparts ["_law_expression_here"] (defScope s_Lparts) := ⟨rfl, rfl, rfl, by decide +kernel, rfl, by decide +kernel, by decide +kernel⟩
theorem ok_Lparts (n : Nat) (T : Dl.Fz fa fn xs kds w K mg) (D_Lbelow : Def P w K mg base 1 (He.ga K "_law_below") ["_law_expression_here"] (spD ⟨K, true⟩ pf_Lbelow)) (D_Lparts : Def P w K mg base (10 * n) (He.ga K "_law_parts") ["_law_expression_here"] (spD ⟨K, true⟩ (pf_Lprts n))) : Def P w K mg base (10 * n + 10) (He.ga K "_law_parts") ["_law_expression_here"] (spD ⟨K, true⟩ (pf_Lprts (n + 1))) := by
  obtain ⟨fd, F⟩ := T.c.def_ 26 (d := df_Lparts) rfl
  refine Def.of (N := N_Lparts) F sc_Lparts (fun _ _ _ _ _ _ us hl => match us, hl with | [_], _ => rfl) (spD_len fun ws st k ex h => by unfold pf_Lprts at h; split at h <;> first | rfl | exact h.elim) (fun cdv A outer s H vs Q E hr h => ⟨lS (XN (cxOf (L2.CX P w) P w K mg base N_Lparts df_Lparts.qual df_Lparts.scope (He.ga K "_law_parts") cdv A outer s H E) true) (fun cls d _ H => E cls d H) (t_Lparts n), ?_, body_ok (kp := false) (Nm := N_Lparts) r_Lparts h⟩)
  exact (ss_cons (s_asg (ps_set (i := 1) sc_Lparts.nd rfl (Or.inl rfl) (e_I (e_lst ad_nil))))
 (ss_cons (s_for (vs := [2]) (gV := (gName 2)) (gok_name (by decide)) (passes_of rfl) rfl (i_sq (e_D (e_call D_Lbelow (hr.mono (by omega)) rfl (T.glo 47) (fun σ => passAt (takes_of rfl rfl rfl rfl) σ) (a_cons (e_var 0) a_nil)))) (pg_name (i := 2) sc_Lparts.nd rfl (Or.inl rfl))
 (ss_one (s_asg (ps_set (i := 1) sc_Lparts.nd rfl (Or.inl rfl) (e_I (e_op o_add' ok_add (e_D (e_var 1)) (e_D (e_call D_Lparts (hr.mono (by omega)) rfl (T.glo 48) (fun σ => passAt (takes_of rfl rfl rfl rfl) σ) (a_cons (e_var 2) a_nil)))))))))
 (ss_one (s_ret (e_I (e_op o_add' ok_add (e_D (e_var 1)) (e_lst (ad_cons (e_D (e_var 0)) ad_nil))))))))
theorem no_Lparts (T : Dl.Fz fa fn xs kds w K mg) : Def P w K mg base 0 (He.ga K "_law_parts") ["_law_expression_here"] (spD ⟨K, true⟩ (pf_Lprts 0)) := by
  obtain ⟨fd, F⟩ := T.c.def_ 26 (d := df_Lparts) rfl
  exact (Def.zero F (fun _ _ _ _ _ _ us hl => match us, hl with | [_], _ => rfl)).imp fun vs H Q E h => by
    obtain ⟨M, ρ, ws, st, k, ex, r, rw, hf, _⟩ := h
    exact (pf_Lprts0 : ∀ ws st k ex, ¬ (pf_Lprts 0) ws st k ex) _ _ _ _ hf
theorem all_Lparts (T : Dl.Fz fa fn xs kds w K mg) (D_Lbelow : Def P w K mg base 1 (He.ga K "_law_below") ["_law_expression_here"] (spD ⟨K, true⟩ pf_Lbelow)) : ∀ n : Nat, Def P w K mg base (10 * n) (He.ga K "_law_parts") ["_law_expression_here"] (spD ⟨K, true⟩ (pf_Lprts n))
  | 0 => (no_Lparts T).mono (by omega)
  | n + 1 => ok_Lparts n T D_Lbelow (all_Lparts T D_Lbelow n)
theorem sc_Lquoted : FnScope N_Lquoted ["_law_text_here"] (defScope s_Lquoted) := ⟨rfl, rfl, rfl, by decide +kernel, rfl, by decide +kernel, by decide +kernel⟩
theorem ok_Lquoted (T : Dl.Fz fa fn xs kds w K mg) : Def P w K mg base 1 (He.ga K "_law_quoted") ["_law_text_here"] (spD ⟨K, true⟩ pf_Lquoted) := by
  obtain ⟨fd, F⟩ := T.c.def_ 27 (d := df_Lquoted) rfl
  refine Def.of (k := 0) (N := N_Lquoted) F sc_Lquoted (fun _ _ _ _ _ _ us hl => match us, hl with | [_], _ => rfl) (spD_len fun ws st k ex h => by unfold pf_Lquoted at h; split at h <;> first | rfl | exact h.elim) (fun cdv A outer s H vs Q E hr h => ⟨lS (XN (cxOf (L2.CX P w) P w K mg base N_Lquoted df_Lquoted.qual df_Lquoted.scope (He.ga K "_law_quoted") cdv A outer s H E) true) (fun cls d _ H => E cls d H) (t_Lquoted), ?_, body_ok (kp := false) (Nm := N_Lquoted) r_Lquoted h⟩)
  exact (ss_one (s_ret (e_I (e_op o_add' ok_add (e_addT (et_replT (et_replC (e_D (e_var 0))))) (e_con pe_str (fun _ => rfl))))))
theorem sc_Ltokens : FnScope N_Ltokens ["_law_expression_here"] (defScope s_Ltokens) := ⟨rfl, rfl, rfl, by decide +kernel, rfl, by decide +kernel, by decide +kernel⟩
theorem ok_Ltokens (n : Nat) (T : Dl.Fz fa fn xs kds w K mg) (D_Lquoted : Def P w K mg base 1 (He.ga K "_law_quoted") ["_law_text_here"] (spD ⟨K, true⟩ pf_Lquoted)) (D_Lforms : Def P w K mg base 1 (He.ga K "_law_forms") [] (spD ⟨K, true⟩ pf_Lforms)) (D_Ltokens : Def P w K mg base (10 * n) (He.ga K "_law_tokens") ["_law_expression_here"] (spD ⟨K, true⟩ (pf_Ltoks n))) : Def P w K mg base (10 * n + 10) (He.ga K "_law_tokens") ["_law_expression_here"] (spD ⟨K, true⟩ (pf_Ltoks (n + 1))) := by
  obtain ⟨fd, F⟩ := T.c.def_ 28 (d := df_Ltokens) rfl
  refine Def.of (N := N_Ltokens) F sc_Ltokens (fun _ _ _ _ _ _ us hl => match us, hl with | [_], _ => rfl) (spD_len fun ws st k ex h => by unfold pf_Ltoks at h; split at h <;> first | rfl | exact h.elim) (fun cdv A outer s H vs Q E hr h => ⟨lS (XN (cxOf (L2.CX P w) P w K mg base N_Ltokens df_Ltokens.qual df_Ltokens.scope (He.ga K "_law_tokens") cdv A outer s H E) true) (fun cls d _ H => E cls d H) (t_Ltokens n), ?_, body_ok (kp := false) (Nm := N_Ltokens) r_Ltokens h⟩)
  exact (ss_cons (s_if (t_cmpD (o_eq' hr.units) ok_eq (e_I (e_ix (e_var 0) (e_con pe_int (fun _ => rfl)))) (e_I (e_con pe_str (fun _ => rfl))) (nomark _)) (ss_one (s_ret (e_I (e_lst (ad_cons (e_cty c_strI ok_strI (by rfl) (T.free 34) (by decide +kernel) (a_cons (e_I (e_ix (e_var 0) (e_con pe_int (fun _ => rfl)))) a_nil)) ad_nil))))) ss_nil)
 (ss_cons (s_if (t_cmpD (o_eq' hr.units) ok_eq (e_I (e_ix (e_var 0) (e_con pe_int (fun _ => rfl)))) (e_I (e_con pe_str (fun _ => rfl))) (nomark _)) (ss_one (s_ret (e_I (e_lst (ad_cons (e_D (e_call D_Lquoted (hr.mono (by omega)) rfl (T.glo 49) (fun σ => passAt (takes_of rfl rfl rfl rfl) σ) (a_cons (e_I (e_ix (e_var 0) (e_con pe_int (fun _ => rfl)))) a_nil))) ad_nil))))) ss_nil)
 (ss_cons (s_if (t_cmpD (o_eq' hr.units) ok_eq (e_I (e_ix (e_var 0) (e_con pe_int (fun _ => rfl)))) (e_I (e_con pe_str (fun _ => rfl))) (nomark _)) (ss_one (s_ret (e_I (e_lst (ad_cons (e_D (e_ifW (t_tru (e_I (e_ix (e_var 0) (e_con pe_int (fun _ => rfl))))) (e_I (e_con pe_str (fun _ => rfl))) (e_I (e_con pe_str (fun _ => rfl))))) ad_nil))))) ss_nil)
 (ss_cons (s_if (t_cmpD (o_eq' hr.units) ok_eq (e_I (e_ix (e_var 0) (e_con pe_int (fun _ => rfl)))) (e_I (e_con pe_str (fun _ => rfl))) (nomark _)) (ss_cons (s_asg (ps_set (i := 1) sc_Ltokens.nd rfl (Or.inl rfl) (e_lstM (ad_cons (e_con pe_str (fun _ => rfl)) (ad_cons (e_con pe_str (fun _ => rfl)) (ad_cons (e_D (e_call D_Lquoted (hr.mono (by omega)) rfl (T.glo 49) (fun σ => passAt (takes_of rfl rfl rfl rfl) σ) (a_cons (e_I (e_ix (e_var 0) (e_con pe_int (fun _ => rfl)))) a_nil))) ad_nil))))))
 (ss_cons (s_forK (vs := [2]) (gV := (gName 2)) (gok_name (by decide)) (passes_of rfl) rfl (i_sq (e_ix (e_var 0) (e_con pe_int (fun _ => rfl)))) (pg_name (i := 2) sc_Ltokens.nd rfl (Or.inl rfl))
 (ss_one (s_asg (ps_set (i := 1) sc_Ltokens.nd rfl (Or.inl rfl) (e_addM (e_var 1) (e_call D_Ltokens (hr.mono (by omega)) rfl (T.glo 50) (fun σ => passAt (takes_of rfl rfl rfl rfl) σ) (a_cons (e_var 2) a_nil)))))))
 (ss_one (s_ret (e_I (e_op o_add' ok_add (e_D (e_var 1)) (e_lst (ad_cons (e_con pe_str (fun _ => rfl)) ad_nil)))))))) ss_nil)
 (ss_cons (s_asg (ps_set (i := 1) sc_Ltokens.nd rfl (Or.inl rfl) (e_lstM (ad_cons (e_con pe_str (fun _ => rfl)) (ad_cons (e_ix (e_var 0) (e_con pe_int (fun _ => rfl))) ad_nil)))))
 (ss_cons (s_asg (ps_set (i := 3) sc_Ltokens.nd rfl (Or.inl rfl) (e_I (e_get (hu_of hr) (fun z => nomatch z) (e_call0 D_Lforms (hr.mono (by omega)) rfl (T.glo 42)) (e_ix (e_var 0) (e_con pe_int (fun _ => rfl)))))))
 (ss_cons (s_forK (vs := [4]) (gV := (gName 4)) (gok_name (by decide)) (passes_of rfl) rfl (i_rg1 rfl (T.free 2) (pa_cons (e_cb c_lenW ok_len (by rfl) (T.free 1) PySem.boot_len (a_cons (e_var 3) a_nil)) pa_nil)) (pg_name (i := 4) sc_Ltokens.nd rfl (Or.inl rfl))
 (ss_cons (s_asg (ps_set (i := 2) sc_Ltokens.nd rfl (Or.inl rfl) (e_I (e_ix (e_var 0) (e_op o_add' ok_add (e_D (e_var 4)) (e_con pe_int (fun _ => rfl)))))))
 (ss_one (s_if (t_cmpD (o_eq' hr.units) ok_eq (e_I (e_ix (e_var 3) (e_D (e_var 4)))) (e_I (e_con pe_str (fun _ => rfl))) (nomark _)) (ss_one (s_asg (ps_set (i := 1) sc_Ltokens.nd rfl (Or.inl rfl) (e_addM (e_var 1) (e_call D_Ltokens (hr.mono (by omega)) rfl (T.glo 50) (fun σ => passAt (takes_of rfl rfl rfl rfl) σ) (a_cons (e_var 2) a_nil)))))) (ss_one (s_app (ps_expr (pe_bm PySem.F.plainAttrs_list PySem.F.slot_list_append PySem.F.type_list_append mt_append (e_var 1) (pa_cons (e_D (e_ifW (t_cmpD (o_eq' hr.units) ok_eq (e_I (e_ix (e_var 3) (e_D (e_var 4)))) (e_I (e_con pe_str (fun _ => rfl))) (nomark _)) (e_call D_Lquoted (hr.mono (by omega)) rfl (T.glo 49) (fun σ => passAt (takes_of rfl rfl rfl rfl) σ) (a_cons (e_var 2) a_nil)) (e_var 2))) pa_nil)))))))))
 (ss_one (s_ret (e_I (e_op o_add' ok_add (e_D (e_var 1)) (e_lst (ad_cons (e_con pe_str (fun _ => rfl)) ad_nil)))))))))))))
theorem no_Ltokens (T : Dl.Fz fa fn xs kds w K mg) : Def P w K mg base 0 (He.ga K "_law_tokens") ["_law_expression_here"] (spD ⟨K, true⟩ (pf_Ltoks 0)) := by
  obtain ⟨fd, F⟩ := T.c.def_ 28 (d := df_Ltokens) rfl
  exact (Def.zero F (fun _ _ _ _ _ _ us hl => match us, hl with | [_], _ => rfl)).imp fun vs H Q E h => by
    obtain ⟨M, ρ, ws, st, k, ex, r, rw, hf, _⟩ := h
    exact (pf_Ltoks0 : ∀ ws st k ex, ¬ (pf_Ltoks 0) ws st k ex) _ _ _ _ hf
theorem all_Ltokens (T : Dl.Fz fa fn xs kds w K mg) (D_Lquoted : Def P w K mg base 1 (He.ga K "_law_quoted") ["_law_text_here"] (spD ⟨K, true⟩ pf_Lquoted)) (D_Lforms : Def P w K mg base 1 (He.ga K "_law_forms") [] (spD ⟨K, true⟩ pf_Lforms)) : ∀ n : Nat, Def P w K mg base (10 * n) (He.ga K "_law_tokens") ["_law_expression_here"] (spD ⟨K, true⟩ (pf_Ltoks n))
  | 0 => (no_Ltokens T).mono (by omega)
  | n + 1 => ok_Ltokens n T D_Lquoted D_Lforms (all_Ltokens T D_Lquoted D_Lforms n)
theorem sc_Lwritten : FnScope N_Lwritten ["_law_tokens_here"] (defScope s_Lwritten) := ⟨rfl, rfl, rfl, by decide +kernel, rfl, by decide +kernel, by decide +kernel⟩
theorem ok_Lwritten (T : Dl.Fz fa fn xs kds w K mg) : Def P w K mg base 1 (He.ga K "_law_written") ["_law_tokens_here"] (spD ⟨K, true⟩ pf_Lwritten) := by
  obtain ⟨fd, F⟩ := T.c.def_ 29 (d := df_Lwritten) rfl
  refine Def.of (k := 0) (N := N_Lwritten) F sc_Lwritten (fun _ _ _ _ _ _ us hl => match us, hl with | [_], _ => rfl) (spD_len fun ws st k ex h => by unfold pf_Lwritten at h; split at h <;> first | rfl | exact h.elim) (fun cdv A outer s H vs Q E hr h => ⟨lS (XN (cxOf (L2.CX P w) P w K mg base N_Lwritten df_Lwritten.qual df_Lwritten.scope (He.ga K "_law_written") cdv A outer s H E) true) (fun cls d _ H => E cls d H) (t_Lwritten), ?_, body_ok (kp := false) (Nm := N_Lwritten) r_Lwritten h⟩)
  exact (ss_cons (s_asg (ps_set (i := 1) sc_Lwritten.nd rfl (Or.inl rfl) (e_I (e_con pe_str (fun _ => rfl)))))
 (ss_cons (s_for (vs := [2]) (gV := (gName 2)) (gok_name (by decide)) (passes_of rfl) rfl (i_rg1 rfl (T.free 2) (pa_cons (e_cb c_lenW ok_len (by rfl) (T.free 1) PySem.boot_len (a_cons (e_var 0) a_nil)) pa_nil)) (pg_name (i := 2) sc_Lwritten.nd rfl (Or.inl rfl))
 (ss_cons (s_if (PW.pt (w_and (t_cmpD o_gt ok_gt (e_var 2) (e_I (e_con pe_int (fun _ => rfl))) (nomark _)) (w_and (t_cmpD (o_ne' hr.units) ok_ne (e_I (e_ix (e_var 0) (e_D (e_var 2)))) (e_I (e_con pe_str (fun _ => rfl))) (nomark _)) (w_and1 (t_cmpD (o_ne' hr.units) ok_ne (e_I (e_ix (e_var 0) (e_op o_sub ok_sub (e_D (e_var 2)) (e_con pe_int (fun _ => rfl))))) (e_I (e_con pe_str (fun _ => rfl))) (nomark _)))))) (ss_one (s_asg (ps_set (i := 1) sc_Lwritten.nd rfl (Or.inl rfl) (e_I (e_op o_add' ok_add (e_D (e_var 1)) (e_con pe_str (fun _ => rfl))))))) ss_nil)
 (ss_one (s_asg (ps_set (i := 1) sc_Lwritten.nd rfl (Or.inl rfl) (e_I (e_op o_add' ok_add (e_D (e_var 1)) (e_ix (e_var 0) (e_D (e_var 2))))))))))
 (ss_one (s_ret (e_var 1)))))
theorem sc_Lgap : FnScope N_Lgap ["_law_pool_here", "_law_left", "_law_right"] (defScope s_Lgap) := ⟨rfl, rfl, rfl, by decide +kernel, rfl, by decide +kernel, by decide +kernel⟩
theorem ok_Lgap (T : Dl.Fz fa fn xs kds w K mg) (D_Ltake : Def P w K mg base 2 (He.ga K "_law_take") ["_law_pool_here", "_law_many"] (spD ⟨K, true⟩ pf_take)) : Def P w K mg base 3 (He.ga K "_law_gap") ["_law_pool_here", "_law_left", "_law_right"] (spD ⟨K, true⟩ pf_Lgap) := by
  obtain ⟨fd, F⟩ := T.c.def_ 30 (d := df_Lgap) rfl
  refine Def.of (k := 2) (N := N_Lgap) F sc_Lgap (fun _ _ _ _ _ _ us hl => match us, hl with | [_, _, _], _ => rfl) (spD_len fun ws st k ex h => by unfold pf_Lgap at h; split at h <;> first | rfl | exact h.elim) (fun cdv A outer s H vs Q E hr h => ⟨lS (XN (cxOf (L2.CX P w) P w K mg base N_Lgap df_Lgap.qual df_Lgap.scope (He.ga K "_law_gap") cdv A outer s H E) true) (fun cls d _ H => E cls d H) (t_Lgap), ?_, body_ok (kp := false) (Nm := N_Lgap) r_Lgap h⟩)
  exact (ss_cons (s_asg (ps_set (i := 3) sc_Lgap.nd rfl (Or.inl rfl) (e_I (e_m1 PySem.F.slot_str_join PySem.F.type_str_join m_join ok_join (e_I (e_con pe_str (fun _ => rfl))) (e_I (e_lcD (own := [("_law_k", 4)]) (g := (gN 4)) (gV := (gName 4)) (gok_name (by decide)) rfl sc_Lgap.nd (i_rg1 rfl (T.free 2) (pa_cons (e_D (e_call D_Ltake (hr.mono (by decide)) rfl (T.glo 37) (fun σ => passAt (takes_of rfl rfl rfl rfl) σ) (a_cons (e_var 0) (a_cons (e_I (e_con pe_int (fun _ => rfl))) a_nil)))) pa_nil)) (blkOk_by (own := [("_law_k", 4)]) (N := N_Lgap) (sc := defScope s_Lgap) (by decide +kernel)) (fun _ _ _ _ _ => (pg_name (i := 4) sc_Lgap.nd rfl (Or.inl rfl))) (fun _ _ _ _ _ => ts_nil) (fun _ _ _ _ _ => (e_ix (e_I (e_tup (ad_cons (e_con pe_str (fun _ => rfl)) (ad_cons (e_con pe_str (fun _ => rfl)) ad_nil)))) (e_D (e_call D_Ltake (hr.mono (by decide)) rfl (T.glo 37) (fun _ => pass_none (fun _ _ _ _ h => h)) (a_cons (e_var 0) (a_cons (e_I (e_con pe_int (fun _ => rfl))) a_nil))))))))))))
 (ss_cons (s_if (PW.pt (w_and (t_cmpD (o_eq' hr.units) ok_eq (e_var 3) (e_I (e_con pe_str (fun _ => rfl))) (nomark _)) (w_and (t_cmpD (o_notIn hr.units65) ok_notIn (e_var 1) (e_I (e_tup (ad_cons (e_con pe_str (fun _ => rfl)) (ad_cons (e_con pe_str (fun _ => rfl)) ad_nil)))) (by rfl)) (w_and (t_cmpD (o_notIn hr.units65) ok_notIn (e_var 2) (e_I (e_tup (ad_cons (e_con pe_str (fun _ => rfl)) (ad_cons (e_con pe_str (fun _ => rfl)) ad_nil)))) (by rfl)) (w_and1 (t_cmpD (o_notIn hr.units65) ok_notIn (e_I (e_con pe_str (fun _ => rfl))) (e_I (e_tup (ad_cons (e_ix (e_var 1) (e_con pe_int (fun _ => rfl))) (ad_cons (e_ix (e_var 2) (e_con pe_int (fun _ => rfl))) ad_nil)))) (by rfl))))))) (ss_one (s_ret (e_I (e_con pe_str (fun _ => rfl))))) ss_nil)
 (ss_one (s_ret (e_var 3)))))
theorem sc_Llayout : FnScope N_Llayout ["_law_pool_here", "_law_tokens_here"] (defScope s_Llayout) := ⟨rfl, rfl, rfl, by decide +kernel, rfl, by decide +kernel, by decide +kernel⟩
theorem ok_Llayout (T : Dl.Fz fa fn xs kds w K mg) (D_Lgap : Def P w K mg base 3 (He.ga K "_law_gap") ["_law_pool_here", "_law_left", "_law_right"] (spD ⟨K, true⟩ pf_Lgap)) : Def P w K mg base 4 (He.ga K "_law_layout") ["_law_pool_here", "_law_tokens_here"] (spD ⟨K, true⟩ pf_Llayout) := by
  obtain ⟨fd, F⟩ := T.c.def_ 31 (d := df_Llayout) rfl
  refine Def.of (k := 3) (N := N_Llayout) F sc_Llayout (fun _ _ _ _ _ _ us hl => match us, hl with | [_, _], _ => rfl) (spD_len fun ws st k ex h => by unfold pf_Llayout at h; split at h <;> first | rfl | exact h.elim) (fun cdv A outer s H vs Q E hr h => ⟨lS (XN (cxOf (L2.CX P w) P w K mg base N_Llayout df_Llayout.qual df_Llayout.scope (He.ga K "_law_layout") cdv A outer s H E) true) (fun cls d _ H => E cls d H) (t_Llayout), ?_, body_ok (kp := false) (Nm := N_Llayout) r_Llayout h⟩)
  exact (ss_cons (s_asg (ps_set (i := 2) sc_Llayout.nd rfl (Or.inl rfl) (e_call D_Lgap (hr.mono (by decide)) rfl (T.glo 51) (fun σ => passAt (takes_of rfl rfl rfl rfl) σ) (a_cons (e_var 0) (a_cons (e_I (e_con pe_str (fun _ => rfl))) (a_cons (e_I (e_con pe_str (fun _ => rfl))) a_nil))))))
 (ss_cons (s_asg (ps_set (i := 3) sc_Llayout.nd rfl (Or.inl rfl) (e_lstM ad_nil)))
 (ss_cons (s_for (vs := [4]) (gV := (gName 4)) (gok_name (by decide)) (passes_of rfl) rfl (i_rg1 rfl (T.free 2) (pa_cons (e_cb c_lenW ok_len (by rfl) (T.free 1) PySem.boot_len (a_cons (e_var 1) a_nil)) pa_nil)) (pg_name (i := 4) sc_Llayout.nd rfl (Or.inl rfl))
 (ss_cons (s_app (ps_expr (pe_bm PySem.F.plainAttrs_list PySem.F.slot_list_append PySem.F.type_list_append mt_append (e_var 3) (pa_cons (e_cb c_lenW ok_len (by rfl) (T.free 1) PySem.boot_len (a_cons (e_var 2) a_nil)) pa_nil))))
 (ss_cons (s_asg (ps_set (i := 2) sc_Llayout.nd rfl (Or.inl rfl) (e_I (e_op o_add' ok_add (e_D (e_var 2)) (e_ix (e_var 1) (e_D (e_var 4)))))))
 (ss_one (s_if (t_cmpD o_lt' ok_lt (e_I (e_op o_add' ok_add (e_D (e_var 4)) (e_con pe_int (fun _ => rfl)))) (e_I (e_cb c_lenW ok_len (by rfl) (T.free 1) PySem.boot_len (a_cons (e_var 1) a_nil))) (nomark _)) (ss_one (s_asg (ps_set (i := 2) sc_Llayout.nd rfl (Or.inl rfl) (e_I (e_op o_add' ok_add (e_D (e_var 2)) (e_D (e_call D_Lgap (hr.mono (by decide)) rfl (T.glo 51) (fun σ => passAt (takes_of rfl rfl rfl rfl) σ) (a_cons (e_var 0) (a_cons (e_I (e_ix (e_var 1) (e_D (e_var 4)))) (a_cons (e_I (e_ix (e_var 1) (e_op o_add' ok_add (e_D (e_var 4)) (e_con pe_int (fun _ => rfl))))) a_nil)))))))))) ss_nil)))))
 (ss_one (s_ret (e_I (e_tup (ad_cons (e_D (e_var 2)) (ad_cons (e_D (e_var 3)) ad_nil)))))))))
theorem sc_Lrefused : FnScope N_Lrefused ["_law_text_here"] (defScope s_Lrefused) := ⟨rfl, rfl, rfl, by decide +kernel, rfl, by decide +kernel, by decide +kernel⟩
theorem ok_Lrefused (T : Dl.Fz fa fn xs kds w K mg) (D_read_expression : Def P w K mg base 51 (He.ga K "read_expression") ["text"] (spD ⟨K, true⟩ pf_read_expression)) : Def P w K mg base 52 (He.ga K "_law_refused") ["_law_text_here"] (spD ⟨K, true⟩ pf_Lrefused) := by
  obtain ⟨fd, F⟩ := T.c.def_ 32 (d := df_Lrefused) rfl
  refine Def.of (k := 51) (N := N_Lrefused) F sc_Lrefused (fun _ _ _ _ _ _ us hl => match us, hl with | [_], _ => rfl) (spD_len fun ws st k ex h => by unfold pf_Lrefused at h; split at h <;> first | rfl | exact h.elim) (fun cdv A outer s H vs Q E hr h => ⟨lS (XN (cxOf (L2.CX P w) P w K mg base N_Lrefused df_Lrefused.qual df_Lrefused.scope (He.ga K "_law_refused") cdv A outer s H E) true) (fun cls d _ H => E cls d H) (t_Lrefused), ?_, body_ok (kp := false) (Nm := N_Lrefused) r_Lrefused h⟩)
  exact (ss_cons (s_tryAs (i := 1) (tbl := [("BadExpression", true)]) (u := fun a dd c => (sIf (dTru (dI (dIsX a dd c "BadExpression" true (dV 1)))) (sRet (dI (dXf a dd c "BadExpression" "position" (dV 1)))) sNext)) rfl rfl sc_Lrefused.nd rfl rfl ⟨rfl, by decide, .inl (T.glo 14)⟩ (takes_of rfl rfl rfl rfl) (tbl_cons (T.exm 53) tbl_nil) (fun W pn xe tk po => (ss_one (s_drop (ps_expr (e_call D_read_expression (hr.mono (by decide)) rfl (T.glo 52) (fun σ => passAt tk σ) (a_cons (e_var 0) a_nil)))))) (fun a oe cls d pn hz hf dd c hc hd => (ss_one (s_if (t_tru (e_I (e_isX (pe_callB (call_isD (ex_isc (T.more 4)) hz hf) (by rfl) (T.free 46) (by decide +kernel) (pa_cons (e_var 1) (pa_cons (pe_bltn (v := .ty "ValueError") (u := .type "ValueError") (by rfl) (T.free 54) (by decide +kernel) rfl) pa_nil))) hc hd (fun _ h => h) (ex_kitT (T.more 3))))) (ss_one (s_ret (e_I (e_xf (xfc_of (ex_isc (T.more 4))) (ex_nofld (T.more 2)) hz hf hc hd (e_var 1))))) ss_nil))))
 (ss_one (s_ret (e_I (e_con pe_non (fun _ => rfl))))))
theorem sc_law : FnScope N_law ["_law_script"] (defScope s_law) := ⟨rfl, rfl, rfl, by decide +kernel, rfl, by decide +kernel, by decide +kernel⟩
theorem ok_law (T : Dl.Fz fa fn xs kds w K mg) (D_Lpool : Def P w K mg base 1 (He.ga K "_law_pool") ["_law_script"] (spD ⟨K, true⟩ pf_pool)) (D_Lexpression : Def P w K mg base 50 (He.ga K "_law_expression") ["_law_pool_here", "_law_depth"] (spD ⟨K, true⟩ (pf_Lexp 5))) (D_Ltake : Def P w K mg base 2 (He.ga K "_law_take") ["_law_pool_here", "_law_many"] (spD ⟨K, true⟩ pf_take)) (D_Lparts : Def P w K mg base 50 (He.ga K "_law_parts") ["_law_expression_here"] (spD ⟨K, true⟩ (pf_Lprts 5))) (D_Lplain : Def P w K mg base 4 (He.ga K "_law_plain") ["_law_pool_here"] (spD ⟨K, true⟩ pf_Lplain)) (D_Ltokens : Def P w K mg base 50 (He.ga K "_law_tokens") ["_law_expression_here"] (spD ⟨K, true⟩ (pf_Ltoks 5))) (D_Llayout : Def P w K mg base 4 (He.ga K "_law_layout") ["_law_pool_here", "_law_tokens_here"] (spD ⟨K, true⟩ pf_Llayout)) (D_read_expression : Def P w K mg base 51 (He.ga K "read_expression") ["text"] (spD ⟨K, true⟩ pf_read_expression)) (D_write_expression : Def P w K mg base 50 (He.ga K "write_expression") ["expression"] (spD ⟨K, true⟩ (pf_wr 5))) (D_Lwritten : Def P w K mg base 1 (He.ga K "_law_written") ["_law_tokens_here"] (spD ⟨K, true⟩ pf_Lwritten)) (D_operands : Def P w K mg base 1 (He.ga K "operands") ["expression"] (spD ⟨K, true⟩ pf_operands)) (D_Lbelow : Def P w K mg base 1 (He.ga K "_law_below") ["_law_expression_here"] (spD ⟨K, true⟩ pf_Lbelow)) (D_parts : Def P w K mg base 50 (He.ga K "parts") ["expression"] (spD ⟨K, true⟩ (pf_prts 5))) (D_Lrefused : Def P w K mg base 52 (He.ga K "_law_refused") ["_law_text_here"] (spD ⟨K, true⟩ pf_Lrefused)) {fd : FuncData} (F : FunD K "law" "law" (defArgs s_law) (defBody s_law) (defScope s_law) [] [] (He.ga K "law") fd) : FnOk P w K mg base (L2.CX P w) 60 (He.ga K "law") fd ["_law_script"] (Dl.sp_law K) := by
  refine fn_by (k := 59) (N := N_law) F sc_law (fun vs H Q E h => by unfold Dl.sp_law at h; split at h <;> first | rfl | exact h.elim) (fun cdv A outer s H vs Q E hr h => ⟨lS (XN (cxOf (L2.CX P w) P w K mg base N_law "law" (defScope s_law) (He.ga K "law") cdv A outer s H E) true) (fun cls d _ H => E cls d H) (t_law), ?_, body_ok (kp := false) (Nm := N_law) r_law (law_ok (N := ⟨K, true⟩) h)⟩)
  exact (ss_cons (s_asg (ps_set (i := 1) sc_law.nd rfl (Or.inl rfl) (e_call D_Lpool (hr.mono (by decide)) rfl (T.glo 55) (fun σ => passAt (takes_of rfl rfl rfl rfl) σ) (a_cons (e_var 0) a_nil))))
 (ss_cons (s_asg (ps_set (i := 2) sc_law.nd rfl (Or.inl rfl) (e_call D_Lexpression (hr.mono (by decide)) rfl (T.glo 41) (fun σ => passAt (takes_of rfl rfl rfl rfl) σ) (a_cons (e_var 1) (a_cons (e_call D_Ltake (hr.mono (by decide)) rfl (T.glo 37) (fun σ => passAt (takes_of rfl rfl rfl rfl) σ) (a_cons (e_var 1) (a_cons (e_I (e_con pe_int (fun _ => rfl))) a_nil))) a_nil)))))
 (ss_cons (s_if (t_cmpD o_gt ok_gt (e_I (e_cb c_lenW ok_len (by rfl) (T.free 1) PySem.boot_len (a_cons (e_call D_Lparts (hr.mono (by decide)) rfl (T.glo 48) (fun σ => passAt (takes_of rfl rfl rfl rfl) σ) (a_cons (e_var 2) a_nil)) a_nil))) (e_I (e_con pe_int (fun _ => rfl))) (nomark _)) (ss_one (s_asg (ps_set (i := 2) sc_law.nd rfl (Or.inl rfl) (e_call D_Lplain (hr.mono (by decide)) rfl (T.glo 40) (fun σ => passAt (takes_of rfl rfl rfl rfl) σ) (a_cons (e_var 1) a_nil))))) ss_nil)
 (ss_cons (s_asg (ps_set (i := 3) sc_law.nd rfl (Or.inl rfl) (e_call D_Ltokens (hr.mono (by decide)) rfl (T.glo 50) (fun σ => passAt (takes_of rfl rfl rfl rfl) σ) (a_cons (e_var 2) a_nil))))
 (ss_cons (s_asg (ps_set (i := 4) sc_law.nd rfl (Or.inl rfl) (e_call D_Llayout (hr.mono (by decide)) rfl (T.glo 56) (fun σ => passAt (takes_of rfl rfl rfl rfl) σ) (a_cons (e_var 1) (a_cons (e_var 3) a_nil)))))
 (ss_cons (s_asg (ps_set (i := 5) sc_law.nd rfl (Or.inl rfl) (e_I (e_ix (e_var 4) (e_con pe_int (fun _ => rfl))))))
 (ss_cons (s_if (PW.pt (w_or (t_cmpD (o_ne' hr.units) ok_ne (e_call D_read_expression (hr.mono (by decide)) rfl (T.glo 52) (fun σ => passAt (takes_of rfl rfl rfl rfl) σ) (a_cons (e_var 5) a_nil)) (e_var 2) (nomark _)) (w_or1 (t_cmpD (o_ne' hr.units) ok_ne (e_call D_write_expression (hr.mono (by decide)) rfl (T.glo 36) (fun σ => passAt (takes_of rfl rfl rfl rfl) σ) (a_cons (e_var 2) a_nil)) (e_call D_Lwritten (hr.mono (by decide)) rfl (T.glo 57) (fun σ => passAt (takes_of rfl rfl rfl rfl) σ) (a_cons (e_var 3) a_nil)) (nomark _))))) (ss_one (s_ret (e_I (e_con pe_bl (fun _ => rfl))))) ss_nil)
 (ss_cons (s_if (t_cmpD (o_ne' hr.units) ok_ne (e_call D_read_expression (hr.mono (by decide)) rfl (T.glo 52) (fun σ => passAt (takes_of rfl rfl rfl rfl) σ) (a_cons (e_call D_write_expression (hr.mono (by decide)) rfl (T.glo 36) (fun σ => passAt (takes_of rfl rfl rfl rfl) σ) (a_cons (e_var 2) a_nil)) a_nil)) (e_var 2) (nomark _)) (ss_one (s_ret (e_I (e_con pe_bl (fun _ => rfl))))) ss_nil)
 (ss_cons (s_if (PW.pt (w_or (t_cmpD (o_ne' hr.units) ok_ne (e_I (e_cty call_list_of ok_list (by rfl) (T.free 45) (by decide +kernel) (a_cons (e_call D_operands (hr.mono (by decide)) rfl (T.glo 4) (fun σ => passAt (takes_of rfl rfl rfl rfl) σ) (a_cons (e_var 2) a_nil)) a_nil))) (e_call D_Lbelow (hr.mono (by decide)) rfl (T.glo 47) (fun σ => passAt (takes_of rfl rfl rfl rfl) σ) (a_cons (e_var 2) a_nil)) (nomark _)) (w_or1 (t_cmpD (o_ne' hr.units) ok_ne (e_I (e_cty call_list_of ok_list (by rfl) (T.free 45) (by decide +kernel) (a_cons (e_call D_parts (hr.mono (by decide)) rfl (T.glo 5) (fun σ => passAt (takes_of rfl rfl rfl rfl) σ) (a_cons (e_var 2) a_nil)) a_nil))) (e_call D_Lparts (hr.mono (by decide)) rfl (T.glo 48) (fun σ => passAt (takes_of rfl rfl rfl rfl) σ) (a_cons (e_var 2) a_nil)) (nomark _))))) (ss_one (s_ret (e_I (e_con pe_bl (fun _ => rfl))))) ss_nil)
 (ss_cons (s_asg (ps_set (i := 6) sc_law.nd rfl (Or.inl rfl) (e_I (e_ix (e_I (e_tup (ad_cons (e_con pe_str (fun _ => rfl)) (ad_cons (e_con pe_str (fun _ => rfl)) (ad_cons (e_con pe_str (fun _ => rfl)) (ad_cons (e_con pe_str (fun _ => rfl)) ad_nil)))))) (e_D (e_call D_Ltake (hr.mono (by decide)) rfl (T.glo 37) (fun σ => passAt (takes_of rfl rfl rfl rfl) σ) (a_cons (e_var 1) (a_cons (e_I (e_con pe_int (fun _ => rfl))) a_nil))))))))
 (ss_cons (s_if (t_cmpD (o_ne' hr.units) ok_ne (e_call D_Lrefused (hr.mono (by decide)) rfl (T.glo 58) (fun σ => passAt (takes_of rfl rfl rfl rfl) σ) (a_cons (e_I (e_op o_add' ok_add (e_op o_add' ok_add (e_D (e_var 5)) (e_con pe_str (fun _ => rfl))) (e_D (e_var 6)))) a_nil)) (e_I (e_op o_add' ok_add (e_cb c_lenW ok_len (by rfl) (T.free 1) PySem.boot_len (a_cons (e_var 5) a_nil)) (e_con pe_int (fun _ => rfl)))) (nomark _)) (ss_one (s_ret (e_I (e_con pe_bl (fun _ => rfl))))) ss_nil)
 (ss_cons (s_if (PW.pt (w_or (t_cmpD (o_ne' hr.units) ok_ne (e_call D_Lrefused (hr.mono (by decide)) rfl (T.glo 58) (fun σ => passAt (takes_of rfl rfl rfl rfl) σ) (a_cons (e_I (e_con pe_str (fun _ => rfl))) a_nil)) (e_I (e_con pe_int (fun _ => rfl))) (nomark _)) (w_or1 (t_cmpD (o_ne' hr.units) ok_ne (e_call D_Lrefused (hr.mono (by decide)) rfl (T.glo 58) (fun σ => passAt (takes_of rfl rfl rfl rfl) σ) (a_cons (e_I (e_con pe_str (fun _ => rfl))) a_nil)) (e_I (e_con pe_int (fun _ => rfl))) (nomark _))))) (ss_one (s_ret (e_I (e_con pe_bl (fun _ => rfl))))) ss_nil)
 (ss_cons (s_asg (ps_set (i := 7) sc_law.nd rfl (Or.inl rfl) (e_call D_Ltake (hr.mono (by decide)) rfl (T.glo 37) (fun σ => passAt (takes_of rfl rfl rfl rfl) σ) (a_cons (e_var 1) (a_cons (e_I (e_cb c_lenW ok_len (by rfl) (T.free 1) PySem.boot_len (a_cons (e_var 3) a_nil))) a_nil)))))
 (ss_cons (s_asg (ps_set (i := 8) sc_law.nd rfl (Or.inl rfl) (e_I (e_sl (e_var 5) o_none (o_some (e_ix (e_I (e_ix (e_var 4) (e_con pe_int (fun _ => rfl)))) (e_D (e_var 7))))))))
 (ss_one (s_ret (e_I (e_cmpD (o_eq' hr.units) ok_eq (e_call D_Lrefused (hr.mono (by decide)) rfl (T.glo 58) (fun σ => passAt (takes_of rfl rfl rfl rfl) σ) (a_cons (e_var 8) a_nil)) (e_I (e_cb c_lenW ok_len (by rfl) (T.free 1) PySem.boot_len (a_cons (e_var 8) a_nil))) (nomark _)))))))))))))))))))
theorem facts {h : Heap} {f : Addr} (X : K.In h) (G : h.Ns mainGlobals mg) (hfa : mg ("law" : Str) = some (.ref f)) (c : He.SaysX fa fn (Dl.tabD kds) [] exB w h K) (hP : Dl.Sup.SupP P "/claim/cut.py") :
    ∃ fd : FuncData, (∀ (s : Shared) (v : Value), BindsTo s fd ⟨[v], []⟩ [("_law_script", v)]) ∧ ∀ base : Heap, K.In base → base.Ns mainGlobals mg → FnOk P w K mg base CX0 60 f fd ["_law_script"] (Dl.sp_law K) := by
  have T : Dl.Fz fa fn xs kds w K mg := ⟨⟨⟨⟨h, X, G⟩, c.t.d⟩, (He.ba (He.ba c.more).1).1⟩, gds_of c.t (He.ba (He.ba c.more).1).2⟩
  obtain ⟨fd, F⟩ := c.t.d.def_ 33 (d := df_law) rfl
  have e := hfa.symm.trans (T.glo 59)
  cases e
  have b := FunD.bindsA (ps := ["_law_script"]) F fun _ _ _ _ _ _ us hl => match us, hl with | [_], _ => rfl
  refine ⟨fd, fun s v => b s [v] rfl, fun base _ _ => ?_⟩
  have D_BadExpression_init : Def P w K mg base 1 (He.ma K (He.ga K "BadExpression") "__init__") ["self", "position"] (Dl.Sup.sp_sup1 K (He.ga K "BadExpression") "position") := Dl.Sup.sup_def1 0 bs_BadExpression_init (List.all_eq_true.mp (He.ba c.more).2 ("BadExpression", ["position"]) (by simp)) hP (T.free 60)
  have D_operands : Def P w K mg base 1 (He.ga K "operands") ["expression"] (spD ⟨K, true⟩ pf_operands) := ok_operands T
  have D_parts : Def P w K mg base 50 (He.ga K "parts") ["expression"] (spD ⟨K, true⟩ (pf_prts 5)) := all_parts T D_operands 5
  have D_Reader_init : Def P w K mg base 1 (He.ma K (He.ga K "Reader") "__init__") ["self", "text"] (spD ⟨K, true⟩ pf_Reader_init) := ok_Reader_init T
  have D_Reader_blank : Def P w K mg base 1 (He.ma K (He.ga K "Reader") "blank") ["self"] (spD ⟨K, true⟩ pf_Reader_blank) := ok_Reader_blank T
  have D_Reader_sign : Def P w K mg base 2 (He.ma K (He.ga K "Reader") "sign") ["self"] (spD ⟨K, true⟩ pf_Reader_sign) := ok_Reader_sign T D_Reader_blank
  have D_Reader_run : Def P w K mg base 1 (He.ma K (He.ga K "Reader") "run") ["self", "characters"] (spD ⟨K, true⟩ pf_Reader_run) := ok_Reader_run T
  have D_Reader_word : Def P w K mg base 4 (He.ma K (He.ga K "Reader") "word") ["self"] (spD ⟨K, true⟩ pf_Reader_word) := ok_Reader_word T D_Reader_sign D_BadExpression_init D_Reader_run
  have D_Reader_name : Def P w K mg base 5 (He.ma K (He.ga K "Reader") "name") ["self"] (spD ⟨K, true⟩ pf_Reader_name) := ok_Reader_name T D_Reader_blank D_Reader_word D_BadExpression_init
  have D_Reader_integer : Def P w K mg base 3 (He.ma K (He.ga K "Reader") "integer") ["self"] (spD ⟨K, true⟩ pf_Reader_integer) := ok_Reader_integer T D_Reader_run D_BadExpression_init
  have D_Reader_quoted : Def P w K mg base 4 (He.ma K (He.ga K "Reader") "quoted") ["self"] (spD ⟨K, true⟩ pf_Reader_quoted) := ok_Reader_quoted T D_Reader_sign D_BadExpression_init
  have D_Reader_close : Def P w K mg base 4 (He.ma K (He.ga K "Reader") "close") ["self"] (spD ⟨K, true⟩ pf_Reader_close) := ok_Reader_close T D_Reader_sign D_BadExpression_init
  have D_Reader_expression : Def P w K mg base 50 (He.ma K (He.ga K "Reader") "expression") ["self"] (spD ⟨K, true⟩ (pf_exp 5)) := all_Reader_expression T D_Reader_quoted D_Reader_sign D_BadExpression_init D_Reader_close D_Reader_blank D_Reader_word D_Reader_name D_Reader_integer 5
  have D_read_expression : Def P w K mg base 51 (He.ga K "read_expression") ["text"] (spD ⟨K, true⟩ pf_read_expression) := ok_read_expression T D_Reader_init D_Reader_expression D_Reader_sign D_BadExpression_init
  have D_quote : Def P w K mg base 1 (He.ga K "quote") ["text"] (spD ⟨K, true⟩ pf_quote) := ok_quote T
  have D_write_expression : Def P w K mg base 50 (He.ga K "write_expression") ["expression"] (spD ⟨K, true⟩ (pf_wr 5)) := all_write_expression T D_quote 5
  have O_Lpool : Def P w K mg base 1 (He.ga K "_law_pool") ["_law_script"] (sp_pool K) := ok_Lpool T
  have D_Lpool : Def P w K mg base 1 (He.ga K "_law_pool") ["_law_script"] (spD ⟨K, true⟩ pf_pool) := O_Lpool.imp fun vs H Q E h => pool_ok h
  have O_Ltake : Def P w K mg base 2 (He.ga K "_law_take") ["_law_pool_here", "_law_many"] (sp_take 2) := ok_Ltake 1 T (ok_Ltake 0 T ((no_Ltake T).imp fun vs H Q E h => by unfold sp_take at h; split at h; exact absurd h.1 (by decide); exact h))
  have D_Ltake : Def P w K mg base 2 (He.ga K "_law_take") ["_law_pool_here", "_law_many"] (spD ⟨K, true⟩ pf_take) := O_Ltake.imp fun vs H Q E h => take_ok h
  have D_Lforms : Def P w K mg base 1 (He.ga K "_law_forms") [] (spD ⟨K, true⟩ pf_Lforms) := ok_Lforms T
  have D_Lname : Def P w K mg base 3 (He.ga K "_law_name") ["_law_pool_here"] (spD ⟨K, true⟩ pf_Lname) := ok_Lname T D_Ltake
  have D_Ltext : Def P w K mg base 3 (He.ga K "_law_text") ["_law_pool_here"] (spD ⟨K, true⟩ pf_Ltext) := ok_Ltext T D_Ltake
  have D_Linteger : Def P w K mg base 3 (He.ga K "_law_integer") ["_law_pool_here"] (spD ⟨K, true⟩ pf_Linteger) := ok_Linteger T D_Ltake
  have D_Lplain : Def P w K mg base 4 (He.ga K "_law_plain") ["_law_pool_here"] (spD ⟨K, true⟩ pf_Lplain) := ok_Lplain T D_Ltake D_Linteger D_Ltext
  have D_Lexpression : Def P w K mg base 50 (He.ga K "_law_expression") ["_law_pool_here", "_law_depth"] (spD ⟨K, true⟩ (pf_Lexp 5)) := all_Lexpression T D_Ltake D_Lplain D_Ltext D_Lforms D_Lname 5
  have D_Lbelow : Def P w K mg base 1 (He.ga K "_law_below") ["_law_expression_here"] (spD ⟨K, true⟩ pf_Lbelow) := ok_Lbelow T
  have D_Lparts : Def P w K mg base 50 (He.ga K "_law_parts") ["_law_expression_here"] (spD ⟨K, true⟩ (pf_Lprts 5)) := all_Lparts T D_Lbelow 5
  have D_Lquoted : Def P w K mg base 1 (He.ga K "_law_quoted") ["_law_text_here"] (spD ⟨K, true⟩ pf_Lquoted) := ok_Lquoted T
  have D_Ltokens : Def P w K mg base 50 (He.ga K "_law_tokens") ["_law_expression_here"] (spD ⟨K, true⟩ (pf_Ltoks 5)) := all_Ltokens T D_Lquoted D_Lforms 5
  have D_Lwritten : Def P w K mg base 1 (He.ga K "_law_written") ["_law_tokens_here"] (spD ⟨K, true⟩ pf_Lwritten) := ok_Lwritten T
  have D_Lgap : Def P w K mg base 3 (He.ga K "_law_gap") ["_law_pool_here", "_law_left", "_law_right"] (spD ⟨K, true⟩ pf_Lgap) := ok_Lgap T D_Ltake
  have D_Llayout : Def P w K mg base 4 (He.ga K "_law_layout") ["_law_pool_here", "_law_tokens_here"] (spD ⟨K, true⟩ pf_Llayout) := ok_Llayout T D_Lgap
  have D_Lrefused : Def P w K mg base 52 (He.ga K "_law_refused") ["_law_text_here"] (spD ⟨K, true⟩ pf_Lrefused) := ok_Lrefused T D_read_expression
  exact fn_to0 (ok_law T D_Lpool D_Lexpression D_Ltake D_Lparts D_Lplain D_Ltokens D_Llayout D_read_expression D_write_expression D_Lwritten D_operands D_Lbelow D_parts D_Lrefused F) (fun _ _ _ _ h => h)
end
end Dl.Ea
open PySem PySem.W PySem.Calls PyProof.Rows
set_option maxRecDepth 100000 in
set_option maxHeartbeats 0 in
theorem PySem.Challenge.cw_tongues_k44_expressions_holds : PySem.Challenge.rw_tongues_k44_expressions.Holds := by
  w_on; o_law
  refine HandSHeadRun.head_any (r := OpenLaw.row PySem.Challenge.rw_tongues_k44_expressions) (q := view (OpenLaw.row PySem.Challenge.rw_tongues_k44_expressions).prog [35]) (H := Co.EaF.hk) (ob := Co.EaF.ob) (M := 9000) (loose := Co.EaF.loose) (d := HandSHeadRun.topDef (OpenLaw.row PySem.Challenge.rw_tongues_k44_expressions).prog 35) (kwd := []) Co.EaF.ob_eq
    (by kernel_rfl) (fun s => by kernel_rfl) Co.EaF.run (by kernel_rfl) (by kernel_rfl) (by kernel_rfl) (by rfl) (by first | assumption | decide +kernel) (by decide +kernel) ⟨rfl, rfl, rfl, rfl, rfl, by decide +kernel⟩ ?hw ?hc
  case hw => w_witness2
  case hc =>
    refine L2.walk_ofE (l := PySem.Challenge.rw_tongues_k44_expressions) (n := 63) (k := 60) (x := "_law_script") (CX := L2.CX0) rfl (by decide) (by kernel_rfl) ⟨rfl, by decide, by decide⟩ ?F (fun _ _ _ _ z => z)
    intro w mg fa h Y G hmg0
    obtain ⟨K, KX, c⟩ := Y
    have hmg : mg ("law" : PySem.Str) = some (.ref fa) := by
      have e : (HandSHeadRun.topDef (OpenLaw.row PySem.Challenge.rw_tongues_k44_expressions).prog 35).name = ("law" : PySem.Str) := by kernel_rfl
      rw [← e]
      exact hmg0
    obtain ⟨fd, hb, hF⟩ := Dl.Ea.facts (P := (PySem.Challenge.rw_tongues_k44_expressions).prog) (w := w) KX G hmg c ⟨by kernel_rfl, by kernel_rfl⟩
    exact ⟨K, fd, Dl.sp_law K, KX, hb, fun H a ns hl _ hS => ⟨ns, hS, hl, fun _ => rfl⟩, hF⟩
end
