import PyProof.Rows.All
import Wide.All
import OpenK.AllK
import Wide.FinOn
import PyProof.EqAt
import PyProof.EqKinds
import PyProof.TupleCall
import HandS.ForMost
import HandS.ForExc
import HandS.TryMany
import HandS.IsInst
import HandS.Flow
import HandS.Small
import HandS.CallSlots
import HandS.ExcIs
import HandS.Defaults
import HandS.Head0
import HandS.Head1
import HandS.Head2
import HandS.HeadEnd
import HandS.HeadHook1
import HandS.HeadHook2
import HandS.WideBits
import Lean
import HandS.StrMore
import HandS.DictComp
import HandS.Conv
import KE.GoesEnum
import KE.GoesMore
import HandS.ExcInit
import HandS.ExcField
import HandS.HeadHook4
import HandS.Deep
import HandS.Steps
import HandS.TupAny
import HandS.TupLen
import PyProof.P3Eq
import PyProof.P3In
import PyProof.NeData
import KE.IntTextLaws
import PyProof.FitsInt
import PySem.Challenge.RW_tongues_k45_values
set_option Elab.async false
set_option linter.all false
set_option maxRecDepth 100000
section
set_option maxHeartbeats 4000000
namespace Co
open PySem PySem.Spec PyProof.Rows L2
section
variable {X : Cx} {a b : Expr} {ta tb : TE} {pos : Pos}
theorem PE.imp {e : Expr} {t t' : TE} (h : PE X e t) (i : ∀ σ H Q, t' σ H Q → t σ H Q) : PE X e t' := ⟨fun pins s σ H Q I q => h.run pins s σ H Q I (i σ H Q q)⟩
theorem PT.imp {e : Expr} {t t' : TT} (h : PT X e t) (i : ∀ σ H Q, t' σ H Q → t σ H Q) : PT X e t' := ⟨fun pins s σ H Q I q => h.run pins s σ H Q I (i σ H Q q)⟩
theorem PW.imp {e : Expr} {t t' : TT} (h : PW X e t) (i : ∀ σ H Q, t' σ H Q → t σ H Q) : PW X e t' := ⟨fun wh pins s σ H Q I q => h.run wh pins s σ H Q I (i σ H Q q)⟩
theorem PS.imp {st : Stmt} {t t' : TS} (h : PS X st t) (i : ∀ D σ H, t' D σ H → t D σ H) : PS X st t' := ⟨fun pins s σ H D I q => h.run pins s σ H D I (i D σ H q)⟩
def tV (i : Nat) : TE := fun σ H Q => match σ[i]? with
  | some (some v) => Q v H
  | _ => False
theorem v_of {i : Nat} {σ : L2.St} {H : Hp} {Q : VK} (h : tV i σ H Q) : tVar i σ H Q := by
  unfold tV at h
  split at h
  · exact ⟨_, by assumption, h⟩
  · exact h.elim
theorem va (i : Nat) {x : Str} {pos : Pos} (hN : X.N[i]? = some x := by rfl) (hv : Vis X.env.scope x := by first | exact Or.inl rfl | exact Or.inr (Or.inl rfl) | exact Or.inr (Or.inr rfl)) (hd : (x == ("__debug__" : Str)) = false := by decide)
    (hcd : (x == ("__classdict__" : Str)) = false := by decide) : PE X (.Name x pos) (tV i) := PE.imp (pe_var hN hv hd hcd) fun _ _ _ => v_of
theorem OpR.imp {f : Value → Value → Sem Value} {r r' : R2} (h : OpR X f r) (i : ∀ x y H Q, r' x y H Q → r x y H Q) : OpR X f r' := fun pins s σ H x y v u Q I rx ry q => h pins s σ H x y v u Q I rx ry (i _ _ _ _ q)
theorem CallR.imp {f : Value} {r r' : List V → Hp → VK → Prop} (h : CallR X f r) (i : ∀ xs H Q, r' xs H Q → r xs H Q) : CallR X f r' := fun pins s σ H xs us Q I rx q => h pins s σ H xs us Q I rx (i _ _ _ q)
def fII (g : Int → Int → V) : R2 := fun x y H Q => match x, y with
  | .int i, .int j => Q (g i j) H
  | _, _ => False
theorem fII_of {g : Int → Int → V} {x y : V} {H : Hp} {Q : VK} (h : fII g x y H Q) : rI0 g x y H Q := by
  unfold fII at h
  split at h
  · exact ⟨_, _, rfl, rfl, h⟩
  · exact h.elim
def fIC (C : Int → Int → Prop) (g : Int → Int → V) : R2 := fun x y H Q => match x, y with
  | .int i, .int j => C i j ∧ Q (g i j) H
  | _, _ => False
theorem fIC_of {C : Int → Int → Prop} {g : Int → Int → V} {x y : V} {H : Hp} {Q : VK} (h : fIC C g x y H Q) : rI C g x y H Q := by
  unfold fIC at h
  split at h
  · exact ⟨_, _, rfl, rfl, h.1, h.2⟩
  · exact h.elim
def fAdd : R2 := fII fun i j => .int (i + j)
def fSub : R2 := fII fun i j => .int (i - j)
def CMulL (i j : Int) : Prop := (-(2 ^ 64) < i ∧ i < 2 ^ 64) ∨ (-(2 ^ 64) < j ∧ j < 2 ^ 64) ∨ (i.natAbs < 2 ^ 250 ∧ j.natAbs < 2 ^ 250)
theorem CMulL.ok {i j : Int} (h : CMulL i j) : IntMulOk i j := by
  rcases h with h | h | ⟨h1, h2⟩
  · exact CMul.ok (.inl h)
  · exact CMul.ok (.inr h)
  · refine CMulX.ok ?_
    have a := intBits_le h1
    have b := intBits_le h2
    unfold CMulX
    omega
def fMul : R2 := fIC CMulL fun i j => .int (i * j)
def fMod : R2 := fIC (fun _ j => 0 < j) fun i j => .int (i % j)
def CDivL (i j : Int) : Prop := 0 < j ∧ j < 2 ^ 250
theorem noPy {i j : Int} (h : CDivL i j) : Builtin.divisionGoesByPylong i j = false := by
  obtain ⟨h1, h2⟩ := h
  have h3 : j.natAbs < 2 ^ 250 := by omega
  have h4 : j.natAbs ≠ 0 := by omega
  have h5 : j.natAbs.log2 < 250 := (Nat.log2_lt h4).mpr h3
  have h6 : (j == 0) = false := by simp; omega
  have h7 : ¬ j.natAbs.log2 / 30 + 1 > 300 := by omega
  unfold Builtin.divisionGoesByPylong
  simp only [h6, Bool.false_eq_true, if_false, Bool.and_eq_false_iff, decide_eq_false_iff_not]
  exact .inl h7
def fDiv : R2 := fIC CDivL fun i j => .int (i / j)
def fPow : R2 := fIC CPow fun i j => .int (i ^ j.toNat)
theorem o_add : OpR X (binaryOp .Add) fAdd := OpR.imp op_add fun _ _ _ _ => fII_of
theorem o_sub : OpR X (binaryOp .Sub) fSub := OpR.imp op_sub fun _ _ _ _ => fII_of
theorem o_mul : OpR X (binaryOp .Mult) fMul := OpR.imp (r := rI CMulL fun i j => .int (i * j)) (opI fun _ _ _ _ _ _ _ hc q => mul_int q hc.ok) fun _ _ _ _ => fIC_of
theorem o_mod : OpR X (binaryOp .Mod) fMod := OpR.imp op_mod fun _ _ _ _ => fIC_of
theorem o_div : OpR X (binaryOp .FloorDiv) fDiv := OpR.imp (r := rI CDivL fun i j => .int (i / j)) (opI fun i j _ _ _ _ _ hc q => by
  have hj : (0 : Int) < j := hc.1
  rw [← Int.fdiv_eq_ediv_of_nonneg i (Int.le_of_lt hj)] at q
  exact floordiv_int (by omega) q (.inl (noPy hc))) fun _ _ _ _ => fIC_of
theorem o_pow : OpR X (binaryOp .Pow) fPow := OpR.imp op_pow fun _ _ _ _ => fIC_of
def fLt : R2 := fII fun i j => .bl (decide (i < j))
def fLe : R2 := fII fun i j => .bl (decide (i ≤ j))
def fGt : R2 := fII fun i j => .bl (decide (j < i))
def fGe : R2 := fII fun i j => .bl (decide (j ≤ i))
theorem o_lt : OpR X (compareOp .Lt) fLt := OpR.imp op_lt fun _ _ _ _ => fII_of
theorem o_le : OpR X (compareOp .LtE) fLe := OpR.imp op_le fun _ _ _ _ => fII_of
theorem o_gt : OpR X (compareOp .Gt) fGt := OpR.imp op_gt fun _ _ _ _ => fII_of
theorem o_ge : OpR X (compareOp .GtE) fGe := OpR.imp op_ge fun _ _ _ _ => fII_of
def fAddS : R2 := fun x y H Q => match x, y with
  | .str i, .str j => i.length + j.length ≤ sizeLine ∧ Q (.str (i ++ j)) H
  | _, _ => False
theorem o_addS : OpR X (binaryOp .Add) fAddS := OpR.imp op_add_str fun x y H Q h => by
  unfold fAddS at h
  split at h
  · exact ⟨_, _, rfl, rfl, h.1, h.2⟩
  · exact h.elim
def eqS : V → V → Option Bool
  | .non, .non => some true | .non, .int _ => some false | .int _, .non => some false | .non, .bl _ => some false | .bl _, .non => some false | .non, .str _ => some false | .str _, .non => some false
  | .int i, .int j => some (decide (i = j)) | .bl i, .bl j => some (decide (i = j)) | .str i, .str j => some (decide (i = j))
  | .int _, .str _ => some false | .str _, .int _ => some false | .bl _, .str _ => some false | .str _, .bl _ => some false
  | _, _ => none
theorem eqS_of {x y : V} {b : Bool} (h : eqS x y = some b) : scal x y = true ∧ decide (x = y) = b := by
  cases x <;> cases y <;> simp only [eqS, Option.some.injEq, reduceCtorEq] at h <;> subst h <;> simp [scal]
def fEq : R2 := fun x y H Q => match eqS x y with
  | some b => Q (.bl b) H
  | none => False
def fNe : R2 := fun x y H Q => match eqS x y with
  | some b => Q (.bl (!b)) H
  | none => False
theorem o_eq : OpR X (compareOp .Eq) fEq := OpR.imp op_eq fun x y H Q h => by
  unfold fEq at h
  split at h
  · rename_i b e
    obtain ⟨h1, h2⟩ := eqS_of e
    exact ⟨h1, by rw [h2]; exact h⟩
  · exact h.elim
theorem o_ne : OpR X (compareOp .NotEq) fNe := OpR.imp op_ne fun x y H Q h => by
  unfold fNe at h
  split at h
  · rename_i b e
    obtain ⟨h1, h2⟩ := eqS_of e
    exact ⟨h1, by rw [h2]; exact h⟩
  · exact h.elim
def fNeg : V → Hp → VK → Prop := fun x H Q => match x with
  | .int i => Q (.int (-i)) H
  | _ => False
theorem u_neg : UnR X (unaryOp .USub) fNeg := fun pins s σ H x v Q I r h => by
  unfold fNeg at h
  split at h
  · exact un_neg pins s σ H _ v Q I r ⟨_, rfl, h⟩
  · exact h.elim
def fIsN : V → V := fun x => match x with
  | .non => .bl true
  | _ => .bl false
theorem fIsN_eq (x : V) : fIsN x = .bl (decide (x = .non)) := by cases x <;> simp [fIsN]
def tIs (ta : TE) : TE := fun σ H Q => ta σ H fun x H1 => Q (fIsN x) H1
def fNotN : V → V := fun x => match x with
  | .non => .bl false
  | _ => .bl true
theorem fNotN_eq (x : V) : fNotN x = .bl (!decide (x = .non)) := by cases x <;> simp [fNotN]
def tNt (ta : TE) : TE := fun σ H Q => ta σ H fun x H1 => Q (fNotN x) H1
theorem e_isN {j pos' pos} (ha : PE X a ta) : PE X (.Compare a [.Is] [.Constant .none j pos'] pos) (tIs ta) := PE.imp (pe_cmp (pc_isN ha)) fun σ H Q h => by
  unfold tIs at h
  simp only [fIsN_eq] at h
  exact h
theorem e_notN {j pos' pos} (ha : PE X a ta) : PE X (.Compare a [.IsNot] [.Constant .none j pos'] pos) (tNt ta) := PE.imp (pe_cmp (pc_notN ha)) fun σ H Q h => by
  unfold tNt at h
  simp only [fNotN_eq] at h
  exact h
def tBo (t : TE) : TT := fun σ H Q => t σ H fun x H1 => match x with
  | .bl c => Q c H1
  | _ => False
theorem bl_fun {Q : Bool → Hp → Prop} : (fun (x : V) (H1 : Hp) => ∃ c, x = .bl c ∧ Q c H1) = fun x H1 => match x with
  | .bl c => Q c H1
  | _ => False := by
  funext x H1
  cases x <;> simp
theorem t_val {e : Expr} {t : TE} (h : PE X e t) (he : ∀ whole, isTrue e X.env whole = (do let v ← whole; standAt e.pos; holding [v] (truthy v)) := by intro _; rfl) : PT X e (tBo t) := PT.imp (pt_val h he) fun σ H Q h => by
  unfold tB
  rw [bl_fun]
  exact h
theorem t_cmp {op : CmpOp} {r : R2} (ho : OpR X (compareOp op) r) (ha : PE X a ta) (hb : PE X b tb) (hm : behindInMarks op b = false) : PT X (.Compare a [op] [b] pos) (tBo (tOp r ta tb)) := PT.imp (pt_cmpR ho ha hb hm) fun σ H Q h => by
  unfold tTest
  rw [bl_fun]
  exact h
def two (c : Bool) (p q : Prop) : Prop := (c = true → p) ∧ (c = false → q)
theorem two_eq {c : Bool} {p q : Prop} : (if c = true then p else q) = two c p q := by
  cases c <;> simp [two]
theorem twoT {p q : Prop} (h : p) : two true p q := ⟨fun _ => h, fun e => nomatch e⟩
theorem twoF {p q : Prop} (h : q) : two false p q := ⟨fun e => (nomatch e), fun _ => h⟩
theorem two_of {c : Bool} {p q : Prop} (h1 : c = true → p) (h2 : c = false → q) : two c p q := ⟨h1, h2⟩
def uAnd (t u : TT) : TT := fun σ H Q => t σ H fun c H1 => two c (u σ H1 Q) (Q false H1)
def uOr (t u : TT) : TT := fun σ H Q => t σ H fun c H1 => two c (Q true H1) (u σ H1 Q)
theorem w_and {tA tB' : TT} {rest : List Expr} (ha : PT X a tA) (hb : PW X (.BoolOp .And (b :: rest) pos) tB') : PW X (.BoolOp .And (a :: b :: rest) pos) (uAnd tA tB') := PW.imp (pw_and ha hb) fun σ H Q h => by
  unfold tAnd
  simp only [two_eq]
  exact h
theorem w_or {tA tB' : TT} {rest : List Expr} (ha : PT X a tA) (hb : PW X (.BoolOp .Or (b :: rest) pos) tB') : PW X (.BoolOp .Or (a :: b :: rest) pos) (uOr tA tB') := PW.imp (pw_or ha hb) fun σ H Q h => by
  unfold tOr
  simp only [two_eq]
  exact h
def bv (x : V) (k : Bool → Prop) : Prop := match x with
  | .bl c => k c
  | _ => False
theorem bv_eq {x : V} {k : Bool → Prop} : (∃ c, x = .bl c ∧ k c) = bv x k := by cases x <;> simp [bv]
def uAndV (ta tb : TE) : TE := fun σ H Q => ta σ H fun x H1 => bv x fun c => two c (tb σ H1 Q) (Q (.bl false) H1)
def uOrV (ta tb : TE) : TE := fun σ H Q => ta σ H fun x H1 => bv x fun c => two c (Q (.bl true) H1) (tb σ H1 Q)
def uNotV (ta : TE) : TE := fun σ H Q => ta σ H fun x H1 => bv x fun c => Q (.bl (!c)) H1
theorem e_and {rest : List Expr} (ha : PE X a ta) (hb : PE X (.BoolOp .And (b :: rest) pos) tb) : PE X (.BoolOp .And (a :: b :: rest) pos) (uAndV ta tb) := PE.imp (pe_and ha hb) fun σ H Q h => by
  unfold tAndV
  simp only [bv_eq, two_eq]
  exact h
theorem e_or {rest : List Expr} (ha : PE X a ta) (hb : PE X (.BoolOp .Or (b :: rest) pos) tb) : PE X (.BoolOp .Or (a :: b :: rest) pos) (uOrV ta tb) := PE.imp (pe_or ha hb) fun σ H Q h => by
  unfold tOrV
  simp only [bv_eq, two_eq]
  exact h
theorem e_not (ha : PE X a ta) : PE X (.UnaryOp .Not a pos) (uNotV ta) := PE.imp (pe_not ha) fun σ H Q h => by
  unfold tNotV
  simp only [bv_eq]
  exact h
def uIf (t : TT) (ta tb : TE) : TE := fun σ H Q => t σ H fun c H1 => two c (ta σ H1 Q) (tb σ H1 Q)
theorem e_if {c : Expr} {tA : TT} (hc : PT X c tA) (ha : PE X a ta) (hb : PE X b tb) : PE X (.IfExp c a b pos) (uIf tA ta tb) := PE.imp (pe_ifExp hc ha hb) fun σ H Q h => by
  unfold tIf
  simp only [two_eq]
  exact h
def uIfS (c : TT) (t u : TS) : TS := fun D σ H => c σ H fun b H1 => two b (t D σ H1) (u D σ H1)
theorem s_if {c : Expr} {p q : List Stmt} {tc : TT} {t u : TS} (hc : PT X c tc) (ha : PSs X p t) (hb : PSs X q u) : PS X (.If c p q pos) (uIfS tc t u) := PS.imp (ps_if hc ha hb) fun D σ H h => by
  unfold tIfS
  simp only [two_eq]
  exact h
def uChain (r r' : R2) (ta tb tc : TE) : TE := fun σ H Q => ta σ H fun x H1 => tb σ H1 fun y H2 => r x y H2 fun z H3 => bv z fun k => two k (tc σ H3 fun w' H4 => r' y w' H4 Q) (Q (.bl false) H3)
theorem e_chain {op op' : CmpOp} {r r' : R2} {c : Expr} {tc : TE} (ho : OpR X (compareOp op) r) (ho' : OpR X (compareOp op') r') (ha : PE X a ta) (hb : PE X b tb) (hc : PE X c tc)
    (hm : lastMarks [op, op'] [b, c] = false := by with_unfolding_all rfl) : PE X (.Compare a [op, op'] [b, c] pos) (uChain r r' ta tb tc) := PE.imp (pe_chain ho ho' ha hb hc hm) fun σ H Q h => by
  unfold tChain
  simp only [bv_eq, two_eq]
  exact h
theorem t_chain {op op' : CmpOp} {r r' : R2} {c : Expr} {tc : TE} (ho : OpR X (compareOp op) r) (ho' : OpR X (compareOp op') r') (ha : PE X a ta) (hb : PE X b tb) (hc : PE X c tc)
    (hm : lastMarks [op, op'] [b, c] = false := by with_unfolding_all rfl) : PT X (.Compare a [op, op'] [b, c] pos) (tBo (uChain r r' ta tb tc)) := PT.imp (pt_chain ho ho' ha hb hc hm) fun σ H Q h => by
  unfold tTest tChain
  simp only [bl_fun, bv_eq, two_eq]
  exact h
def cInt : List V → Hp → VK → Prop := fun xs H Q => match xs with
  | [.int i] => Q (.int i) H
  | [.bl k] => Q (.int (if k then 1 else 0)) H
  | _ => False
theorem c_int : CallR X (.type "int") cInt := CallR.imp call_int1 fun xs H Q h => by
  unfold cInt at h
  split at h
  · exact .inl ⟨_, rfl, h⟩
  · exact .inr ⟨_, rfl, h⟩
  · exact h.elim
end
structure Def (P : Program) (w : World) (K : PySem.W.Frag) (mg : Str → Option Value) (base : Heap) (k : Nat) (f : Addr) (ps : List Str) (sp : Sp) : Prop where
  ex : ∃ fd, FnOk P w K mg base (L2.CX P w) k f fd ps sp ∧ Binds K fd ps []
  kp : PySem.W.keepIn K (.ref f) = true
section
variable {P : Program} {w : World} {K : PySem.W.Frag} {mg : Str → Option Value} {base : Heap} {k : Nat} {f : Addr} {ps : List Str} {sp : Sp}
theorem Def.mono {j : Nat} (d : Def P w K mg base j f ps sp) (h : j ≤ k) : Def P w K mg base k f ps sp := ⟨let ⟨fd, F, b⟩ := d.ex; ⟨fd, F.mono h, b⟩, d.kp⟩
theorem Def.imp {sp' : Sp} (d : Def P w K mg base k f ps sp) (h : ∀ vs H Q E, sp' vs H Q E → sp vs H Q E) : Def P w K mg base k f ps sp' := ⟨let ⟨fd, F, b⟩ := d.ex; ⟨fd, F.imp h, b⟩, d.kp⟩
theorem Def.of {x qual : Str} {params : Arguments} {body : List Stmt} {scope : Scope} {fd : FuncData} {N : List Str} (F : FunD K x qual params body scope [] [] f fd) (S : FnScope N ps scope)
    (hb : ∀ (kV doc pm : Value) (an : Option Addr) (cdv ct : Value) (us : List Value), us.length = ps.length → bindArgs (PySem.W.fnOf x qual params body scope .none kV doc pm an cdv ct) ⟨us, []⟩ = pure (ps.zip us))
    (len : ∀ vs H Q E, sp vs H Q E → vs.length = ps.length)
    (hbody : ∀ (cdv : Value) (A : Around) (outer : List Env) (s : Shared) (H : Hp) (vs : List V) (Q : VK) (E : XK), Room k (A.deeper (envOfC qual scope s.heap.objs.size f cdv)) → sp vs H Q E →
      ∃ t, PSs (cxOf (L2.CX P w) P w K mg base N qual scope f cdv A outer s H E) body t ∧ t { nx := fun _ H' => Q .non H', rt := Q } (start N vs) H) : Def P w K mg base (k + 1) f ps sp :=
  ⟨⟨fd, F.ok S len hbody, FunD.bindsN F hb⟩, F.kp⟩
theorem Def.zero {x qual : Str} {params : Arguments} {body : List Stmt} {scope : Scope} {fd : FuncData} (F : FunD K x qual params body scope [] [] f fd)
    (hb : ∀ (kV doc pm : Value) (an : Option Addr) (cdv ct : Value) (us : List Value), us.length = ps.length → bindArgs (PySem.W.fnOf x qual params body scope .none kV doc pm an cdv ct) ⟨us, []⟩ = pure (ps.zip us)) : Def P w K mg base 0 f ps (fun _ _ _ _ => False) :=
  ⟨⟨fd, ⟨fun _ _ _ _ h => h.elim, fun _ _ _ _ _ _ _ _ _ _ _ _ _ h => h.elim⟩, FunD.bindsN F hb⟩, F.kp⟩
end
section
variable {X : Cx} {k : Nat} {f C : Addr} {ps : List Str} {sp : Sp} {E : XK} {x m : Str} {p pos apos : Pos} {e o : Expr} {es : List Expr} {ta : TE} {t : TA}
def uCall (sp : Sp) (E : XK) (t : TA) : TE := fun σ H Q => t σ H fun vs H1 => sp vs H1 Q E
theorem e_call (d : Def X.prog X.w X.K X.mg X.base k f ps sp) (hr : Room k X.A) (hg : Gl X x) (hm : X.mg x = some (.ref f)) (hx : Passes (L2.CX X.prog X.w) X E)
    (ha : PA X (e :: es) t) (hdb : (x == ("__debug__" : Str)) = false := by decide) (he : starEach (e :: es) X.env = (false, eval e X.env) :: starEach es X.env := by rfl) (hpl : (backTo pos (starEach es X.env)).any (·.1) = false := by rfl) :
    PE X (.Call (.Name x p) (e :: es) [] pos) (uCall sp E t) := by
  obtain ⟨fd, F, b⟩ := d.ex
  refine PE.imp (pe_call (pos := pos) (p := p) F hr hg hm d.kp b .nil hx ha hdb he hpl) fun σ H Q h => ?_
  unfold tCall
  simp only [List.append_nil]
  exact h
theorem e_call0 (d : Def X.prog X.w X.K X.mg X.base k f ps sp) (hr : Room k X.A) (hg : Gl X x) (hm : X.mg x = some (.ref f)) (hx : Passes (L2.CX X.prog X.w) X E)
    (hdb : (x == ("__debug__" : Str)) = false := by decide) : PE X (.Call (.Name x p) [] [] pos) (uCall sp E tNil) := by
  obtain ⟨fd, F, b⟩ := d.ex
  exact PE.imp (pe_call0 F hr hg hm d.kp b .nil hx hdb) fun σ H Q h => h
def uCallS (sp : Sp) (E : L2.St → XK) (t : TA) : TE := fun σ H Q => t σ H fun vs H1 => sp vs H1 Q (E σ)
theorem e_callS {E : L2.St → XK} (d : Def X.prog X.w X.K X.mg X.base k f ps sp) (hr : Room k X.A) (hg : Gl X x) (hm : X.mg x = some (.ref f)) (hx : ∀ σ, PassesAt (L2.CX X.prog X.w) X σ (E σ))
    (ha : PA X (e :: es) t) (hdb : (x == ("__debug__" : Str)) = false := by decide) (he : starEach (e :: es) X.env = (false, eval e X.env) :: starEach es X.env := by rfl) (hpl : (backTo pos (starEach es X.env)).any (·.1) = false := by rfl) :
    PE X (.Call (.Name x p) (e :: es) [] pos) (uCallS sp E t) := by
  obtain ⟨fd, F, b⟩ := d.ex
  exact pe_callS F hr hg hm d.kp b hx ha hdb he hpl
def uMeth (C : Addr) (m : Str) (sp : Sp) (E : L2.St → XK) (ta : TE) (t : TA) : TE := fun σ H Q => ta σ H fun x H1 => ∃ a dx fs, x = .ref a ∧ H1 a = some (.ins C dx fs) ∧ fs.lookup m = none ∧ t σ H1 fun vs H2 => sp (x :: vs) H2 Q (E σ)
theorem e_meth {pl : Sem Bool} {E : L2.St → XK} (he : PE X o ta) (c : Cls X.K C) (hm : Meth X.K C m f) (d : Def X.prog X.w X.K X.mg X.base k f ps sp) (hr : Room k X.A) (hx : ∀ σ, PassesAt (L2.CX X.prog X.w) X σ (E σ)) (ha : PA X (e :: es) t)
    (hst : starEach (e :: es) X.env = (false, eval e X.env) :: starEach es X.env := by rfl) (hpl : (backTo pos (starEach es X.env)).any (·.1) = false := by rfl)
    (ht : eval (.Call (.Attribute o m apos) (e :: es) [] pos) X.env = (do
      let ov ← eval o X.env
      standAt apos.atName
      let (f, first) ← holding [ov] (getMethod ov m pl)
      callWith pos f first (backTo pos (starEach (e :: es) X.env)) (backToKw pos (keywordEach [] X.env))) := by rfl) :
    PE X (.Call (.Attribute o m apos) (e :: es) [] pos) (uMeth C m sp E ta t) := by
  obtain ⟨fd, F, b⟩ := d.ex
  refine ⟨fun pins s σ H Q I h => ?_⟩
  refine PySem.W.methodCall_KW (pl := pl) (thn (he.run pins s σ H _ I h) fun u s1 ⟨x, H1, I1, rx, a, dx, fs, ex, ea, l, q⟩ => ?_) ht
  subst ex
  obtain rfl : u = Value.ref a := rx
  refine getmeth_ok I1 ea c hm l ?_
  refine PySem.W.callWith_K (first := [.ref a]) (h₀ := X.base) I.ok.mod.kin hm.kp (thn (ha.run pos pins s1 σ H1 _ I1 q) fun us s2 ⟨vs, H2, I2, r, q2⟩ => ⟨I2.kIn, ?_⟩) hst hpl
  exact run_fnS (us := .ref a :: us) (vs := .ref a :: vs) F hr b (hx σ) I2 (.cons rfl r) q2
theorem e_meth0 {pl : Sem Bool} {E : L2.St → XK} (he : PE X o ta) (c : Cls X.K C) (hm : Meth X.K C m f) (d : Def X.prog X.w X.K X.mg X.base k f ps sp) (hr : Room k X.A) (hx : ∀ σ, PassesAt (L2.CX X.prog X.w) X σ (E σ))
    (ht : eval (.Call (.Attribute o m apos) [] [] pos) X.env = (do
      let ov ← eval o X.env
      standAt apos.atName
      let (f, first) ← holding [ov] (getMethod ov m pl)
      callWith pos f first (backTo pos (starEach [] X.env)) (backToKw pos (keywordEach [] X.env))) := by rfl) :
    PE X (.Call (.Attribute o m apos) [] [] pos) (uMeth C m sp E ta tNil) := by
  obtain ⟨fd, F, b⟩ := d.ex
  refine ⟨fun pins s σ H Q I h => ?_⟩
  refine PySem.W.methodCall_KW (pl := pl) (thn (he.run pins s σ H _ I h) fun u s1 ⟨x, H1, I1, rx, a, dx, fs, ex, ea, l, q⟩ => ?_) ht
  subst ex
  obtain rfl : u = Value.ref a := rx
  refine getmeth_ok I1 ea c hm l ?_
  exact PySem.W.callWith_K0 (first := [.ref a]) I1.kIn hm.kp (run_fnS (us := [.ref a]) (vs := [.ref a]) F hr b (hx σ) I1 (.cons rfl .nil) q)
theorem pass_none {σ : L2.St} {W : L2.St → XK} (h : ∀ σ c d H, ¬ W σ c d H) : PassesAt (L2.CX X.prog X.w) X σ (W σ) := fun _ _ _ _ _ _ c => by
  obtain ⟨_, _, _, _, _, _, _, _, _, _, _, _, z⟩ := c
  exact (h _ _ _ _ z).elim
theorem mk_own0 {bmB : List Value} {B newId initId : String} (F : ExcBaseFacts B newId initId bmB) (q : PySem.W.excIn X.K C bmB newId = true) (gC : X.mg x = some (.ref C)) (kC : PySem.W.keepIn X.K (.ref C) = true) (r : Raises X (.ref C)) (hg : Gl X x)
    (hdb : (x == ("__debug__" : Str)) = false := by decide) : PMk X (.Call (.Name x p) [] [] pos) (fun _ H Q => Q (.ref C) none H) := by
  intro pins s σ H Q I h
  refine wpAny_Call_Name_kw (ld_glob I hg gC ?_ hdb)
  refine PySem.W.callWith_K0 I.kIn kC ?_
  show wpAny _ _ (call (.ref C) []) _ _ _
  obtain ⟨bm, N, nm, qn, bs, hdct, sn, sub, ab, col, dd, k0, k1, k2, k3, k5, mN, hC, hN, hni, T⟩ := exc_obj I.kIn q
  refine wpAny_call_exc_subT F T hC hN hni (fun h' e hm => ?_) (by show 0 ≤ sizeLine; rw [sizeLine_eq]; omega)
  exact mk_of I hm r h (I.hok.gone hm.new)
end
end Co
end

section
set_option maxHeartbeats 4000000
namespace Co
open PySem PySem.Spec PyProof.Rows L2
abbrev St := L2.St
section
variable {X : Cx} {a b : Expr} {ta tb : TE} {pos : Pos}
theorem t_pc {op : CmpOp} {t : TE} (h : PC X op a b t) (h1 : behindInMarks op b = false := by first | exact nobehind _ (by decide) (by decide) | rfl) : PT X (.Compare a [op] [b] pos) (tBo t) := PT.imp (pt_cmp h h1) fun σ H Q h => by
  unfold tB
  rw [bl_fun]
  exact h
theorem t_isN {j pos' pos} (ha : PE X a ta) : PT X (.Compare a [.Is] [.Constant .none j pos'] pos) (tBo (tIs ta)) := PT.imp (pt_cmp (pc_isN ha)) fun σ H Q h => by
  unfold tB
  rw [bl_fun]
  unfold tBo tIs at h
  simp only [fIsN_eq] at h
  exact h
theorem t_notN {j pos' pos} (ha : PE X a ta) : PT X (.Compare a [.IsNot] [.Constant .none j pos'] pos) (tBo (tNt ta)) := PT.imp (pt_cmp (pc_notN ha)) fun σ H Q h => by
  unfold tB
  rw [bl_fun]
  unfold tBo tNt at h
  simp only [fNotN_eq] at h
  exact h
def tTru (K : PySem.W.Frag) (ta : TE) : TT := fun σ H Q => ta σ H fun x H' => ∃ k, TruV K x H' k ∧ Q k H'
def sRaise (W : WX) (c : Value) : TS := fun _ σ H => W c none σ H
def uMake (C : Addr) (sp : Sp) (E : XK) (t : TA) : TE := fun σ H Q => t σ H fun vs H1 => ∀ x dx, H1 x = none → H1 dx = none → dx ≠ x →
  sp (.ref x :: vs) (upd (upd H1 dx (.own x)) x (.ins C dx [])) (fun v H2 => v = .non ∧ Q (.ref x) H2) E
theorem e_make {k : Nat} {f C : Addr} {ps : List Str} {sp : Sp} {E : XK} {x : Str} {p pos : Pos} {e : Expr} {es : List Expr} {t : TA} (M : Mk X.K C f) (d : Def X.prog X.w X.K X.mg X.base k f ps sp) (hr : Room (k + 1) X.A) (hg : Gl X x) (hm : X.mg x = some (.ref C)) (hx : Passes (L2.CX X.prog X.w) X E)
    (ha : PA X (e :: es) t) (hdb : (x == ("__debug__" : Str)) = false := by decide) (he : starEach (e :: es) X.env = (false, eval e X.env) :: starEach es X.env := by rfl) (hpl : (backTo pos (starEach es X.env)).any (·.1) = false := by rfl) :
    PE X (.Call (.Name x p) (e :: es) [] pos) (uMake C sp E t) := by
  obtain ⟨fd, F, b⟩ := d.ex
  refine PE.imp (pe_make (pos := pos) (p := p) M F hr hg hm b .nil hx ha hdb he hpl) fun σ H Q h => ?_
  unfold tMake
  simp only [List.append_nil]
  exact h
theorem e_make0 {k : Nat} {f C : Addr} {ps : List Str} {sp : Sp} {E : XK} {x : Str} {p pos : Pos} (M : Mk X.K C f) (d : Def X.prog X.w X.K X.mg X.base k f ps sp) (hr : Room (k + 1) X.A) (hg : Gl X x) (hm : X.mg x = some (.ref C)) (hx : Passes (L2.CX X.prog X.w) X E)
    (hdb : (x == ("__debug__" : Str)) = false := by decide) : PE X (.Call (.Name x p) [] [] pos) (uMake C sp E tNil) := by
  obtain ⟨fd, F, b⟩ := d.ex
  refine PE.imp (pe_make0 (pos := pos) (p := p) M F hr hg hm b .nil hx hdb) fun σ H Q h => ?_
  exact h
def cMin2 : List V → Hp → VK → Prop := fun xs H Q => match xs with
  | [.int i, .int j] => Q (.int (if j < i then j else i)) H
  | _ => False
theorem c_min2 (hc : X.calm = true) : CallR X (.builtin "min") cMin2 := CallR.imp (call_min2 hc) fun xs H Q h => by
  unfold cMin2 at h
  split at h
  · exact ⟨_, _, rfl, h⟩
  · exact h.elim
def cMax2 : List V → Hp → VK → Prop := fun xs H Q => match xs with
  | [.int i, .int j] => Q (.int (if j > i then j else i)) H
  | _ => False
theorem c_max2 (hc : X.calm = true) : CallR X (.builtin "max") cMax2 := CallR.imp (call_max2 hc) fun xs H Q h => by
  unfold cMax2 at h
  split at h
  · exact ⟨_, _, rfl, h⟩
  · exact h.elim
def cLenS : List V → Hp → VK → Prop := fun xs H Q => match xs with
  | [.str z] => z.length ≤ sizeLine ∧ Q (.int z.length) H
  | _ => False
theorem c_lenS : CallR X (.builtin "len") cLenS := CallR.imp call_len_str fun xs H Q h => by
  unfold cLenS at h
  split at h
  · exact ⟨_, rfl, h.1, h.2⟩
  · exact h.elim
def rLenQ (K : PySem.W.Frag) : List V → Hp → VK → Prop := fun xs H Q => ∃ p ys, xs = [.ref p] ∧ (SqL K H p ys ∨ SqT K H p ys) ∧ Q (.int ys.length) H
def rLenD : List V → Hp → VK → Prop := fun xs H Q => ∃ a kvs, xs = [V.ref a] ∧ H a = some (.dK kvs) ∧ Q (.int kvs.length) H
def rTupOf (K : PySem.W.Frag) : List V → Hp → VK → Prop := fun xs H Q => ∃ p ys, xs = [.ref p] ∧ ((SqL K H p ys ∧ ∀ l, H l = none → Q (.ref l) (upd H l (.tup ys))) ∨ (SqT K H p ys ∧ Q (.ref p) H))
def rListOf (K : PySem.W.Frag) : List V → Hp → VK → Prop := fun xs H Q => ∃ p ys, xs = [.ref p] ∧ (SqL K H p ys ∨ SqT K H p ys) ∧ ∀ l, H l = none → Q (.ref l) (upd H l (.lst ys))
def tJoin (K : PySem.W.Frag) (ts tl : TE) : TE := fun σ H Q => ts σ H fun x H1 => (∃ z, x = .str z) ∧ tl σ H1 fun y H2 => ∃ (a : Str) (p : Addr) (ys : List Str), x = .str a ∧ y = .ref p ∧ (SqL K H2 p (ys.map V.str) ∨ SqT K H2 p (ys.map V.str)) ∧ True ∧ Q (.str (Txt.join a ys)) H2
def isiS : V → String → Option Bool
  | .non, c => if c = "tuple" ∨ c = "list" ∨ c = "dict" ∨ c = "int" ∨ c = "str" ∨ c = "bool" then some false else none
  | .bl _, c => if c = "bool" ∨ c = "int" then some true else if c = "tuple" ∨ c = "list" ∨ c = "dict" ∨ c = "str" then some false else none
  | .int _, c => if c = "int" then some true else if c = "tuple" ∨ c = "list" ∨ c = "dict" ∨ c = "str" ∨ c = "bool" then some false else none
  | .str _, c => if c = "str" then some true else if c = "tuple" ∨ c = "list" ∨ c = "dict" ∨ c = "int" ∨ c = "bool" then some false else none
  | _, _ => none
def isiR (t c : String) : Prop := (t = "list" ∨ t = "tuple" ∨ t = "dict") ∧ (c = "tuple" ∨ c = "list" ∨ c = "dict" ∨ c = "int" ∨ c = "str" ∨ c = "bool")
def cIsi (K : PySem.W.Frag) : List V → Hp → VK → Prop := fun xs H Q => match xs with
  | [.ref p, .ty c] => ∃ t, TyX K H (.ref p) (.type t) ∧ isiR t c ∧ Q (.bl (decide (t = c))) H
  | [x, .ty c] => (match isiS x c with
    | some b => Q (.bl b) H
    | none => False)
  | _ => False
theorem isi_kit {K : PySem.W.Frag} {t c : String} (h : isiR t c) : PySem.W.kitOne K (.type t) (.type c) = some (decide (t = c)) := by
  obtain ⟨h1, h2⟩ := h
  rcases h1 with rfl | rfl | rfl <;> rcases h2 with rfl | rfl | rfl | rfl | rfl | rfl <;> exact kit_ty (by decide +kernel)
theorem isiS_ok {K : PySem.W.Frag} {H : Hp} {x : V} {c : String} {b : Bool} (h : isiS x c = some b) : ∃ t, TyX K H x (.type t) ∧ PySem.W.kitOne K (.type t) (.type c) = some b := by
  cases x <;> simp only [isiS] at h
  case non =>
    split at h
    · rename_i q
      cases h
      rcases q with rfl | rfl | rfl | rfl | rfl | rfl <;> exact ⟨"NoneType", .base .non, kit_ty (by decide +kernel)⟩
    · cases h
  case bl v =>
    split at h
    · rename_i q
      cases h
      rcases q with rfl | rfl <;> exact ⟨"bool", .base (.bl v), kit_ty (by decide +kernel)⟩
    · split at h
      · rename_i q
        cases h
        rcases q with rfl | rfl | rfl | rfl <;> exact ⟨"bool", .base (.bl v), kit_ty (by decide +kernel)⟩
      · cases h
  case int v =>
    split at h
    · rename_i q
      cases h
      subst q
      exact ⟨"int", .base (.int v), kit_ty (by decide +kernel)⟩
    · split at h
      · rename_i q
        cases h
        rcases q with rfl | rfl | rfl | rfl | rfl <;> exact ⟨"int", .base (.int v), kit_ty (by decide +kernel)⟩
      · cases h
  case str v =>
    split at h
    · rename_i q
      cases h
      subst q
      exact ⟨"str", .base (.str v), kit_ty (by decide +kernel)⟩
    · split at h
      · rename_i q
        cases h
        rcases q with rfl | rfl | rfl | rfl | rfl <;> exact ⟨"str", .base (.str v), kit_ty (by decide +kernel)⟩
      · cases h
  all_goals cases h
theorem c_isi : CallR X (.builtin "isinstance") (cIsi X.K) := CallR.imp call_isi fun xs H Q h => by
  unfold cIsi at h
  split at h
  · obtain ⟨t, ty, r, q⟩ := h
    exact ⟨_, _, _, _, _, rfl, .ty _, ty, isi_kit r, q⟩
  · split at h
    · rename_i b e
      obtain ⟨t, ty, k⟩ := isiS_ok (K := X.K) (H := H) e
      exact ⟨_, _, _, _, _, rfl, .ty _, ty, k, h⟩
    · exact h.elim
  · exact h.elim
theorem tyx_l {K : PySem.W.Frag} {H : Hp} {p : Addr} {xs : List V} (h : SqL K H p xs) : TyX K H (.ref p) (.type "list") := by
  rcases h with (h | ⟨o, h⟩) | ⟨o, its, n, h, c, _⟩
  · exact .base (.lst h)
  · exact .base (.frz h)
  · exact .kList h c
theorem tyx_t {K : PySem.W.Frag} {H : Hp} {p : Addr} {xs : List V} (h : SqT K H p xs) : TyX K H (.ref p) (.type "tuple") := by
  rcases h with (h | ⟨o, h⟩) | ⟨o, its, n, h, c, _⟩
  · exact .base (.tup h)
  · exact .fTuple h
  · exact .kTuple h c
def SqA (K : PySem.W.Frag) (H : Hp) (a : Addr) (xs : List V) : Prop := SqL K H a xs ∨ SqT K H a xs
def iSeq (K : PySem.W.Frag) (tl : TE) : TI := fun σ H R => tl σ H fun x H1 => ∃ a, x = .ref a ∧ (((∃ xs, SqL K H1 a xs) ∧ R (Itl K a) H1) ∨ ((∃ xs, SqT K H1 a xs) ∧ R (Itt K a) H1))
theorem pi_seq {tg l : Expr} {tl : TE} (hl : PE X l tl) : PI X tg l (iSeq X.K tl) := by
  refine ⟨fun pins s σ H R I h => ?_⟩
  refine thn (hl.run pins s σ H _ I h) fun v s1 ⟨x, H1, I1, r1, q1⟩ => ?_
  obtain ⟨a, e, q⟩ := q1
  subst e
  cases r1
  rcases q with ⟨⟨xs, hq⟩, q⟩ | ⟨⟨xs, hq⟩, q⟩
  · obtain ⟨its, rv, p, hz⟩ := I1.list hq
    refine wpAny_pyIter_list p.isList ?_
    refine ⟨s1.heap.objs.size, [s1.heap.objs.size], _, _, H1, rfl, I1.kept (t' := s1.toks) fun b o e => Heap.get?_push_of_some _ e, turn_list a _, ⟨_, Heap.get?_push_size _ rfl, rfl, rfl⟩, fun b hb => ?_, q⟩
    have e : b = s1.heap.objs.size := by simpa using hb
    subst e
    exact I1.fpOk (Nat.le_refl _) (I1.hok.fresh (Nat.le_refl _))
  · obtain ⟨its, rv, p, hz⟩ := I1.tuple hq
    refine wpAny_pyIter_tuple (show s1.heap.IsTuple a its.toArray from p) ?_
    refine ⟨s1.heap.objs.size, [s1.heap.objs.size], _, _, H1, rfl, I1.kept (t' := s1.toks) fun b o e => Heap.get?_push_of_some _ e, turn_tuple a _, ⟨_, Heap.get?_push_size _ rfl, rfl, rfl⟩, fun b hb => ?_, q⟩
    have e : b = s1.heap.objs.size := by simpa using hb
    subst e
    exact I1.fpOk (Nat.le_refl _) (I1.hok.fresh (Nat.le_refl _))
end
structure Fx (fa : List He.Fa) (fn : List He.DefD) (K : PySem.W.Frag) (mg : Str → Option Value) : Prop where
  ex : ∃ h : Heap, K.In h ∧ h.Ns mainGlobals mg
  c : He.SaysD fa fn K
section
variable {fa : List He.Fa} {fn : List He.DefD} {K : PySem.W.Frag} {mg : Str → Option Value}
theorem Fx.glo (T : Fx fa fn K mg) (i : Nat) {x : Str} (h : fa[i]? = some (.glo x) := by rfl) : mg x = some (.ref (He.ga K x)) := let ⟨_, KX, G⟩ := T.ex; He.glo_ok KX G (T.c.fact i h)
theorem Fx.free (T : Fx fa fn K mg) (i : Nat) {x : Str} (h : fa[i]? = some (.free x) := by rfl) : mg x = none := let ⟨_, KX, G⟩ := T.ex; He.free_ok KX G (T.c.fact i h)
theorem Fx.cls (T : Fx fa fn K mg) (i : Nat) {x : Str} (h : fa[i]? = some (.cls x) := by rfl) : Cls K (He.ga K x) := He.cls_ok (T.c.fact i h)
end
end Co
end

section
set_option maxHeartbeats 4000000
namespace Co
open PySem PySem.Spec PyProof.Rows L2
section
variable {fa : List He.Fa} {fn : List He.DefD} {K : PySem.W.Frag} {mg : Str → Option Value}
theorem Fx.noat (T : Fx fa fn K mg) (i : Nat) {x f : Str} (h : fa[i]? = some (.noat x f) := by rfl) : NoAttr K (He.ga K x) f := He.noat_ok (T.c.fact i h)
theorem Fx.meth (T : Fx fa fn K mg) (i : Nat) {x m : Str} (h : fa[i]? = some (.meth x m) := by rfl) : Meth K (He.ga K x) m (He.ma K (He.ga K x) m) := He.meth_ok (T.c.fact i h)
theorem Fx.mkr (T : Fx fa fn K mg) (i : Nat) {x : Str} (h : fa[i]? = some (.mkr x) := by rfl) : Mk K (He.ga K x) (He.ma K (He.ga K x) "__init__") := He.mkr_ok (T.c.fact i h)
theorem Fx.exm (T : Fx fa fn K mg) (i : Nat) {x y : Str} {b : Bool} (h : fa[i]? = some (.exm x y b) := by rfl) : PySem.W.exmOne K (.ref (He.ga K x)) (.ref (He.ga K y)) = some b := He.exm_ok (T.c.fact i h)
theorem Fx.mk0 (T : Fx fa fn K mg) (i : Nat) {X : Cx} {x : Str} {p pos : Pos} (gC : X.mg x = some (.ref (He.ga X.K x))) (e1 : X.K = K := by rfl) (hg : Gl X x := by rfl) (h : fa[i]? = some (.exc x) := by rfl)
    (hdb : (x == ("__debug__" : Str)) = false := by decide) : PMk X (.Call (.Name x p) [] [] pos) (fun _ H Q => Q (.ref (He.ga K x)) none H) := by
  subst e1
  obtain ⟨q1, q2, q3, q4⟩ := He.exc_ok (T.c.fact i h)
  exact mk_own0 PySem.F.excBase_ValueError q1 gC q2 (raises_own q3 q4) hg hdb
end
def uLc (wi : TI) (g : TG) (tt : TT) (te : TE) (vs : List Nat) : TE := fun σ H Q => wi σ H fun J H1 => ∀ D, H1 D = none → ∃ W : Nat → Nat → Hp → Prop, (∃ m, W 0 m (upd H1 D (.lst []))) ∧ ∀ i m H, W i m H →
  (J.stop i H ∧ Q (.ref D) H) ∨ (J.go i H ∧ ∃ Nx : Hp → Prop, (∀ H', Nx H' → ∃ m', m' < m ∧ W (i + 1) m' H') ∧ ∀ x H', J.yld i H x H' → g x (wipe σ vs) H' fun σ2 H2 => wipe σ2 vs = wipe σ vs ∧ tt σ2 H2 fun b H3 =>
    two b (te σ2 H3 fun y H4 => ∃ acc, H4 D = some (.lst acc) ∧ acc.length < sizeLine ∧ Nx (upd H4 D (.lst (acc ++ [y])))) (Nx H3))
theorem lc_eq {wi : TI} {g : TG} {tt : TT} {te : TE} {vs : List Nat} : tLc wi g tt te vs = uLc wi g tt te vs := by
  unfold tLc uLc
  simp only [two_eq]
section
variable {X : Cx}
theorem e_lc {elt tg iter : Expr} {ifs : List Expr} {scope : Scope} {own : List (Str × Nat)} {pos : Pos} {wi : TI} {g : TG} {tt : TT} {te : TE} (hc : X.calm = true) (hN : X.N.Nodup) (hi : PI X tg iter wi) (ok : BlkOk X.N X.env.scope scope own)
    (hg : ∀ (s : Shared) (H : Hp) (C : Addr) (cl : List (Str × Addr)) (fp : List Addr), PG (X.blk s H scope (compEnvC scope cl C X.env) fp) tg g) (ht : ∀ (s : Shared) (H : Hp) (C : Addr) (cl : List (Str × Addr)) (fp : List Addr), PTs (X.blk s H scope (compEnvC scope cl C X.env) fp) ifs tt)
    (he : ∀ (s : Shared) (H : Hp) (C : Addr) (cl : List (Str × Addr)) (fp : List Addr), PE (X.blk s H scope (compEnvC scope cl C X.env) fp) elt te) (hs : ∀ x, foldedSetIterable iter X.env x = pure x := by intro _; rfl) :
    PE X (.ListComp elt [⟨tg, iter, ifs, 0⟩] scope pos) (uLc wi g tt te (own.map (·.2))) := lc_eq ▸ pe_lc hc hN hi ok hg ht he hs
theorem s_setLc {i : Nat} {y : Str} {py : Pos} {elt tg iter : Expr} {ifs : List Expr} {scope : Scope} {own : List (Str × Nat)} {pos spos : Pos} {wi : TI} {g : TG} {tt : TT} {te : TE} (hc : X.calm = true) (hN : X.N.Nodup) (hy : X.N[i]? = some y) (hyl : X.env.scope.names.lookup y = some .local)
    (hsw : swapsWith (.ListComp elt [⟨tg, iter, ifs, 0⟩] scope pos) (some (.Name y py)) spos.line X.env = pure true) (hi : PI X tg iter wi) (ok : BlkOk X.N X.env.scope scope own)
    (hg : ∀ (s : Shared) (H : Hp) (C : Addr) (cl : List (Str × Addr)) (fp : List Addr), PG (X.blk s H scope (compEnvC scope cl C X.env) fp) tg g) (ht : ∀ (s : Shared) (H : Hp) (C : Addr) (cl : List (Str × Addr)) (fp : List Addr), PTs (X.blk s H scope (compEnvC scope cl C X.env) fp) ifs tt)
    (he : ∀ (s : Shared) (H : Hp) (C : Addr) (cl : List (Str × Addr)) (fp : List Addr), PE (X.blk s H scope (compEnvC scope cl C X.env) fp) elt te) (hs : ∀ x, foldedSetIterable iter X.env x = pure x := by intro _; rfl) :
    PS X (.Assign [.Name y py] (.ListComp elt [⟨tg, iter, ifs, 0⟩] scope pos) spos) (tAsg (uLc wi g tt te (own.map (·.2))) (gName i)) := lc_eq ▸ ps_setLc hc hN hy hyl hsw hi ok hg ht he hs
end
def LcTurn (g : TG) (tt : TT) (te : TE) (vs : List Nat) (σ : St) (D : Addr) (x : V) (H : Hp) (Nx : Hp → Prop) : Prop :=
  g x (wipe σ vs) H fun σ2 H2 => wipe σ2 vs = wipe σ vs ∧ tt σ2 H2 fun b H3 =>
    two b (te σ2 H3 fun y H4 => ∃ acc, H4 D = some (.lst acc) ∧ acc.length < sizeLine ∧ Nx (upd H4 D (.lst (acc ++ [y])))) (Nx H3)
theorem lcL {K : PySem.W.Frag} {tl : TE} {g : TG} {tt : TT} {te : TE} {vs : List Nat} {σ : St} {H : Hp} {Q : VK} (h : tl σ H fun x H1 => ∃ a xs, x = .ref a ∧ SqL K H1 a xs ∧ ∀ D, H1 D = none → ∃ Pv : Nat → Hp → Prop, Pv 0 (upd H1 D (.lst [])) ∧
      (∀ i H, i ≤ xs.length → Pv i H → SqL K H a xs) ∧ (∀ i x H, xs[i]? = some x → Pv i H → LcTurn g tt te vs σ D x H (Pv (i + 1))) ∧ ∀ H, Pv xs.length H → Q (.ref D) H)
    (mono : ∀ Q Q' : VK, (∀ v H1, Q v H1 → Q' v H1) → tl σ H Q → tl σ H Q') : uLc (iList K tl) g tt te vs σ H Q := by
  refine mono _ _ (fun v H1 q => ?_) h
  obtain ⟨a, xs, e, hx, k⟩ := q
  subst e
  refine ⟨a, rfl, ⟨xs, hx⟩, fun D hD => ?_⟩
  obtain ⟨Pv, h0, hl, hs, hd⟩ := k D hD
  refine ⟨fun i m H => m = xs.length - i ∧ i ≤ xs.length ∧ Pv i H, ⟨xs.length, by simp, Nat.zero_le _, h0⟩, ?_⟩
  rintro i m H ⟨rfl, hi, p⟩
  have q := hl i H hi p
  by_cases hlt : i < xs.length
  · refine .inr ⟨⟨xs, xs[i], q, by simp [hlt]⟩, Pv (i + 1), fun H' p' => ⟨xs.length - (i + 1), by omega, rfl, hlt, p'⟩, fun x H' y => ?_⟩
    obtain ⟨e, y⟩ := y
    subst e
    exact hs i x _ (y xs q) p
  · have e : i = xs.length := by omega
    subst e
    exact .inl ⟨⟨xs, q, Nat.le_refl _⟩, hd H p⟩
theorem lcR {ta : TA} {g : TG} {tt : TT} {te : TE} {vs : List Nat} {σ : St} {H : Hp} {Q : VK} (h : ta σ H fun xs H1 => ∃ n : Int, xs = [.int n] ∧ -(2 ^ 62) ≤ n ∧ n < 2 ^ 62 ∧ ∀ D, H1 D = none → ∃ Pv : Nat → Hp → Prop, Pv 0 (upd H1 D (.lst [])) ∧
      (∀ (i : Nat) H, i < n.toNat → Pv i H → LcTurn g tt te vs σ D (.int (i : Int)) H (Pv (i + 1))) ∧ ∀ H, Pv n.toNat H → Q (.ref D) H)
    (mono : ∀ Q Q' : List V → Hp → Prop, (∀ v H1, Q v H1 → Q' v H1) → ta σ H Q → ta σ H Q') : uLc (iRng1 ta) g tt te vs σ H Q := by
  refine mono _ _ (fun v H1 q => ?_) h
  obtain ⟨n, e, h1, h2, k⟩ := q
  subst e
  refine ⟨n, rfl, h1, h2, fun D hD => ?_⟩
  obtain ⟨Pv, h0, hs, hd⟩ := k D hD
  refine ⟨fun i m H => m = n.toNat - i ∧ i ≤ n.toNat ∧ Pv i H, ⟨n.toNat, by simp, Nat.zero_le _, h0⟩, ?_⟩
  rintro i m H ⟨rfl, hi, p⟩
  by_cases hlt : i < n.toNat
  · refine .inr ⟨hlt, Pv (i + 1), fun H' p' => ⟨n.toNat - (i + 1), by omega, rfl, hlt, p'⟩, fun x H' y => ?_⟩
    obtain ⟨e, y⟩ := y
    subst e y
    rw [Int.zero_add]
    exact hs i _ hlt p
  · have e : i = n.toNat := by omega
    subst e
    exact .inl ⟨Nat.le_refl _, hd H p⟩
theorem forL {K : PySem.W.Frag} {a : Addr} {xs : List V} {g : TG} {tb : TS} {D : Ends} {σ : St} {H : Hp} (hq : SqL K H a xs) (Pv : Nat → St → Hp → Prop) (h0 : Pv 0 σ H) (hl : ∀ i σ H, i ≤ xs.length → Pv i σ H → SqL K H a xs)
    (hs : ∀ i x σ H, xs[i]? = some x → Pv i σ H → g x σ H fun σ2 H2 => tb { D with nx := Pv (i + 1), ct := Pv (i + 1), bk := D.nx } σ2 H2) (hd : ∀ σ H, Pv xs.length σ H → D.nx σ H) : tFor (iList K (fun _ H Q => Q (.ref a) H)) g tb D σ H :=
  ⟨a, rfl, ⟨xs, hq⟩, for_list Pv h0 hl hs hd⟩
theorem forL_of {K : PySem.W.Frag} {tl : TE} {g : TG} {tb : TS} {D : Ends} {σ : St} {H : Hp} {a : Addr} {xs : List V} (hv : ∀ Q : VK, Q (.ref a) H → tl σ H Q) (hq : SqL K H a xs) (Pv : Nat → St → Hp → Prop) (h0 : Pv 0 σ H) (hl : ∀ i σ H, i ≤ xs.length → Pv i σ H → SqL K H a xs)
    (hs : ∀ i x σ H, xs[i]? = some x → Pv i σ H → g x σ H fun σ2 H2 => tb { D with nx := Pv (i + 1), ct := Pv (i + 1), bk := D.nx } σ2 H2) (hd : ∀ σ H, Pv xs.length σ H → D.nx σ H) : tFor (iList K tl) g tb D σ H :=
  hv _ ⟨a, rfl, ⟨xs, hq⟩, for_list Pv h0 hl hs hd⟩
theorem forA_of {K : PySem.W.Frag} {tl : TE} {g : TG} {tb : TS} {D : Ends} {σ : St} {H : Hp} {a : Addr} {xs : List V} (hv : ∀ Q : VK, Q (.ref a) H → tl σ H Q) (hq : SqA K H a xs) (Pv : Nat → St → Hp → Prop) (h0 : Pv 0 σ H) (hl : ∀ i σ H', i ≤ xs.length → Pv i σ H' → Same H H')
    (hs : ∀ i x σ H, xs[i]? = some x → Pv i σ H → g x σ H fun σ2 H2 => tb { D with nx := Pv (i + 1), ct := Pv (i + 1), bk := D.nx } σ2 H2) (hd : ∀ σ H, Pv xs.length σ H → D.nx σ H) : tFor (iSeq K tl) g tb D σ H := by
  refine hv _ ⟨a, rfl, ?_⟩
  rcases hq with hq | hq
  · exact .inl ⟨⟨xs, hq⟩, for_list Pv h0 (fun i σ' H' hi p => (hl i σ' H' hi p).seq hq) hs hd⟩
  · refine .inr ⟨⟨xs, hq⟩, for_tup Pv h0 (fun i σ' H' hi p => ?_) hs hd⟩
    have e := hl i σ' H' hi p
    rcases hq with (h | ⟨o, h⟩) | h
    · exact .inl (.inl (e _ _ h))
    · exact .inl (.inr ⟨o, e _ _ h⟩)
    · exact .inr h
def Fr (S : List Addr) (H H' : Hp) : Prop := ∀ b o, H b = some o → b ∉ S → H' b = some o
theorem Fr.refl (S : List Addr) (H : Hp) : Fr S H H := fun _ _ h _ => h
theorem Fr.trans {S : List Addr} {H H1 H2 : Hp} (a : Fr S H H1) (b : Fr S H1 H2) : Fr S H H2 := fun c o h n => b c o (a c o h n) n
theorem Fr.mono {S S' : List Addr} {H H1 : Hp} (a : Fr S H H1) (h : ∀ b ∈ S, b ∈ S') : Fr S' H H1 := fun c o e n => a c o e fun z => n (h c z)
theorem Fr.of {S : List Addr} {H H' : Hp} (a : Same H H') : Fr S H H' := fun b o h _ => a b o h
theorem Fr.at1 {p q : Addr} {H H' : Hp} {o : HO} (a : Fr [p] H H') (h : H q = some o) (n : q ≠ p) : H' q = some o := a q o h (by simp [n])
theorem Fr.at0 {q : Addr} {H H' : Hp} {o : HO} (a : Fr [] H H') (h : H q = some o) : H' q = some o := a q o h (by simp)
theorem Fr.same {H H' : Hp} (a : Fr [] H H') : Same H H' := fun b o h => a b o h (by simp)
theorem Fr.new {S : List Addr} {H H' : Hp} {p : Addr} {o : HO} (a : Fr S H H') (h : H' p = none) : Fr S H (upd H' p o) := fun b u e n => by
  have q := a b u e n
  rw [upd_ne (ne_of_none q h)]
  exact q
theorem Fr.wr {S : List Addr} {H H' : Hp} {p : Addr} {o : HO} (a : Fr S H H') (h : p ∈ S) : Fr S H (upd H' p o) := fun b u e n => by
  rw [upd_ne (show b ≠ p from fun z => n (by rw [z]; exact h))]
  exact a b u e n
theorem Fr.loc {S : List Addr} {H H' : Hp} {p : Addr} {o : HO} (a : Fr S H H') (h : H p = none) : Fr S H (upd H' p o) := fun b u e n => by
  rw [upd_ne (ne_of_none e h)]
  exact a b u e n
theorem same_new {H H' : Hp} {p : Addr} {o : HO} (a : Same H H') (h : H' p = none) : Same H (upd H' p o) := fun b u e => by
  rw [upd_ne (ne_of_none (a b u e) h)]
  exact a b u e
theorem same_loc {H H' : Hp} {p : Addr} {o : HO} (a : Same H H') (h : H p = none) : Same H (upd H' p o) := fun b u e => by
  rw [upd_ne (ne_of_none e h)]
  exact a b u e
theorem same_fr {M H H' : Hp} {S : List Addr} (a : Same M H) (b : Fr S H H') (h : ∀ p ∈ S, M p = none) : Same M H' := fun c o e => b c o (a c o e) fun z => by
  rw [h c z] at e
  cases e
theorem same_fr1 {M H H' : Hp} {p : Addr} (a : Same M H) (b : Fr [p] H H') (h : M p = none) : Same M H' := same_fr a b fun q hq => by
  have e : q = p := by simpa using hq
  rw [e]
  exact h
theorem same_grow {M H : Hp} {p : Addr} {o : HO} (a : Same M H) (h : H p = some o) : Same (upd M p o) H := fun b u e => by
  by_cases z : b = p
  · subst z
    rw [upd_same] at e
    cases e
    exact h
  · rw [upd_ne z] at e
    exact a b u e
theorem same_grow0 {M : Hp} {p : Addr} {o : HO} (h : M p = none) : Same M (upd M p o) := fun b u e => by
  rw [upd_ne (ne_of_none e h)]
  exact e
theorem keep_new {H : Hp} {p q : Addr} {o o' : HO} (h : H p = none) (e : H q = some o) : upd H p o' q = some o := by
  rw [upd_ne (ne_of_none e h)]
  exact e
theorem keep_ne {H : Hp} {p q : Addr} {o o' : HO} (n : q ≠ p) (e : H q = some o) : upd H p o' q = some o := by
  rw [upd_ne n]
  exact e
theorem sqT_same {K : PySem.W.Frag} {H H' : Hp} {a : Addr} {xs : List V} (e : Same H H') (h : SqT K H a xs) : SqT K H' a xs := by
  rcases h with (h | ⟨o, h⟩) | h
  · exact .inl (.inl (e _ _ h))
  · exact .inl (.inr ⟨o, e _ _ h⟩)
  · exact .inr h
mutual
theorem dp_mono {K : PySem.W.Frag} {H H' : Hp} (e : Same H H') : ∀ {d : PyData} {v : V}, Dp K H v d → Dp K H' v d
  | .none, _, h => by cases h; exact .non
  | .bool b, _, h => by cases h; exact .bl b
  | .int i, _, h => by cases h; exact .int i
  | .str x, _, h => by cases h; exact .str x
  | .list ds, _, h => by
    cases h with
    | lst hs ha => exact .lst (e.seq hs) (dpAll_mono e ha)
  | .tuple ds, _, h => by
    cases h with
    | tup hs ha => exact .tup (sqT_same e hs) (dpAll_mono e ha)
  | .dict _, _, h => by cases h
theorem dpAll_mono {K : PySem.W.Frag} {H H' : Hp} (e : Same H H') : ∀ {ds : List PyData} {vs : List V}, DpAll K H vs ds → DpAll K H' vs ds
  | [], _, h => by cases h; exact .nil
  | d :: ds, _, h => by
    cases h with
    | cons h1 h2 => exact .cons (dp_mono e h1) (dpAll_mono e h2)
end
theorem dpAll_length {K : PySem.W.Frag} {H : Hp} : ∀ {ds : List PyData} {vs : List V}, DpAll K H vs ds → vs.length = ds.length
  | [], _, h => by cases h; rfl
  | d :: ds, _, h => by
    cases h with
    | cons h1 h2 => simp [dpAll_length h2]
theorem dpAll_get {K : PySem.W.Frag} {H : Hp} : ∀ {ds : List PyData} {vs : List V} {i : Nat} {d : PyData}, DpAll K H vs ds → ds[i]? = some d → ∃ v, vs[i]? = some v ∧ Dp K H v d
  | [], _, _, _, h, e => by simp at e
  | d :: ds, _, 0, _, h, e => by
    cases h with
    | cons h1 h2 =>
      simp at e
      subst e
      exact ⟨_, rfl, h1⟩
  | d :: ds, _, i + 1, _, h, e => by
    cases h with
    | cons h1 h2 => exact dpAll_get (i := i) h2 (by simpa using e)
theorem dpAll_append {K : PySem.W.Frag} {H : Hp} : ∀ {ds es : List PyData} {vs ws : List V}, DpAll K H vs ds → DpAll K H ws es → DpAll K H (vs ++ ws) (ds ++ es)
  | [], _, _, _, h, h' => by cases h; exact h'
  | d :: ds, _, _, _, h, h' => by
    cases h with
    | cons h1 h2 => exact .cons h1 (dpAll_append h2 h')
theorem atNat {α : Type} {xs : List α} {i : Int} {v : α} (h0 : 0 ≤ i) (h : xs[i.toNat]? = some v) : atI xs i = some v := by
  have e : i = ((i.toNat : Nat) : Int) := by omega
  rw [e]
  exact atI_nat h
end Co
end

section
set_option maxHeartbeats 4000000
namespace Co
open PySem PySem.Spec PyProof.Rows L2
section
variable {X : Cx}
def LenR (K : PySem.W.Frag) (H : Hp) (p : Addr) (n : Nat) : Prop := (∃ ys, SqA K H p ys ∧ n = ys.length) ∨ ∃ kvs, H p = some (.dK kvs) ∧ n = kvs.length
def cLenA (K : PySem.W.Frag) : List V → Hp → VK → Prop := fun xs H Q => match xs with
  | [.str z] => z.length ≤ sizeLine ∧ Q (.int z.length) H
  | [.ref p] => ∃ n, LenR K H p n ∧ Q (.int (n : Nat)) H
  | _ => False
theorem c_lenA : CallR X (.builtin "len") (cLenA X.K) := CallR.imp (CallR.or call_len_seq (CallR.or call_len_str call_lenD)) fun xs H Q h => by
  unfold cLenA at h
  split at h
  · exact .inr (.inl ⟨_, rfl, h⟩)
  · obtain ⟨n, ⟨ys, hs, rfl⟩ | ⟨kvs, hs, rfl⟩, q⟩ := h
    · exact .inl ⟨_, _, rfl, hs, q⟩
    · exact .inr (.inr ⟨_, _, rfl, hs, q⟩)
  · exact h.elim
end
theorem lenL {K : PySem.W.Frag} {H : Hp} {p : Addr} {ys : List V} (h : H p = some (.lst ys)) : LenR K H p ys.length := .inl ⟨_, .inl (SqL.of h), rfl⟩
theorem lenT {K : PySem.W.Frag} {H : Hp} {p : Addr} {ys : List V} (h : SqT K H p ys) : LenR K H p ys.length := .inl ⟨_, .inr h, rfl⟩
structure Pool (H : Hp) (p q : Addr) (ns : List Int) (i d s : Int) : Prop where
  hp : H p = some (.lst [.ref q, .int i, .int d, .int s])
  hq : H q = some (.lst (ns.map V.int))
  ne : q ≠ p
  nn : ∀ n ∈ ns, 0 ≤ n
  hi : 0 ≤ i
  hd : 0 ≤ d
  hs : 0 ≤ s
  hs2 : s < 2147483647
def PoolAt (H : Hp) (p q : Addr) : Prop := ∃ ns i d s, Pool H p q ns i d s
def sp_pool (K : PySem.W.Frag) : Sp := fun vs H Q _ => match vs with
  | [.ref a] => ∃ ns : List Int, SqL K H a (ns.map V.int) ∧ ns.length ≤ 63 ∧ ∀ p q H', H p = none → H q = none → PoolAt H' p q → Same H H' → Q (.ref p) H'
  | _ => False
def sp_take (n : Nat) : Sp := fun vs H Q _ => match vs with
  | [.ref p, .int m] => 0 < n ∧ ∃ q, (∃ ns i d s, Pool H p q ns i d s ∧ (n = 1 → 0 < d)) ∧ 0 < m ∧ m < 2 ^ 250 ∧ ∀ (r : Int) H', 0 ≤ r → r < m → PoolAt H' p q → Fr [p] H H' → Q (.int r) H'
  | _ => False
def t_Lpool (K : PySem.W.Frag) : TS :=
 (tRet (tLst (tCons (uLc (iList K (tV 0)) (gName 1) tYes (uIf (tBo (tOp fGe (tV 1) (tC (.int 0)))) (tOp fMul (tC (.int 2)) (tV 1)) (tOp fSub (tOp fMul (tUn fNeg (tC (.int 2))) (tV 1)) (tC (.int 1)))) ([("_law_cell", 1)].map (·.2))) (tCons (tC (.int 0)) (tCons (tC (.int 0)) (tCons (tC (.int 17)) tNil))))))
def t_Ltake (K : PySem.W.Frag) (sp : Sp) : TS :=
 (tSeq (uIfS (tBo (tOp fGt (tOp (rIxL K) (tV 0) (tC (.int 2))) (tC (.int 0)))) (tSeq (tAsg (tOp fMod (tCB cInt (tCons (tOp (rIxL K) (tV 0) (tC (.int 2))) tNil)) (tV 1)) (gName 2))
 (tSeq (tAsg (tOp fDiv (tOp (rIxL K) (tV 0) (tC (.int 2))) (tV 1)) (gSub (tV 0) (tC (.int 2)) rSetL))
 (tRet (tV 2)))) tNext)
 (tSeq (tAsg (tC (.int 0)) (gName 3))
 (tSeq (uIfS (tBo (tOp fLt (tOp (rIxL K) (tV 0) (tC (.int 1))) (tCB (cLenA K) (tCons (tOp (rIxL K) (tV 0) (tC (.int 0))) tNil)))) (tAsg (tOp (rIx K) (tOp (rIxL K) (tV 0) (tC (.int 0))) (tOp (rIxL K) (tV 0) (tC (.int 1)))) (gName 3)) tNext)
 (tSeq (tAsg (tOp fAdd (tOp (rIxL K) (tV 0) (tC (.int 1))) (tC (.int 1))) (gSub (tV 0) (tC (.int 1)) rSetL))
 (tSeq (uIfS (tBo (tOp fGe (tV 3) (tOp fPow (tC (.int 10)) (tC (.int 18))))) (tSeq (tAsg (tOp fDiv (tV 3) (tC (.int 2))) (gSub (tV 0) (tC (.int 2)) rSetL))
 (tRet (uCall sp E0 (tCons (tV 0) (tCons (tV 1) tNil))))) tNext)
 (tSeq (tAsg (tOp fMod (tCB cInt (tCons (tOp fAdd (tOp fAdd (tOp fMul (tOp (rIxL K) (tV 0) (tC (.int 3))) (tC (.int 48271))) (tOp fMul (tV 3) (tC (.int 69621)))) (tOp fMul (tOp (rIxL K) (tV 0) (tC (.int 1))) (tC (.int 613)))) tNil)) (tC (.int 2147483647))) (gSub (tV 0) (tC (.int 3)) rSetL))
 (tSeq (tAsg (tOp fMod (tCB cInt (tCons (tOp fAdd (tOp fAdd (tOp fMul (tOp (rIxL K) (tV 0) (tC (.int 3))) (tOp (rIxL K) (tV 0) (tC (.int 3)))) (tOp fMul (tOp (rIxL K) (tV 0) (tC (.int 3))) (tC (.int 7919)))) (tC (.int 104729))) tNil)) (tC (.int 1000000007))) (gName 4))
 (tRet (tOp fMod (tCB cInt (tCons (tOp fDiv (tV 4) (tC (.int 3))) tNil)) (tV 1))))))))))
abbrev Dn (Q : VK) : Ends := { nx := fun _ H' => Q .non H', rt := Q }
theorem PoolAt.fr {H H' : Hp} {p q : Addr} {S : List Addr} (h : PoolAt H p q) (f : Fr S H H') (n1 : p ∉ S) (n2 : q ∉ S) : PoolAt H' p q := by
  obtain ⟨ns, i, d, s, P⟩ := h
  exact ⟨ns, i, d, s, ⟨f _ _ P.hp n1, f _ _ P.hq n2, P.ne, P.nn, P.hi, P.hd, P.hs, P.hs2⟩⟩
theorem PoolAt.same {H H' : Hp} {p q : Addr} (h : PoolAt H p q) (f : Same H H') : PoolAt H' p q := h.fr (S := []) (Fr.of f) (by simp) (by simp)
theorem PoolAt.take {H : Hp} {p q : Addr} (h : PoolAt H p q) : ∃ ns i d s, Pool H p q ns i d s ∧ (2 = 1 → 0 < d) := by
  obtain ⟨ns, i, d, s, P⟩ := h
  exact ⟨ns, i, d, s, P, fun e => absurd e (by decide)⟩
theorem PoolAt.ex {H : Hp} {p q : Addr} (h : PoolAt H p q) : (∃ o, H p = some o) ∧ (∃ o, H q = some o) ∧ p ≠ q := by
  obtain ⟨ns, i, d, s, P⟩ := h
  exact ⟨⟨_, P.hp⟩, ⟨_, P.hq⟩, P.ne.symm⟩
theorem len_pool {K : PySem.W.Frag} : ∀ vs H Q E, sp_pool K vs H Q E → vs.length = 1 := fun vs H Q E h => by
  unfold sp_pool at h
  split at h
  · rfl
  · exact h.elim
theorem len_take {n : Nat} : ∀ vs H Q E, sp_take n vs H Q E → vs.length = 2 := fun vs H Q E h => by
  unfold sp_take at h
  split at h
  · rfl
  · exact h.elim
theorem mapInt_get {ns : List Int} {i : Nat} {x : V} (h : (ns.map V.int)[i]? = some x) : ∃ z, x = .int z ∧ ns[i]? = some z := by
  rw [List.getElem?_map] at h
  cases e : ns[i]? with
  | none => rw [e] at h; cases h
  | some z => rw [e] at h; exact ⟨z, (Option.some.inj h).symm, rfl⟩
theorem r_Lpool {K : PySem.W.Frag} {vs : List V} {H : Hp} {Q : VK} {E : XK} (h : sp_pool K vs H Q E) : t_Lpool K (Dn Q) (start ["_law_script", "_law_cell"] vs) H := by
  unfold sp_pool at h
  split at h
  · rename_i a
    obtain ⟨ns, hs, hl, k⟩ := h
    unfold t_Lpool tRet tLst tCons
    refine lcL ?_ (fun Q Q' i q => i _ _ q)
    refine ⟨a, _, rfl, hs, fun D hD => ?_⟩
    refine ⟨fun i H' => ∃ ms : List Int, H' D = some (.lst (ms.map V.int)) ∧ (∀ n ∈ ms, 0 ≤ n) ∧ ms.length ≤ i ∧ Same H H', ⟨[], upd_same, by simp, Nat.le_refl _, same_new (Same.refl H) hD⟩, fun i H' _ ⟨_, _, _, _, s⟩ => s.seq hs, ?_, ?_⟩
    · rintro i x H' hx ⟨ms, h1, h2, h3, s⟩
      have hil : i < ns.length := by
        have := (List.getElem?_eq_some_iff.mp hx).1
        simpa using this
      obtain ⟨z, rfl, -⟩ := mapInt_get hx
      refine ⟨rfl, ⟨fun _ => ?_, fun e => nomatch e⟩⟩
      have fin : ∀ w : Int, 0 ≤ w → ∃ acc, H' D = some (.lst acc) ∧ acc.length < sizeLine ∧ ∃ ms : List Int, (upd H' D (.lst (acc ++ [V.int w]))) D = some (.lst (ms.map V.int)) ∧ (∀ n ∈ ms, 0 ≤ n) ∧ ms.length ≤ i + 1 ∧ Same H (upd H' D (.lst (acc ++ [V.int w]))) := fun w hw => by
        refine ⟨_, h1, ?_, ms ++ [w], ?_, ?_, ?_, same_loc s hD⟩
        · rw [List.length_map]
          exact small1000 (by omega)
        · rw [upd_same, List.map_append]
          rfl
        · intro n hn
          rcases List.mem_append.mp hn with hn | hn
          · exact h2 n hn
          · simp at hn
            omega
        · simp
          omega
      refine ⟨fun e => ?_, fun e => ?_⟩
      · have e' : 0 ≤ z := of_decide_eq_true e
        exact ⟨.inl ⟨by decide, by decide⟩, fin _ (by omega)⟩
      · have e' : ¬ 0 ≤ z := of_decide_eq_false e
        exact ⟨.inl ⟨by decide, by decide⟩, fin _ (by omega)⟩
    · rintro H' ⟨ms, h1, h2, h3, s⟩
      refine ⟨by show 4 ≤ sizeLine; rw [sizeLine_eq]; omega, fun p hp => ?_⟩
      refine k p D _ (s.free hp) hD ⟨ms, 0, 0, 17, ⟨upd_same, keep_new hp h1, ne_of_none h1 hp, h2, by decide, by decide, by decide, by decide⟩⟩ (same_new s hp)
  · exact h.elim
theorem r_Ltake {K : PySem.W.Frag} {n : Nat} {vs : List V} {H : Hp} {Q : VK} {E : XK} (h : sp_take (n + 1) vs H Q E) : t_Ltake K (sp_take n) (Dn Q) (start ["_law_pool_here", "_law_many", "_law_digit", "_law_cell", "_law_mixed"] vs) H := by
  unfold sp_take at h
  split at h
  · rename_i p m
    obtain ⟨_, q, ⟨ns, i, d, s, P, hd1⟩, hm, hm2, k⟩ := h
    refine ⟨_, _, _, _, rfl, rfl, SqL.of P.hp, rfl, ⟨fun e => ?_, fun e => ?_⟩⟩
    · have e' : 0 < d := of_decide_eq_true e
      refine ⟨_, _, _, _, rfl, rfl, SqL.of P.hp, rfl, ⟨hm, ?_⟩⟩
      refine ⟨_, _, _, _, rfl, rfl, SqL.of P.hp, rfl, ⟨⟨hm, hm2⟩, ?_⟩⟩
      refine ⟨_, _, _, _, rfl, rfl, P.hp, rfl, ?_⟩
      refine k _ _ (Int.emod_nonneg _ (by omega)) (Int.emod_lt_of_pos _ hm) ⟨ns, i, d / m, s, ⟨upd_same, keep_ne P.ne P.hq, P.ne, P.nn, P.hi, Int.ediv_nonneg P.hd (by omega), P.hs, P.hs2⟩⟩ ?_
      exact (Fr.refl _ _).wr (by simp)
    · have e' : ¬ 0 < d := of_decide_eq_false e
      have hn : n ≠ 0 := fun z => by
        subst z
        exact e' (hd1 rfl)
      refine ⟨_, _, _, _, rfl, rfl, SqL.of P.hp, rfl, ?_⟩
      refine ⟨_, _, _, _, rfl, rfl, SqL.of P.hp, rfl, ⟨_, lenL P.hq, ?_⟩⟩
      have tail : ∀ c : Int, 0 ≤ c → ∀ σ' : St, σ' = [some (.ref p), some (.int m), none, some (.int c), none] →
          (tSeq (tAsg (tOp fAdd (tOp (rIxL K) (tV 0) (tC (.int 1))) (tC (.int 1))) (gSub (tV 0) (tC (.int 1)) rSetL))
 (tSeq (uIfS (tBo (tOp fGe (tV 3) (tOp fPow (tC (.int 10)) (tC (.int 18))))) (tSeq (tAsg (tOp fDiv (tV 3) (tC (.int 2))) (gSub (tV 0) (tC (.int 2)) rSetL))
 (tRet (uCall (sp_take n) E0 (tCons (tV 0) (tCons (tV 1) tNil))))) tNext)
 (tSeq (tAsg (tOp fMod (tCB cInt (tCons (tOp fAdd (tOp fAdd (tOp fMul (tOp (rIxL K) (tV 0) (tC (.int 3))) (tC (.int 48271))) (tOp fMul (tV 3) (tC (.int 69621)))) (tOp fMul (tOp (rIxL K) (tV 0) (tC (.int 1))) (tC (.int 613)))) tNil)) (tC (.int 2147483647))) (gSub (tV 0) (tC (.int 3)) rSetL))
 (tSeq (tAsg (tOp fMod (tCB cInt (tCons (tOp fAdd (tOp fAdd (tOp fMul (tOp (rIxL K) (tV 0) (tC (.int 3))) (tOp (rIxL K) (tV 0) (tC (.int 3)))) (tOp fMul (tOp (rIxL K) (tV 0) (tC (.int 3))) (tC (.int 7919)))) (tC (.int 104729))) tNil)) (tC (.int 1000000007))) (gName 4))
 (tRet (tOp fMod (tCB cInt (tCons (tOp fDiv (tV 4) (tC (.int 3))) tNil)) (tV 1))))))) (Dn Q) σ' H := by
        rintro c hc σ' rfl
        refine ⟨_, _, _, _, rfl, rfl, SqL.of P.hp, rfl, ?_⟩
        refine ⟨_, _, _, _, rfl, rfl, P.hp, rfl, ?_⟩
        refine ⟨⟨by decide, by decide, by decide⟩, ⟨fun e2 => ?_, fun e2 => ?_⟩⟩
        · have e3 : (10 : Int) ^ (Int.toNat 18) ≤ c := of_decide_eq_true e2
          have e4 : (10 : Int) ^ (Int.toNat 18) = 1000000000000000000 := by decide
          refine ⟨⟨by decide, by decide⟩, ?_⟩
          refine ⟨_, _, _, _, rfl, rfl, upd_same, rfl, ?_⟩
          refine ⟨by omega, q, ⟨ns, i + 1, c / 2, s, ⟨upd_same, keep_ne P.ne (keep_ne P.ne P.hq), P.ne, P.nn, by have := P.hi; omega, by omega, P.hs, P.hs2⟩, fun _ => by omega⟩, hm, hm2, fun r H' h0 h1 h2 h3 => ?_⟩
          exact k r H' h0 h1 h2 ((((Fr.refl [p] H).wr (by simp)).wr (by simp)).trans h3)
        · refine ⟨_, _, _, _, rfl, rfl, SqL.of upd_same, rfl, ⟨.inr (.inl ⟨by decide, by decide⟩), ⟨.inr (.inl ⟨by decide, by decide⟩), ?_⟩⟩⟩
          refine ⟨_, _, _, _, rfl, rfl, SqL.of upd_same, rfl, ⟨.inr (.inl ⟨by decide, by decide⟩), ⟨(show (0 : Int) < 2147483647 by decide), ?_⟩⟩⟩
          refine ⟨_, _, _, _, rfl, rfl, upd_same, rfl, ?_⟩
          have hs1 : 0 ≤ (s * 48271 + c * 69621 + (i + 1) * 613) % 2147483647 ∧ (s * 48271 + c * 69621 + (i + 1) * 613) % 2147483647 < 2147483647 := by omega
          refine ⟨_, _, _, _, rfl, rfl, SqL.of upd_same, rfl, ?_⟩
          refine ⟨_, _, _, _, rfl, rfl, SqL.of upd_same, rfl, ⟨.inl ⟨by show -(2 ^ 64) < (s * 48271 + c * 69621 + (i + 1) * 613) % 2147483647; omega, by show (s * 48271 + c * 69621 + (i + 1) * 613) % 2147483647 < 2 ^ 64; omega⟩, ?_⟩⟩
          refine ⟨_, _, _, _, rfl, rfl, SqL.of upd_same, rfl, ⟨.inr (.inl ⟨by decide, by decide⟩), ⟨(show (0 : Int) < 1000000007 by decide), ?_⟩⟩⟩
          refine ⟨⟨by decide, by decide⟩, ⟨hm, ?_⟩⟩
          refine k _ _ (Int.emod_nonneg _ (by omega)) (Int.emod_lt_of_pos _ hm) ⟨ns, i + 1, d, (s * 48271 + c * 69621 + (i + 1) * 613) % 2147483647, ⟨upd_same, keep_ne P.ne (keep_ne P.ne P.hq), P.ne, P.nn, by have := P.hi; omega, P.hd, hs1.1, hs1.2⟩⟩ ?_
          exact ((Fr.refl [p] H).wr (by simp)).wr (by simp)
      refine ⟨fun e2 => ?_, fun e2 => ?_⟩
      · have e3 : i < ((ns.map V.int).length : Nat) := of_decide_eq_true e2
        rw [List.length_map] at e3
        have hi := P.hi
        have hil : i.toNat < ns.length := by omega
        refine ⟨_, _, _, _, rfl, rfl, SqL.of P.hp, rfl, ?_⟩
        refine ⟨_, _, _, _, rfl, rfl, SqL.of P.hp, rfl, ?_⟩
        refine .inl ⟨_, _, _, .int ns[i.toNat], rfl, rfl, SqL.of P.hq, atNat hi (by rw [List.getElem?_map, List.getElem?_eq_getElem hil]; rfl), ?_⟩
        exact tail _ (P.nn _ (List.getElem_mem hil)) _ rfl
      · exact tail 0 (by decide) _ rfl
  · exact h.elim
end Co
end

section
set_option maxHeartbeats 4000000
namespace Co
open PySem PySem.Spec PyProof.Rows L2
def dle : Nat → PyData → Prop
  | _, .none => True
  | _, .bool _ => True
  | _, .int _ => True
  | _, .str _ => True
  | n + 1, .list ds => ds.length ≤ 1000000 ∧ ∀ d ∈ ds, dle n d
  | n + 1, .tuple ds => ds.length ≤ 1000000 ∧ ∀ d ∈ ds, dle n d
  | _, _ => False
def sp_same (K : PySem.W.Frag) (n : Nat) : Sp := fun vs H Q _ => match vs with
  | [x, y] => ∃ d m, n = m + 1 ∧ dle m d ∧ Dp K H x d ∧ Dp K H y d ∧ ∀ H', Same H H' → Q (.bl true) H'
  | _ => False
theorem len_same {K : PySem.W.Frag} {n : Nat} : ∀ vs H Q E, sp_same K n vs H Q E → vs.length = 2 := fun vs H Q E h => by
  unfold sp_same at h
  split at h
  · rfl
  · exact h.elim
def sp_isint : Sp := fun vs H Q _ => match vs with
  | [.int i] => Q (.bl true) H
  | _ => False
theorem len_isint : ∀ vs H Q E, sp_isint vs H Q E → vs.length = 1 := fun vs H Q E h => by
  unfold sp_isint at h
  split at h
  · rfl
  · exact h.elim
def t_Lis_integer (K : PySem.W.Frag) : TS :=
 (tRet (uAndV (tCB (cIsi K) (tCons (tV 0) (tCons (tC (.ty "int")) tNil))) (uNotV (tCB (cIsi K) (tCons (tV 0) (tCons (tC (.ty "bool")) tNil))))))
theorem r_Lis_integer {K : PySem.W.Frag} {x : Str} {vs : List V} {H : Hp} {Q : VK} {E : XK} (h : sp_isint vs H Q E) : t_Lis_integer K (Dn Q) (start [x] vs) H := by
  unfold sp_isint at h
  split at h
  · exact ⟨fun _ => h, fun e => nomatch e⟩
  · exact h.elim
theorem ixA {K : PySem.W.Frag} {H : Hp} {a : Addr} {xs : List V} {i : Nat} {v : V} {Q : VK} (h : SqA K H a xs) (e : xs[i]? = some v) (q : Q v H) : rIx K (.ref a) (.int (i : Int)) H Q := by
  rcases h with h | h
  · exact .inl ⟨_, _, _, _, rfl, rfl, h, atI_nat e, q⟩
  · exact .inr (.inl ⟨_, _, _, _, rfl, rfl, h, atI_nat e, q⟩)
theorem sqA_same {K : PySem.W.Frag} {H H' : Hp} {a : Addr} {xs : List V} (e : Same H H') (h : SqA K H a xs) : SqA K H' a xs := h.elim (fun h => .inl (e.seq h)) fun h => .inr (sqT_same e h)
abbrev tAlls (K : PySem.W.Frag) (sp : Sp) : TE := tCB (rAll K) (tCons (uLc (iRng1 (tCons (tCB (cLenA K) (tCons (tV 1) tNil)) tNil)) (gName 2) tYes (uCall sp E0 (tCons (tOp (rIx K) (tV 0) (tV 2)) (tCons (tOp (rIx K) (tV 1) (tV 2)) tNil))) ([("_law_k", 2)].map (·.2))) tNil)
theorem all_same {K : PySem.W.Frag} {n : Nat} {a b : Addr} {z : Option V} {xs ys : List V} {ds : List PyData} {H : Hp} {Q : VK} (ha : SqA K H a xs) (hb : SqA K H b ys) (dx : DpAll K H xs ds) (dy : DpAll K H ys ds) (hl : ds.length ≤ 1000000) (hd : ∀ d ∈ ds, dle n d)
    (k : ∀ H', Same H H' → Q (.bl true) H') : tAlls K (sp_same K (n + 1)) [some (.ref a), some (.ref b), z] H Q := by
  have lx := dpAll_length dx
  have ly := dpAll_length dy
  unfold tAlls tCB tCons
  refine lcR ?_ (fun Q Q' i ⟨n, h, q⟩ => ⟨n, h, i _ _ q⟩)
  refine ⟨ys.length, .inl ⟨ys, hb, rfl⟩, _, rfl, by omega, by omega, fun D hD => ⟨fun i H' => H' D = some (.lst ((List.replicate i true).map V.bl)) ∧ Same H H', ⟨upd_same, same_new (Same.refl H) hD⟩, ?_, ?_⟩⟩
  · rintro i H' hi ⟨h1, s⟩
    have hi' : i < ds.length := by omega
    obtain ⟨x, ex, px⟩ := dpAll_get dx (List.getElem?_eq_getElem hi')
    obtain ⟨y, ey, py⟩ := dpAll_get dy (List.getElem?_eq_getElem hi')
    refine ⟨rfl, ⟨fun _ => ?_, fun e => nomatch e⟩⟩
    refine ixA (sqA_same s ha) ex ?_
    refine ixA (sqA_same s hb) ey ?_
    refine ⟨_, n, rfl, hd _ (List.getElem_mem hi'), dp_mono s px, dp_mono s py, fun H2 s2 => ?_⟩
    refine ⟨_, s2 _ _ h1, ?_, ?_, same_loc (s.trans s2) hD⟩
    · rw [List.length_map, List.length_replicate]
      have : sizeLine = 16777216 := sizeLine_eq
      omega
    · rw [upd_same, List.replicate_succ', List.map_append]
      rfl
  · rintro H' ⟨h1, s⟩
    refine ⟨D, _, rfl, SqL.of h1, ?_⟩
    have e : (List.replicate ((ys.length : Int)).toNat true).all id = true := by
      rw [List.all_eq_true]
      intro x hx
      exact (List.mem_replicate.mp hx).2
    rw [e]
    exact k _ s
def t_LsameA (K : PySem.W.Frag) (sp : Sp) : TS :=
 (tSeq (uIfS (tBo (tCB (cIsi K) (tCons (tV 1) (tCons (tC (.ty "tuple")) tNil)))) (tSeq (uIfS (uOr (tNot (tBo (tCB (cIsi K) (tCons (tV 0) (tCons (tC (.ty "tuple")) tNil))))) (tBo (tOp fNe (tCB (cLenA K) (tCons (tV 0) tNil)) (tCB (cLenA K) (tCons (tV 1) tNil))))) (tRet (tC (.bl false))) tNext)
 (tRet (tCB (rAll K) (tCons (uLc (iRng1 (tCons (tCB (cLenA K) (tCons (tV 1) tNil)) tNil)) (gName 2) tYes (uCall sp E0 (tCons (tOp (rIx K) (tV 0) (tV 2)) (tCons (tOp (rIx K) (tV 1) (tV 2)) tNil))) ([("_law_k", 2)].map (·.2))) tNil)))) tNext)
 (tSeq (uIfS (tBo (tCB (cIsi K) (tCons (tV 1) (tCons (tC (.ty "list")) tNil)))) (tSeq (uIfS (uOr (tNot (tBo (tCB (cIsi K) (tCons (tV 0) (tCons (tC (.ty "list")) tNil))))) (tBo (tOp fNe (tCB (cLenA K) (tCons (tV 0) tNil)) (tCB (cLenA K) (tCons (tV 1) tNil))))) (tRet (tC (.bl false))) tNext)
 (tRet (tCB (rAll K) (tCons (uLc (iRng1 (tCons (tCB (cLenA K) (tCons (tV 1) tNil)) tNil)) (gName 2) tYes (uCall sp E0 (tCons (tOp (rIx K) (tV 0) (tV 2)) (tCons (tOp (rIx K) (tV 1) (tV 2)) tNil))) ([("_law_k", 2)].map (·.2))) tNil)))) tNext)
 (tSeq (uIfS (tBo (tIs (tV 1))) (tRet (tIs (tV 0))) tNext)
 (tSeq (uIfS (tBo (tCB (cIsi K) (tCons (tV 1) (tCons (tC (.ty "bool")) tNil)))) (tRet (uAndV (tCB (cIsi K) (tCons (tV 0) (tCons (tC (.ty "bool")) tNil))) (tOp fEq (tV 0) (tV 1)))) tNext)
 (tSeq (uIfS (tBo (tCB (cIsi K) (tCons (tV 1) (tCons (tC (.ty "str")) tNil)))) (tRet (uAndV (tCB (cIsi K) (tCons (tV 0) (tCons (tC (.ty "str")) tNil))) (tOp fEq (tV 0) (tV 1)))) tNext)
 (tRet (uAndV (uCall sp_isint E0 (tCons (tV 0) tNil)) (tOp fEq (tV 0) (tV 1)))))))))
def t_LsameB (K : PySem.W.Frag) (sp : Sp) : TS :=
 (tSeq (uIfS (tBo (tIs (tV 1))) (tRet (tIs (tV 0))) tNext)
 (tSeq (uIfS (uOr (tBo (tOp fNe (tCB (cIsi K) (tCons (tV 1) (tCons (tC (.ty "tuple")) tNil))) (tCB (cIsi K) (tCons (tV 0) (tCons (tC (.ty "tuple")) tNil))))) (tBo (tOp fNe (tCB (cIsi K) (tCons (tV 1) (tCons (tC (.ty "list")) tNil))) (tCB (cIsi K) (tCons (tV 0) (tCons (tC (.ty "list")) tNil)))))) (tRet (tC (.bl false))) tNext)
 (tSeq (uIfS (uOr (tBo (tCB (cIsi K) (tCons (tV 1) (tCons (tC (.ty "tuple")) tNil)))) (tBo (tCB (cIsi K) (tCons (tV 1) (tCons (tC (.ty "list")) tNil))))) (tRet (uAndV (tOp fEq (tCB (cLenA K) (tCons (tV 0) tNil)) (tCB (cLenA K) (tCons (tV 1) tNil))) (tCB (rAll K) (tCons (uLc (iRng1 (tCons (tCB (cLenA K) (tCons (tV 1) tNil)) tNil)) (gName 2) tYes (uCall sp E0 (tCons (tOp (rIx K) (tV 0) (tV 2)) (tCons (tOp (rIx K) (tV 1) (tV 2)) tNil))) ([("_law_k", 2)].map (·.2))) tNil)))) tNext)
 (tSeq (uIfS (uOr (tBo (tOp fNe (tCB (cIsi K) (tCons (tV 1) (tCons (tC (.ty "bool")) tNil))) (tCB (cIsi K) (tCons (tV 0) (tCons (tC (.ty "bool")) tNil))))) (tBo (tOp fNe (tCB (cIsi K) (tCons (tV 1) (tCons (tC (.ty "str")) tNil))) (tCB (cIsi K) (tCons (tV 0) (tCons (tC (.ty "str")) tNil)))))) (tRet (tC (.bl false))) tNext)
 (tRet (uAndV (tOp fEq (tCB (cIsi K) (tCons (tV 1) (tCons (tC (.ty "int")) tNil))) (tCB (cIsi K) (tCons (tV 0) (tCons (tC (.ty "int")) tNil)))) (tOp fEq (tV 0) (tV 1))))))))
theorem isi_l {K : PySem.W.Frag} {H : Hp} {p : Addr} {xs : List V} {c : String} {Q : VK} (h : SqL K H p xs) (hc : c = "tuple" ∨ c = "list" ∨ c = "dict" ∨ c = "int" ∨ c = "str" ∨ c = "bool") (q : Q (.bl (decide ("list" = c))) H) : cIsi K [.ref p, .ty c] H Q := ⟨"list", tyx_l h, ⟨.inl rfl, hc⟩, q⟩
theorem isi_t {K : PySem.W.Frag} {H : Hp} {p : Addr} {xs : List V} {c : String} {Q : VK} (h : SqT K H p xs) (hc : c = "tuple" ∨ c = "list" ∨ c = "dict" ∨ c = "int" ∨ c = "str" ∨ c = "bool") (q : Q (.bl (decide ("tuple" = c))) H) : cIsi K [.ref p, .ty c] H Q := ⟨"tuple", tyx_t h, ⟨.inr (.inl rfl), hc⟩, q⟩
theorem two1 {c : Bool} {p q : Prop} (e : c = true) (h : p) : two c p q := by
  subst e
  exact twoT h
theorem two0 {c : Bool} {p q : Prop} (e : c = false) (h : q) : two c p q := by
  subst e
  exact twoF h
local macro_rules | `(tactic| walk_at "no") => `(tactic| refine ⟨fun e => absurd e (by decide), fun _ => ?_⟩)
local macro_rules | `(tactic| walk_at "yes") => `(tactic| refine ⟨fun _ => ?_, fun e => absurd e (by decide)⟩)
local macro_rules | `(tactic| walk_at "isl") => `(tactic| refine ⟨"list", tyx_l (by assumption), ⟨.inl rfl, by decide⟩, ?_⟩)
local macro_rules | `(tactic| walk_at "ist") => `(tactic| refine ⟨"tuple", tyx_t (by assumption), ⟨.inr (.inl rfl), by decide⟩, ?_⟩)
theorem r_LsameB {K : PySem.W.Frag} {n : Nat} {x y : Str} {vs : List V} {H : Hp} {Q : VK} {E : XK} (h : sp_same K (n + 1) vs H Q E) : t_LsameB K (sp_same K n) (Dn Q) (start [x, y, "_law_k"] vs) H := by
  unfold sp_same at h
  split at h
  · obtain ⟨d, m, e, hd, h1, h2, k⟩ := h
    cases e
    cases d with
    | none =>
      cases h1
      cases h2
      exact ⟨fun _ => k _ (Same.refl _), fun e => nomatch e⟩
    | bool b =>
      cases h1
      cases h2
      refine ⟨fun e => (nomatch e), fun _ => ?_⟩
      walk_at "no"; walk_at "no"
      walk_at "no"; walk_at "no"
      walk_at "no"; walk_at "no"
      refine ⟨fun _ => ?_, fun e => (nomatch e)⟩
      show Q (.bl (decide (b = b))) H
      rw [decide_eq_true rfl]
      exact k _ (Same.refl _)
    | int i =>
      cases h1
      cases h2
      refine ⟨fun e => (nomatch e), fun _ => ?_⟩
      walk_at "no"; walk_at "no"
      walk_at "no"; walk_at "no"
      walk_at "no"; walk_at "no"
      refine ⟨fun _ => ?_, fun e => (nomatch e)⟩
      show Q (.bl (decide (i = i))) H
      rw [decide_eq_true rfl]
      exact k _ (Same.refl _)
    | str i =>
      cases h1
      cases h2
      refine ⟨fun e => (nomatch e), fun _ => ?_⟩
      walk_at "no"; walk_at "no"
      walk_at "no"; walk_at "no"
      walk_at "no"; walk_at "no"
      refine ⟨fun _ => ?_, fun e => (nomatch e)⟩
      show Q (.bl (decide (i = i))) H
      rw [decide_eq_true rfl]
      exact k _ (Same.refl _)
    | list ds =>
      cases n with
      | zero => exact hd.elim
      | succ m =>
      cases h1 with
      | lst hx dx =>
      cases h2 with
      | lst hy dy =>
      refine ⟨fun e => (nomatch e), fun _ => ?_⟩
      walk_at "isl"; walk_at "isl"; walk_at "no"; walk_at "isl"; walk_at "isl"; walk_at "no"
      walk_at "isl"; walk_at "no"; walk_at "isl"; walk_at "yes"
      refine ⟨_, .inl ⟨_, .inl hx, rfl⟩, _, .inl ⟨_, .inl hy, rfl⟩, ?_⟩
      refine two1 (decide_eq_true ?_) ?_
      · rw [dpAll_length dx, dpAll_length dy]
      · exact all_same (.inl hx) (.inl hy) dx dy hd.1 hd.2 k
    | tuple ds =>
      cases n with
      | zero => exact hd.elim
      | succ m =>
      cases h1 with
      | tup hx dx =>
      cases h2 with
      | tup hy dy =>
      refine ⟨fun e => (nomatch e), fun _ => ?_⟩
      walk_at "ist"; walk_at "ist"; walk_at "no"; walk_at "ist"; walk_at "ist"; walk_at "no"
      walk_at "ist"; walk_at "yes"; walk_at "yes"
      refine ⟨_, .inl ⟨_, .inr hx, rfl⟩, _, .inl ⟨_, .inr hy, rfl⟩, ?_⟩
      refine two1 (decide_eq_true ?_) ?_
      · rw [dpAll_length dx, dpAll_length dy]
      · exact all_same (.inr hx) (.inr hy) dx dy hd.1 hd.2 k
    | dict _ => cases h1
  · exact h.elim
theorem r_LsameA {K : PySem.W.Frag} {n : Nat} {x y : Str} {vs : List V} {H : Hp} {Q : VK} {E : XK} (h : sp_same K (n + 1) vs H Q E) : t_LsameA K (sp_same K n) (Dn Q) (start [x, y, "_law_k"] vs) H := by
  unfold sp_same at h
  split at h
  · obtain ⟨d, m, e, hd, h1, h2, k⟩ := h
    cases e
    cases d with
    | none =>
      cases h1
      cases h2
      walk_at "no"; walk_at "no"
      exact ⟨fun _ => k _ (Same.refl _), fun e => nomatch e⟩
    | bool b =>
      cases h1
      cases h2
      walk_at "no"; walk_at "no"
      refine ⟨fun e => (nomatch e), fun _ => ?_⟩
      walk_at "yes"; walk_at "yes"
      show Q (.bl (decide (b = b))) H
      rw [decide_eq_true rfl]
      exact k _ (Same.refl _)
    | int i =>
      cases h1
      cases h2
      walk_at "no"; walk_at "no"
      refine ⟨fun e => (nomatch e), fun _ => ?_⟩
      walk_at "no"; walk_at "no"
      walk_at "yes"
      show Q (.bl (decide (i = i))) H
      rw [decide_eq_true rfl]
      exact k _ (Same.refl _)
    | str i =>
      cases h1
      cases h2
      walk_at "no"; walk_at "no"
      refine ⟨fun e => (nomatch e), fun _ => ?_⟩
      walk_at "no"; walk_at "yes"; walk_at "yes"
      show Q (.bl (decide (i = i))) H
      rw [decide_eq_true rfl]
      exact k _ (Same.refl _)
    | list ds =>
      cases n with
      | zero => exact hd.elim
      | succ m =>
      cases h1 with
      | lst hx dx =>
      cases h2 with
      | lst hy dy =>
      walk_at "isl"; walk_at "no"; walk_at "isl"; walk_at "yes"; walk_at "isl"; walk_at "no"
      refine ⟨_, .inl ⟨_, .inl hx, rfl⟩, _, .inl ⟨_, .inl hy, rfl⟩, ?_⟩
      refine two0 ?_ ?_
      · rw [dpAll_length dx, dpAll_length dy]
        simp
      · exact all_same (.inl hx) (.inl hy) dx dy hd.1 hd.2 k
    | tuple ds =>
      cases n with
      | zero => exact hd.elim
      | succ m =>
      cases h1 with
      | tup hx dx =>
      cases h2 with
      | tup hy dy =>
      walk_at "ist"; walk_at "yes"; walk_at "ist"; walk_at "no"
      refine ⟨_, .inl ⟨_, .inr hx, rfl⟩, _, .inl ⟨_, .inr hy, rfl⟩, ?_⟩
      refine two0 ?_ ?_
      · rw [dpAll_length dx, dpAll_length dy]
        simp
      · exact all_same (.inr hx) (.inr hy) dx dy hd.1 hd.2 k
    | dict _ => cases h1
  · exact h.elim
end Co
end

section
set_option maxHeartbeats 4000000
namespace Co
open PySem PySem.Spec PyProof.Rows L2
theorem zip_lookup : ∀ {ks : List Str} {vs : List V} {f : Str} {i : Nat} {v : V}, ks.findIdx? (fun g => decide (g = f)) = some i → vs[i]? = some v → (ks.zip vs).lookup f = some v
  | [], _, _, _, _, h, _ => by simp at h
  | k :: ks, [], _, _, _, _, h => by simp at h
  | k :: ks, w :: vs, f, i, v, h, e => by
    rw [List.zip_cons_cons]
    by_cases z : k = f
    · subst z
      simp [List.findIdx?_cons] at h
      subst h
      simp at e
      subst e
      simp [List.lookup]
    · rw [List.findIdx?_cons] at h
      simp only [decide_eq_false z, Bool.false_eq_true, if_false] at h
      rw [Option.map_eq_some_iff] at h
      obtain ⟨j, h1, h2⟩ := h
      subst h2
      have e' : (f == k) = false := beq_eq_false_iff_ne.mpr fun q => z q.symm
      rw [List.lookup_cons, e']
      exact zip_lookup h1 (by simpa using e)
theorem zip_none : ∀ {ks : List Str} {vs : List V} {f : Str}, ks.all (fun g => decide (g ≠ f)) = true → (ks.zip vs).lookup f = none
  | [], _, _, _ => rfl
  | k :: ks, [], _, _ => rfl
  | k :: ks, w :: vs, f, h => by
    rw [List.all_cons, Bool.and_eq_true] at h
    have e' : (f == k) = false := beq_eq_false_iff_ne.mpr fun q => of_decide_eq_true h.1 q.symm
    rw [List.zip_cons_cons, List.lookup_cons, e']
    exact zip_none h.2
theorem zip_putF : ∀ {ks : List Str} {vs : List V} {f : Str} {i : Nat} {v : V}, ks.findIdx? (fun g => decide (g = f)) = some i → i < vs.length → putF f v (ks.zip vs) = ks.zip (vs.set i v)
  | [], _, _, _, _, h, _ => by simp at h
  | k :: ks, [], _, _, _, _, h => by simp at h
  | k :: ks, w :: vs, f, i, v, h, e => by
    rw [List.zip_cons_cons]
    by_cases z : k = f
    · subst z
      simp [List.findIdx?_cons] at h
      subst h
      simp [putF]
    · rw [List.findIdx?_cons] at h
      simp only [decide_eq_false z, Bool.false_eq_true, if_false] at h
      rw [Option.map_eq_some_iff] at h
      obtain ⟨j, h1, h2⟩ := h
      subst h2
      show (if k = f then _ else _) = _
      rw [if_neg z, zip_putF h1 (by simpa using e), List.set_cons_succ, List.zip_cons_cons]
theorem zip_new : ∀ {ks : List Str} {vs : List V} {f : Str} {v : V}, ks.all (fun g => decide (g ≠ f)) = true → ks.length = vs.length → putF f v (ks.zip vs) = (ks ++ [f]).zip (vs ++ [v])
  | [], [], f, v, _, _ => rfl
  | [], _ :: _, _, _, _, e => by simp at e
  | _ :: _, [], _, _, _, e => by simp at e
  | k :: ks, w :: vs, f, v, h, e => by
    rw [List.all_cons, Bool.and_eq_true] at h
    rw [List.zip_cons_cons]
    show (if k = f then _ else _) = _
    rw [if_neg (of_decide_eq_true h.1), zip_new h.2 (by simpa using e)]
    rfl
theorem zip_val {κ : Type} [DecidableEq κ] : ∀ {ks : List κ} {vs : List V} {f : κ} {i : Nat} {v : V}, ks.findIdx? (fun g => decide (g = f)) = some i → vs[i]? = some v → valV (ks.zip vs) f = some v
  | [], _, _, _, _, h, _ => by simp at h
  | k :: ks, [], _, _, _, _, h => by simp at h
  | k :: ks, w :: vs, f, i, v, h, e => by
    rw [List.zip_cons_cons]
    by_cases z : k = f
    · subst z
      simp [List.findIdx?_cons] at h
      subst h
      simp at e
      subst e
      exact valV_pos rfl
    · rw [List.findIdx?_cons] at h
      simp only [decide_eq_false z, Bool.false_eq_true, if_false] at h
      rw [Option.map_eq_some_iff] at h
      obtain ⟨j, h1, h2⟩ := h
      subst h2
      rw [valV_neg (p := (k, w)) z]
      exact zip_val h1 (by simpa using e)
theorem putK_pos {κ : Type} [DecidableEq κ] {p : κ × V} {r : List (κ × V)} {k : κ} {v : V} (e : p.1 = k) (hn : ∀ q ∈ r, q.1 ≠ k) : putK (p :: r) k v = (k, v) :: r := by
  unfold putK
  have h : ((p :: r).any fun kv => decide (kv.1 = k)) = true := by simp [e]
  rw [if_pos h, List.map_cons, if_pos e]
  congr 1
  · rw [e]
  · rw [List.map_congr_left (g := id) fun q hq => by rw [if_neg (hn q hq)]; rfl]
    simp
theorem zip_mem_fst {κ : Type} : ∀ {ks : List κ} {vs : List V} {q : κ × V}, q ∈ ks.zip vs → q.1 ∈ ks := fun {ks vs q} h => (List.of_mem_zip (a := q.1) (b := q.2) h).1
theorem zip_putK {κ : Type} [DecidableEq κ] : ∀ {ks : List κ} {vs : List V} {f : κ} {i : Nat} {v : V}, ks.Nodup → ks.findIdx? (fun g => decide (g = f)) = some i → i < vs.length → putK (ks.zip vs) f v = ks.zip (vs.set i v)
  | [], _, _, _, _, _, h, _ => by simp at h
  | k :: ks, [], _, _, _, _, _, h => by simp at h
  | k :: ks, w :: vs, f, i, v, hn, h, e => by
    rw [List.nodup_cons] at hn
    rw [List.zip_cons_cons]
    by_cases z : k = f
    · subst z
      simp [List.findIdx?_cons] at h
      subst h
      rw [putK_pos rfl fun q hq (e : q.1 = k) => hn.1 (by rw [← e]; exact zip_mem_fst hq)]
      rfl
    · rw [List.findIdx?_cons] at h
      simp only [decide_eq_false z, Bool.false_eq_true, if_false] at h
      rw [Option.map_eq_some_iff] at h
      obtain ⟨j, h1, h2⟩ := h
      subst h2
      have ih := zip_putK (v := v) hn.2 h1 (vs := vs) (by simpa using e)
      rw [List.set_cons_succ, List.zip_cons_cons, ← ih]
      unfold putK
      have ha : ((((k, w) : κ × V) :: ks.zip vs).any fun kv => decide (kv.1 = f)) = ((ks.zip vs).any fun kv => decide (kv.1 = f)) := by
        rw [List.any_cons, decide_eq_false z, Bool.false_or]
      rw [ha]
      split
      · rw [List.map_cons, if_neg z]
      · rfl
theorem mergeK_zip : ∀ {ks : List Key} {vs : List V} {acc : List (Key × V)}, ks.Nodup → (∀ k ∈ ks, valV acc k = none) → mergeK acc (ks.zip vs) = acc ++ ks.zip vs
  | [], _, _, _, _ => by simp [mergeK]
  | k :: ks, [], _, _, _ => by simp [mergeK]
  | k :: ks, v :: vs, acc, hn, h => by
    rw [List.nodup_cons] at hn
    rw [List.zip_cons_cons]
    show mergeK (putK acc k v) (ks.zip vs) = _
    have hk := h k List.mem_cons_self
    rw [putK_new v hk, mergeK_zip hn.2 fun j hj => ?_]
    · simp
    · rw [valV_snoc k j v acc hk]
      rw [if_neg (show ¬ j = k from fun e => hn.1 (by rw [← e]; exact hj))]
      exact h j (List.mem_cons_of_mem _ hj)
theorem mergeK_zip0 {ks : List Key} {vs : List V} (h : ks.Nodup) : mergeK [] (ks.zip vs) = ks.zip vs := mergeK_zip h fun _ _ => rfl
def uWhile (c : TT) (tb : TS) : TS := fun D σ H => ∃ W : Nat → St → Hp → Prop, (∃ m, W m σ H) ∧ ∀ m σ H, W m σ H →
  c σ H fun b H1 => two b (tb { D with nx := fun σ' H' => ∃ m', m' < m ∧ W m' σ' H', ct := fun σ' H' => ∃ m', m' < m ∧ W m' σ' H', bk := D.nx } σ H1) (D.nx σ H1)
theorem s_while {X : Cx} {pos : Pos} {c : Expr} {body : List Stmt} {tc : TT} {tb : TS} (hp : PassesOwn (model X.prog X.w) X.A X.env X.xe) (hc : PT X c tc) (hb : PSs X body tb) : PS X (.While c body [] pos) (uWhile tc tb) := by
  have hc' : PT X c fun σ H Q => tc σ H Q := hc
  refine ⟨fun pins s σ H D I h => ?_⟩
  obtain ⟨W, ⟨m0, w0⟩, turn⟩ := h
  refine wpAny_While (codeAny_whileLoop (fun n s' => ∃ σ' H', Inv X pins σ' H' s' ∧ W n σ' H') ?_ m0 ⟨σ, H, I, w0⟩)
  rintro n s1 ⟨σ1, H1, I1, w1⟩
  refine wpAny_passesOwn hp (thn (hc.run pins s1 σ1 H1 _ I1 (turn n σ1 H1 w1)) fun b s2 ⟨H2, I2, q2⟩ => ?_)
  cases b with
  | true =>
    rw [if_pos rfl]
    refine wpAny_passesOwn hp (thn (hb.run pins s2 σ1 H2 _ I2 (q2.1 rfl)) fun f s3 q3 => ?_)
    cases f with
    | next =>
      obtain ⟨σ3, H3, I3, m', hm, w3⟩ := q3
      exact ⟨m', hm, σ3, H3, I3, w3⟩
    | cont =>
      obtain ⟨σ3, H3, I3, m', hm, w3⟩ := q3
      exact ⟨m', hm, σ3, H3, I3, w3⟩
    | brk => exact q3
    | ret v => exact q3
  | false =>
    rw [if_neg Bool.false_ne_true]
    exact wpAny_execs_nil ⟨σ1, H2, I2, q2.2 rfl⟩
theorem fn_to0 {P : Program} {w : World} {K : PySem.W.Frag} {mg : Str → Option Value} {base : Heap} {k : Nat} {f : Addr} {fd : FuncData} {ps : List Str} {sp : Sp} (F : FnOk P w K mg base (L2.CX P w) k f fd ps sp) (hE : ∀ vs H Q E, sp vs H Q E → sp vs H Q E0) : FnOk P w K mg base CX0 k f fd ps sp :=
  ⟨F.len, fun A outer s H args us vs Q E hr he hb hv hs => codeAny_mono (F.run A outer s H args us vs Q E0 hr he hb hv (hE _ _ _ _ hs)) fun r s' hq => by
    cases r with
    | error e =>
      obtain ⟨_, _, _, _, _, _, _, _, _, _, _, _, z⟩ := (show L2.CX P w outer H s E0 e s' from hq)
      exact z.elim
    | ok fl => cases fl <;> exact hq⟩
theorem fn_by {P : Program} {w : World} {K : PySem.W.Frag} {mg : Str → Option Value} {base : Heap} {k : Nat} {f : Addr} {ps : List Str} {sp : Sp} {x qual : Str} {params : Arguments} {body : List Stmt} {scope : Scope} {fd : FuncData} {N : List Str} (F : FunD K x qual params body scope [] [] f fd) (S : FnScope N ps scope)
    (len : ∀ vs H Q E, sp vs H Q E → vs.length = ps.length)
    (hbody : ∀ (cdv : Value) (A : Around) (outer : List Env) (s : Shared) (H : Hp) (vs : List V) (Q : VK) (E : XK), Room k (A.deeper (envOfC qual scope s.heap.objs.size f cdv)) → sp vs H Q E →
      ∃ t, PSs (cxOf (L2.CX P w) P w K mg base N qual scope f cdv A outer s H E) body t ∧ t { nx := fun _ H' => Q .non H', rt := Q } (start N vs) H) : FnOk P w K mg base (L2.CX P w) (k + 1) f fd ps sp := F.ok S len hbody
end Co
end

section
set_option maxHeartbeats 4000000
namespace Co
open PySem PySem.Spec PyProof.Rows L2
abbrev S (l : List Nat) : Str := ⟨l.toArray⟩
theorem S_cps (l : List Nat) : (S l).cps.toList = l := rfl
theorem S_len (l : List Nat) : (S l).length = l.length := by show l.toArray.size = _; simp
theorem S_eq (z : Str) : z = S z.cps.toList := by cases z; rfl
theorem S_inj {a b : List Nat} (h : S a = S b) : a = b := by
  have := congrArg (fun z => z.cps.toList) h
  simpa using this
section
variable {X : Cx}
theorem MtR.imp {id : String} {r r' : V → List V → Hp → VK → Prop} (h : MtR X id r) (i : ∀ x xs H Q, r' x xs H Q → r x xs H Q) : MtR X id r' := fun pins s σ H x xs v us Q I rx rs q => h pins s σ H x xs v us Q I rx rs (i _ _ _ _ q)
def rSS (g : Str → Str → V) : V → List V → Hp → VK → Prop := fun x xs H Q => match x, xs with
  | .str a, [.str b] => Q (g a b) H
  | _, _ => False
theorem rSS_of {g : Str → Str → V} {x : V} {xs : List V} {H : Hp} {Q : VK} (h : rSS g x xs H Q) : ∃ a b, x = .str a ∧ xs = [.str b] ∧ Q (g a b) H := by
  unfold rSS at h
  split at h
  · exact ⟨_, _, rfl, rfl, h⟩
  · exact h.elim
abbrev rCountS := rSS fun a b => .int (Txt.count a b)
abbrev rRfindS := rSS fun a b => .int (Txt.rfind a b)
theorem m_count : MtR X "str.count" rCountS := MtR.imp mt_count fun _ _ _ _ => rSS_of
theorem m_rfind : MtR X "str.rfind" rRfindS := MtR.imp mt_rfind fun _ _ _ _ => rSS_of
def rJoinS (K : PySem.W.Frag) : V → List V → Hp → VK → Prop := fun x xs H Q => match x, xs with
  | .str a, [.ref p] => ∃ ys : List Str, SqA K H p (ys.map V.str) ∧ (ys.map (·.length)).sum + ys.length * a.length ≤ 16777216 ∧ Q (.str (Txt.join a ys)) H
  | _, _ => False
theorem m_join : MtR X "str.join" (rJoinS X.K) := MtR.imp mt_join fun x xs H Q h => by
  unfold rJoinS at h
  split at h
  · obtain ⟨ys, h1, h2, h3⟩ := h
    exact ⟨_, _, ys, rfl, rfl, h1, h2, h3⟩
  · exact h.elim
end
theorem S_app (a b : List Nat) : S a ++ S b = S (a ++ b) := by
  show Str.append _ _ = _
  unfold Str.append
  simp
theorem joinS : ∀ ls : List (List Nat), Str.join (S []) (ls.map S) = S ls.flatten
  | [] => rfl
  | [a] => by simp [Str.join]
  | a :: b :: r => by
    have ih := joinS (b :: r)
    rw [List.map_cons, List.map_cons, Str.join]
    rw [List.map_cons] at ih
    rw [ih, S_app, S_app]
    simp
    intro x
    exact absurd x (by simp)
theorem joinT (ls : List (List Nat)) : Txt.join (S []) (ls.map S) = S ls.flatten := (PySem.StrLaws.glued_eq_join _ _).trans (joinS ls)
theorem cutS_nat {l : List Nat} {a b : Nat} (h : b ≤ l.length) (h2 : a ≤ l.length) : cutS (S l) (some (a : Int)) (some (b : Int)) = S ((l.drop a).take (b - a)) := by
  unfold cutS
  rw [HT.sIx_nat, HT.sIx_nat, S_len, Nat.min_eq_left h, Nat.min_eq_left h2]
theorem cutS_to {l : List Nat} {b : Nat} (h : b ≤ l.length) : cutS (S l) none (some (b : Int)) = S (l.take b) := by
  unfold cutS
  rw [HT.sIx_nat, HT.sIx_none, S_len, Nat.min_eq_left h]
  simp
theorem cutS_from {l : List Nat} {a : Nat} (h : a ≤ l.length) : cutS (S l) (some (a : Int)) none = S (l.drop a) := by
  unfold cutS
  rw [HT.sIx_nat, HT.sIx_none, S_len, Nat.min_eq_left h]
  show S (((l.drop a)).take (l.length - a)) = _
  rw [List.take_of_length_le (by simp)]
theorem oneD {p : Prop} [Decidable p] {T E : Prop} (h : p → T) (k : ¬ p → E) : two (decide p) T E := ⟨fun e => h (of_decide_eq_true e), fun e => k (of_decide_eq_false e)⟩
theorem notD {p : Prop} [Decidable p] {T E : Prop} (h : ¬ p → T) (k : p → E) : two (!decide p) T E := by
  by_cases z : p
  · rw [decide_eq_true z]
    exact ⟨fun e => (nomatch e), fun _ => k z⟩
  · rw [decide_eq_false z]
    exact ⟨fun _ => h z, fun e => (nomatch e)⟩
theorem andD {p q : Prop} [Decidable p] [Decidable q] {T E : Prop} (h : p ∧ q → T) (k : ¬ (p ∧ q) → E) : two (decide p) (two (decide q) T E) (two false T E) :=
  oneD (fun a => oneD (fun b => h ⟨a, b⟩) fun b => k fun z => b z.2) fun a => twoF (k fun z => a z.1)
theorem orD {p q : Prop} [Decidable p] [Decidable q] {T E : Prop} (h : p ∨ q → T) (k : ¬ (p ∨ q) → E) : two (decide p) (two true T E) (two (decide q) T E) :=
  oneD (fun a => twoT (h (.inl a))) fun a => oneD (fun b => h (.inr b)) fun b => k fun z => z.elim a b
def cMinW : List V → Hp → VK → Prop := fun xs H Q => match xs with
  | [.int i, .int j] => ∀ k : Int, k ≤ i → k ≤ j → (k = i ∨ k = j) → Q (.int k) H
  | _ => False
def cMaxW : List V → Hp → VK → Prop := fun xs H Q => match xs with
  | [.int i, .int j] => ∀ k : Int, i ≤ k → j ≤ k → (k = i ∨ k = j) → Q (.int k) H
  | _ => False
section
variable {X : Cx}
theorem c_minW (hc : X.calm = true) : CallR X (.builtin "min") cMinW := CallR.imp (c_min2 hc) fun xs H Q h => by
  unfold cMinW at h
  unfold cMin2
  split at h
  · rename_i i j
    show Q _ _
    by_cases z : j < i
    · rw [if_pos z]
      exact h j (by omega) (by omega) (.inr rfl)
    · rw [if_neg z]
      exact h i (by omega) (by omega) (.inl rfl)
  · exact h.elim
theorem c_maxW (hc : X.calm = true) : CallR X (.builtin "max") cMaxW := CallR.imp (c_max2 hc) fun xs H Q h => by
  unfold cMaxW at h
  unfold cMax2
  split at h
  · rename_i i j
    show Q _ _
    by_cases z : j > i
    · rw [if_pos z]
      exact h j (by omega) (by omega) (.inr rfl)
    · rw [if_neg z]
      exact h i (by omega) (by omega) (.inl rfl)
  · exact h.elim
end
def uAug (i : Nat) (te : TE) (f : V → V → Option V) : TS := fun D σ H => match σ[i]? with
  | some (some x) => te σ H fun y H1 => (match f x y with
    | some z => D.nx (σ.set i (some z)) H1
    | none => False)
  | _ => False
def iiAdd : V → V → Option V
  | .int i, .int j => some (.int (i + j))
  | _, _ => none
def iiSub : V → V → Option V
  | .int i, .int j => some (.int (i - j))
  | _, _ => none
theorem PIp.imp {X : Cx} {op : Operator} {t t' : TIp} (h : PIp X op t) (i : ∀ x y H Q, t' x y H Q → t x y H Q) : PIp X op t' := fun pins s σ H x y v u Q I r1 r2 q => h pins s σ H x y v u Q I r1 r2 (i _ _ _ _ q)
theorem uAug_of {i : Nat} {te : TE} {f : V → V → Option V} {D : Ends} {σ : St} {H : Hp} (h : uAug i te f D σ H) : tAug i te (fun x y H1 Q => match f x y with
    | some z => Q z H1
    | none => False) D σ H := by
  unfold uAug at h
  split at h
  · exact ⟨_, by assumption, h⟩
  · exact h.elim
section
variable {X : Cx} {i : Nat} {x : Str} {e : Expr} {te : TE} {pos pos' : Pos}
theorem s_augadd (hN : X.N.Nodup) (hi : X.N[i]? = some x) (hx : Loc X.env.scope x) (he : PE X e te) (hf : X.fn x = true ∨ X.env.scope.names.lookup x = some .local := by first | exact .inl rfl | exact .inr rfl | assumption) :
    PS X (.AugAssign (.Name x pos') .Add e pos) (uAug i te iiAdd) := PS.imp (ps_aug hN hi hx he (PIp.imp ip_add fun x y H Q h => by
  split at h
  · rename_i z e
    unfold iiAdd at e
    split at e
    · cases e
      exact ⟨_, _, rfl, rfl, h⟩
    · cases e
  · exact h.elim) hf) fun _ _ _ => uAug_of
theorem s_augsub (hN : X.N.Nodup) (hi : X.N[i]? = some x) (hx : Loc X.env.scope x) (he : PE X e te) (hf : X.fn x = true ∨ X.env.scope.names.lookup x = some .local := by first | exact .inl rfl | exact .inr rfl | assumption) :
    PS X (.AugAssign (.Name x pos') .Sub e pos) (uAug i te iiSub) := PS.imp (ps_aug hN hi hx he (PIp.imp ip_sub fun x y H Q h => by
  split at h
  · rename_i z e
    unfold iiSub at e
    split at e
    · cases e
      exact ⟨_, _, rfl, rfl, h⟩
    · cases e
  · exact h.elim) hf) fun _ _ _ => uAug_of
end
structure Walks (J : It) (P : Hp → Prop) (xs : List V) : Prop where
  stop : ∀ i H, P H → xs.length ≤ i → J.stop i H
  go : ∀ i H, P H → i < xs.length → J.go i H
  yld : ∀ i H x H', P H → i < xs.length → J.yld i H x H' → H' = H ∧ xs[i]? = some x
abbrev rgV (lo : Int) (n : Nat) : List V := (List.range n).map fun (k : Nat) => V.int (lo + (k : Int))
theorem wk_rng {lo : Int} {n : Nat} : Walks (Itr lo n) (fun _ => True) (rgV lo n) where
  stop := fun i H _ h => by simpa [Itr] using h
  go := fun i H _ h => by simpa [Itr] using h
  yld := fun i H x H' _ h y => by
    obtain ⟨e, y⟩ := y
    refine ⟨e, ?_⟩
    have h' : i < n := by simpa using h
    rw [y]
    simp [h']
abbrev chV (l : List Nat) : List V := l.map fun c => V.str (S [c])
theorem wk_str {l : List Nat} : Walks (Its (S l)) (fun _ => True) (chV l) where
  stop := fun i H _ h => by simpa [Its] using h
  go := fun i H _ h => by simpa [Its] using h
  yld := fun i H x H' _ h y => by
    obtain ⟨e, c, h1, h2⟩ := y
    refine ⟨e, ?_⟩
    have h3 : l[i]? = some c := by simpa using h1
    rw [h2]
    simp [h3]
theorem wk_list {K : PySem.W.Frag} {a : Addr} {xs : List V} : Walks (Itl K a) (fun H => SqL K H a xs) xs where
  stop := fun i H h hi => ⟨xs, h, hi⟩
  go := fun i H h hi => ⟨xs, xs[i], h, by simp [hi]⟩
  yld := fun i H x H' h hi y => ⟨y.1, y.2 xs h⟩
theorem wk_tup {K : PySem.W.Frag} {a : Addr} {xs : List V} : Walks (Itt K a) (fun H => SqT K H a xs) xs where
  stop := fun i H h hi => ⟨xs, h, hi⟩
  go := fun i H h hi => ⟨xs, xs[i], h, by simp [hi]⟩
  yld := fun i H x H' h hi y => ⟨y.1, y.2 xs h⟩
def LcBody (J : It) (g : TG) (tt : TT) (te : TE) (vs : List Nat) (σ : St) (H1 : Hp) (QD : Addr → Hp → Prop) : Prop :=
    ∀ D, H1 D = none → ∃ W : Nat → Nat → Hp → Prop, (∃ m, W 0 m (upd H1 D (.lst []))) ∧ ∀ i m H, W i m H →
  (J.stop i H ∧ QD D H) ∨ (J.go i H ∧ ∃ Nx : Hp → Prop, (∀ H', Nx H' → ∃ m', m' < m ∧ W (i + 1) m' H') ∧ ∀ x H', J.yld i H x H' → g x (wipe σ vs) H' fun σ2 H2 => wipe σ2 vs = wipe σ vs ∧ tt σ2 H2 fun b H3 =>
    two b (te σ2 H3 fun y H4 => ∃ acc, H4 D = some (.lst acc) ∧ acc.length < sizeLine ∧ Nx (upd H4 D (.lst (acc ++ [y])))) (Nx H3))
theorem lcW {J : It} {P : Hp → Prop} {xs : List V} {g : TG} {tt : TT} {te : TE} {vs : List Nat} {σ : St} {H1 : Hp} {QD : Addr → Hp → Prop} (w : Walks J P xs) (h : ∀ D, H1 D = none → ∃ Pv : Nat → Hp → Prop, Pv 0 (upd H1 D (.lst [])) ∧ (∀ i H, i ≤ xs.length → Pv i H → P H) ∧
      (∀ i x H, xs[i]? = some x → Pv i H → LcTurn g tt te vs σ D x H (Pv (i + 1))) ∧ ∀ H, Pv xs.length H → QD D H) : LcBody J g tt te vs σ H1 QD := by
  intro D hD
  obtain ⟨Pv, h0, hl, hs, hd⟩ := h D hD
  refine ⟨fun i m H => m = xs.length - i ∧ i ≤ xs.length ∧ Pv i H, ⟨xs.length, by simp, Nat.zero_le _, h0⟩, ?_⟩
  rintro i m H ⟨rfl, hi, p⟩
  have q := hl i H hi p
  by_cases hlt : i < xs.length
  · refine .inr ⟨w.go i H q hlt, Pv (i + 1), fun H' p' => ⟨xs.length - (i + 1), by omega, rfl, hlt, p'⟩, fun x H' y => ?_⟩
    obtain ⟨e, y2⟩ := w.yld i H x H' q hlt y
    subst e
    exact hs i x _ y2 p
  · have e : i = xs.length := by omega
    subst e
    exact .inl ⟨w.stop _ H q (Nat.le_refl _), hd H p⟩
theorem forW {J : It} {P : Hp → Prop} {xs : List V} {g : TG} {tb : TS} {D : Ends} {σ : St} {H : Hp} (w : Walks J P xs) (Pv : Nat → St → Hp → Prop) (h0 : Pv 0 σ H) (hl : ∀ i σ H, i ≤ xs.length → Pv i σ H → P H)
    (hs : ∀ i x σ H, xs[i]? = some x → Pv i σ H → g x σ H fun σ2 H2 => tb { D with nx := Pv (i + 1), ct := Pv (i + 1), bk := D.nx } σ2 H2) (hd : ∀ σ H, Pv xs.length σ H → D.nx σ H) :
    ∃ W : Nat → Nat → St → Hp → Prop, (∃ m, W 0 m σ H) ∧ ∀ i m σ H, W i m σ H →
  (J.stop i H ∧ D.nx σ H) ∨ (J.go i H ∧ ∃ N : St → Hp → Prop, (∀ σ' H', N σ' H' → ∃ m', m' < m ∧ W (i + 1) m' σ' H') ∧ ∀ x H', J.yld i H x H' → g x σ H' fun σ2 H2 => tb { D with nx := N, ct := N, bk := D.nx } σ2 H2) := by
  refine ⟨fun i m σ H => m = xs.length - i ∧ i ≤ xs.length ∧ Pv i σ H, ⟨xs.length, by simp, Nat.zero_le _, h0⟩, ?_⟩
  rintro i m σ H ⟨rfl, hi, p⟩
  have q := hl i σ H hi p
  by_cases hlt : i < xs.length
  · refine .inr ⟨w.go i H q hlt, Pv (i + 1), fun σ' H' p' => ⟨xs.length - (i + 1), by omega, rfl, hlt, p'⟩, fun x H' y => ?_⟩
    obtain ⟨e, y2⟩ := w.yld i H x H' q hlt y
    subst e
    exact hs i x σ _ y2 p
  · have e : i = xs.length := by omega
    subst e
    exact .inl ⟨w.stop _ H q (Nat.le_refl _), hd σ H p⟩
theorem forA {K : PySem.W.Frag} {g : TG} {tb : TS} {D : Ends} {σ : St} {H : Hp} {a : Addr} {xs : List V} (hq : SqA K H a xs) (Pv : Nat → St → Hp → Prop) (h0 : Pv 0 σ H) (hl : ∀ i σ H', i ≤ xs.length → Pv i σ H' → SqA K H' a xs)
    (hs : ∀ i x σ H, xs[i]? = some x → Pv i σ H → g x σ H fun σ2 H2 => tb { D with nx := Pv (i + 1), ct := Pv (i + 1), bk := D.nx } σ2 H2) (hd : ∀ σ H, Pv xs.length σ H → D.nx σ H) (hlt : ∀ H', SqA K H' a xs → (SqL K H a xs → SqL K H' a xs) ∧ (SqT K H a xs → SqT K H' a xs)) : tFor (iSeq K (fun _ H Q => Q (.ref a) H)) g tb D σ H := by
  refine ⟨a, rfl, ?_⟩
  rcases hq with hq | hq
  · exact .inl ⟨⟨xs, hq⟩, forW wk_list Pv h0 (fun i σ' H' hi p => (hlt _ (hl i σ' H' hi p)).1 hq) hs hd⟩
  · exact .inr ⟨⟨xs, hq⟩, forW wk_tup Pv h0 (fun i σ' H' hi p => (hlt _ (hl i σ' H' hi p)).2 hq) hs hd⟩
theorem none_of {H H' : Hp} {p : Addr} (s : Same H H') (h : H' p = none) : H p = none := by
  cases e : H p with
  | none => rfl
  | some o =>
    rw [s p o e] at h
    cases h
structure Rw {α : Type} (f : α → List V) (H : Hp) (vs : List V) (as : List α) : Prop where
  len : vs.length = as.length
  at_ : ∀ (i : Nat) (a : α), as[i]? = some a → ∃ l, vs[i]? = some (V.ref l) ∧ H l = some (.tup (f a))
theorem Rw.nil {α : Type} {f : α → List V} {H : Hp} : Rw f H [] [] := ⟨rfl, fun i a h => by simp at h⟩
theorem Rw.app {α : Type} {f : α → List V} {H : Hp} {vs ws : List V} {as bs : List α} (h : Rw f H vs as) (k : Rw f H ws bs) : Rw f H (vs ++ ws) (as ++ bs) := by
  refine ⟨by simp [h.len, k.len], fun i a e => ?_⟩
  rw [List.getElem?_append] at e
  rw [List.getElem?_append, h.len]
  split at e
  · rename_i hi
    rw [if_pos hi]
    exact h.at_ i a e
  · rename_i hi
    rw [if_neg hi]
    exact k.at_ _ a e
theorem Rw.one {α : Type} {f : α → List V} {H : Hp} {l : Addr} {a : α} (h : H l = some (.tup (f a))) : Rw f H [.ref l] [a] := ⟨rfl, fun i b e => by
  cases i with
  | zero =>
    simp at e
    subst e
    exact ⟨l, rfl, h⟩
  | succ n => simp at e⟩
def Kt (H H' : Hp) : Prop := ∀ b ys, H b = some (.tup ys) → H' b = some (.tup ys)
theorem Kt.refl (H : Hp) : Kt H H := fun _ _ h => h
theorem Kt.trans {H H1 H2 : Hp} (a : Kt H H1) (b : Kt H1 H2) : Kt H H2 := fun c ys h => b c ys (a c ys h)
theorem Kt.same {H H' : Hp} (a : Same H H') : Kt H H' := fun c ys h => a c _ h
theorem Kt.new {H : Hp} {p : Addr} {o : HO} (h : H p = none) : Kt H (upd H p o) := fun b ys e => keep_new h e
theorem Kt.lst {H : Hp} {p : Addr} {o : HO} {xs : List V} (h : H p = some (.lst xs)) : Kt H (upd H p o) := fun b ys e => keep_ne (fun z => by subst z; rw [h] at e; cases e) e
theorem Kt.fr {H H' : Hp} {S : List Addr} (a : Fr S H H') (h : ∀ p ∈ S, ∀ ys, H p ≠ some (.tup ys)) : Kt H H' := fun b ys e => a b _ e fun z => h b z ys e
theorem Rw.kt {α : Type} {f : α → List V} {H H' : Hp} {vs : List V} {as : List α} (h : Rw f H vs as) (k : Kt H H') : Rw f H' vs as := ⟨h.len, fun i a e => let ⟨l, h1, h2⟩ := h.at_ i a e; ⟨l, h1, k _ _ h2⟩⟩
theorem Rw.get {α : Type} {f : α → List V} {H : Hp} {vs : List V} {as : List α} {i : Nat} {x : V} (h : Rw f H vs as) (e : vs[i]? = some x) : ∃ a l, as[i]? = some a ∧ x = .ref l ∧ H l = some (.tup (f a)) := by
  have hi := (List.getElem?_eq_some_iff.mp e).1
  rw [h.len] at hi
  obtain ⟨l, h1, h2⟩ := h.at_ i as[i] (by simp [hi])
  rw [e] at h1
  cases h1
  exact ⟨_, l, by simp [hi], rfl, h2⟩
theorem Rw.take {α : Type} {f : α → List V} {H : Hp} {vs : List V} {as : List α} {i : Nat} {l : Addr} {a : α} (h : Rw f H vs (as.take i)) (e : as[i]? = some a) (k : H l = some (.tup (f a))) : Rw f H (vs ++ [.ref l]) (as.take (i + 1)) := by
  rw [List.take_add_one, e]
  exact h.app (Rw.one k)
theorem lcRw {α : Type} {f : α → List V} {as : List α} {J : It} {P : Hp → Prop} {xs : List V} {n : Nat} {te : TE} {vs : List Nat} {σ : St} {H1 : Hp} {QD : Addr → Hp → Prop} (w : Walks J P xs) (hlen : xs.length = as.length) (hz : as.length ≤ 1000000) (hP : ∀ H', Same H1 H' → P H')
    (hs : ∀ (i : Nat) x a H' Q', xs[i]? = some x → as[i]? = some a → Same H1 H' → (∀ l, H' l = none → Q' (V.ref l) (upd H' l (.tup (f a)))) → wipe ((wipe σ vs).set n (some x)) vs = wipe σ vs ∧ te ((wipe σ vs).set n (some x)) H' Q')
    (k : ∀ D ys H', H1 D = none → H' D = some (.lst ys) → Rw f H' ys as → Same H1 H' → QD D H') : LcBody J (gName n) tYes te vs σ H1 QD := by
  refine lcW w fun D hD => ?_
  refine ⟨fun i H' => ∃ ys, H' D = some (.lst ys) ∧ Rw f H' ys (as.take i) ∧ Same H1 H', ⟨[], upd_same, by rw [List.take_zero]; exact Rw.nil, same_new (Same.refl _) hD⟩, fun i H' _ ⟨_, _, _, s⟩ => hP _ s, ?_, ?_⟩
  · rintro i x H' hx ⟨ys, h1, h2, h3⟩
    have hi : i < as.length := by
      rw [← hlen]
      exact (List.getElem?_eq_some_iff.mp hx).1
    have ha : as[i]? = some as[i] := by simp [hi]
    obtain ⟨z1, z2⟩ := hs i x _ H' (fun y H4 => ∃ acc, H4 D = some (.lst acc) ∧ acc.length < sizeLine ∧ ∃ ys, (upd H4 D (.lst (acc ++ [y]))) D = some (.lst ys) ∧ Rw f (upd H4 D (.lst (acc ++ [y]))) ys (as.take (i + 1)) ∧ Same H1 (upd H4 D (.lst (acc ++ [y])))) hx ha h3 (fun l hl => by
      have e1 : (upd H' l (.tup (f as[i]))) D = some (.lst ys) := keep_new hl h1
      refine ⟨ys, e1, ?_, _, upd_same, ?_, ?_⟩
      · rw [h2.len, List.length_take, sizeLine_eq]
        omega
      · refine Rw.take (h2.kt ((Kt.new hl).trans (Kt.lst e1))) ha ?_
        exact (Kt.lst e1) _ _ upd_same
      · exact same_loc (same_new h3 hl) hD)
    exact ⟨z1, ⟨fun _ => z2, fun e => (nomatch e)⟩⟩
  · rintro H' ⟨ys, h1, h2, h3⟩
    rw [hlen, List.take_length] at h2
    exact k D ys H' hD h1 h2 h3
theorem lcVal {ws : List V} {J : It} {P : Hp → Prop} {xs : List V} {n : Nat} {te : TE} {vs : List Nat} {σ : St} {H1 : Hp} {QD : Addr → Hp → Prop} (w : Walks J P xs) (hlen : xs.length = ws.length) (hz : ws.length ≤ 1000000) (hP : ∀ H', Same H1 H' → P H')
    (hs : ∀ (i : Nat) x y H' Q', xs[i]? = some x → ws[i]? = some y → Same H1 H' → Q' y H' → wipe ((wipe σ vs).set n (some x)) vs = wipe σ vs ∧ te ((wipe σ vs).set n (some x)) H' Q')
    (k : ∀ D H', H1 D = none → H' D = some (.lst ws) → Same H1 H' → QD D H') : LcBody J (gName n) tYes te vs σ H1 QD := by
  refine lcW w fun D hD => ?_
  refine ⟨fun i H' => H' D = some (.lst (ws.take i)) ∧ Same H1 H', ⟨upd_same, same_new (Same.refl _) hD⟩, fun i H' _ ⟨_, s⟩ => hP _ s, ?_, ?_⟩
  · rintro i x H' hx ⟨h1, h3⟩
    have hi : i < ws.length := by
      rw [← hlen]
      exact (List.getElem?_eq_some_iff.mp hx).1
    have ha : ws[i]? = some ws[i] := by simp [hi]
    obtain ⟨z1, z2⟩ := hs i x _ H' (fun y H4 => ∃ acc, H4 D = some (.lst acc) ∧ acc.length < sizeLine ∧ (upd H4 D (.lst (acc ++ [y]))) D = some (.lst (ws.take (i + 1))) ∧ Same H1 (upd H4 D (.lst (acc ++ [y])))) hx ha h3
      ⟨_, h1, by rw [List.length_take, sizeLine_eq]; omega, by rw [upd_same, List.take_add_one, ha]; rfl, same_loc h3 hD⟩
    exact ⟨z1, ⟨fun _ => z2, fun e => (nomatch e)⟩⟩
  · rintro H' ⟨h1, h3⟩
    rw [hlen, List.take_length] at h1
    exact k D H' hD h1 h3
theorem foldl_take {α β : Type} {f : β → α → β} {b : β} {as : List α} {i : Nat} {a : α} (h : as[i]? = some a) : (as.take (i + 1)).foldl f b = f ((as.take i).foldl f b) a := by
  rw [List.take_add_one, h]
  simp
theorem rgV_get {lo : Int} {n i : Nat} {x : V} (h : (rgV lo n)[i]? = some x) : i < n ∧ x = .int (lo + (i : Int)) := by
  rw [List.getElem?_map] at h
  by_cases hi : i < n
  · rw [List.getElem?_range hi] at h
    exact ⟨hi, (Option.some.inj h).symm⟩
  · rw [List.getElem?_eq_none (by simp; omega)] at h
    cases h
theorem rgV_len {lo : Int} {n : Nat} : (rgV lo n).length = n := by simp
theorem chV_get {l : List Nat} {i : Nat} {x : V} (h : (chV l)[i]? = some x) : ∃ c, l[i]? = some c ∧ x = .str (S [c]) := by
  rw [List.getElem?_map] at h
  cases e : l[i]? with
  | none => rw [e] at h; cases h
  | some c => rw [e] at h; exact ⟨c, rfl, (Option.some.inj h).symm⟩
theorem chV_len {l : List Nat} : (chV l).length = l.length := by simp
def toD : V → PyData
  | .int i => .int i
  | .str s => .str s
  | .bl b => .bool b
  | _ => .none
def isSc : V → Bool
  | .int _ => true
  | .str _ => true
  | .bl _ => true
  | .non => true
  | _ => false
section
variable {K : PySem.W.Frag} {H : Hp} {QB : Hp → Prop}
theorem dp_sc {v : V} (h : isSc v = true) : Dp K H v (toD v) := by
  cases v with
  | int i => exact .int i
  | str s => exact .str s
  | bl b => exact .bl b
  | non => exact .non
  | _ => cases h
theorem dle_sc {v : V} : ∀ n, dle n (toD v) := by
  intro n
  cases n <;> cases v <;> trivial
theorem dpAll_sc : ∀ {vs : List V}, vs.all isSc = true → DpAll K H vs (vs.map toD)
  | [], _ => .nil
  | v :: vs, h => by
    rw [List.all_cons, Bool.and_eq_true] at h
    exact .cons (dp_sc h.1) (dpAll_sc h.2)
theorem dp_tup {l : Addr} {vs : List V} (h : H l = some (.tup vs)) (hs : vs.all isSc = true) : Dp K H (.ref l) (.tuple (vs.map toD)) := .tup (SqT.of h) (dpAll_sc hs)
theorem dle_tup {vs : List V} (hl : vs.length ≤ 1000) (n : Nat) : dle (n + 1) (.tuple (vs.map toD)) := ⟨by rw [List.length_map]; omega, fun d hd => by
  obtain ⟨v, _, rfl⟩ := List.mem_map.mp hd
  exact dle_sc n⟩
theorem rw_dp {α : Type} {f : α → List V} : ∀ {vs : List V} {as : List α}, Rw f H vs as → (∀ a, (f a).all isSc = true) → DpAll K H vs (as.map fun a => .tuple ((f a).map toD))
  | [], [], _, _ => .nil
  | [], _ :: _, h, _ => by have := h.len; simp at this
  | _ :: _, [], h, _ => by have := h.len; simp at this
  | v :: vs, a :: as, h, hs => by
    obtain ⟨l, h1, h2⟩ := h.at_ 0 a rfl
    cases Option.some.inj h1
    exact .cons (dp_tup h2 (hs a)) (rw_dp ⟨by have := h.len; simpa using this, fun i b e => h.at_ (i + 1) b e⟩ hs)
theorem dle_rows {α : Type} {f : α → List V} {as : List α} (hl : as.length ≤ 100000) (hf : ∀ a, (f a).length ≤ 1000) (n : Nat) : dle (n + 2) (.tuple (as.map fun a => .tuple ((f a).map toD))) ∧ dle (n + 2) (.list (as.map fun a => .tuple ((f a).map toD))) := by
  have : ∀ d ∈ as.map (fun a => PyData.tuple ((f a).map toD)), dle (n + 1) d := fun d hd => by
    obtain ⟨a, _, rfl⟩ := List.mem_map.mp hd
    exact dle_tup (hf a) n
  exact ⟨⟨by rw [List.length_map]; omega, this⟩, ⟨by rw [List.length_map]; omega, this⟩⟩
def SmB (K : PySem.W.Frag) (n : Nat) (x y : V) (H : Hp) (QB : Hp → Prop) : Prop := ∃ d m, n = m + 1 ∧ dle m d ∧ Dp K H x d ∧ Dp K H y d ∧ ∀ H', Same H H' → QB H'
theorem sm_of {n : Nat} {x y : V} (d : PyData) (hd : dle n d) (h1 : Dp K H x d) (h2 : Dp K H y d) (k : ∀ H', Same H H' → QB H') : SmB K (n + 1) x y H QB := ⟨d, n, rfl, hd, h1, h2, k⟩
theorem sm_sc {n : Nat} {v : V} (h : isSc v = true) (k : ∀ H', Same H H' → QB H') : SmB K (n + 1) v v H QB := ⟨toD v, n, rfl, dle_sc n, dp_sc h, dp_sc h, k⟩
theorem sm_tup {n : Nat} {l l' : Addr} {vs : List V} (h : H l = some (.tup vs)) (h' : H l' = some (.tup vs)) (hs : vs.all isSc = true) (hl : vs.length ≤ 1000) (k : ∀ H', Same H H' → QB H') : SmB K (n + 2) (.ref l) (.ref l') H QB :=
  ⟨_, n + 1, rfl, dle_tup hl n, dp_tup h hs, dp_tup h' hs, k⟩
theorem sm_rowsT {α : Type} {f : α → List V} {n : Nat} {a b : Addr} {xs ys : List V} {as : List α} (h : SqT K H a xs) (r : Rw f H xs as) (h' : SqT K H b ys) (r' : Rw f H ys as) (hs : ∀ a, (f a).all isSc = true) (hl : as.length ≤ 100000) (hf : ∀ a, (f a).length ≤ 1000) (k : ∀ H', Same H H' → QB H') : SmB K (n + 3) (.ref a) (.ref b) H QB :=
  ⟨_, n + 2, rfl, (dle_rows hl hf n).1, .tup h (rw_dp r hs), .tup h' (rw_dp r' hs), k⟩
theorem sm_rowsL {α : Type} {f : α → List V} {n : Nat} {a b : Addr} {xs ys : List V} {as : List α} (h : SqL K H a xs) (r : Rw f H xs as) (h' : SqL K H b ys) (r' : Rw f H ys as) (hs : ∀ a, (f a).all isSc = true) (hl : as.length ≤ 100000) (hf : ∀ a, (f a).length ≤ 1000) (k : ∀ H', Same H H' → QB H') : SmB K (n + 3) (.ref a) (.ref b) H QB :=
  ⟨_, n + 2, rfl, (dle_rows hl hf n).2, .lst h (rw_dp r hs), .lst h' (rw_dp r' hs), k⟩
end
end Co
end

section
set_option maxHeartbeats 4000000
namespace Co
open PySem PySem.Spec PyProof.Rows L2
theorem meets_enumB1 {v : Value} {o : Obj} {H : Heap → Prop} (B : Begins v o H) :
    Meets (Builtin.«enumerate.__new__» ⟨[.type "enumerate", v], []⟩) (fun _ R s => H s.heap ∧
      R (.ok (.ret (.ref (s.heap.push o).objs.size))) { s with heap := (s.heap.push o).push { cls := .type "enumerate", data := .fields #[.none, .bool false, .ref s.heap.objs.size, rawInt 0, .none, .none] } }) :=
  .of_wp fun prog w A R s h => by
    obtain ⟨hp, g, d, tk, os⟩ := s; obtain ⟨h1, h⟩ := h
    have hsub := sub_enumerate
    have q1 : ∀ {A' : Around} {E : Value → Shared → Prop} {Q : Value → Shared → Prop}, Q (.ref hp.objs.size) ⟨hp.push o, g, d, tk, os⟩ → wpAny (model prog w) A' (pyIter v) Q E ⟨hp, g, d, tk, os⟩ :=
      fun q => B.iter prog w _ _ ⟨hp, g, d, tk, os⟩ _ h1 q
    wp_walk using q1
    refine wpAny_stack_any fun st => wpAny_pure ?_
    split
    · rename_i c _ _ _ _ _
      cases (c == Value.type "enumerate")
      · wp_walk using q1
        exact ⟨_, rfl, h⟩
      · wp_walk using q1
        exact ⟨_, rfl, h⟩
    · wp_walk using q1
      exact ⟨_, rfl, h⟩
section
variable {prog : Program} {w : World} {A : Around} {E : Value → Shared → Prop} {s : Shared}
theorem enum_beginsB1 {v : Value} {o : Obj} {H : Heap → Prop} {Q : Value → Shared → Prop} (B : Begins v o H) (h1 : H s.heap)
    (h : ∀ h', IsEnum h' (s.heap.objs.size + 1) s.heap.objs.size 0 .none → h'.get? s.heap.objs.size = some o → h'.objs.size = s.heap.objs.size + 2 →
      (∀ b o, s.heap.get? b = some o → h'.get? b = some o) → Q (.ref (s.heap.objs.size + 1)) { s with heap := h' }) :
    wpAny (model prog w) A (call (.type "enumerate") [v]) Q E s := by
  refine callType_new F.called_enumerate (by decide) (F.typeCall_enumerate_1 _) (F.newCall_enumerate_1 _) (fun obj => F.args_object_init_2 obj _) F.entry_enumerate_new
    (meets_enumB1 B) ⟨h1, ?_⟩
  have hz : (s.heap.push o).objs.size = s.heap.objs.size + 1 := Heap.size_push ..
  show _ ∧ _
  rw [hz]
  have he : IsEnum ((s.heap.push o).push { cls := .type "enumerate", data := .fields #[.none, .bool false, .ref s.heap.objs.size, rawInt 0, .none, .none] }) (s.heap.objs.size + 1) s.heap.objs.size 0 .none := by
    have := Heap.get?_push_size (s.heap.push o) (o := { cls := .type "enumerate", data := .fields #[.none, .bool false, .ref s.heap.objs.size, rawInt 0, .none, .none] }) rfl
    rw [hz] at this; exact this
  refine ⟨⟨_, he, rfl⟩, h _ he (Heap.get?_push_of_some _ (Heap.get?_push_size _ B.free)) (by rw [Heap.size_push, hz]) fun b o x => Heap.get?_push_of_some _ (Heap.get?_push_of_some _ x)⟩
theorem enumT_end {e it l : Addr} {i : Nat} {items : Array Value} {old : Value} {Q : Option Value → Shared → Prop} (hh : A.handled = none)
    (he : IsEnum s.heap e it i old) (hit : s.heap.IsTupleIter it l i) (hl : s.heap.IsTuple l items) (hx : items[i]? = none)
    (hQ : ∀ h', Heap.ExtBut it s.heap h' → Q none { s with heap := h' }) : wpAny (model prog w) A (pyNext (.ref e)) Q E s := by
  have hT : s.TypeIs (.ref e) "enumerate" := ⟨_, he, rfl⟩
  unfold pyNext
  refine wpAny_bind (wpAny_attempt (wpAny_callSpecial?_slot (name := Str.ofString "__next__") hT F.slot_enumerate_next
    (wpAny_call_entry F.slot_enumerate_next hT F.entry_enumerate_next ?_ (F.args_enumerate_next_1 _))))
  show wpAny _ _ (field (.ref e) 2 >>= _) _ _ _
  refine wpAny_bind (wpAny_field he rfl (x := .ref it) rfl ?_)
  refine wpAny_bind (wpAny_nextOf_tuple_end hh hit hl hx fun h' x he' hx' => ?_)
  obtain ⟨o, ho, hc⟩ := hx'
  refine wpAny_bind (wpAny_isInstance (T := "StopIteration") (b := true) ⟨o, ho, hc⟩ isSubtype_stop ?_)
  exact wpAny_pure (hQ _ he')
end
def IteT (K : PySem.W.Frag) (a : Addr) : It :=
  ⟨fun i H => ∃ (xs : List V) (x : V), SqT K H a xs ∧ xs[i]? = some x, fun i H v H' => ∃ T x, v = .ref T ∧ H T = none ∧ H' = upd H T (.tup [.int (i : Nat), x]) ∧ ∀ xs, SqT K H a xs → xs[i]? = some x, fun i H => ∃ xs : List V, SqT K H a xs ∧ xs.length ≤ i⟩
theorem turn_enumT {P : Program} {w : World} {K : PySem.W.Frag} {elts : List Expr} {kk : Nat} {tpos : Pos} (a e it : Addr) :
    Turn P w K (.Tuple elts kk tpos) (IteT K a) [e, it] e (fun i h => (∃ old, IsEnum h e it ((i : Nat) : Int) old) ∧ h.IsTupleIter it a i ∧ e ≠ it ∧ e ≠ a ∧ a ≠ it) where
  mem := by simp
  obj := fun i h st b hb => by
    obtain ⟨⟨old, he⟩, ⟨o, ho, hc, hd⟩, _⟩ := st
    have e' : b = e ∨ b = it := by simpa using hb
    rcases e' with z | z
    · rw [z]; exact ⟨_, he, fun v q => nomatch q⟩
    · rw [z]; exact ⟨o, ho, fun v q => by rw [hd] at q; cases q⟩
  keep := fun i h h' st k => let ⟨⟨old, he⟩, hi, hne⟩ := st; ⟨⟨old, k e (by simp) _ he⟩, hi.at fun o q => k it (by simp) o q, hne⟩
  item := by
    intro X hP hw hK hc i pins s σ H E I hf st hg
    subst hP hw hK
    obtain ⟨⟨old, he⟩, hit, hne, hea, hai⟩ := st
    obtain ⟨xs, x, hq, hx⟩ := hg
    obtain ⟨its, rv, p, hz⟩ := I.tuple hq
    have p : s.heap.IsTuple a its.toArray := p
    obtain ⟨u, hu, ru⟩ := rv.get hx
    have hel : e < s.heap.objs.size := Heap.lt_size he
    have hil : it < s.heap.objs.size := by obtain ⟨_, q, _⟩ := hit; exact Heap.lt_size q
    have hlt : i < its.toArray.size := by
      have := (List.getElem?_eq_some_iff.mp hu).1
      simpa using this
    refine wpAny_pyNext_enum_itemD (Draws.tuple (A := X.A.in1) (I.ok.hd hc) it a hai its.toArray) he ⟨hit, p⟩ hlt hne (by simp [hne, hea]) fun x' h' tk hx' ho hst hT hsz hk => ?_
    have ex : x' = u := by
      have : its.toArray[i]? = some u := by simpa using hu
      rw [this] at hx'
      exact (Option.some.inj hx').symm
    subst ex
    obtain ⟨hit', -⟩ := hst
    refine ⟨_, rfl, wpAny_letOwnedTupleGo_enum (s := { s with heap := h', toks := tk + 1 }) ho fun h'' he' sb => ?_⟩
    have hT2 : h''.get? s.heap.objs.size = some { cls := .type "tuple", data := .seq #[.int i tk, x'] } := (sb.2 _ (Nat.ne_of_gt hel)).trans hT
    have new : ObjOk X.prog X.w (upd H s.heap.objs.size (.tup [.int (i : Nat), x])) h'' s.heap.objs.size (.tup [.int (i : Nat), x]) :=
      ⟨by show 2 ≤ sizeLine; decide, [.int i tk, x'], .cons ⟨_, rfl⟩ (.cons ru .nil), ⟨_, hT2, rfl, _, rfl⟩⟩
    have I1 : Inv X pins σ (upd H s.heap.objs.size (.tup [.int (i : Nat), x])) { s with heap := h'', toks := tk + 1 } :=
      I.turnedNew (ch := [e, it]) (fun b ob hb q => (sb.2 b (fun z => hb (by simp [z]))).trans (hk b ob (fun z => hb (by simp [z])) (fun z => hb (by simp [z])) q)) hf (Nat.le_refl _) new
    refine ⟨.ref s.heap.objs.size, _, I1, rfl, ⟨_, x, rfl, I.hok.fresh (Nat.le_refl _), rfl, fun ys hy => by rw [I.tuple_inj hy hq]; exact hx⟩, ⟨⟨x', ?_⟩, hit'.at fun o q => (sb.2 it (Ne.symm hne)).trans q, hne, hea, hai⟩, fun b hb => ?_⟩
    · have e1 : ((i + 1 : Nat) : Int) = (i : Int) + 1 := by omega
      rw [e1]; exact he'
    · have hb' : b < s.heap.objs.size := by
        have e' : b = e ∨ b = it := by simpa using hb
        rcases e' with z | z
        · rw [z]; exact hel
        · rw [z]; exact hil
      rw [upd_ne (Nat.ne_of_lt hb')]
      exact (hf b hb).1
  done := by
    intro X hP hw hK hc i pins s σ H E I hf st hg
    subst hP hw hK
    obtain ⟨⟨old, he⟩, hit, hne, hea, hai⟩ := st
    obtain ⟨xs, hq, hx⟩ := hg
    obtain ⟨its, rv, p, hz⟩ := I.tuple hq
    have p : s.heap.IsTuple a its.toArray := p
    obtain ⟨f0, f1, f2, f3, f4, f5⟩ := hf it (by simp)
    have hl := rv.length
    exact enumT_end (I.ok.hd hc) he hit p (by simp; omega) fun h' eb => ⟨rfl, I.turned (t' := s.toks) (fun b o hb q => eb b o hb q) f0 f1 f3 f4 f5⟩
  self := fun A i s Q E st h => let ⟨⟨_, he⟩, _⟩ := st; wpAny_pyIter_enum he h
def iEnumA (K : PySem.W.Frag) (ta : TA) : TI := fun σ H R => ta σ H fun vs H1 => ∃ a, vs = [.ref a] ∧ (((∃ xs, SqL K H1 a xs) ∧ R (Ite K a) H1) ∨ ((∃ xs, SqT K H1 a xs) ∧ R (IteT K a) H1))
theorem pi_enumA {X : Cx} {e : Expr} {ta : TA} {p pos tpos : Pos} {elts : List Expr} {kk : Nat} (hg : Gl X "enumerate") (hm : X.mg "enumerate" = none) (ha : PA X [e] ta) (hs : starEach [e] X.env = [(false, eval e X.env)] := by rfl) :
    PI X (.Tuple elts kk tpos) (.Call (.Name "enumerate" p) [e] [] pos) (iEnumA X.K ta) := by
  refine ⟨fun pins s σ H R I h => ?_⟩
  refine Call_ (ld_blt I hg hm boot_enumerate (PyProof.Rows.callWith_type1 (thn (ha.run pos pins s σ H _ I h) fun us s1 ⟨vs, H1, I1, r1, q1⟩ => ?_) hs rfl))
  obtain ⟨a, ex, q⟩ := q1
  subst ex
  cases r1 with
  | cons r rr =>
    cases rr
    cases r
    rcases q with ⟨⟨xs, hq⟩, q⟩ | ⟨⟨xs, hq⟩, q⟩
    · obtain ⟨its, rv, p', hz⟩ := I1.list hq
      refine call_enumerate_list p'.isList fun h' he hit hsz hk => wpAny_pyIter_enum he ?_
      have I2 : Inv X pins σ H1 { s1 with heap := h' } := I1.kept (t' := s1.toks) hk
      refine ⟨s1.heap.objs.size + 1, [s1.heap.objs.size + 1, s1.heap.objs.size], _, _, H1, rfl, I2, turn_enum a (s1.heap.objs.size + 1) s1.heap.objs.size, ⟨⟨.none, he⟩, hit, Nat.succ_ne_self _⟩, fun b hb => ?_, q⟩
      have e' : b = s1.heap.objs.size + 1 ∨ b = s1.heap.objs.size := by simpa using hb
      have hle : s1.heap.objs.size ≤ b := by
        rcases e' with z | z
        · rw [z]; exact Nat.le_add_right _ _
        · rw [z]; exact Nat.le_refl _
      exact I1.fpOk hle (I1.hok.fresh hle)
    · obtain ⟨its, rv, p', hz⟩ := I1.tuple hq
      have p' : s1.heap.IsTuple a its.toArray := p'
      have hal : a < s1.heap.objs.size := by obtain ⟨_, q, _⟩ := p'; exact Heap.lt_size q
      refine enum_beginsB1 (begins_tuple a its.toArray) p' fun h' he hit hsz hk => wpAny_pyIter_enum he ?_
      have I2 : Inv X pins σ H1 { s1 with heap := h' } := I1.kept (t' := s1.toks) hk
      refine ⟨s1.heap.objs.size + 1, [s1.heap.objs.size + 1, s1.heap.objs.size], _, _, H1, rfl, I2, turn_enumT a (s1.heap.objs.size + 1) s1.heap.objs.size, ⟨⟨.none, he⟩, ⟨_, hit, rfl, rfl⟩, Nat.succ_ne_self _, Nat.ne_of_gt (Nat.lt_succ_of_lt hal), Nat.ne_of_lt hal⟩, fun b hb => ?_, q⟩
      have e' : b = s1.heap.objs.size + 1 ∨ b = s1.heap.objs.size := by simpa using hb
      have hle : s1.heap.objs.size ≤ b := by
        rcases e' with z | z
        · rw [z]; exact Nat.le_add_right _ _
        · rw [z]; exact Nat.le_refl _
      exact I1.fpOk hle (I1.hok.fresh hle)
section
variable {X : Cx} {a b c d : Expr} {ta tb tc td : TE} {pos : Pos}
def uChain3 (r r' r'' : R2) (ta tb tc td : TE) : TE := fun σ H Q => ta σ H fun x H1 => tb σ H1 fun y H2 => r x y H2 fun z H3 => bv z fun k => two k
  (tc σ H3 fun w H4 => r' y w H4 fun z2 H5 => bv z2 fun k2 => two k2 (td σ H5 fun v H6 => r'' w v H6 Q) (Q (.bl false) H5)) (Q (.bl false) H3)
theorem bv_ex {x : V} {k : Bool → Prop} (h : bv x k) : ∃ c, x = .bl c ∧ k c := by
  unfold bv at h
  split at h
  · exact ⟨_, rfl, h⟩
  · exact h.elim
theorem t_chain3 {op op' op'' : CmpOp} {r r' r'' : R2} (ho : OpR X (compareOp op) r) (ho' : OpR X (compareOp op') r') (ho'' : OpR X (compareOp op'') r'') (ha : PE X a ta) (hb : PE X b tb) (hc : PE X c tc) (hd : PE X d td)
    (hm : lastMarks [op, op', op''] [b, c, d] = false := by with_unfolding_all rfl) : PT X (.Compare a [op, op', op''] [b, c, d] pos) (tBo (uChain3 r r' r'' ta tb tc td)) := by
  refine ⟨fun pins s σ H Q I h => ?_⟩
  refine isTrue_chain (thn (ha.run pins s σ H _ I h) fun v s1 ⟨x, H1, I1, r1, q1⟩ => test_link (thn (hb.run pins s1 σ H1 _ I1 q1) fun u s2 ⟨y, H2, I2, r2, q2⟩ =>
    thn (ho pins s2 σ H2 x y v u _ I2 r1 r2 q2) fun d s3 ⟨z, H3, I3, r3, q3⟩ => ?_)) hm
  obtain ⟨k, e, q3⟩ := bv_ex q3
  subst e
  cases r3
  refine wpAny_truthy_bool ?_
  cases k with
  | false => exact ite_ff ⟨H3, I3, q3.2 rfl⟩
  | true =>
    refine ite_tt (test_link (thn (hc.run pins s3 σ H3 _ I3 (q3.1 rfl)) fun w' s4 ⟨w, H4, I4, r4, q4⟩ => thn (ho' pins s4 σ H4 y w u w' _ I4 r2 r4 q4) fun d' s5 ⟨z2, H5, I5, r5, q5⟩ => ?_))
    obtain ⟨k2, e2, q5⟩ := bv_ex q5
    subst e2
    cases r5
    refine wpAny_truthy_bool ?_
    cases k2 with
    | false => exact ite_ff ⟨H5, I5, q5.2 rfl⟩
    | true =>
      refine ite_tt (test_last (thn (hd.run pins s5 σ H5 _ I5 (q5.1 rfl)) fun v' s6 ⟨v2, H6, I6, r6, q6⟩ => thn (ho'' pins s6 σ H6 w v2 w' v' _ I6 r4 r6 q6) fun d2 s7 ⟨z3, H7, I7, r7, q7⟩ => ?_))
      have q7 : bv z3 fun k => Q k H7 := by
        cases z3 <;> exact q7
      obtain ⟨k3, e3, q7⟩ := bv_ex q7
      subst e3
      cases r7
      exact wpAny_truthy_bool ⟨H7, I7, q7⟩
end
theorem yesD {p : Prop} [Decidable p] {T E : Prop} (h : p) (k : T) : two (decide p) T E := oneD (fun _ => k) fun n => absurd h n
theorem noD {p : Prop} [Decidable p] {T E : Prop} (h : ¬ p) (k : E) : two (decide p) T E := oneD (fun n => absurd n h) fun _ => k
theorem notY {p : Prop} [Decidable p] {T E : Prop} (h : p) (k : E) : two (!decide p) T E := notD (fun n => absurd h n) fun _ => k
theorem notN {p : Prop} [Decidable p] {T E : Prop} (h : ¬ p) (k : T) : two (!decide p) T E := notD (fun _ => k) fun n => absurd n h
theorem andN {p q : Prop} [Decidable p] [Decidable q] {T E : Prop} (h : ¬ (p ∧ q)) (k : E) : two (decide p) (two (decide q) T E) (two false T E) := andD (fun z => absurd z h) fun _ => k
theorem andY {p q : Prop} [Decidable p] [Decidable q] {T E : Prop} (h : p ∧ q) (k : T) : two (decide p) (two (decide q) T E) (two false T E) := andD (fun _ => k) fun z => absurd h z
theorem forEn {K : PySem.W.Frag} {a : Addr} {xs : List V} {g : TG} {tb : TS} {D : Ends} {σ : St} {H : Hp} (hq : SqA K H a xs) (Pv : Nat → St → Hp → Prop) (h0 : Pv 0 σ H) (hl : ∀ i σ H', i ≤ xs.length → Pv i σ H' → Same H H')
    (hs : ∀ (i : Nat) x σ H' T, xs[i]? = some x → Pv i σ H' → H' T = none → g (.ref T) σ (upd H' T (.tup [.int (i : Int), x])) fun σ2 H2 => tb { D with nx := Pv (i + 1), ct := Pv (i + 1), bk := D.nx } σ2 H2) (hd : ∀ σ H, Pv xs.length σ H → D.nx σ H) :
    tFor (iEnumA K (tCons (fun _ H Q => Q (.ref a) H) tNil)) g tb D σ H := by
  refine ⟨a, rfl, ?_⟩
  rcases hq with hq | hq
  · refine .inl ⟨⟨xs, hq⟩, fun i m σ H => m = xs.length - i ∧ i ≤ xs.length ∧ Pv i σ H, ⟨xs.length, by simp, Nat.zero_le _, h0⟩, ?_⟩
    rintro i m σ' H' ⟨rfl, hi, p⟩
    have q : SqL K H' a xs := (hl i σ' H' hi p).seq hq
    by_cases hlt : i < xs.length
    · refine .inr ⟨⟨xs, xs[i], q, by simp [hlt]⟩, Pv (i + 1), fun σ' H' p' => ⟨xs.length - (i + 1), by omega, rfl, hlt, p'⟩, fun x H2 y => ?_⟩
      obtain ⟨T, x', e1, e2, e3, e4⟩ := y
      subst e1 e3
      exact hs i x' σ' _ T (e4 xs q) p e2
    · have e : i = xs.length := by omega
      subst e
      exact .inl ⟨⟨xs, q, Nat.le_refl _⟩, hd σ' H' p⟩
  · refine .inr ⟨⟨xs, hq⟩, fun i m σ H => m = xs.length - i ∧ i ≤ xs.length ∧ Pv i σ H, ⟨xs.length, by simp, Nat.zero_le _, h0⟩, ?_⟩
    rintro i m σ' H' ⟨rfl, hi, p⟩
    have q : SqT K H' a xs := sqT_same (hl i σ' H' hi p) hq
    by_cases hlt : i < xs.length
    · refine .inr ⟨⟨xs, xs[i], q, by simp [hlt]⟩, Pv (i + 1), fun σ' H' p' => ⟨xs.length - (i + 1), by omega, rfl, hlt, p'⟩, fun x H2 y => ?_⟩
      obtain ⟨T, x', e1, e2, e3, e4⟩ := y
      subst e1 e3
      exact hs i x' σ' _ T (e4 xs q) p e2
    · have e : i = xs.length := by omega
      subst e
      exact .inl ⟨⟨xs, q, Nat.le_refl _⟩, hd σ' H' p⟩
theorem forS {K : PySem.W.Frag} {g : TG} {tb : TS} {D : Ends} {σ : St} {H H0 : Hp} {a : Addr} {xs : List V} (hq : SqA K H0 a xs) (Pv : Nat → St → Hp → Prop) (h0 : Pv 0 σ H) (hl : ∀ i σ H', i ≤ xs.length → Pv i σ H' → Same H0 H')
    (hs : ∀ (i : Nat) x σ H, xs[i]? = some x → Pv i σ H → g x σ H fun σ2 H2 => tb { D with nx := Pv (i + 1), ct := Pv (i + 1), bk := D.nx } σ2 H2) (hd : ∀ σ H, Pv xs.length σ H → D.nx σ H) : tFor (iSeq K (fun _ H Q => Q (.ref a) H)) g tb D σ H := by
  refine ⟨a, rfl, ?_⟩
  have e0 := hl 0 σ H (Nat.zero_le _) h0
  rcases hq with hq | hq
  · exact .inl ⟨⟨xs, e0.seq hq⟩, forW wk_list Pv h0 (fun i σ' H' hi p => (hl i σ' H' hi p).seq hq) hs hd⟩
  · exact .inr ⟨⟨xs, sqT_same e0 hq⟩, forW wk_tup Pv h0 (fun i σ' H' hi p => sqT_same (hl i σ' H' hi p) hq) hs hd⟩
end Co
end

section
set_option maxHeartbeats 4000000
namespace Co
open PySem PySem.Spec PyProof.Rows L2
def uDc (wi : TI) (g : TG) (tt : TT) (tk tv : TE) (vs : List Nat) : TE := fun σ H Q => wi σ H fun J H1 => ∀ D, H1 D = none → ∃ W : Nat → Nat → Hp → Prop, (∃ m, W 0 m (upd H1 D (.dK []))) ∧ ∀ i m H, W i m H →
  (J.stop i H ∧ Q (.ref D) H) ∨ (J.go i H ∧ ∃ Nx : Hp → Prop, (∀ H', Nx H' → ∃ m', m' < m ∧ W (i + 1) m' H') ∧ ∀ x H', J.yld i H x H' → g x (wipe σ vs) H' fun σ2 H2 => wipe σ2 vs = wipe σ vs ∧ tt σ2 H2 fun b H3 =>
    two b (tk σ2 H3 fun y H4 => tv σ2 H4 fun z H5 => ∃ kvs k, y = kV k ∧ H5 D = some (.dK kvs) ∧ kvs.length < sizeLine ∧ Nx (upd H5 D (.dK (putK kvs k z)))) (Nx H3))
theorem dc_eq {wi : TI} {g : TG} {tt : TT} {tk tv : TE} {vs : List Nat} : tDc wi g tt tk tv vs = uDc wi g tt tk tv vs := by
  unfold tDc uDc
  simp only [two_eq]
section
variable {X : Cx}
theorem e_dc {kx vx tg iter : Expr} {ifs : List Expr} {scope : Scope} {own : List (Str × Nat)} {pos : Pos} {wi : TI} {g : TG} {tt : TT} {tk tv : TE} (hc : X.calm = true) (hN : X.N.Nodup) (hi : PI X tg iter wi) (ok : BlkOk X.N X.env.scope scope own)
    (hg : ∀ (s : Shared) (H : Hp) (C : Addr) (cl : List (Str × Addr)) (fp : List Addr), PG (X.blk s H scope (compEnvC scope cl C X.env) fp) tg g) (ht : ∀ (s : Shared) (H : Hp) (C : Addr) (cl : List (Str × Addr)) (fp : List Addr), PTs (X.blk s H scope (compEnvC scope cl C X.env) fp) ifs tt)
    (hk : ∀ (s : Shared) (H : Hp) (C : Addr) (cl : List (Str × Addr)) (fp : List Addr), PE (X.blk s H scope (compEnvC scope cl C X.env) fp) kx tk)
    (he : ∀ (s : Shared) (H : Hp) (C : Addr) (cl : List (Str × Addr)) (fp : List Addr), PE (X.blk s H scope (compEnvC scope cl C X.env) fp) vx tv) (hs : ∀ x, foldedSetIterable iter X.env x = pure x := by intro _; rfl) :
    PE X (.DictComp kx vx [⟨tg, iter, ifs, 0⟩] scope pos) (uDc wi g tt tk tv (own.map (·.2))) := dc_eq ▸ pe_dc hc hN hi ok hg ht hk he hs
theorem sw_trueD {kx vx : Expr} {gs : List Comprehension} {scope : Scope} {pos py : Pos} {y : Str} {l : Nat} {env : Env} (hk : env.scope.kind = .function) (hy : env.scope.names.lookup y = some .local) (hl : (py.line == pos.line) = true)
    (ha : (scope.names.any fun (n, k) => n == y && (k == .local || k == .cell)) = false) : swapsWith (.DictComp kx vx gs scope pos) (some (.Name y py)) l env = pure true := by
  have ky : env.kindOf y = some .local := hy
  have hb : env.blockKind = .function := by unfold Env.blockKind; rw [hk]; rfl
  unfold swapsWith
  simp only [hb, ky, ha, Expr.pos, hl]
  rfl
theorem s_setDc {i : Nat} {y : Str} {py : Pos} {kx vx tg iter : Expr} {ifs : List Expr} {scope : Scope} {own : List (Str × Nat)} {pos spos : Pos} {wi : TI} {g : TG} {tt : TT} {tk tv : TE} (hc : X.calm = true) (hN : X.N.Nodup) (hy : X.N[i]? = some y) (hyl : X.env.scope.names.lookup y = some .local)
    (hsw : swapsWith (.DictComp kx vx [⟨tg, iter, ifs, 0⟩] scope pos) (some (.Name y py)) spos.line X.env = pure true) (hi : PI X tg iter wi) (ok : BlkOk X.N X.env.scope scope own)
    (hg : ∀ (s : Shared) (H : Hp) (C : Addr) (cl : List (Str × Addr)) (fp : List Addr), PG (X.blk s H scope (compEnvC scope cl C X.env) fp) tg g) (ht : ∀ (s : Shared) (H : Hp) (C : Addr) (cl : List (Str × Addr)) (fp : List Addr), PTs (X.blk s H scope (compEnvC scope cl C X.env) fp) ifs tt)
    (hk : ∀ (s : Shared) (H : Hp) (C : Addr) (cl : List (Str × Addr)) (fp : List Addr), PE (X.blk s H scope (compEnvC scope cl C X.env) fp) kx tk)
    (he : ∀ (s : Shared) (H : Hp) (C : Addr) (cl : List (Str × Addr)) (fp : List Addr), PE (X.blk s H scope (compEnvC scope cl C X.env) fp) vx tv) (hs : ∀ x, foldedSetIterable iter X.env x = pure x := by intro _; rfl) :
    PS X (.Assign [.Name y py] (.DictComp kx vx [⟨tg, iter, ifs, 0⟩] scope pos) spos) (tAsg (uDc wi g tt tk tv (own.map (·.2))) (gName i)) := by
  rw [← dc_eq]
  refine ⟨fun pins s σ H D I h => ?_⟩
  rw [exec_Assign_Name_used _ _ _ _ hsw]
  refine wpAny_bind (wpAny_standAt (wpAny_bind ?_))
  show wpAny _ X.A (do let _ ← comprehension (.DictComp kx vx [⟨tg, iter, ifs, 0⟩] scope pos) scope X.env (firstIterPos [⟨tg, iter, ifs, 0⟩] pos) newDict false (eval iter X.env) (some (assign (.Name y py) X.env))) _ _ s
  have h : tDc wi g tt tk tv (own.map (·.2)) σ H (fun x H1 => gName i x σ H1 D.nx) := h
  refine wpAny_bind (thn (dc_core (Qf := fun _ s' => SP X pins D .next s') hc hN I hi ok hg ht hk he hs h fun L C s' m H' I' q hn f => ?_) fun _ s' hq => wpAny_pure (wpAny_pure hq))
  show wpAny _ _ (assign (.Name y py) X.env (.ref L)) _ _ _
  refine wpAny_assign_Name (store_ok2 (v := V.ref L) I' hN hy (.inl hyl) rfl (fun s2 I2 ⟨a, sb, ha⟩ => ?_) (.inr hyl))
  obtain ⟨f0, f1, f2, f3, f4, f5⟩ := f
  have haC : C ≠ a := by
    rcases ha with z | z
    · rw [z]; exact f1
    · exact fun e => f4 y a z e.symm
  refine ⟨m, hn.sameBut sb haC, fun h3 sb3 => ?_⟩
  exact ⟨_, H', I2.turned (t' := s2.toks) (fun b o hb e => (sb3.2 b hb).trans e) f0 f1 f3 f4 f5, q⟩
end
def DcBody (J : It) (g : TG) (tt : TT) (tk tv : TE) (vs : List Nat) (σ : St) (H1 : Hp) (QD : Addr → Hp → Prop) : Prop :=
  ∀ D, H1 D = none → ∃ W : Nat → Nat → Hp → Prop, (∃ m, W 0 m (upd H1 D (.dK []))) ∧ ∀ i m H, W i m H →
  (J.stop i H ∧ QD D H) ∨ (J.go i H ∧ ∃ Nx : Hp → Prop, (∀ H', Nx H' → ∃ m', m' < m ∧ W (i + 1) m' H') ∧ ∀ x H', J.yld i H x H' → g x (wipe σ vs) H' fun σ2 H2 => wipe σ2 vs = wipe σ vs ∧ tt σ2 H2 fun b H3 =>
    two b (tk σ2 H3 fun y H4 => tv σ2 H4 fun z H5 => ∃ kvs k, y = kV k ∧ H5 D = some (.dK kvs) ∧ kvs.length < sizeLine ∧ Nx (upd H5 D (.dK (putK kvs k z)))) (Nx H3))
theorem dcW {J : It} {P : Hp → Prop} {xs : List V} {g : TG} {tt : TT} {tk tv : TE} {vs : List Nat} {σ : St} {H1 : Hp} {QD : Addr → Hp → Prop} (w : Walks J P xs) (h : ∀ D, H1 D = none → ∃ Pv : Nat → Hp → Prop, Pv 0 (upd H1 D (.dK [])) ∧ (∀ i H, i ≤ xs.length → Pv i H → P H) ∧
      (∀ (i : Nat) x H, xs[i]? = some x → Pv i H → g x (wipe σ vs) H fun σ2 H2 => wipe σ2 vs = wipe σ vs ∧ tt σ2 H2 fun b H3 => two b (tk σ2 H3 fun y H4 => tv σ2 H4 fun z H5 => ∃ kvs k, y = kV k ∧ H5 D = some (.dK kvs) ∧ kvs.length < sizeLine ∧ Pv (i + 1) (upd H5 D (.dK (putK kvs k z)))) (Pv (i + 1) H3)) ∧
      ∀ H, Pv xs.length H → QD D H) : DcBody J g tt tk tv vs σ H1 QD := by
  intro D hD
  obtain ⟨Pv, h0, hl, hs, hd⟩ := h D hD
  refine ⟨fun i m H => m = xs.length - i ∧ i ≤ xs.length ∧ Pv i H, ⟨xs.length, by simp, Nat.zero_le _, h0⟩, ?_⟩
  rintro i m H ⟨rfl, hi, p⟩
  have q := hl i H hi p
  by_cases hlt : i < xs.length
  · refine .inr ⟨w.go i H q hlt, Pv (i + 1), fun H' p' => ⟨xs.length - (i + 1), by omega, rfl, hlt, p'⟩, fun x H' y => ?_⟩
    obtain ⟨e, y2⟩ := w.yld i H x H' q hlt y
    subst e
    exact hs i x _ y2 p
  · have e : i = xs.length := by omega
    subst e
    exact .inl ⟨w.stop _ H q (Nat.le_refl _), hd H p⟩
theorem orDN {p q : Prop} [Decidable p] [Decidable q] {T E : Prop} (h : p ∨ ¬ q → T) (k : ¬ (p ∨ ¬ q) → E) : two (decide p) (two true T E) (two (!decide q) T E) :=
  oneD (fun a => twoT (h (.inl a))) fun a => notD (fun b => h (.inr b)) fun b => k fun z => z.elim a fun n => n b
theorem Rw.erase {α : Type} {f : α → List V} {H : Hp} {vs : List V} {as : List α} (h : Rw f H vs as) (k : Nat) : Rw f H (vs.eraseIdx k) (as.eraseIdx k) := by
  refine ⟨by rw [List.length_eraseIdx, List.length_eraseIdx, h.len], fun i a e => ?_⟩
  rw [List.getElem?_eraseIdx] at e
  rw [List.getElem?_eraseIdx]
  split at e
  · rename_i hi
    rw [if_pos hi]
    exact h.at_ i a e
  · rename_i hi
    rw [if_neg hi]
    exact h.at_ (i + 1) a e
end Co
end

section
set_option maxHeartbeats 4000000
namespace PySem.W
open PySem PySem.Spec PySem.Calls PyProof.Rows
section
variable {prog : Program} {w : World} {A : Around} {E : Value → Shared → Prop} {s : Shared} {K : Frag} {x D : Addr} {ox : Obj} {od : Option Obj}
theorem findObj_dataA {C : Addr} {name : Str} {a g : Value} (hc : (clsIn K C).isSome = true) (ha : findIn K (.ref C) name = some (some a)) (hg : specialIn K a "__get__" = some (some g)) (ht : takesIn K a = some true) : findObj K C od name = some (.bind g a) := by
  obtain ⟨cd, hc⟩ := Option.isSome_iff_exists.mp hc
  unfold findObj
  rw [hc, Option.bind_some, ha, Option.bind_some]
  simp [hg, ht]
theorem kin_classA {Q : Option Value → Shared → Prop} (C : L2.ExcC K D) (X : K.In s.heap) (I : InstAt s.heap x ox D od) (h : Q (some (.ref D)) { s with toks := s.toks + 1 }) : wpAny (model prog w) A (getAttr? (.ref x) "__class__") Q E s := by
  have hf : findObj K D od "__class__" = some (.bind (.builtin "getset_descriptor.__get__") (.builtin "object.__class__")) := findObj_dataA (by obtain ⟨cd, hc, _⟩ := any_some C.hd; rw [hc]; rfl) C.ha C.hn C.ht
  obtain ⟨hp, g, d, t, os⟩ := s
  have L0 := I.type (M := model prog w)
  have L1 := looks_findIn (M := model prog w) X C.hg
  have L2 := looks_findIn (M := model prog w) X C.hk
  have L3 := looks_find (M := model prog w) X I hf
  have sub : Looks (model prog w) hp (isInstance (.ref x) (.type "BaseException")) true := L0.andThen (looks_subIn X C.hs)
  have hx2 : (Value.builtin "BaseException.__getattribute__" == Value.builtin "object.__getattribute__") = false := by decide +kernel
  have hx1 : (onTheHeap (Value.ref D) && Value.builtin "BaseException.__getattribute__" == Value.builtin "object.__getattribute__") = false := by rw [hx2]; rfl
  unfold getAttr? getAttrBy? getAttrBy
  refine wpAny_bind (wpAny_mkText (wpAny_bind (wpAny_attempt (wpAny_holding (wpAny_bind (L0.at (wpAny_bind (L1.at ?_))))))))
  show wpAny _ _ (if (onTheHeap (Value.ref D) && Value.builtin "BaseException.__getattribute__" == Value.builtin "object.__getattribute__") = true then _ else _) _ _ _
  rw [hx1, if_neg Bool.false_ne_true]
  unfold getAttrByItsOwn hookBefore
  refine wpAny_bind ?_
  rw [if_pos (show onTheHeap (Value.ref D) = true from rfl)]
  refine L2.at ?_
  refine wpAny_bind (wpAny_attempt (wpAny_holding ?_))
  unfold callGetattribute
  rw [show (false && onTheHeap (Value.builtin "BaseException.__getattribute__")) = false from rfl, if_neg Bool.false_ne_true]
  unfold boundAndCalled
  rw [PySem.F.excAttr_ValueError.ga.bind (.ref x)]
  refine wpAny_bind (wpAny_pure ?_)
  show wpAny _ _ (call (.builtin "BaseException.__getattribute__") [.ref x, .str "__class__" t]) _ _ _
  refine wpAny_call (codeAny_call_builtin PySem.F.excAttr_ValueError.ga.plain PySem.F.entry_bexc_ga ?_)
  refine @check_slot (model prog w) _ _ ⟨hp, g, d, t + 1, os⟩ "BaseException.__getattribute__" "BaseException" "__getattribute__" (.ref x) [.str "__class__" t] [] _ (by decide +kernel) (by decide +kernel) sub (PySem.F.args_bexc_ga (.ref x) (.str "__class__" t)) ?_
  unfold Builtin.«object.__getattribute__»
  refine wpAny_bind (wpAny_of_eq (a := ((Value.ref x : Value), [Value.str "__class__" t])) (by first | rfl | (simp only [slotArgs]; rfl)) ?_)
  refine wpAny_bind (wpAny_pure (wpAny_bind (L0.at (wpAny_bind (L3.at ?_)))))
  show wpAny _ _ (holding [Value.builtin "object.__class__"] (call (.builtin "getset_descriptor.__get__") [.builtin "object.__class__", .ref x, .ref D]) >>= ret) _ _ _
  refine wpAny_bind (wpAny_holding (wpAny_call (class_get (s := ⟨hp, g, d, t + 1, os⟩) (ox := ox) (od := od) X I C.hm ?_)))
  refine wpAny_pure ?_
  show wpAny _ _ (handedOut (.ref D)) _ _ _
  rw [handedOut_of (v := .ref D) rfl]
  first
    | exact wpAny_pure (wpAny_pure h)
    | exact wpAny_pure h
    | exact wpAny_pure (wpAny_bind (wpAny_pure (wpAny_pure h)))
theorem kitx_excA (C : L2.ExcC K D) : KitX K (.ref x) (.ref D) (fun h => ∃ ox od, InstAt h x ox D od) where
  ty := fun _ _ _ ⟨_, _, I⟩ => I.type
  it := fun _ _ X _ => by
    obtain ⟨cdD, hcD, _⟩ := any_some C.hd
    unfold clsIn at hcD
    split at hcD
    · rename_i c' d' cd' sl' ho
      intro A' Q' E' s' k q
      unfold isType loadHead
      exact wpAny_bind (wpAny_loadPart (k _ _ (X _ _ ho)) (wpAny_pure q))
    · cases hcD
  ne := fun h tp dd its n sl X htp => by
    obtain ⟨cdD, hcD, _⟩ := any_some C.hd
    refine Bool.eq_false_iff.mpr fun q => ?_
    have e : D = tp := Value.ref.inj (beq_iff_eq.mp q)
    subst e
    unfold clsIn at hcD
    split at hcD
    · rename_i c' d' cd' sl' ho
      have z := (X _ _ ho).symm.trans htp
      cases z
    · cases hcD
  ca := fun X ⟨_, _, I⟩ k => kin_classA C X I k
end
end PySem.W
namespace Co
open PySem PySem.Spec PyProof.Rows L2
def rIsD (K : PySem.W.Frag) (D a : Addr) (cls : Value) (d : Option Addr) : List V → Hp → VK → Prop := fun xs H Q => ∃ (c : V) (cv : Value) (b : Bool) (dd : Addr) (fs : List (Str × V)), xs = [.ref a, c] ∧ cls = .ref D ∧ d = some dd ∧ H dd = some (.xd fs) ∧ (∀ u, RelV c u → u = cv) ∧ PySem.W.kitOne K (.ref D) cv = some b ∧ Q (.bl b) H
theorem call_isD {X : Cx} {a D : Addr} {oe : Obj} {cls : Value} {d : Option Addr} {pn : List (Addr × Obj)} (C : ExcC X.K D) (hz : Zc cls d oe) (hf : ∃ vs, oe.data = .fields vs) : CallR (X.suite a ((a, oe) :: pn)) (.builtin "isinstance") (rIsD X.K D a cls d) := by
  intro pins s σ H xs us Q I r h
  obtain ⟨c, cv, b, dd, fs, rfl, rfl, rfl, ed, hcv, e, q⟩ := h
  cases r with
  | cons rx rr =>
    cases rr with
    | cons rt rr =>
      cases rr
      cases rx
      have ec := hcv _ rt
      subst ec
      obtain ⟨hget, _⟩ := I.pin (a, oe) (List.mem_append.mpr (.inl List.mem_cons_self))
      obtain ⟨vs, hv⟩ := hf
      have hx : ObjOk X.prog X.w H s.heap dd (.xd fs) := I.hok dd _ ed
      obtain ⟨mA, hns, hr⟩ := hx
      obtain ⟨od, ho, hl⟩ := lookIn_ns hns
      have J : PySem.W.InstAt s.heap a oe D (some od) := ⟨hget, hz.1, by unfold PySem.W.notCls; rw [hv] <;> rfl, by rw [hz.2]; exact ho⟩
      exact PySem.W.kia_one (PySem.W.kitx_excA C) I.kIn ⟨_, _, J⟩ e (fun z => nomatch z) fun tk => ⟨.bl b, H, I.kept (t' := tk) fun _ _ z => z, rfl, q⟩
inductive Ex where
  | oex (x : Str)
  | init (x : Str)
  | nofld (x f : Str)
  | isc (x : Str)
  | kit (x y : Str) (b : Bool)
  | kitT (x : Str) (t : String) (b : Bool)
  | tup (x : Str) (vs : List He.Dv)
  | lst (x : Str) (vs : List He.Dv)
def oexB (K : PySem.W.Frag) (C : Addr) : Bool := match K.lookup C with
  | some ⟨.type "type", _, .cls cd, sl⟩ => (match cd.mro, sl.toList with
    | .ref C' :: bm, [_, _, _, _, some (.builtin n), _] => C' == C && (n == "ValueError.__new__" && (!cd.hasDel && (cd.hasDict && PySem.HandSPX.refsVE bm)))
    | _, _ => false)
  | _ => false
def Ex.ok (K : PySem.W.Frag) : Ex → Bool
  | .oex x => oexB K (He.ga K x) && (He.eqO (PySem.W.findIn K (.ref (He.ga K x)) "__setattr__") (some (some (.builtin "object.__setattr__"))) && (decide (PySem.W.subIn K (.ref (He.ga K x)) (.type "BaseException") = some true) &&
      (decide (PySem.W.typeIn K (.ref (He.ga K x)) = some (.type "type")) && PySem.W.keepIn K (.ref (He.ga K x)))))
  | .init x => He.eqO (PySem.W.findIn K (.ref (He.ga K x)) "__init__") (some (some (.ref (He.ma K (He.ga K x) "__init__")))) && decide (PySem.W.typeIn K (.ref (He.ma K (He.ga K x) "__init__")) = some (.type "function"))
  | .nofld x f => He.eqO (PySem.W.findIn K (.ref (He.ga K x)) f) (some none)
  | .isc x => He.eqO (PySem.W.findIn K (.ref (He.ga K x)) "__getattribute__") (some (some (.builtin "BaseException.__getattribute__"))) && (He.eqO (PySem.W.findIn K (.ref (He.ga K x)) "__getattr__") (some none) &&
      (decide (PySem.W.subIn K (.ref (He.ga K x)) (.type "BaseException") = some true) && (PySem.W.hasDictIn K (He.ga K x) && (He.eqO (PySem.W.findIn K (.ref (He.ga K x)) "__class__") (some (some (.builtin "object.__class__"))) &&
      (He.eqO (PySem.W.specialIn K (.builtin "object.__class__") "__get__") (some (some (.builtin "getset_descriptor.__get__"))) && (decide (PySem.W.takesIn K (.builtin "object.__class__") = some true) && decide (PySem.W.mroIn K (He.ga K x) (.type "object") = some true)))))))
  | .kit x y b => decide (PySem.W.kitOne K (.ref (He.ga K x)) (.ref (He.ga K y)) = some b)
  | .kitT x t b => decide (PySem.W.kitOne K (.ref (He.ga K x)) (.type t) = some b)
  | .tup x vs => He.tupB K x vs
  | .lst x vs => He.lstB K x vs
section
variable {K : PySem.W.Frag} {x y f : Str}
theorem oexB_ok {C : Addr} (h : oexB K C = true) : ∃ nm q N bs bm sn sub ab col dd k0 k1 k2 k3 k5, K.lookup C = some (excClassObj nm q C N bs bm true sn sub ab col dd k0 k1 k2 k3 k5 "ValueError.__new__") ∧ PySem.HandSPX.refsVE bm = true := by
  unfold oexB at h
  split at h
  · rename_i dd cd sl ho
    split at h
    · rename_i C' bm k0 k1 k2 k3 n k5 hm hs
      simp only [Bool.and_eq_true, beq_iff_eq, Bool.not_eq_true'] at h
      obtain ⟨rfl, rfl, hdel, hd, hr⟩ := h
      obtain ⟨nm, bs, mro, ns, qn, hdc, sn, sub, ab, col, del⟩ := cd
      dsimp only at hm hdel hd
      subst hm hdel hd
      have hsl : sl = #[k0, k1, k2, k3, some (.builtin "ValueError.__new__"), k5] := by
        obtain ⟨l⟩ := sl
        simp only at hs
        rw [hs]
      subst hsl
      exact ⟨nm, qn, ns, bs, bm, sn, sub, ab, col, dd, k0, k1, k2, k3, k5, ho, hr⟩
    · cases h
  · cases h
theorem ex_oex (h : (Ex.oex x).ok K = true) : OexC K (He.ga K x) := by
  obtain ⟨h1, h⟩ := He.ba h
  obtain ⟨h2, h⟩ := He.ba h
  obtain ⟨h3, h⟩ := He.ba h
  obtain ⟨h4, h5⟩ := He.ba h
  exact ⟨oexB_ok h1, He.eqO_ok h2, of_decide_eq_true h3, of_decide_eq_true h4, h5⟩
theorem ex_init (h : (Ex.init x).ok K = true) : PySem.W.findIn K (.ref (He.ga K x)) "__init__" = some (some (.ref (He.ma K (He.ga K x) "__init__"))) ∧ PySem.W.typeIn K (.ref (He.ma K (He.ga K x) "__init__")) = some (.type "function") := by
  obtain ⟨h1, h2⟩ := He.ba h
  exact ⟨He.eqO_ok h1, of_decide_eq_true h2⟩
theorem ex_nofld (h : (Ex.nofld x f).ok K = true) : PySem.W.findIn K (.ref (He.ga K x)) f = some none := He.eqO_ok h
theorem ex_isc (h : (Ex.isc x).ok K = true) : ExcC K (He.ga K x) := by
  obtain ⟨h1, h⟩ := He.ba h
  obtain ⟨h2, h⟩ := He.ba h
  obtain ⟨h3, h⟩ := He.ba h
  obtain ⟨h4, h⟩ := He.ba h
  obtain ⟨h5, h⟩ := He.ba h
  obtain ⟨h6, h⟩ := He.ba h
  obtain ⟨h7, h8⟩ := He.ba h
  exact ⟨He.eqO_ok h1, He.eqO_ok h2, of_decide_eq_true h3, h4, He.eqO_ok h5, He.eqO_ok h6, of_decide_eq_true h7, of_decide_eq_true h8⟩
theorem xfc_of {C : Addr} (h : ExcC K C) : XfC K C := ⟨h.hg, h.hk, h.hs, h.hd⟩
theorem ex_kit {b : Bool} (h : (Ex.kit x y b).ok K = true) : PySem.W.kitOne K (.ref (He.ga K x)) (.ref (He.ga K y)) = some b := of_decide_eq_true h
theorem ex_kitT {t : String} {b : Bool} (h : (Ex.kitT x t b).ok K = true) : PySem.W.kitOne K (.ref (He.ga K x)) (.type t) = some b := of_decide_eq_true h
end
theorem ex_tup {K : PySem.W.Frag} {x : Str} {vs : List He.Dv} (h : (Ex.tup x vs).ok K = true) (H : Hp) : SqT K H (He.ga K x) (vs.map (He.Dv.v K)) := He.tupB_ok h H
theorem ex_lst {K : PySem.W.Frag} {x : Str} {vs : List He.Dv} (h : (Ex.lst x vs).ok K = true) (H : Hp) : SqL K H (He.ga K x) (vs.map (He.Dv.v K)) := He.lstB_ok h H
theorem Fx.intg {fa : List He.Fa} {fn : List He.DefD} {K : PySem.W.Frag} {mg : Str → Option Value} (T : Fx fa fn K mg) (i : Nat) {x : Str} {n : Int} (h : fa[i]? = some (.int x n) := by rfl) : ∃ t, mg x = some (.int n t) := let ⟨_, KX, G⟩ := T.ex; He.int_ok KX G (T.c.fact i h)
theorem Fx.strg {fa : List He.Fa} {fn : List He.DefD} {K : PySem.W.Frag} {mg : Str → Option Value} (T : Fx fa fn K mg) (i : Nat) {x z : Str} (h : fa[i]? = some (.str x z) := by rfl) : ∃ t, mg x = some (.str z t) := let ⟨_, KX, G⟩ := T.ex; He.str_ok KX G (T.c.fact i h)
theorem e_gint {X : Cx} {x : Str} {n : Int} {pos : Pos} (hg : Gl X x) (h : ∃ t, X.mg x = some (.int n t)) (hd : (x == ("__debug__" : Str)) = false := by decide) : PE X (.Name x pos) (tC (.int n)) := let ⟨t, e⟩ := h; pe_glob hg e ⟨t, rfl⟩ hd
theorem e_gstr {X : Cx} {x z : Str} {pos : Pos} (hg : Gl X x) (h : ∃ t, X.mg x = some (.str z t)) (hd : (x == ("__debug__" : Str)) = false := by decide) : PE X (.Name x pos) (tC (.str z)) := let ⟨t, e⟩ := h; pe_glob hg e ⟨t, rfl⟩ hd
structure Fy (fa : List He.Fa) (fn : List He.DefD) (xs : List Ex) (K : PySem.W.Frag) (mg : Str → Option Value) : Prop extends Fx fa fn K mg where
  m : (xs.all fun e => e.ok K) = true
theorem Fy.more {fa : List He.Fa} {fn : List He.DefD} {xs : List Ex} {K : PySem.W.Frag} {mg : Str → Option Value} (T : Fy fa fn xs K mg) (i : Nat) {e : Ex} (h : xs[i]? = some e := by rfl) : e.ok K = true := List.all_eq_true.mp T.m e (List.mem_of_getElem? h)
def sRaiseO (W : WX) (C : Addr) (sp : Sp) (ta : TA) : TS := fun _ σ H => ta σ H fun vs H1 => vs.length ≤ 1000 ∧ ∀ a, H1 a = none → sp (.ref a :: vs) (upd H1 a (exo a C none))
  (fun v H2 => v = .non ∧ ∃ (d : Addr) (fs : List (Str × V)), H2 a = some (exo a C (some d)) ∧ H2 d = some (exd d fs) ∧ H1 d = none ∧ W (.ref C) (some d) σ (upd (del H2 a) d (.xd fs))) (fun _ _ _ => False)
theorem s_raiseO {X : Cx} {W : WX} {x : Str} {p pos pos' : Pos} {e : Expr} {es : List Expr} {C fI : Addr} {k : Nat} {ps : List Str} {sp : Sp} {ta : TA} (hc : X.calm = true) (tk : Takes X W) (T : OexC X.K C)
    (i : PySem.W.findIn X.K (.ref C) "__init__" = some (some (.ref fI)) ∧ PySem.W.typeIn X.K (.ref fI) = some (.type "function")) (d : Def X.prog X.w X.K X.mg X.base k fI ps sp) (hr : Room (k + 1) X.A) (hg : Gl X x) (hm : X.mg x = some (.ref C)) (ha : PA X (e :: es) ta)
    (hdb : (x == ("__debug__" : Str)) = false := by decide) (he : starEach (e :: es) X.env = (false, eval e X.env) :: starEach es X.env := by rfl) (hpl : (backTo pos (starEach es X.env)).any (·.1) = false := by rfl) :
    PS X (.Raise (some (.Call (.Name x p) (e :: es) [] pos)) none pos') (sRaiseO W C sp ta) := by
  obtain ⟨fd, F, b⟩ := d.ex
  refine PS.imp (ps_raise hc tk (pmk_oex (dvs := []) T i.1 i.2 F hr b .nil passL hg hm ha hdb he hpl)) fun D σ H h => ?_
  unfold sRaiseO at h
  unfold tMkO
  simp only [List.append_nil]
  exact h
end Co
end

section
set_option maxHeartbeats 4000000
namespace Co
open PySem PySem.Spec PyProof.Rows L2
section
variable {X : Cx}
def repL (l : List Nat) (n : Int) : List Nat := (List.replicate n.toNat l).flatten
theorem repL_len (l : List Nat) (n : Int) : (repL l n).length = n.toNat * l.length := by simp [repL]
theorem rep_fold (c : Array Nat) : ∀ (n : Nat) (a : Array Nat), ((List.replicate n c).foldl (· ++ ·) a) = a ++ ((List.replicate n c.toList).flatten).toArray
  | 0, a => by simp
  | n + 1, a => by
    rw [List.replicate_succ, List.foldl_cons, rep_fold c n (a ++ c), List.replicate_succ, List.flatten_cons]
    apply Array.ext'
    simp
theorem txt_mul (l : List Nat) (n : Int) : Txt.mul (S l) n = S (repL l n) := by
  unfold Txt.mul
  split
  · rename_i h
    unfold repL
    rw [show n.toNat = 0 by omega]
    rfl
  · split
    · rename_i h1 h2
      unfold repL
      simp only [Bool.or_eq_true, beq_iff_eq] at h2
      rcases h2 with h2 | h2
      · subst h2
        simp
      · have : l = [] := List.eq_nil_of_length_eq_zero (by rw [S_len] at h2; exact h2)
        subst this
        simp
    · rw [rep_fold]
      simp [repL]
def rRepS : R2 := fun x y H Q => match x, y with
  | .str z, .int n => n * z.length ≤ 1000000 ∧ -(2 ^ 62) ≤ n ∧ n < 2 ^ 62 ∧ Q (.str (S (repL z.cps.toList n))) H
  | _, _ => False
theorem op_repS : OpR X (binaryOp .Mult) rRepS := by
  intro pins s σ H x y v u Q I rx ry h
  unfold rRepS at h
  split at h
  · rename_i z n
    obtain ⟨h1, h2, h3, q⟩ := h
    obtain ⟨t, rfl⟩ := rx
    obtain ⟨t', rfl⟩ := ry
    have hz : z.length = z.cps.toList.length := by show z.cps.size = _; simp
    refine SB.mul ⟨?_, fun hn _ => ?_, fun hn _ => ?_⟩ fun t1 k => ⟨.str (S (repL z.cps.toList n)), H, I.tok _, ⟨t1, ?_⟩, q⟩
    · simp
      omega
    · have hn1 : 0 < n := by omega
      intro hc
      have h4 : (z.length : Int) * n > (2 ^ 63 - 1) / n * n := Int.mul_lt_mul_of_pos_right hc hn1
      have h5 := Int.emod_add_mul_ediv (2 ^ 63 - 1) n
      have h6 := Int.emod_lt_of_pos (2 ^ 63 - 1) hn1
      have e1 : n * ((2 ^ 63 - 1) / n) = (2 ^ 63 - 1) / n * n := Int.mul_comm _ _
      have e2 : n * (z.length : Int) = (z.length : Int) * n := Int.mul_comm _ _
      by_cases hl : z.length = 0
      · have h7 : 0 ≤ (2 ^ 63 - 1) / n := Int.ediv_nonneg (by omega) (by omega)
        omega
      · have h8 : n ≤ n * (z.length : Int) := by
          have := Int.mul_le_mul_of_nonneg_left (show (1 : Int) ≤ (z.length : Int) by omega) (show 0 ≤ n by omega)
          omega
        omega
    · have h4 : ((z.length * n.toNat : Nat) : Int) ≤ 1000000 := by
        rw [Int.natCast_mul, Int.toNat_of_nonneg (by omega), Int.mul_comm]
        exact h1
      show Builtin.Str.tooLong _ = false
      unfold Builtin.Str.tooLong
      simp only [decide_eq_false_iff_not]
      rw [sizeLine_eq]
      omega
    · have := txt_mul z.cps.toList n
      rw [← S_eq z] at this
      rw [this]
  · exact h.elim
def rCatW (K : PySem.W.Frag) : R2 := fun x y H Q => ∃ a b xs ys, x = .ref a ∧ y = .ref b ∧ SqT K H a xs ∧ SqT K H b ys ∧ xs.length + ys.length ≤ sizeLine ∧
  (xs = [] → Q (.ref b) H) ∧ (xs ≠ [] → ys = [] → Q (.ref a) H) ∧ (xs ≠ [] → ys ≠ [] → ∀ p, H p = none → Q (.ref p) (upd H p (.tup (xs ++ ys))))
theorem cat_tup0 {prog : Program} {w : World} {A : Around} {E : Value → Shared → Prop} {s : Shared} {t b : Addr} {ws : List Value} {Q : Value → Shared → Prop} (ht : IsTup s.heap t ([] : List Value).toArray) (hb : IsTup s.heap b ws.toArray)
    (h : Q (.ref b) s) : wpAny (model prog w) A (binaryOp .Add (.ref t) (.ref b)) Q E s := by
  obtain ⟨⟨cls, dd, data, sl⟩, ho, hc, n, hd⟩ := id ht
  obtain ⟨⟨cls2, dd2, data2, sl2⟩, ho2, hc2, n2, hd2⟩ := id hb
  simp only at hc hd hc2 hd2
  subst hc hd hc2 hd2
  exact concat_meets ⟨_, ho, rfl⟩ ⟨_, ho2, rfl⟩ noFill_tuple_add seq_tuple_add PySem.F.slot_tuple_add PySem.F.entry_tuple_add (PySem.F.args_tuple_add_2 _ _)
      (tuple_addW0 t b ([] : List Value).toArray ws.toArray n n2 dd dd2 sl sl2 (by simp)) ⟨ho, ho2, h⟩
theorem op_catW : OpR X (binaryOp .Add) (rCatW X.K) := by
  intro pins s σ H x y v u Q I rx ry h
  obtain ⟨a, b, xs, ys, rfl, rfl, ha, hb, hz, q0, q1, q2⟩ := h
  by_cases hx : xs = []
  · subst hx
    obtain ⟨its, r1, p1, _⟩ := I.tuple ha
    obtain ⟨its2, r2, p2, _⟩ := I.tuple hb
    have e := r1.nil_iff.mpr rfl
    subst e
    cases rx
    cases ry
    exact cat_tup0 p1 p2 ⟨.ref b, H, I, rfl, q0 rfl⟩
  · exact op_catT pins s σ H _ _ v u Q I rx ry ⟨a, b, xs, ys, rfl, rfl, ha, hb, hx, hz, q1 hx, q2 hx⟩
def cStrI : List V → Hp → VK → Prop := fun xs H Q => match xs with
  | [.int i] => i.natAbs.log2 < 1920 ∧ Q (.str (toString i)) H
  | _ => False
theorem c_strI : CallR X (.type "str") cStrI := CallR.imp call_str_int fun xs H Q h => by
  unfold cStrI at h
  split at h
  · exact ⟨_, rfl, h.1, h.2⟩
  · exact h.elim
def cIntS : List V → Hp → VK → Prop := fun xs H Q => match xs with
  | [.str a] => ∃ n, PySem.intText? a = some n ∧ a.length ≤ 640 ∧ Q (.int n) H
  | _ => False
theorem c_intS : CallR X (.type "int") cIntS := CallR.imp call_int_str fun xs H Q h => by
  unfold cIntS at h
  split at h
  · obtain ⟨n, h1, h2, h3⟩ := h
    exact ⟨_, n, rfl, h1, h2, h3⟩
  · exact h.elim
def cAbs : List V → Hp → VK → Prop := fun xs H Q => match xs with
  | [.int i] => Q (.int (i.natAbs : Int)) H
  | _ => False
theorem c_abs : CallR X (.builtin "abs") cAbs := CallR.imp call_abs fun xs H Q h => by
  unfold cAbs at h
  split at h
  · rename_i i
    refine ⟨i, rfl, ?_⟩
    have : (if i < 0 then -i else i) = (i.natAbs : Int) := by split <;> omega
    rw [this]
    exact h
  · exact h.elim
def rLstripS : V → List V → Hp → VK → Prop := fun x xs H Q => match x, xs with
  | .str a, [.str b] => a.length ≤ sizeLine ∧ Q (.str (Txt.lstripChars a b)) H
  | _, _ => False
theorem m_lstrip : MtR X "str.lstrip" rLstripS := MtR.imp mt_lstripChars fun x xs H Q h => by
  unfold rLstripS at h
  split at h
  · exact ⟨_, _, rfl, rfl, h.1, h.2⟩
  · exact h.elim
def fAddA : R2 := fun x y H Q => match x, y with
  | .int i, .int j => Q (.int (i + j)) H
  | .str i, .str j => i.length + j.length ≤ sizeLine ∧ Q (.str (i ++ j)) H
  | _, _ => False
theorem o_addA : OpR X (binaryOp .Add) fAddA := by
  intro pins s σ H x y v u Q I rx ry h
  unfold fAddA at h
  split at h
  · exact o_add pins s σ H _ _ v u Q I rx ry h
  · exact o_addS pins s σ H _ _ v u Q I rx ry h
  · exact h.elim
end
end Co
theorem L2.Room.units65 {k : Nat} {A : PySem.Around} (r : L2.Room k A) : A.units + 65 < PySem.cLine := by
  have := r.un
  omega
end

section
set_option maxHeartbeats 4000000
namespace Dl
open PySem PySem.Spec PyProof.Rows L2 Co
inductive D where
  | non | bl (b : Bool) | int (i : Int) | str (x : Str) | ty (n : String) | glo (x : Str)
  | tup (ds : List D) | lst (ds : List D) | dct (ks : List Key) (ds : List D) | dcT (ks : List (List Key)) (ds : List D) | ins (C : Str) (ns : List Str) (ds : List D) | scr (ns : List Int)
inductive W where
  | im (d : D) | loc (n : Nat) | dead
inductive Ob where
  | lst (ds : List D) | dct (ks : List Key) (ds : List D) | dcT (ks : List (List Key)) (ds : List D) | ins (C : Str) (fs : List (Str × W)) | pool | fz (d : D) | gone
abbrev Sl := List (Option W)
abbrev Sto := List Ob
structure Kn where
  K : PySem.W.Frag
  b : Bool
def isDct : HO → Bool
  | .dK _ => true
  | .dT _ => true
  | _ => false
def Sub (M H : Hp) : Prop := ∀ b u, M b = some u → H b = some u ∨ (isDct u = true ∧ ∃ o, H b = some (.frz o u))
def SqC (N : Kn) (M : Hp) (p : Addr) (xs : List V) : Prop := M p = some (.tup xs) ∨ (N.b = true ∧ SqT N.K M p xs)
mutual
def Rp (N : Kn) (M : Hp) : D → V → Prop
  | .non, v => v = .non
  | .bl b, v => v = .bl b
  | .int i, v => v = .int i
  | .str x, v => v = .str x
  | .ty n, v => v = .ty n
  | .glo x, v => v = .ref (He.ga N.K x)
  | .scr ns, v => ∃ p, v = .ref p ∧ SqL N.K M p (ns.map V.int)
  | .tup ds, v => ∃ p xs, v = .ref p ∧ SqC N M p xs ∧ Rps N M ds xs
  | .lst ds, v => ∃ p xs, v = .ref p ∧ M p = some (.lst xs) ∧ Rps N M ds xs
  | .dct ks ds, v => ∃ p kvs, v = .ref p ∧ M p = some (.dK kvs) ∧ kvs.map (·.1) = ks ∧ Rps N M ds (kvs.map (·.2))
  | .dcT ks ds, v => ∃ p kvs, v = .ref p ∧ M p = some (.dT kvs) ∧ kvs.map (·.1) = ks ∧ Rps N M ds (kvs.map (·.2))
  | .ins C ns ds, v => ∃ p dx fs, v = .ref p ∧ M p = some (.ins (He.ga N.K C) dx fs) ∧ fs.map (·.1) = ns ∧ Rps N M ds (fs.map (·.2))
def Rps (N : Kn) (M : Hp) : List D → List V → Prop
  | [], xs => xs = []
  | d :: ds, xs => ∃ x r, xs = x :: r ∧ Rp N M d x ∧ Rps N M ds r
end
section
variable {N : Kn} {M M' H H' : Hp}
theorem SqC.mono {p : Addr} {xs : List V} (h : SqC N M p xs) (e : Same M M') : SqC N M' p xs := h.elim (fun h => .inl (e _ _ h)) fun h => .inr ⟨h.1, sqT_same e h.2⟩
mutual
theorem Rp.mono (e : Same M M') : ∀ {d : D} {v : V}, Rp N M d v → Rp N M' d v
  | .non, _, h => h
  | .bl _, _, h => h
  | .int _, _, h => h
  | .str _, _, h => h
  | .ty _, _, h => h
  | .glo _, _, h => h
  | .scr _, _, ⟨p, h1, h2⟩ => ⟨p, h1, e.seq h2⟩
  | .tup _, _, ⟨p, xs, h1, h2, h3⟩ => ⟨p, xs, h1, h2.mono e, Rps.mono e h3⟩
  | .lst _, _, ⟨p, xs, h1, h2, h3⟩ => ⟨p, xs, h1, e _ _ h2, Rps.mono e h3⟩
  | .dct _ _, _, ⟨p, kvs, h1, h2, h3, h4⟩ => ⟨p, kvs, h1, e _ _ h2, h3, Rps.mono e h4⟩
  | .dcT _ _, _, ⟨p, kvs, h1, h2, h3, h4⟩ => ⟨p, kvs, h1, e _ _ h2, h3, Rps.mono e h4⟩
  | .ins _ _ _, _, ⟨p, dx, fs, h1, h2, h3, h4⟩ => ⟨p, dx, fs, h1, e _ _ h2, h3, Rps.mono e h4⟩
theorem Rps.mono (e : Same M M') : ∀ {ds : List D} {vs : List V}, Rps N M ds vs → Rps N M' ds vs
  | [], _, h => h
  | _ :: _, _, ⟨x, r, h1, h2, h3⟩ => ⟨x, r, h1, Rp.mono e h2, Rps.mono e h3⟩
end
theorem Rps.nil : Rps N M [] [] := rfl
theorem Rps.cons {d : D} {ds : List D} {v : V} {vs : List V} (h : Rp N M d v) (t : Rps N M ds vs) : Rps N M (d :: ds) (v :: vs) := ⟨v, vs, rfl, h, t⟩
theorem Rps.length : ∀ {ds : List D} {vs : List V}, Rps N M ds vs → vs.length = ds.length
  | [], _, h => by rw [show _ = [] from h]; rfl
  | _ :: _, _, ⟨_, _, h1, _, h3⟩ => by rw [h1, List.length_cons, List.length_cons, Rps.length h3]
theorem Rps.get : ∀ {ds : List D} {vs : List V} {i : Nat} {d : D}, Rps N M ds vs → ds[i]? = some d → ∃ v, vs[i]? = some v ∧ Rp N M d v
  | [], _, _, _, _, e => by simp at e
  | d :: ds, _, 0, _, ⟨x, r, h1, h2, _⟩, e => by
    subst h1
    simp at e
    subst e
    exact ⟨x, rfl, h2⟩
  | d :: ds, _, i + 1, _, ⟨x, r, h1, _, h3⟩, e => by
    subst h1
    obtain ⟨v, h4, h5⟩ := Rps.get (i := i) h3 (by simpa using e)
    exact ⟨v, by simpa using h4, h5⟩
theorem Rps.get2 : ∀ {ds : List D} {vs : List V} {i : Nat} {v : V}, Rps N M ds vs → vs[i]? = some v → ∃ d, ds[i]? = some d ∧ Rp N M d v
  | [], vs, _, _, h, e => by rw [show vs = [] from h] at e; simp at e
  | d :: ds, _, 0, _, ⟨x, r, h1, h2, _⟩, e => by
    subst h1
    simp at e
    subst e
    exact ⟨d, rfl, h2⟩
  | d :: ds, _, i + 1, _, ⟨x, r, h1, _, h3⟩, e => by
    subst h1
    obtain ⟨v, h4, h5⟩ := Rps.get2 (i := i) h3 (by simpa using e)
    exact ⟨v, by simpa using h4, h5⟩
theorem Rps.append : ∀ {ds es : List D} {vs ws : List V}, Rps N M ds vs → Rps N M es ws → Rps N M (ds ++ es) (vs ++ ws)
  | [], _, _, _, h, t => by rw [show _ = [] from h]; exact t
  | _ :: _, _, _, _, ⟨x, r, h1, h2, h3⟩, t => by
    subst h1
    exact ⟨x, r ++ _, rfl, h2, Rps.append h3 t⟩
theorem Rps.take : ∀ {ds : List D} {vs : List V} (n : Nat), Rps N M ds vs → Rps N M (ds.take n) (vs.take n)
  | _, _, 0, _ => rfl
  | [], _, _ + 1, h => by rw [show _ = [] from h]; rfl
  | _ :: _, _, n + 1, ⟨x, r, h1, h2, h3⟩ => by
    subst h1
    exact ⟨x, r.take n, rfl, h2, Rps.take n h3⟩
theorem Rps.drop : ∀ {ds : List D} {vs : List V} (n : Nat), Rps N M ds vs → Rps N M (ds.drop n) (vs.drop n)
  | _, _, 0, h => h
  | [], _, _ + 1, h => by rw [show _ = [] from h]; rfl
  | _ :: _, _, n + 1, ⟨x, r, h1, h2, h3⟩ => by
    subst h1
    exact Rps.drop n h3
theorem Rps.set : ∀ {ds : List D} {vs : List V} {d : D} {v : V} (i : Nat), Rps N M ds vs → Rp N M d v → Rps N M (ds.set i d) (vs.set i v)
  | [], _, _, _, _, h, _ => by rw [show _ = [] from h]; rfl
  | _ :: _, _, _, _, 0, ⟨x, r, h1, h2, h3⟩, q => by
    subst h1
    exact ⟨_, r, rfl, q, h3⟩
  | _ :: _, _, _, _, i + 1, ⟨x, r, h1, h2, h3⟩, q => by
    subst h1
    exact ⟨x, _, rfl, h2, Rps.set i h3 q⟩
theorem Rps.reverse : ∀ {ds : List D} {vs : List V}, Rps N M ds vs → Rps N M ds.reverse vs.reverse
  | [], _, h => by rw [show _ = [] from h]; rfl
  | _ :: _, _, ⟨x, r, h1, h2, h3⟩ => by
    subst h1
    rw [List.reverse_cons, List.reverse_cons]
    exact (Rps.reverse h3).append (Rps.cons h2 .nil)
theorem Rps.of_get : ∀ {ds : List D} {vs : List V}, vs.length = ds.length → (∀ (i : Nat) d v, ds[i]? = some d → vs[i]? = some v → Rp N M d v) → Rps N M ds vs
  | [], [], _, _ => rfl
  | [], _ :: _, h, _ => by simp at h
  | _ :: _, [], h, _ => by simp at h
  | d :: ds, v :: vs, h, f => ⟨v, vs, rfl, f 0 d v rfl rfl, Rps.of_get (by simpa using h) fun i d' v' e1 e2 => f (i + 1) d' v' (by simpa using e1) (by simpa using e2)⟩
theorem Sub.seq {a : Addr} {xs : List V} (s : Sub M H) (h : SqL N.K M a xs) : SqL N.K H a xs := by
  rcases h with (h | ⟨o, h⟩) | h
  · rcases s _ _ h with h | ⟨h, _⟩
    · exact .inl (.inl h)
    · cases h
  · rcases s _ _ h with h | ⟨h, _⟩
    · exact .inl (.inr ⟨o, h⟩)
    · cases h
  · exact .inr h
theorem Sub.tup {a : Addr} {xs : List V} (s : Sub M H) (h : SqC N M a xs) : SqT N.K H a xs := by
  have g : ∀ u, M a = some u → isDct u = false → H a = some u := fun u e n => by
    rcases s _ _ e with h | ⟨h, _⟩
    · exact h
    · rw [n] at h; cases h
  rcases h with h | ⟨_, (h | ⟨o, h⟩) | h⟩
  · exact .inl (.inl (g _ h rfl))
  · exact .inl (.inl (g _ h rfl))
  · exact .inl (.inr ⟨o, g _ h rfl⟩)
  · exact .inr h
theorem Sub.ins {a : Addr} {C dx : Addr} {fs : List (Str × V)} (s : Sub M H) (h : M a = some (.ins C dx fs)) : H a = some (.ins C dx fs) := by
  rcases s _ _ h with h | ⟨h, _⟩
  · exact h
  · cases h
theorem Sub.tup1 {a : Addr} {xs : List V} (s : Sub M H) (h : M a = some (.tup xs)) : H a = some (.tup xs) := by
  rcases s _ _ h with h | ⟨h, _⟩
  · exact h
  · cases h
theorem Sub.lst1 {a : Addr} {xs : List V} (s : Sub M H) (h : M a = some (.lst xs)) : H a = some (.lst xs) := by
  rcases s _ _ h with h | ⟨h, _⟩
  · exact h
  · cases h
theorem Sub.dK {a : Addr} {kvs : List (Key × V)} (s : Sub M H) (h : M a = some (.dK kvs)) : Rd H a (.dK kvs) := by
  rcases s _ _ h with h | ⟨_, o, h⟩
  · exact .inl h
  · exact .inr ⟨o, h⟩
theorem Sub.dT {a : Addr} {kvs : List (List Key × V)} (s : Sub M H) (h : M a = some (.dT kvs)) : Rd H a (.dT kvs) := by
  rcases s _ _ h with h | ⟨_, o, h⟩
  · exact .inl h
  · exact .inr ⟨o, h⟩
theorem Sub.isSome {a : Addr} {u : HO} (s : Sub M H) (h : M a = some u) : H a ≠ none := by
  rcases s _ _ h with h | ⟨_, o, h⟩ <;> rw [h] <;> exact fun z => nomatch z
end
def Pre (ρ ρ' : List Addr) : Prop := ∃ r, ρ' = ρ ++ r
theorem Pre.refl (ρ : List Addr) : Pre ρ ρ := ⟨[], by simp⟩
theorem Pre.trans {a b c : List Addr} (h : Pre a b) (k : Pre b c) : Pre a c := by
  obtain ⟨r, rfl⟩ := h
  obtain ⟨q, rfl⟩ := k
  exact ⟨r ++ q, by simp⟩
theorem Pre.get {ρ ρ' : List Addr} (h : Pre ρ ρ') {i : Nat} {a : Addr} (e : ρ[i]? = some a) : ρ'[i]? = some a := by
  obtain ⟨r, rfl⟩ := h
  have := (List.getElem?_eq_some_iff.mp e).1
  rw [List.getElem?_append_left this]
  exact e
theorem Pre.mem {ρ ρ' : List Addr} (h : Pre ρ ρ') {a : Addr} (e : a ∈ ρ) : a ∈ ρ' := by
  obtain ⟨r, rfl⟩ := h
  exact List.mem_append_left _ e
def Rw (N : Kn) (M : Hp) (ρ : List Addr) : W → V → Prop
  | .im d, v => Rp N M d v
  | .loc n, v => ∃ a, ρ[n]? = some a ∧ v = .ref a
  | .dead, _ => True
def Rws (N : Kn) (M : Hp) (ρ : List Addr) : List W → List V → Prop
  | [], xs => xs = []
  | d :: ds, xs => ∃ x r, xs = x :: r ∧ Rw N M ρ d x ∧ Rws N M ρ ds r
def PoolR (M H : Hp) (a : Addr) : Prop := ∃ (q : Addr) (ns : List Int) (i d s : Int), M q = some (.lst (ns.map V.int)) ∧ H a = some (.lst [.ref q, .int i, .int d, .int s]) ∧ (∀ n ∈ ns, 0 ≤ n) ∧ 0 ≤ i ∧ 0 ≤ d ∧ 0 ≤ s ∧ s < 2147483647
def RO (N : Kn) (M : Hp) (ρ : List Addr) (H : Hp) : Ob → Addr → Prop
  | .lst ds, a => M a = none ∧ ∃ xs, H a = some (.lst xs) ∧ Rps N M ds xs
  | .dct ks ds, a => M a = none ∧ ∃ kvs, H a = some (.dK kvs) ∧ kvs.map (·.1) = ks ∧ Rps N M ds (kvs.map (·.2))
  | .dcT ks ds, a => M a = none ∧ ∃ kvs, H a = some (.dT kvs) ∧ kvs.map (·.1) = ks ∧ Rps N M ds (kvs.map (·.2))
  | .ins C fs, a => M a = none ∧ ∃ dx fxs, H a = some (.ins (He.ga N.K C) dx fxs) ∧ fxs.map (·.1) = fs.map (·.1) ∧ Rws N M ρ (fs.map (·.2)) (fxs.map (·.2))
  | .pool, a => M a = none ∧ PoolR M H a
  | .fz d, a => Rp N M d (.ref a) ∧ H a ≠ none
  | .gone, a => H a ≠ none
section
variable {N : Kn} {M M' H H' : Hp} {ρ ρ' : List Addr}
theorem Rw.mono {w : W} {v : V} (h : Rw N M ρ w v) (e : Same M M') (p : Pre ρ ρ') : Rw N M' ρ' w v := by
  cases w with
  | im d => exact Rp.mono e h
  | loc n => obtain ⟨a, h1, h2⟩ := h; exact ⟨a, p.get h1, h2⟩
  | dead => trivial
theorem Rws.mono (e : Same M M') (p : Pre ρ ρ') : ∀ {ws : List W} {vs : List V}, Rws N M ρ ws vs → Rws N M' ρ' ws vs
  | [], _, h => h
  | _ :: _, _, ⟨x, r, h1, h2, h3⟩ => ⟨x, r, h1, h2.mono e p, Rws.mono e p h3⟩
theorem Rws.length : ∀ {ds : List W} {vs : List V}, Rws N M ρ ds vs → vs.length = ds.length
  | [], _, h => by rw [show _ = [] from h]; rfl
  | _ :: _, _, ⟨_, _, h1, _, h3⟩ => by rw [h1, List.length_cons, List.length_cons, Rws.length h3]
theorem Rws.get : ∀ {ds : List W} {vs : List V} {i : Nat} {d : W}, Rws N M ρ ds vs → ds[i]? = some d → ∃ v, vs[i]? = some v ∧ Rw N M ρ d v
  | [], _, _, _, _, e => by simp at e
  | d :: ds, _, 0, _, ⟨x, r, h1, h2, _⟩, e => by
    subst h1
    simp at e
    subst e
    exact ⟨x, rfl, h2⟩
  | d :: ds, _, i + 1, _, ⟨x, r, h1, _, h3⟩, e => by
    subst h1
    obtain ⟨v, h4, h5⟩ := Rws.get (i := i) h3 (by simpa using e)
    exact ⟨v, by simpa using h4, h5⟩
theorem Rws.get2 : ∀ {ds : List W} {vs : List V} {i : Nat} {v : V}, Rws N M ρ ds vs → vs[i]? = some v → ∃ d, ds[i]? = some d ∧ Rw N M ρ d v
  | [], vs, _, _, h, e => by rw [show vs = [] from h] at e; simp at e
  | d :: ds, _, 0, _, ⟨x, r, h1, h2, _⟩, e => by
    subst h1
    simp at e
    subst e
    exact ⟨d, rfl, h2⟩
  | d :: ds, _, i + 1, _, ⟨x, r, h1, _, h3⟩, e => by
    subst h1
    obtain ⟨v, h4, h5⟩ := Rws.get2 (i := i) h3 (by simpa using e)
    exact ⟨v, by simpa using h4, h5⟩
theorem Rws.of : ∀ {ds : List D} {vs : List V}, Rps N M ds vs → Rws N M ρ (ds.map W.im) vs
  | [], _, h => h
  | _ :: _, _, ⟨x, r, h1, h2, h3⟩ => ⟨x, r, h1, h2, Rws.of h3⟩
theorem RO.there {o : Ob} {a : Addr} (h : RO N M ρ H o a) : H a ≠ none := by
  cases o with
  | lst ds => obtain ⟨_, _, h, _⟩ := h; rw [h]; exact fun z => nomatch z
  | dct ks ds => obtain ⟨_, _, h, _⟩ := h; rw [h]; exact fun z => nomatch z
  | dcT ks ds => obtain ⟨_, _, h, _⟩ := h; rw [h]; exact fun z => nomatch z
  | ins C fs => obtain ⟨_, _, _, h, _⟩ := h; rw [h]; exact fun z => nomatch z
  | pool => obtain ⟨_, _, _, _, _, _, _, h, _⟩ := h; rw [h]; exact fun z => nomatch z
  | fz d => exact h.2
  | gone => exact h
theorem RO.mono {o : Ob} {a : Addr} (h : RO N M ρ H o a) (e : Same M M') (p : Pre ρ ρ') (hM : M a = none → M' a = none) (hH : ∀ u, H a = some u → H' a = some u) : RO N M' ρ' H' o a := by
  have hn : H a ≠ none → H' a ≠ none := fun n => by
    cases z : H a with
    | none => exact absurd z n
    | some u => rw [hH u z]; exact fun z => nomatch z
  cases o with
  | lst ds => obtain ⟨h0, xs, h, h1⟩ := h; exact ⟨hM h0, xs, hH _ h, h1.mono e⟩
  | dct ks ds => obtain ⟨h0, xs, h, h1, h2⟩ := h; exact ⟨hM h0, xs, hH _ h, h1, h2.mono e⟩
  | dcT ks ds => obtain ⟨h0, xs, h, h1, h2⟩ := h; exact ⟨hM h0, xs, hH _ h, h1, h2.mono e⟩
  | ins C fs => obtain ⟨h0, dx, xs, h, h1, h2⟩ := h; exact ⟨hM h0, dx, xs, hH _ h, h1, h2.mono e p⟩
  | pool => obtain ⟨h0, q, ns, i, d, s, h1, h2, h3⟩ := h; exact ⟨hM h0, q, ns, i, d, s, e _ _ h1, hH _ h2, h3⟩
  | fz d => exact ⟨h.1.mono e, hn h.2⟩
  | gone => exact hn h
structure Rep (N : Kn) (M : Hp) (ρ : List Addr) (st : Sto) (H : Hp) : Prop where
  sub : Sub M H
  len : ρ.length = st.length
  inj : ∀ (i j : Nat) a, ρ[i]? = some a → ρ[j]? = some a → i = j
  ob : ∀ (i : Nat) a o, ρ[i]? = some a → st[i]? = some o → RO N M ρ H o a
def Rs (N : Kn) (M : Hp) (ρ : List Addr) (σ : Sl) (σV : L2.St) : Prop := σ.length = σV.length ∧ ∀ (i : Nat) w, σ[i]? = some (some w) → ∃ v, σV[i]? = some (some v) ∧ Rw N M ρ w v
structure Ext (M : Hp) (ρ : List Addr) (H M' : Hp) (ρ' : List Addr) (H' : Hp) : Prop where
  mm : Same M M'
  pre : Pre ρ ρ'
  fr : Fr ρ H H'
  nw : ∀ a, M' a ≠ none → M a ≠ none ∨ H a = none ∨ a ∈ ρ
  rn : ∀ a ∈ ρ', a ∈ ρ ∨ H a = none
theorem Ext.refl : Ext M ρ H M ρ H := ⟨Same.refl _, Pre.refl _, Fr.refl _ _, fun _ h => .inl h, fun _ h => .inl h⟩
theorem Ext.trans {M2 H2 : Hp} {ρ2 : List Addr} (a : Ext M ρ H M' ρ' H') (b : Ext M' ρ' H' M2 ρ2 H2) : Ext M ρ H M2 ρ2 H2 := by
  have k : ∀ c, H' c = none → H c = none ∨ c ∈ ρ := fun c h => by
    by_cases z : c ∈ ρ
    · exact .inr z
    · left
      cases e : H c with
      | none => rfl
      | some o => rw [a.fr c o e z] at h; cases h
  refine ⟨a.mm.trans b.mm, a.pre.trans b.pre, fun c o h n => ?_, fun c h => ?_, fun c h => ?_⟩
  · refine b.fr c o (a.fr c o h n) fun z => ?_
    rcases a.rn c z with z | z
    · exact n z
    · rw [h] at z; cases z
  · rcases b.nw c h with h | h | h
    · exact a.nw c h
    · rcases k c h with h | h
      · exact .inr (.inl h)
      · exact .inr (.inr h)
    · rcases a.rn c h with h | h
      · exact .inr (.inr h)
      · exact .inr (.inl h)
  · rcases b.rn c h with h | h
    · exact a.rn c h
    · rcases k c h with h | h
      · exact .inr h
      · exact .inl h
theorem Rs.mono {σ : Sl} {σV : L2.St} (h : Rs N M ρ σ σV) (e : Same M M') (p : Pre ρ ρ') : Rs N M' ρ' σ σV := ⟨h.1, fun i w q => let ⟨v, h1, h2⟩ := h.2 i w q; ⟨v, h1, h2.mono e p⟩⟩
theorem Rs.ext {σ : Sl} {σV : L2.St} (h : Rs N M ρ σ σV) (e : Ext M ρ H M' ρ' H') : Rs N M' ρ' σ σV := h.mono e.mm e.pre
theorem Rw.ext {w : W} {v : V} (h : Rw N M ρ w v) (e : Ext M ρ H M' ρ' H') : Rw N M' ρ' w v := h.mono e.mm e.pre
theorem Rws.ext {w : List W} {v : List V} (h : Rws N M ρ w v) (e : Ext M ρ H M' ρ' H') : Rws N M' ρ' w v := Rws.mono e.mm e.pre h
theorem Rp.ext {w : D} {v : V} (h : Rp N M w v) (e : Ext M ρ H M' ρ' H') : Rp N M' w v := Rp.mono e.mm h
theorem Rps.ext {w : List D} {v : List V} (h : Rps N M w v) (e : Ext M ρ H M' ρ' H') : Rps N M' w v := Rps.mono e.mm h
theorem Rs.set {σ : Sl} {σV : L2.St} {w : W} {v : V} (h : Rs N M ρ σ σV) (k : Rw N M ρ w v) (i : Nat) : Rs N M ρ (σ.set i (some w)) (σV.set i (some v)) := by
  refine ⟨by rw [List.length_set, List.length_set]; exact h.1, fun j w' e => ?_⟩
  by_cases z : i = j
  · subst z
    have hj : i < σ.length := by
      have := (List.getElem?_eq_some_iff.mp e).1
      simpa using this
    rw [List.getElem?_set_self hj] at e
    cases e
    exact ⟨v, by rw [List.getElem?_set_self (by rw [← h.1]; exact hj)], k⟩
  · rw [List.getElem?_set_ne z] at e
    obtain ⟨v', h1, h2⟩ := h.2 j w' e
    exact ⟨v', by rw [List.getElem?_set_ne z]; exact h1, h2⟩
theorem Rs.unset {σ : Sl} {σV : L2.St} (h : Rs N M ρ σ σV) (i : Nat) (o : Option V) : Rs N M ρ (σ.set i none) (σV.set i o) := by
  refine ⟨by rw [List.length_set, List.length_set]; exact h.1, fun j w' e => ?_⟩
  by_cases z : i = j
  · subst z
    have hj : i < σ.length := by
      have := (List.getElem?_eq_some_iff.mp e).1
      simpa using this
    rw [List.getElem?_set_self hj] at e
    cases e
  · rw [List.getElem?_set_ne z] at e
    obtain ⟨v', h1, h2⟩ := h.2 j w' e
    exact ⟨v', by rw [List.getElem?_set_ne z]; exact h1, h2⟩
theorem Sub.new {p : Addr} {o : HO} (h : Sub M H) (hp : H p = none) : Sub (upd M p o) (upd H p o) ∧ Same M (upd M p o) := by
  have hm : M p = none := by
    cases e : M p with
    | none => rfl
    | some u => exact absurd hp (h.isSome e)
  refine ⟨fun b u e => ?_, same_grow0 hm⟩
  by_cases z : b = p
  · subst z
    rw [upd_same] at e
    cases e
    exact .inl upd_same
  · rw [upd_ne z] at e
    rw [upd_ne z]
    exact h b u e
theorem Rep.non {st : Sto} (r : Rep N M ρ st H) {p : Addr} (hp : H p = none) : M p = none := by
  cases e : M p with
  | none => rfl
  | some u => exact absurd hp (r.sub.isSome e)
theorem Rep.at_ {st : Sto} (r : Rep N M ρ st H) {i : Nat} {a : Addr} (e : ρ[i]? = some a) : ∃ o, st[i]? = some o ∧ RO N M ρ H o a := by
  have hi := (List.getElem?_eq_some_iff.mp e).1
  rw [r.len] at hi
  exact ⟨st[i], by simp [hi], r.ob i a _ e (by simp [hi])⟩
theorem Rep.addr {st : Sto} (r : Rep N M ρ st H) {i : Nat} {o : Ob} (e : st[i]? = some o) : ∃ a, ρ[i]? = some a ∧ RO N M ρ H o a := by
  have hi := (List.getElem?_eq_some_iff.mp e).1
  rw [← r.len] at hi
  exact ⟨ρ[i], by simp [hi], r.ob i _ _ (by simp [hi]) e⟩
theorem Rep.mem {st : Sto} (r : Rep N M ρ st H) {a : Addr} (h : a ∈ ρ) : H a ≠ none := by
  obtain ⟨i, hi⟩ := List.getElem?_of_mem h
  obtain ⟨o, _, ho⟩ := r.at_ hi
  exact ho.there
theorem Rep.new {st : Sto} (r : Rep N M ρ st H) {p : Addr} {o : HO} (hp : H p = none) : Rep N (upd M p o) ρ st (upd H p o) := by
  obtain ⟨h1, h2⟩ := r.sub.new (o := o) hp
  refine ⟨h1, r.len, r.inj, fun i a ob e1 e2 => ?_⟩
  have q := r.ob i a ob e1 e2
  have hne : a ≠ p := fun z => q.there (by rw [z]; exact hp)
  exact q.mono h2 (Pre.refl _) (fun hm => by rw [upd_ne hne]; exact hm) fun u hu => by rw [upd_ne hne]; exact hu
theorem Ext.new {p : Addr} {o : HO} (r : Sub M H) (hp : H p = none) : Ext M ρ H (upd M p o) ρ (upd H p o) := by
  refine ⟨(r.new hp).2, Pre.refl _, (Fr.refl _ _).new hp, fun a h => ?_, fun a h => .inl h⟩
  by_cases z : a = p
  · exact .inr (.inl (by rw [z]; exact hp))
  · rw [upd_ne z] at h
    exact .inl h
theorem Rep.loc {st : Sto} (r : Rep N M ρ st H) {p : Addr} {u : HO} {o : Ob} (hp : H p = none) (ho : RO N M (ρ ++ [p]) (upd H p u) o p) : Rep N M (ρ ++ [p]) (st ++ [o]) (upd H p u) := by
  have hm := r.non hp
  have hs : Sub M (upd H p u) := fun b u' e => by
    rw [upd_ne (fun z => by rw [z, hm] at e; cases e)]
    exact r.sub b u' e
  have hmem : p ∉ ρ := fun z => r.mem z hp
  refine ⟨hs, by rw [List.length_append, List.length_append, r.len]; rfl, fun i j a e1 e2 => ?_, fun i a o' e1 e2 => ?_⟩
  · rw [List.getElem?_append] at e1 e2
    split at e1 <;> split at e2
    · exact r.inj i j a e1 e2
    · rename_i h1 h2
      exfalso
      have : a = p := by
        cases z : j - ρ.length with
        | zero => rw [z] at e2; simpa using e2.symm
        | succ n => rw [z] at e2; simp at e2
      rw [this] at e1
      exact hmem (List.mem_of_getElem? e1)
    · rename_i h1 h2
      exfalso
      have : a = p := by
        cases z : i - ρ.length with
        | zero => rw [z] at e1; simpa using e1.symm
        | succ n => rw [z] at e1; simp at e1
      rw [this] at e2
      exact hmem (List.mem_of_getElem? e2)
    · rename_i h1 h2
      have k1 : i - ρ.length = 0 := by
        have := (List.getElem?_eq_some_iff.mp e1).1
        simpa using this
      have k2 : j - ρ.length = 0 := by
        have := (List.getElem?_eq_some_iff.mp e2).1
        simpa using this
      omega
  · rw [List.getElem?_append] at e1 e2
    split at e1
    · rename_i h1
      rw [if_pos (by rw [← r.len]; exact h1)] at e2
      have q := r.ob i a o' e1 e2
      have hne : a ≠ p := fun z => q.there (by rw [z]; exact hp)
      exact q.mono (Same.refl _) ⟨[p], rfl⟩ (fun h => h) fun u hu => by rw [upd_ne hne]; exact hu
    · rename_i h1
      rw [if_neg (by rw [← r.len]; exact h1)] at e2
      have k1 : i - ρ.length = 0 := by
        have := (List.getElem?_eq_some_iff.mp e1).1
        simpa using this
      rw [k1] at e1
      rw [← r.len, k1] at e2
      cases e1
      cases e2
      exact ho
theorem Ext.loc {p : Addr} {o : HO} (hp : H p = none) : Ext M ρ H M (ρ ++ [p]) (upd H p o) := by
  refine ⟨Same.refl _, ⟨[p], rfl⟩, (Fr.refl _ _).new hp, fun a h => .inl h, fun a h => ?_⟩
  rcases List.mem_append.mp h with h | h
  · exact .inl h
  · rw [List.mem_singleton] at h
    rw [h]
    exact .inr hp
theorem Rep.wr {st : Sto} (r : Rep N M ρ st H) {n : Nat} {a : Addr} {u : HO} {o : Ob} (ha : ρ[n]? = some a) (hm : M a = none) (ho : RO N M ρ (upd H a u) o a) : Rep N M ρ (st.set n o) (upd H a u) := by
  have hs : Sub M (upd H a u) := fun b u' e => by
    rw [upd_ne (fun z => by rw [z, hm] at e; cases e)]
    exact r.sub b u' e
  refine ⟨hs, by rw [List.length_set]; exact r.len, r.inj, fun i b o' e1 e2 => ?_⟩
  by_cases z : n = i
  · subst z
    rw [ha] at e1
    cases e1
    have hn := (List.getElem?_eq_some_iff.mp ha).1
    rw [List.getElem?_set_self (by rw [← r.len]; exact hn)] at e2
    cases e2
    exact ho
  · rw [List.getElem?_set_ne z] at e2
    have hne : b ≠ a := fun w => z (r.inj _ _ _ ha (by rw [← w]; exact e1))
    exact (r.ob i b o' e1 e2).mono (Same.refl _) (Pre.refl _) (fun h => h) fun u hu => by rw [upd_ne hne]; exact hu
theorem Ext.wr {a : Addr} {o : HO} (ha : a ∈ ρ) : Ext M ρ H M ρ (upd H a o) := ⟨Same.refl _, Pre.refl _, (Fr.refl _ _).wr ha, fun a h => .inl h, fun a h => .inl h⟩
theorem Rep.fz {st : Sto} (r : Rep N M ρ st H) {n : Nat} {a : Addr} {u : HO} {d : D} (ha : ρ[n]? = some a) (hm : M a = Option.none) (hu : H a = some u) (hd : Rp N (upd M a u) d (.ref a)) : Rep N (upd M a u) ρ (st.set n (.fz d)) H := by
  have hs : Sub (upd M a u) H := fun b u' e => by
    by_cases z : b = a
    · subst z
      rw [upd_same] at e
      cases e
      exact .inl hu
    · rw [upd_ne z] at e
      exact r.sub b u' e
  refine ⟨hs, by rw [List.length_set]; exact r.len, r.inj, fun i b o' e1 e2 => ?_⟩
  by_cases z : n = i
  · subst z
    rw [ha] at e1
    cases e1
    have hn := (List.getElem?_eq_some_iff.mp ha).1
    rw [List.getElem?_set_self (by rw [← r.len]; exact hn)] at e2
    cases e2
    exact ⟨hd, by rw [hu]; exact fun z => nomatch z⟩
  · rw [List.getElem?_set_ne z] at e2
    have hne : b ≠ a := fun w => z (r.inj _ _ _ ha (by rw [← w]; exact e1))
    exact (r.ob i b o' e1 e2).mono (same_grow0 hm) (Pre.refl _) (fun h => by rw [upd_ne hne]; exact h) fun u hu => hu
theorem Ext.fz {a : Addr} {u : HO} (ha : a ∈ ρ) (hm : M a = none) : Ext M ρ H (upd M a u) ρ H := by
  refine ⟨same_grow0 hm, Pre.refl _, Fr.refl _ _, fun b h => ?_, fun a h => .inl h⟩
  by_cases z : b = a
  · exact .inr (.inr (by rw [z]; exact ha))
  · rw [upd_ne z] at h
    exact .inl h
end
end Dl
end

section
set_option maxHeartbeats 4000000
namespace Dl
open PySem PySem.Spec PyProof.Rows L2 Co
abbrev DX := Str → List (Str × D) → Sto → Prop
abbrev Lv (α : Type) := Sl → Sto → (α → Sto → Prop) → DX → Prop
abbrev DW := Lv W
abbrev DD := Lv D
abbrev DT := Lv Bool
abbrev DA := Lv (List W)
abbrev DAD := Lv (List D)
structure En where
  nx : Sl → Sto → Prop
  rt : W → Sto → Prop
  ex : Str → List (Str × D) → Sl → Sto → Prop
  bk : Sl → Sto → Prop := fun _ _ => False
  ct : Sl → Sto → Prop := fun _ _ => False
abbrev DS := En → Sl → Sto → Prop
def ErrOwn (N : Kn) (M : Hp) : Option Addr → List (Str × D) → Prop
  | none, fs => fs = []
  | some d, fs => ∃ fxs, M d = some (.xd fxs) ∧ fxs.map (·.1) = fs.map (·.1) ∧ Rps N M (fs.map (·.2)) (fxs.map (·.2))
def ExL (N : Kn) (Wx : WX) (M : Hp) (ρ : List Addr) (H : Hp) (σV : L2.St) (ex : DX) : Prop :=
  ∀ c fs st', ex c fs st' → ∀ o M' ρ' H', Ext M ρ H M' ρ' H' → Rep N M' ρ' st' H' → ErrOwn N M' o fs → Wx (.ref (He.ga N.K c)) o σV H'
structure Kx (N : Kn) (Wx : WX) (M : Hp) (ρ : List Addr) (σ : Sl) (st : Sto) (H : Hp) (σV : L2.St) (ex : DX) : Prop where
  rep : Rep N M ρ st H
  rs : Rs N M ρ σ σV
  xl : ExL N Wx M ρ H σV ex
theorem Kx.step {N : Kn} {Wx : WX} {M M' H H' : Hp} {ρ ρ' : List Addr} {σ : Sl} {st st' : Sto} {σV : L2.St} {ex : DX} (c : Kx N Wx M ρ σ st H σV ex) (e : Ext M ρ H M' ρ' H') (r : Rep N M' ρ' st' H') : Kx N Wx M' ρ' σ st' H' σV ex :=
  ⟨r, c.rs.ext e, fun c' fs st2 h o M2 ρ2 H2 e2 => c.xl c' fs st2 h o M2 ρ2 H2 (e.trans e2)⟩
def Lf {α β : Type} (N : Kn) (Wx : WX) (R : Hp → List Addr → α → β → Prop) (t : Lv α) : L2.St → Hp → (β → Hp → Prop) → Prop := fun σV H Q =>
  ∃ M ρ σ st k ex, Kx N Wx M ρ σ st H σV ex ∧ t σ st k ex ∧ ∀ w st', k w st' → ∀ v M' ρ' H', Ext M ρ H M' ρ' H' → Rep N M' ρ' st' H' → R M' ρ' w v → Q v H'
abbrev RW_ (N : Kn) : Hp → List Addr → W → V → Prop := fun M ρ w v => Rw N M ρ w v
abbrev RD_ (N : Kn) : Hp → List Addr → D → V → Prop := fun M _ d v => Rp N M d v
abbrev RB_ : Hp → List Addr → Bool → Bool → Prop := fun _ _ b c => c = b
abbrev RA_ (N : Kn) : Hp → List Addr → List W → List V → Prop := fun M ρ w v => Rws N M ρ w v
abbrev RAD_ (N : Kn) : Hp → List Addr → List D → List V → Prop := fun M _ d v => Rps N M d v
abbrev lW (N : Kn) (Wx : WX) (t : DW) : TE := Lf N Wx (RW_ N) t
abbrev lD (N : Kn) (Wx : WX) (t : DD) : TE := Lf N Wx (RD_ N) t
abbrev lT (N : Kn) (Wx : WX) (t : DT) : TT := Lf N Wx RB_ t
abbrev lA (N : Kn) (Wx : WX) (t : DA) : TA := Lf N Wx (RA_ N) t
abbrev lAD (N : Kn) (Wx : WX) (t : DAD) : TA := Lf N Wx (RAD_ N) t
class Mo {α β : Type} (R : Hp → List Addr → α → β → Prop) : Prop where
  mo : ∀ {M H M' H' : Hp} {ρ ρ' : List Addr} {w : α} {v : β}, Ext M ρ H M' ρ' H' → R M ρ w v → R M' ρ' w v
instance {N : Kn} : Mo (RW_ N) := ⟨fun e h => Rw.ext h e⟩
instance {N : Kn} : Mo (RD_ N) := ⟨fun e h => Rp.ext h e⟩
instance : Mo RB_ := ⟨fun _ h => h⟩
instance {N : Kn} : Mo (RA_ N) := ⟨fun e h => Rws.ext h e⟩
instance {N : Kn} : Mo (RAD_ N) := ⟨fun e h => Rps.ext h e⟩
section
variable {N : Kn} {Wx : WX} {M H : Hp} {ρ : List Addr} {σ : Sl} {st : Sto} {σV : L2.St} {ex : DX}
theorem Lf.of {α β : Type} {R : Hp → List Addr → α → β → Prop} {t : Lv α} {k : α → Sto → Prop} {Q : β → Hp → Prop} (c : Kx N Wx M ρ σ st H σV ex) (h : t σ st k ex)
    (q : ∀ w st', k w st' → ∀ v M' ρ' H', Ext M ρ H M' ρ' H' → Kx N Wx M' ρ' σ st' H' σV ex → R M' ρ' w v → Q v H') : Lf N Wx R t σV H Q :=
  ⟨M, ρ, σ, st, k, ex, c, h, fun w st' hk v M' ρ' H' e r rv => q w st' hk v M' ρ' H' e (c.step e r) rv⟩
theorem Lf.bin {α β α' β' : Type} {R : Hp → List Addr → α → β → Prop} [Mo R] {R' : Hp → List Addr → α' → β' → Prop} {t : Lv α} {t' : Lv α'} {g : α → α' → Sto → Prop} {Q : β → β' → Hp → Prop} (c : Kx N Wx M ρ σ st H σV ex)
    (h : t σ st (fun w st1 => t' σ st1 (fun w' st2 => g w w' st2) ex) ex)
    (q : ∀ w w' st', g w w' st' → ∀ v v' M' ρ' H', Ext M ρ H M' ρ' H' → Kx N Wx M' ρ' σ st' H' σV ex → R M' ρ' w v → R' M' ρ' w' v' → Q v v' H') :
    Lf N Wx R t σV H (fun v H1 => Lf N Wx R' t' σV H1 (fun v' H2 => Q v v' H2)) :=
  Lf.of c h fun w st1 h1 v M1 ρ1 H1 e1 c1 r1 => Lf.of c1 h1 fun w' st2 h2 v' M2 ρ2 H2 e2 c2 r2 => q w w' st2 h2 v v' M2 ρ2 H2 (e1.trans e2) c2 (Mo.mo e2 r1) r2
theorem Kx.open_ {α β : Type} {R : Hp → List Addr → α → β → Prop} {t : Lv α} {Q : β → Hp → Prop} (h : Lf N Wx R t σV H Q) :
    ∃ M ρ σ st k ex, Kx N Wx M ρ σ st H σV ex ∧ t σ st k ex ∧ ∀ w st', k w st' → ∀ v M' ρ' H', Ext M ρ H M' ρ' H' → Kx N Wx M' ρ' σ st' H' σV ex → R M' ρ' w v → Q v H' := by
  obtain ⟨M, ρ, σ, st, k, ex, c, ht, q⟩ := h
  exact ⟨M, ρ, σ, st, k, ex, c, ht, fun w st' hk v M' ρ' H' e c' r => q w st' hk v M' ρ' H' e c'.rep r⟩
theorem Kx.new (c : Kx N Wx M ρ σ st H σV ex) {p : Addr} {o : HO} (hp : H p = none) : Ext M ρ H (upd M p o) ρ (upd H p o) ∧ Kx N Wx (upd M p o) ρ σ st (upd H p o) σV ex :=
  ⟨Ext.new c.rep.sub hp, c.step (Ext.new c.rep.sub hp) (c.rep.new hp)⟩
theorem Kx.loc (c : Kx N Wx M ρ σ st H σV ex) {p : Addr} {u : HO} {o : Ob} (hp : H p = none) (ho : RO N M (ρ ++ [p]) (upd H p u) o p) : Ext M ρ H M (ρ ++ [p]) (upd H p u) ∧ Kx N Wx M (ρ ++ [p]) σ (st ++ [o]) (upd H p u) σV ex :=
  ⟨Ext.loc hp, c.step (Ext.loc hp) (c.rep.loc hp ho)⟩
theorem Kx.wr (c : Kx N Wx M ρ σ st H σV ex) {n : Nat} {a : Addr} {u : HO} {o : Ob} (ha : ρ[n]? = some a) (hm : M a = none) (ho : RO N M ρ (upd H a u) o a) : Ext M ρ H M ρ (upd H a u) ∧ Kx N Wx M ρ σ (st.set n o) (upd H a u) σV ex :=
  ⟨Ext.wr (List.mem_of_getElem? ha), c.step (Ext.wr (List.mem_of_getElem? ha)) (c.rep.wr ha hm ho)⟩
end
def dW1 : W → Option D
  | .im d => some d
  | _ => none
def dWs : List W → Option (List D)
  | [] => some []
  | .im d :: r => match dWs r with
    | some ds => some (d :: ds)
    | none => none
  | _ :: _ => none
def flat : Ob → Option D
  | .fz d => some d
  | .lst ds => some (.lst ds)
  | .dct ks ds => some (.dct ks ds)
  | .dcT ks ds => some (.dcT ks ds)
  | .ins C fs => match dWs (fs.map (·.2)) with
    | some ds => some (.ins C (fs.map (·.1)) ds)
    | none => none
  | _ => none
def fzFs (st : Sto) : List (Str × W) → Option (List (Str × W) × Sto)
  | [] => some ([], st)
  | (x, .im d) :: r => match fzFs st r with
    | some (r', st') => some ((x, .im d) :: r', st')
    | none => none
  | (x, .loc n) :: r => match st[n]? with
    | some o => (match flat o with
      | some d => (match fzFs (st.set n (.fz d)) r with
        | some (r', st') => some ((x, .im d) :: r', st')
        | none => none)
      | none => none)
    | none => none
  | (_, .dead) :: _ => none
def toD (w : W) (st : Sto) : Option (D × Sto) := match w with
  | .im d => some (d, st)
  | .loc n => match st[n]? with
    | some (.ins C fs) => (match fzFs st fs with
      | some (fs', st') => (match st'[n]? with
        | some (.ins _ _) => (match flat (.ins C fs') with
          | some d => some (d, st'.set n (.fz d))
          | none => none)
        | _ => none)
      | none => none)
    | some o => (match flat o with
      | some d => some (d, st.set n (.fz d))
      | none => none)
    | none => none
  | .dead => none
section
variable {N : Kn} {M H : Hp} {ρ : List Addr} {st : Sto}
theorem dWs_ok : ∀ {ws : List W} {ds : List D} {vs : List V}, dWs ws = some ds → Rws N M ρ ws vs → Rps N M ds vs
  | [], _, _, e, h => by cases e; exact h
  | .im d :: r, _, _, e, ⟨x, q, h1, h2, h3⟩ => by
    unfold dWs at e
    split at e
    · rename_i es e1
      cases e
      exact ⟨x, q, h1, h2, dWs_ok e1 h3⟩
    · cases e
  | .loc _ :: _, _, _, e, _ => by cases e
  | .dead :: _, _, _, e, _ => by cases e
theorem flat_ok (r : Rep N M ρ st H) {n : Nat} {a : Addr} {o : Ob} {d : D} (ha : ρ[n]? = some a) (ho : st[n]? = some o) (e : flat o = some d) :
    ∃ M', Ext M ρ H M' ρ H ∧ Rep N M' ρ (st.set n (.fz d)) H ∧ Rp N M' d (.ref a) := by
  have q := r.ob n a o ha ho
  have go : ∀ u, M a = none → H a = some u → (Rp N (upd M a u) d (.ref a)) → ∃ M', Ext M ρ H M' ρ H ∧ Rep N M' ρ (st.set n (.fz d)) H ∧ Rp N M' d (.ref a) := fun u hm hu hd =>
    ⟨_, Ext.fz (List.mem_of_getElem? ha) hm, r.fz ha hm hu hd, hd⟩
  cases o with
  | lst ds =>
    cases e
    obtain ⟨hm, xs, h1, h2⟩ := q
    exact go _ hm h1 ⟨a, xs, rfl, upd_same, h2.mono (same_grow0 hm)⟩
  | dct ks ds =>
    cases e
    obtain ⟨hm, xs, h1, h2, h3⟩ := q
    exact go _ hm h1 ⟨a, xs, rfl, upd_same, h2, h3.mono (same_grow0 hm)⟩
  | dcT ks ds =>
    cases e
    obtain ⟨hm, xs, h1, h2, h3⟩ := q
    exact go _ hm h1 ⟨a, xs, rfl, upd_same, h2, h3.mono (same_grow0 hm)⟩
  | ins C fs =>
    cases hz : dWs (fs.map (·.2)) with
    | none => simp only [flat, hz] at e; cases e
    | some ds =>
      simp only [flat, hz] at e
      cases e
      obtain ⟨hm, dx, xs, h1, h2, h3⟩ := q
      exact go _ hm h1 ⟨a, dx, xs, rfl, upd_same, h2, (dWs_ok hz h3).mono (same_grow0 hm)⟩
  | pool => cases e
  | fz d' =>
    cases e
    have : st.set n (.fz d) = st := by
      apply List.ext_getElem? 
      intro i
      by_cases z : n = i
      · subst z
        have hn := (List.getElem?_eq_some_iff.mp ho).1
        rw [List.getElem?_set_self hn, ho]
      · rw [List.getElem?_set_ne z]
    rw [this]
    exact ⟨M, Ext.refl, r, q.1⟩
  | gone => cases e
theorem fzFs_ok : ∀ {fs fs' : List (Str × W)} {vs : List V} {M : Hp} {st st' : Sto}, Rep N M ρ st H → fzFs st fs = some (fs', st') → Rws N M ρ (fs.map (·.2)) vs →
    ∃ M', Ext M ρ H M' ρ H ∧ Rep N M' ρ st' H ∧ Rws N M' ρ (fs'.map (·.2)) vs ∧ fs'.map (·.1) = fs.map (·.1)
  | [], _, _, M, _, _, r, e, h => by
    cases e
    exact ⟨M, Ext.refl, r, h, rfl⟩
  | (x, .im d) :: fs, _, _, M, st, _, r, e, ⟨v, q, h1, h2, h3⟩ => by
    unfold fzFs at e
    split at e
    · rename_i r' st1 e1
      cases e
      obtain ⟨M', E, R, h4, h5⟩ := fzFs_ok r e1 h3
      exact ⟨M', E, R, ⟨v, q, h1, h2.ext E, h4⟩, by rw [List.map_cons, List.map_cons, h5]⟩
    · cases e
  | (x, .loc n) :: fs, _, _, M, st, _, r, e, ⟨v, q, h1, ⟨a, h2, h2'⟩, h3⟩ => by
    unfold fzFs at e
    split at e
    · rename_i o ho
      split at e
      · rename_i d hd
        split at e
        · rename_i r' st1 e1
          cases e
          obtain ⟨M1, E1, R1, p1⟩ := flat_ok r h2 ho hd
          obtain ⟨M', E, R, h4, h5⟩ := fzFs_ok R1 e1 (Rws.ext h3 E1)
          refine ⟨M', E1.trans E, R, ⟨v, q, h1, ?_, h4⟩, by rw [List.map_cons, List.map_cons, h5]⟩
          rw [h2']
          exact Rp.ext p1 E
        · cases e
      · cases e
    · cases e
  | (x, .dead) :: fs, _, _, _, _, _, _, e, _ => by cases e
theorem toD_ok {w : W} {d : D} {st' : Sto} {v : V} (r : Rep N M ρ st H) (e : toD w st = some (d, st')) (h : Rw N M ρ w v) : ∃ M', Ext M ρ H M' ρ H ∧ Rep N M' ρ st' H ∧ Rp N M' d v := by
  cases w with
  | im d' => cases e; exact ⟨M, Ext.refl, r, h⟩
  | dead => cases e
  | loc n =>
    obtain ⟨a, ha, rfl⟩ := h
    have gen : ∀ o, st[n]? = some o → (match flat o with
      | some d => some (d, st.set n (.fz d))
      | none => none) = some (d, st') → ∃ M', Ext M ρ H M' ρ H ∧ Rep N M' ρ st' H ∧ Rp N M' d (.ref a) := fun o ho e => by
      cases hf : flat o with
      | none => rw [hf] at e; cases e
      | some d2 =>
        rw [hf] at e
        cases e
        exact flat_ok r ha ho hf
    cases ho : st[n]? with
    | none => simp only [toD, ho] at e; cases e
    | some o =>
      cases o with
      | ins C fs =>
        simp only [toD, ho] at e
        cases h1 : fzFs st fs with
        | none => rw [h1] at e; cases e
        | some p =>
          obtain ⟨fs', st1⟩ := p
          rw [h1] at e
          simp only at e
          cases h2 : st1[n]? with
          | none => rw [h2] at e; cases e
          | some o2 =>
            rw [h2] at e
            cases o2 with
            | ins C2 gs2 =>
              simp only at e
              obtain ⟨hm, dx, xs, q1, q2, q3⟩ := r.ob n a _ ha ho
              obtain ⟨M1, E1, R1, r1, r2⟩ := fzFs_ok r h1 q3
              obtain ⟨hm1, _⟩ := R1.ob n a _ ha h2
              cases h3 : flat (.ins C fs') with
              | none => rw [h3] at e; cases e
              | some d2 =>
                rw [h3] at e
                cases e
                cases h4 : dWs (fs'.map (·.2)) with
                | none => simp only [flat, h4] at h3; cases h3
                | some ds =>
                  simp only [flat, h4] at h3
                  cases h3
                  have hd : Rp N (upd M1 a (.ins (He.ga N.K C) dx xs)) (.ins C (fs'.map (·.1)) ds) (.ref a) := ⟨a, dx, xs, rfl, upd_same, by rw [q2, r2], (dWs_ok h4 r1).mono (same_grow0 hm1)⟩
                  exact ⟨_, E1.trans (Ext.fz (List.mem_of_getElem? ha) hm1), R1.fz ha hm1 q1 hd, hd⟩
            | _ => cases e
      | lst ds => exact gen _ ho (by simpa only [toD, ho] using e)
      | dct ks ds => exact gen _ ho (by simpa only [toD, ho] using e)
      | dcT ks ds => exact gen _ ho (by simpa only [toD, ho] using e)
      | pool => exact gen _ ho (by simpa only [toD, ho] using e)
      | fz d2 => exact gen _ ho (by simpa only [toD, ho] using e)
      | gone => exact gen _ ho (by simpa only [toD, ho] using e)
end
end Dl
end

section
set_option maxHeartbeats 4000000
namespace Dl
open PySem PySem.Spec PyProof.Rows L2 Co
def dV (i : Nat) : DW := fun σ st k _ => match σ[i]? with
  | some (some w) => k w st
  | _ => False
def dC (d : D) : DD := fun _ st k _ => k d st
def dD (t : DW) : DD := fun σ st k ex => t σ st (fun w st1 => match toD w st1 with
  | some (d, st2) => k d st2
  | none => False) ex
def dI (t : DD) : DW := fun σ st k ex => t σ st (fun d st1 => k (.im d) st1) ex
abbrev F2 := D → D → (D → Prop) → Prop
def dOp (f : F2) (ta tb : DD) : DD := fun σ st k ex => ta σ st (fun x st1 => tb σ st1 (fun y st2 => f x y fun d => k d st2) ex) ex
def dUn (f : D → (D → Prop) → Prop) (ta : DD) : DD := fun σ st k ex => ta σ st (fun x st1 => f x fun d => k d st1) ex
def seeW (w : W) (st : Sto) : Option D := match w with
  | .im d => some d
  | .loc n => (match st[n]? with
    | some o => flat o
    | none => none)
  | .dead => none
abbrev C2 := D → D → (Bool → Prop) → Prop
def dCmp (f : C2) (ta tb : DW) : DT := fun σ st k ex => ta σ st (fun x st1 => tb σ st1 (fun y st2 => match seeW x st2, seeW y st2 with
  | some d, some e => f d e fun b => k b st2
  | _, _ => False) ex) ex
def dB (t : DT) : DD := fun σ st k ex => t σ st (fun b st1 => k (.bl b) st1) ex
def dBo (t : DD) : DT := fun σ st k ex => t σ st (fun x st1 => match x with
  | .bl b => k b st1
  | _ => False) ex
def dIsN (t : DW) : DT := fun σ st k ex => t σ st (fun w st1 => match w with
  | .im .non => k true st1
  | .im _ => k false st1
  | .loc _ => k false st1
  | .dead => False) ex
def dNot (t : DT) : DT := fun σ st k ex => t σ st (fun b st1 => k (!b) st1) ex
def dAnd (t u : DT) : DT := fun σ st k ex => t σ st (fun b st1 => two b (u σ st1 k ex) (k false st1)) ex
def dOr (t u : DT) : DT := fun σ st k ex => t σ st (fun b st1 => two b (k true st1) (u σ st1 k ex)) ex
def dIfE {α : Type} (c : DT) (t u : Lv α) : Lv α := fun σ st k ex => c σ st (fun b st1 => two b (t σ st1 k ex) (u σ st1 k ex)) ex
def truD (x : D) (k : Bool → Prop) : Prop := match x with
  | .non => k false
  | .bl b => k b
  | .int i => k (i != 0)
  | .str y => y.length ≤ sizeLine ∧ k ((y.length : Int) != 0)
  | .tup ds => k (!ds.isEmpty)
  | .lst ds => k (!ds.isEmpty)
  | .dct ks _ => k (!ks.isEmpty)
  | _ => False
def dTru (t : DW) : DT := fun σ st k ex => t σ st (fun w st1 => match seeW w st1 with
  | some d => truD d fun b => k b st1
  | none => False) ex
def aNil : DA := fun _ st k _ => k [] st
def aCons (t : DW) (r : DA) : DA := fun σ st k ex => t σ st (fun w st1 => r σ st1 (fun ws st2 => k (w :: ws) st2) ex) ex
def adNil : DAD := fun _ st k _ => k [] st
def adCons (t : DD) (r : DAD) : DAD := fun σ st k ex => t σ st (fun w st1 => r σ st1 (fun ws st2 => k (w :: ws) st2) ex) ex
def dTup (t : DAD) : DD := fun σ st k ex => t σ st (fun ds st1 => ds.length ≤ 1000000 ∧ k (.tup ds) st1) ex
def dLst (t : DAD) : DD := fun σ st k ex => t σ st (fun ds st1 => ds.length ≤ 1000000 ∧ k (.lst ds) st1) ex
def dLstM (t : DAD) : DW := fun σ st k ex => t σ st (fun ds st1 => ds.length ≤ 1000000 ∧ k (.loc st1.length) (st1 ++ [.lst ds])) ex
def fAdd : F2 := fun x y k => match x, y with
  | .int i, .int j => k (.int (i + j))
  | .str a, .str b => a.length + b.length ≤ sizeLine ∧ k (.str (a ++ b))
  | .tup a, .tup b => a.length + b.length ≤ 1000000 ∧ k (.tup (a ++ b))
  | .lst a, .lst b => a.length + b.length ≤ 1000000 ∧ k (.lst (a ++ b))
  | _, _ => False
def fSub : F2 := fun x y k => match x, y with
  | .int i, .int j => k (.int (i - j))
  | _, _ => False
def fMul : F2 := fun x y k => match x, y with
  | .int i, .int j => CMulL i j ∧ k (.int (i * j))
  | .str z, .int n => n * z.length ≤ 1000000 ∧ -(2 ^ 62) ≤ n ∧ n < 2 ^ 62 ∧ k (.str (S (repL z.cps.toList n)))
  | _, _ => False
def fMod : F2 := fun x y k => match x, y with
  | .int i, .int j => 0 < j ∧ k (.int (i % j))
  | _, _ => False
def fDiv : F2 := fun x y k => match x, y with
  | .int i, .int j => CDivL i j ∧ k (.int (i / j))
  | _, _ => False
def fPow : F2 := fun x y k => match x, y with
  | .int i, .int j => CPow i j ∧ k (.int (i ^ j.toNat))
  | _, _ => False
def fNeg : D → (D → Prop) → Prop := fun x k => match x with
  | .int i => k (.int (-i))
  | _ => False
def cLt : C2 := fun x y k => match x, y with
  | .int i, .int j => k (decide (i < j))
  | .str a, .str b => k (decide (a.cps.toList < b.cps.toList))
  | _, _ => False
def cLe : C2 := fun x y k => match x, y with
  | .int i, .int j => k (decide (i ≤ j))
  | _, _ => False
def cGt : C2 := fun x y k => match x, y with
  | .int i, .int j => k (decide (j < i))
  | _, _ => False
def cGe : C2 := fun x y k => match x, y with
  | .int i, .int j => k (decide (j ≤ i))
  | _, _ => False
section
variable {N : Kn} {Wx : WX} {M H : Hp} {ρ : List Addr} {σ : Sl} {st : Sto} {σV : L2.St} {ex : DX}
def Fv (M : Hp) (ρ : List Addr) (H : Hp) : Hp := fun b => match M b with
  | some u => some u
  | none => if b ∈ ρ then H b else none
theorem Fv.same (M : Hp) (ρ : List Addr) (H : Hp) : Same M (Fv M ρ H) := fun b u e => by
  unfold Fv
  rw [e]
theorem Fv.sub (s : Sub M H) : Sub (Fv M ρ H) H := fun b u e => by
  unfold Fv at e
  cases h : M b with
  | some u' =>
    rw [h] at e
    cases e
    exact s _ _ h
  | none =>
    rw [h] at e
    simp only at e
    split at e
    · exact .inl e
    · cases e
theorem Fv.at_ {n : Nat} {a : Addr} (ha : ρ[n]? = some a) (hm : M a = none) : Fv M ρ H a = H a := by
  unfold Fv
  rw [hm]
  simp only
  rw [if_pos (List.mem_of_getElem? ha)]
def RpC (N : Kn) (M F : Hp) : D → V → Prop
  | .lst ds, v => ∃ p xs, v = .ref p ∧ F p = some (.lst xs) ∧ Rps N M ds xs
  | .dct ks ds, v => ∃ p kvs, v = .ref p ∧ F p = some (.dK kvs) ∧ kvs.map (·.1) = ks ∧ Rps N M ds (kvs.map (·.2))
  | .dcT ks ds, v => ∃ p kvs, v = .ref p ∧ F p = some (.dT kvs) ∧ kvs.map (·.1) = ks ∧ Rps N M ds (kvs.map (·.2))
  | .ins C ns ds, v => ∃ p dx fs, v = .ref p ∧ F p = some (.ins (He.ga N.K C) dx fs) ∧ fs.map (·.1) = ns ∧ Rps N M ds (fs.map (·.2))
  | d, v => Rp N M d v
theorem RpC.of {d : D} {v : V} {F : Hp} (h : Rp N M d v) (s : Same M F) : RpC N M F d v := by
  cases d with
  | lst ds => obtain ⟨p, xs, h1, h2, h3⟩ := h; exact ⟨p, xs, h1, s _ _ h2, h3⟩
  | dct ks ds => obtain ⟨p, xs, h1, h2, h3⟩ := h; exact ⟨p, xs, h1, s _ _ h2, h3⟩
  | dcT ks ds => obtain ⟨p, xs, h1, h2, h3⟩ := h; exact ⟨p, xs, h1, s _ _ h2, h3⟩
  | ins C ns ds => obtain ⟨p, dx, fs, h1, h2, h3⟩ := h; exact ⟨p, dx, fs, h1, s _ _ h2, h3⟩
  | _ => exact h
theorem RpC.rp {d : D} {v : V} {F : Hp} (h : RpC N M F d v) (s : Same M F) : Rp N F d v := by
  cases d with
  | lst ds => obtain ⟨p, xs, h1, h2, h3⟩ := h; exact ⟨p, xs, h1, h2, h3.mono s⟩
  | dct ks ds => obtain ⟨p, xs, h1, h2, h3, h4⟩ := h; exact ⟨p, xs, h1, h2, h3, h4.mono s⟩
  | dcT ks ds => obtain ⟨p, xs, h1, h2, h3, h4⟩ := h; exact ⟨p, xs, h1, h2, h3, h4.mono s⟩
  | ins C ns ds => obtain ⟨p, dx, fs, h1, h2, h3, h4⟩ := h; exact ⟨p, dx, fs, h1, h2, h3, h4.mono s⟩
  | _ => exact Rp.mono s (show Rp N M _ v from h)
theorem see_ok {w : W} {d : D} {v : V} (r : Rep N M ρ st H) (e : seeW w st = some d) (h : Rw N M ρ w v) : RpC N M (Fv M ρ H) d v := by
  cases w with
  | im d' => cases e; exact RpC.of h (Fv.same M ρ H)
  | dead => cases e
  | loc n =>
    obtain ⟨a, ha, rfl⟩ := h
    cases ho : st[n]? with
    | none => simp only [seeW, ho] at e; cases e
    | some o =>
      simp only [seeW, ho] at e
      have q := r.ob n a o ha ho
      cases o with
      | lst ds => cases e; obtain ⟨hm, xs, h1, h2⟩ := q; exact ⟨a, xs, rfl, by rw [Fv.at_ ha hm]; exact h1, h2⟩
      | dct ks ds => cases e; obtain ⟨hm, xs, h1, h2⟩ := q; exact ⟨a, xs, rfl, by rw [Fv.at_ ha hm]; exact h1, h2⟩
      | dcT ks ds => cases e; obtain ⟨hm, xs, h1, h2⟩ := q; exact ⟨a, xs, rfl, by rw [Fv.at_ ha hm]; exact h1, h2⟩
      | ins C fs =>
        cases hz : dWs (fs.map (·.2)) with
        | none => simp only [flat, hz] at e; cases e
        | some ds =>
          simp only [flat, hz] at e
          cases e
          obtain ⟨hm, dx, xs, h1, h2, h3⟩ := q
          exact ⟨a, dx, xs, rfl, by rw [Fv.at_ ha hm]; exact h1, h2, dWs_ok hz h3⟩
      | pool => cases e
      | fz d2 => cases e; exact RpC.of q.1 (Fv.same M ρ H)
      | gone => cases e
end
abbrev XN (X : Cx) (b : Bool) : Kn := ⟨X.K, b⟩
section
variable {X : Cx} {b : Bool} {Wx : WX} {e e1 e2 : Expr} {pos : Pos}
theorem e_var (i : Nat) {x : Str} {N : Kn} (hN : X.N[i]? = some x := by rfl) (hv : Vis X.env.scope x := by first | exact Or.inl rfl | exact Or.inr (Or.inl rfl) | exact Or.inr (Or.inr rfl)) (hd : (x == ("__debug__" : Str)) = false := by decide)
    (hcd : (x == ("__classdict__" : Str)) = false := by decide) : PE X (.Name x pos) (lW N Wx (dV i)) := PE.imp (pe_var hN hv hd hcd) fun σV H Q h => by
  obtain ⟨M, ρ, σ, st, k, ex, c, ht, q⟩ := Kx.open_ h
  unfold dV at ht
  split at ht
  · rename_i w hw
    obtain ⟨v, h1, h2⟩ := c.rs.2 i w hw
    exact ⟨v, h1, q _ _ ht v M ρ H Ext.refl c h2⟩
  · exact ht.elim
theorem e_con {N : Kn} {d : D} {v : V} (h : PE X e (tC v)) (hv : ∀ M, Rp N M d v) : PE X e (lD N Wx (dC d)) := PE.imp h fun σV H Q h => by
  obtain ⟨M, ρ, σ, st, k, ex, c, ht, q⟩ := Kx.open_ h
  exact q _ _ ht v M ρ H Ext.refl c (hv M)
theorem e_glob {N : Kn} {x : Str} (hg : Gl X x) (hm : X.mg x = some (.ref (He.ga N.K x))) (hd : (x == ("__debug__" : Str)) = false := by decide) : PE X (.Name x pos) (lD N Wx (dC (.glo x))) := e_con (pe_glob (v := .ref (He.ga N.K x)) hg hm rfl hd) fun _ => rfl
theorem e_D {N : Kn} {t : DW} (h : PE X e (lW N Wx t)) : PE X e (lD N Wx (dD t)) := PE.imp h fun σV H Q h => by
  obtain ⟨M, ρ, σ, st, k, ex, c, ht, q⟩ := Kx.open_ h
  refine Lf.of c ht fun w st' hk v M' ρ' H' E c' r => ?_
  cases hz : toD w st' with
  | none => rw [hz] at hk; exact hk.elim
  | some p =>
    obtain ⟨d, st2⟩ := p
    rw [hz] at hk
    obtain ⟨M2, E2, R2, r2⟩ := toD_ok c'.rep hz r
    exact q _ _ hk v M2 ρ' H' (E.trans E2) (c'.step E2 R2) r2
theorem e_I {N : Kn} {t : DD} (h : PE X e (lD N Wx t)) : PE X e (lW N Wx (dI t)) := PE.imp h fun σV H Q h => by
  obtain ⟨M, ρ, σ, st, k, ex, c, ht, q⟩ := Kx.open_ h
  exact Lf.of c ht fun d st' hk v M' ρ' H' E c' r => q _ _ hk v M' ρ' H' E c' r
def OpOk (N : Kn) (r : R2) (f : F2) : Prop := ∀ {Wx : WX} {M H : Hp} {ρ : List Addr} {σ : Sl} {st : Sto} {σV : L2.St} {ex : DX} {x y : D} {u v : V} {kd : D → Prop} {Q : VK}, Kx N Wx M ρ σ st H σV ex → Rp N M x u → Rp N M y v → f x y kd →
  (∀ d, kd d → ∀ w M' H', Ext M ρ H M' ρ H' → Kx N Wx M' ρ σ st H' σV ex → Rp N M' d w → Q w H') → r u v H Q
theorem op_lift {N : Kn} {r : R2} {f : F2} {ta tb : DD} (ok : OpOk N r f) {σV : L2.St} {H : Hp} {Q : VK} (h : lD N Wx (dOp f ta tb) σV H Q) : tOp r (lD N Wx ta) (lD N Wx tb) σV H Q := by
  obtain ⟨M, ρ, σ, st, k, ex, c, ht, q⟩ := Kx.open_ h
  exact Lf.bin c ht fun x y st' hk u v M' ρ' H' E c' r1 r2 => ok c' r1 r2 hk fun d hd w M2 H2 E2 c2 r => q _ _ hd w M2 ρ' H2 (E.trans E2) c2 r
theorem e_op {N : Kn} {op : Operator} {r : R2} {f : F2} {ta tb : DD} (ho : OpR X (binaryOp op) r) (ok : OpOk N r f) (ha : PE X e1 (lD N Wx ta)) (hb : PE X e2 (lD N Wx tb)) : PE X (.BinOp e1 op e2 pos) (lD N Wx (dOp f ta tb)) := PE.imp (pe_op ho ha hb) fun _ _ _ => op_lift ok
theorem e_un {N : Kn} {op : UnaryOp} {r : V → Hp → VK → Prop} {f : D → (D → Prop) → Prop} {ta : DD} (ho : UnR X (unaryOp op) r) (ok : ∀ {M H : Hp} {x : D} {u : V} {kd : D → Prop} {Q : VK}, Rp N M x u → f x kd → (∀ d w, kd d → Rp N M d w → Q w H) → r u H Q) (ha : PE X e1 (lD N Wx ta)) : PE X (.UnaryOp op e1 pos) (lD N Wx (dUn f ta)) := by
  refine PE.imp (pe_un ho ha) fun σV H Q h => ?_
  obtain ⟨M, ρ, σ, st, k, ex, c, ht, q⟩ := Kx.open_ h
  exact Lf.of c ht fun x st' hk v M' ρ' H' E c' r => ok r hk fun d w hd hw => q _ _ hd w M' ρ' H' E c' hw
theorem OpR.or {f : Value → Value → Sem Value} {r r' : R2} (h : OpR X f r) (h' : OpR X f r') : OpR X f (fun x y H Q => r x y H Q ∨ r' x y H Q) := fun pins s σ H x y v u Q I rx ry q => q.elim (h pins s σ H x y v u Q I rx ry) (h' pins s σ H x y v u Q I rx ry)
theorem lenL6 {n : Nat} (h : n ≤ 1000000) : n ≤ sizeLine := by rw [sizeLine_eq]; omega
theorem o_add' : OpR X (binaryOp .Add) (fun x y H Q => fAddA x y H Q ∨ rCatW X.K x y H Q ∨ rCat x y H Q) := OpR.or o_addA (OpR.or op_catW op_cat)
theorem ok_add : OpOk (XN X b) (fun x y H Q => fAddA x y H Q ∨ rCatW X.K x y H Q ∨ rCat x y H Q) fAdd := by
  intro Wx M H ρ σ st σV ex x y u v kd Q c hx hy h k
  cases x <;> cases y <;> try exact h.elim
  case int.int i j => cases hx; cases hy; exact .inl (k _ h _ M H Ext.refl c rfl)
  case str.str i j => cases hx; cases hy; exact .inl ⟨h.1, k _ h.2 _ M H Ext.refl c rfl⟩
  case tup.tup xs ys =>
    obtain ⟨p, us, rfl, h1, h2⟩ := hx
    obtain ⟨q, vs, rfl, h3, h4⟩ := hy
    obtain ⟨hl, hk⟩ := h
    have e1 := h2.length
    have e2 := h4.length
    refine .inr (.inl ⟨p, q, us, vs, rfl, rfl, c.rep.sub.tup h1, c.rep.sub.tup h3, lenL6 (by omega), fun z => ?_, fun z1 z2 => ?_, fun _ _ l hl' => ?_⟩)
    · subst z
      have : xs = [] := List.eq_nil_of_length_eq_zero (by rw [← e1]; rfl)
      subst this
      exact k _ hk _ M H Ext.refl c ⟨q, vs, rfl, h3, h4⟩
    · subst z2
      have : ys = [] := List.eq_nil_of_length_eq_zero (by rw [← e2]; rfl)
      subst this
      rw [List.append_nil] at hk
      exact k _ hk _ M H Ext.refl c ⟨p, us, rfl, h1, h2⟩
    · obtain ⟨E, c'⟩ := c.new (o := .tup (us ++ vs)) hl'
      exact k _ hk _ _ _ E c' ⟨l, us ++ vs, rfl, .inl upd_same, (h2.append h4).ext E⟩
  case lst.lst xs ys =>
    obtain ⟨p, us, rfl, h1, h2⟩ := hx
    obtain ⟨q, vs, rfl, h3, h4⟩ := hy
    obtain ⟨hl, hk⟩ := h
    have e1 := h2.length
    have e2 := h4.length
    refine .inr (.inr ⟨p, q, us, vs, rfl, rfl, c.rep.sub.lst1 h1, c.rep.sub.lst1 h3, lenL6 (by omega), fun l hl' => ?_⟩)
    obtain ⟨E, c'⟩ := c.new (o := .lst (us ++ vs)) hl'
    exact k _ hk _ _ _ E c' ⟨l, us ++ vs, rfl, upd_same, (h2.append h4).ext E⟩
theorem ok_sub {N : Kn} : OpOk N Co.fSub fSub := by
  intro Wx M H ρ σ st σV ex x y u v kd Q c hx hy h k
  cases x <;> cases y <;> try exact h.elim
  cases hx; cases hy; exact k _ h _ M H Ext.refl c rfl
theorem o_mul' : OpR X (binaryOp .Mult) (fun x y H Q => Co.fMul x y H Q ∨ rRepS x y H Q) := OpR.or o_mul op_repS
theorem ok_mul {N : Kn} : OpOk N (fun x y H Q => Co.fMul x y H Q ∨ rRepS x y H Q) fMul := by
  intro Wx M H ρ σ st σV ex x y u v kd Q c hx hy h k
  cases x <;> cases y <;> try exact h.elim
  case int.int i j => cases hx; cases hy; exact .inl ⟨h.1, k _ h.2 _ M H Ext.refl c rfl⟩
  case str.int z n => cases hx; cases hy; exact .inr ⟨h.1, h.2.1, h.2.2.1, k _ h.2.2.2 _ M H Ext.refl c rfl⟩
theorem ok_mod {N : Kn} : OpOk N Co.fMod fMod := by
  intro Wx M H ρ σ st σV ex x y u v kd Q c hx hy h k
  cases x <;> cases y <;> try exact h.elim
  cases hx; cases hy; exact ⟨h.1, k _ h.2 _ M H Ext.refl c rfl⟩
theorem ok_div {N : Kn} : OpOk N Co.fDiv fDiv := by
  intro Wx M H ρ σ st σV ex x y u v kd Q c hx hy h k
  cases x <;> cases y <;> try exact h.elim
  cases hx; cases hy; exact ⟨h.1, k _ h.2 _ M H Ext.refl c rfl⟩
theorem ok_pow {N : Kn} : OpOk N Co.fPow fPow := by
  intro Wx M H ρ σ st σV ex x y u v kd Q c hx hy h k
  cases x <;> cases y <;> try exact h.elim
  cases hx; cases hy; exact ⟨h.1, k _ h.2 _ M H Ext.refl c rfl⟩
theorem ok_neg {N : Kn} {M H : Hp} {x : D} {u : V} {kd : D → Prop} {Q : VK} (hx : Rp N M x u) (h : fNeg x kd) (k : ∀ d w, kd d → Rp N M d w → Q w H) : Co.fNeg u H Q := by
  cases x <;> try exact h.elim
  cases hx
  exact k _ _ h rfl
def CmpOk (N : Kn) (r : R2) (f : C2) : Prop := ∀ {F H : Hp} {x y : D} {u v : V} {kb : Bool → Prop} {Q : VK}, Sub F H → Rp N F x u → Rp N F y v → f x y kb → (∀ c, kb c → Q (.bl c) H) → r u v H Q
theorem cmp_lift {N : Kn} {r : R2} {f : C2} {ta tb : DW} (ok : CmpOk N r f) {σV : L2.St} {H : Hp} {Q : VK} {M : Hp} {ρ : List Addr} {σ : Sl} {st : Sto} {k : Bool → Sto → Prop} {ex : DX} (c : Kx N Wx M ρ σ st H σV ex) (ht : dCmp f ta tb σ st k ex)
    (q : ∀ c st', k c st' → ∀ M' ρ' H', Ext M ρ H M' ρ' H' → Kx N Wx M' ρ' σ st' H' σV ex → Q (.bl c) H') : tOp r (lW N Wx ta) (lW N Wx tb) σV H Q := by
  refine Lf.bin c ht fun x y st' hk u v M' ρ' H' E c' r1 r2 => ?_
  cases h1 : seeW x st' with
  | none => simp only [h1] at hk
  | some d =>
    cases h2 : seeW y st' with
    | none => simp only [h1, h2] at hk
    | some e =>
      simp only [h1, h2] at hk
      exact ok (Fv.sub c'.rep.sub) ((see_ok c'.rep h1 r1).rp (Fv.same _ _ _)) ((see_ok c'.rep h2 r2).rp (Fv.same _ _ _)) hk fun b hb => q _ _ hb M' ρ' H' E c'
theorem t_cmpD {N : Kn} {op : CmpOp} {r : R2} {f : C2} {ta tb : DW} (ho : OpR X (compareOp op) r) (ok : CmpOk N r f) (ha : PE X e1 (lW N Wx ta)) (hb : PE X e2 (lW N Wx tb)) (hm : behindInMarks op e2 = false) : PT X (.Compare e1 [op] [e2] pos) (lT N Wx (dCmp f ta tb)) := PT.imp (t_cmp ho ha hb hm) fun σV H Q h => by
  obtain ⟨M, ρ, σ, st, k, ex, c, ht, q⟩ := Kx.open_ h
  exact cmp_lift ok c ht fun b st' hb M' ρ' H' E c' => q _ _ hb b M' ρ' H' E c' rfl
theorem e_cmpD {N : Kn} {op : CmpOp} {r : R2} {f : C2} {ta tb : DW} (ho : OpR X (compareOp op) r) (ok : CmpOk N r f) (ha : PE X e1 (lW N Wx ta)) (hb : PE X e2 (lW N Wx tb)) (hm : behindInMarks op e2 = false) : PE X (.Compare e1 [op] [e2] pos) (lD N Wx (dB (dCmp f ta tb))) := PE.imp (pe_cmpR ho ha hb hm) fun σV H Q h => by
  obtain ⟨M, ρ, σ, st, k, ex, c, ht, q⟩ := Kx.open_ h
  exact cmp_lift ok c ht fun b st' hb M' ρ' H' E c' => q _ _ hb _ M' ρ' H' E c' rfl
def rLtS : R2 := fun x y H Q => ∃ i j, x = .str i ∧ y = .str j ∧ Q (.bl (decide (i.cps.toList < j.cps.toList))) H
theorem o_lt' : OpR X (compareOp .Lt) (fun x y H Q => fLt x y H Q ∨ rLtS x y H Q) := OpR.or o_lt op_lt_str
theorem ok_lt {N : Kn} : CmpOk N (fun x y H Q => fLt x y H Q ∨ rLtS x y H Q) cLt := by
  intro F H x y u v kb Q s hx hy h k
  cases x <;> cases y <;> try exact h.elim
  · cases hx; cases hy; exact .inl (k _ h)
  · cases hx; cases hy; exact .inr ⟨_, _, rfl, rfl, k _ h⟩
theorem ok_le {N : Kn} : CmpOk N fLe cLe := by
  intro F H x y u v kb Q s hx hy h k
  cases x <;> cases y <;> try exact h.elim
  cases hx; cases hy; exact k _ h
theorem ok_gt {N : Kn} : CmpOk N fGt cGt := by
  intro F H x y u v kb Q s hx hy h k
  cases x <;> cases y <;> try exact h.elim
  cases hx; cases hy; exact k _ h
theorem ok_ge {N : Kn} : CmpOk N fGe cGe := by
  intro F H x y u v kb Q s hx hy h k
  cases x <;> cases y <;> try exact h.elim
  cases hx; cases hy; exact k _ h
end
end Dl
end

section
set_option maxHeartbeats 4000000
namespace PySem
open Sem (wp)
section
variable {prog : Program} {w : World} {K : Type} [DecidableEq K] {knd : HeapKind prog w K} {A : Around} {E : Value → Shared → Prop} {s : Shared}
theorem wpAny_truthy_dictH {d : Addr} {kvs : List (K × Addr × Value)} {Q : Bool → Shared → Prop} (hd : (d == sysModules) = false) (hm : s.heap.DictOfH knd d kvs) (hfit : (kvs.length : Int) < 2 ^ 63)
    (h : Q (!kvs.isEmpty) { s with toks := s.toks + 1 + 1 }) : wpAny (model prog w) A (truthy (.ref d)) Q E s := by
  have hne : ((kvs.length : Int) != 0) = !kvs.isEmpty := by cases kvs <;> simp <;> omega
  have key : wpAny (model prog w) A (runValue (.builtin "len" ⟨[.ref d], []⟩)) (fun r s' => r = .int kvs.length (s.toks + 1) ∧ Q (!kvs.isEmpty) s') E s := by
    refine wpAny_runValue (codeAny_builtin entry_len ?_)
    rw [Around.under_plainId plain_len _]
    exact wpAny_mono (wpAny_len_body_dictH (Q := fun r s' => r = .int kvs.length (s.toks + 1) ∧ Q (!kvs.isEmpty) s') hd hm hfit ⟨rfl, h⟩)
      (fun fin s' h' => by obtain ⟨r, rfl, hq⟩ := h'; exact hq) fun _ _ e => e
  unfold truthy
  first
    | refine wpAny_bind (wpAny_callSpecial?_none (name := Str.ofString "__bool__") hm.typeIs noBool_dict ?_)
    | refine wpAny_bind (wpAny_pure (wpAny_bind (wpAny_callSpecial?_none (name := Str.ofString "__bool__") hm.typeIs noBool_dict ?_)))
  first
    | refine wpAny_bind (wpAny_specialOf (name := Str.ofString "__len__") hm.typeIs F.slot_dict_len.lookup ?_)
    | refine wpAny_bind (wpAny_pure (wpAny_bind (wpAny_specialOf (name := Str.ofString "__len__") hm.typeIs F.slot_dict_len.lookup ?_)))
  first
    | exact wpAny_bind (wpAny_mono key (fun r s' h' => by obtain ⟨rfl, hq⟩ := h'; exact wpAny_pure (hne ▸ hq)) fun _ _ e => e)
    | exact wpAny_bind (wpAny_pure (wpAny_bind (wpAny_mono key (fun r s' h' => by obtain ⟨rfl, hq⟩ := h'; exact wpAny_pure (hne ▸ hq)) fun _ _ e => e)))
end
end PySem
namespace Dl
open PySem PySem.Spec PyProof.Rows L2 Co
section
variable {X : Cx} {b : Bool} {Wx : WX} {e e1 e2 e3 : Expr} {pos : Pos}
def TruW (K : PySem.W.Frag) (x : V) (H : Hp) (k : Bool) : Prop := TruV K x H k ∨ (∃ p kvs, x = .ref p ∧ Rd H p (.dK kvs) ∧ k = !kvs.isEmpty) ∨ ∃ p kvs, x = .ref p ∧ Rd H p (.dT kvs) ∧ k = !kvs.isEmpty
theorem KT_empty {H : Hp} {kvs : List (List Key × V)} {xs : List (List Key × Addr × Value)} (r : KT H kvs xs) : (!xs.isEmpty) = !kvs.isEmpty := by
  cases r <;> rfl
theorem truW_ok : TruR X (fun x H Q => ∃ k, TruW X.K x H k ∧ Q k H) := by
  intro pins s σ H x v Q I rx h
  obtain ⟨k, e | ⟨p, kvs, rfl, hx, rfl⟩ | ⟨p, kvs, rfl, hx, rfl⟩, q⟩ := h
  · exact tru_ok pins s σ H x v Q I rx ⟨k, e, q⟩
  · cases rx
    obtain ⟨hz, hS, vs, r, m⟩ := (show ObjOk X.prog X.w H s.heap p (.dK kvs) from hx.ok I.hok)
    have hlen : kvs.length = vs.length := Paired.length r
    have hs : sizeLine = 16777216 := sizeLine_eq
    exact wpAny_truthy_dict hS m (by omega) ⟨H, I.tok _, by rw [isEmpty_kv r]; exact q⟩
  · cases rx
    obtain ⟨z, hd, ys, rel, dd⟩ := dt_rd I.hok hx
    have hl : kvs.length = ys.length := Paired.length rel
    have hs : sizeLine = 16777216 := sizeLine_eq
    exact wpAny_truthy_dictH hd dd (by omega) ⟨H, I.tok _, by rw [KT_empty rel]; exact q⟩
theorem pt_truW {ta : TE} (ha : PE X e ta) (he : ∀ whole, isTrue e X.env whole = (do let v ← whole; standAt e.pos; holding [v] (truthy v))) :
    PT X e (fun σ H Q => ta σ H fun x H' => ∃ k, TruW X.K x H' k ∧ Q k H') := by
  refine ⟨fun pins s σ H Q I h => ?_⟩
  exact isTrue_plain (thn (ha.run pins s σ H _ I h) fun v s1 ⟨x, H1, I1, r1, q1⟩ => truW_ok pins s1 σ H1 x v Q I1 r1 q1) (he _)
theorem tru_of {N : Kn} {F H : Hp} {d : D} {v : V} {k : Bool → Prop} (s : Sub F H) (r : Rp N F d v) (h : truD d k) : ∃ c, TruW N.K v H c ∧ k c := by
  cases d with
  | non => cases r; exact ⟨_, .inl rfl, h⟩
  | bl c => cases r; exact ⟨_, .inl rfl, h⟩
  | int i => cases r; exact ⟨_, .inl rfl, h⟩
  | str y => cases r; exact ⟨_, .inl ⟨h.1, rfl⟩, h.2⟩
  | tup ds =>
    obtain ⟨p, xs, rfl, h1, h2⟩ := r
    have hl := h2.length
    refine ⟨_, .inl (.inr (.inl ⟨xs, s.tup h1, rfl⟩)), ?_⟩
    have : xs.isEmpty = ds.isEmpty := by cases xs <;> cases ds <;> first | rfl | (simp at hl)
    rw [this]; exact h
  | lst ds =>
    obtain ⟨p, xs, rfl, h1, h2⟩ := r
    have hl := h2.length
    refine ⟨_, .inl (.inl ⟨xs, SqL.of (s.lst1 h1), rfl⟩), ?_⟩
    have : xs.isEmpty = ds.isEmpty := by cases xs <;> cases ds <;> first | rfl | (simp at hl)
    rw [this]; exact h
  | dct ks ds =>
    obtain ⟨p, kvs, rfl, h1, h2, h3⟩ := r
    refine ⟨_, .inr (.inl ⟨p, kvs, rfl, s.dK h1, rfl⟩), ?_⟩
    have : kvs.isEmpty = ks.isEmpty := by rw [← h2]; cases kvs <;> rfl
    rw [this]; exact h
  | dcT ks ds => exact h.elim
  | ty n => exact h.elim
  | glo x => exact h.elim
  | scr x => exact h.elim
  | ins C ns ds => exact h.elim
theorem tru_lift {N : Kn} {t : DW} {σV : L2.St} {H M : Hp} {ρ : List Addr} {σ : Sl} {st : Sto} {ex : DX} {k : Bool → Sto → Prop} {Q : Bool → Hp → Prop} (c : Kx N Wx M ρ σ st H σV ex) (ht : dTru t σ st k ex)
    (q : ∀ b st', k b st' → ∀ M' ρ' H', Ext M ρ H M' ρ' H' → Kx N Wx M' ρ' σ st' H' σV ex → Q b H') : lW N Wx t σV H (fun x H1 => ∃ k, TruW N.K x H1 k ∧ Q k H1) := by
  refine Lf.of c ht fun w st' hk v M' ρ' H' E c' r => ?_
  cases hz : seeW w st' with
  | none => simp only [hz] at hk
  | some d =>
    simp only [hz] at hk
    obtain ⟨b, h1, h2⟩ := tru_of (Fv.sub c'.rep.sub) ((see_ok c'.rep hz r).rp (Fv.same _ _ _)) hk
    exact ⟨b, h1, q _ _ h2 M' ρ' H' E c'⟩
theorem t_tru {t : DW} (ha : PE X e (lW (XN X b) Wx t)) (he : ∀ whole, isTrue e X.env whole = (do let v ← whole; standAt e.pos; holding [v] (truthy v)) := by intro _; rfl) : PT X e (lT (XN X b) Wx (dTru t)) := PT.imp (pt_truW ha he) fun σV H Q h => by
  obtain ⟨M, ρ, σ, st, k, ex, c, ht, q⟩ := Kx.open_ h
  exact tru_lift (N := XN X b) c ht fun b st' hb M' ρ' H' E c' => q _ _ hb b M' ρ' H' E c' rfl
theorem pe_notW {ta : TE} (ha : PE X e1 ta) : PE X (.UnaryOp .Not e1 pos) (fun σ H Q => ta σ H fun x H1 => ∃ k, TruW X.K x H1 k ∧ Q (.bl (!k)) H1) := by
  refine ⟨fun pins s σ H Q I h => ?_⟩
  refine UnaryOp_ (thn (ha.run pins s σ H _ I h) fun v s1 ⟨x, H1, I1, r1, q1⟩ => ?_)
  obtain ⟨k, e, q1⟩ := q1
  exact not_of (thn (truW_ok pins s1 σ H1 x v (fun c H2 => Q (.bl (!c)) H2) I1 r1 ⟨k, e, q1⟩) fun c s2 ⟨H2, I2, q2⟩ => ⟨.bl (!c), H2, I2, rfl, q2⟩)
theorem e_notW {t : DW} (ha : PE X e1 (lW (XN X b) Wx t)) : PE X (.UnaryOp .Not e1 pos) (lD (XN X b) Wx (dB (dNot (dTru t)))) := PE.imp (pe_notW ha) fun σV H Q h => by
  obtain ⟨M, ρ, σ, st, k, ex, c, ht, q⟩ := Kx.open_ h
  exact tru_lift (N := XN X b) c ht fun b st' hb M' ρ' H' E c' => q _ _ hb _ M' ρ' H' E c' rfl
variable {N : Kn}
theorem t_bo {t : DD} (h : PE X e (lD N Wx t)) (he : ∀ whole, isTrue e X.env whole = (do let v ← whole; standAt e.pos; holding [v] (truthy v)) := by intro _; rfl) : PT X e (lT N Wx (dBo t)) := PT.imp (t_val h he) fun σV H Q h => by
  obtain ⟨M, ρ, σ, st, k, ex, c, ht, q⟩ := Kx.open_ h
  refine Lf.of c ht fun d st' hk v M' ρ' H' E c' r => ?_
  cases d <;> try exact False.elim hk
  cases r
  exact q _ _ hk _ M' ρ' H' E c' rfl
theorem t_not {t : DT} (h : PT X e1 (lT N Wx t)) : PT X (.UnaryOp .Not e1 pos) (lT N Wx (dNot t)) := PT.imp (pt_not h) fun σV H Q h => by
  obtain ⟨M, ρ, σ, st, k, ex, c, ht, q⟩ := Kx.open_ h
  exact Lf.of c ht fun d st' hk v M' ρ' H' E c' r => q _ _ hk _ M' ρ' H' E c' (by rw [show v = d from r])
theorem w_and {t u : DT} {rest : List Expr} (ha : PT X e1 (lT N Wx t)) (hb : PW X (.BoolOp .And (e2 :: rest) pos) (lT N Wx u)) : PW X (.BoolOp .And (e1 :: e2 :: rest) pos) (lT N Wx (dAnd t u)) := PW.imp (Co.w_and ha hb) fun σV H Q h => by
  obtain ⟨M, ρ, σ, st, k, ex, c, ht, q⟩ := Kx.open_ h
  refine Lf.of c ht fun d st' hk v M' ρ' H' E c' r => ?_
  rw [show v = d from r]
  refine ⟨fun z => Lf.of c' (hk.1 z) fun d2 st2 hk2 v2 M2 ρ2 H2 E2 c2 r2 => q _ _ hk2 _ M2 ρ2 H2 (E.trans E2) c2 r2, fun z => q _ _ (hk.2 z) _ M' ρ' H' E c' rfl⟩
theorem w_or {t u : DT} {rest : List Expr} (ha : PT X e1 (lT N Wx t)) (hb : PW X (.BoolOp .Or (e2 :: rest) pos) (lT N Wx u)) : PW X (.BoolOp .Or (e1 :: e2 :: rest) pos) (lT N Wx (dOr t u)) := PW.imp (Co.w_or ha hb) fun σV H Q h => by
  obtain ⟨M, ρ, σ, st, k, ex, c, ht, q⟩ := Kx.open_ h
  refine Lf.of c ht fun d st' hk v M' ρ' H' E c' r => ?_
  rw [show v = d from r]
  refine ⟨fun z => q _ _ (hk.1 z) _ M' ρ' H' E c' rfl, fun z => Lf.of c' (hk.2 z) fun d2 st2 hk2 v2 M2 ρ2 H2 E2 c2 r2 => q _ _ hk2 _ M2 ρ2 H2 (E.trans E2) c2 r2⟩
theorem w_and1 {t : DT} (ha : PT X e1 (lT N Wx t)) : PW X (.BoolOp .And [e1] pos) (lT N Wx t) := pw_and1 ha
theorem w_or1 {t : DT} (ha : PT X e1 (lT N Wx t)) : PW X (.BoolOp .Or [e1] pos) (lT N Wx t) := pw_or1 ha
def dAndV (t u : DW) : DW := fun σ st k ex => t σ st (fun w st1 => match seeW w st1 with
  | some d => truD d fun b => two b (u σ st1 k ex) (k w st1)
  | none => False) ex
def dOrV (t u : DW) : DW := fun σ st k ex => t σ st (fun w st1 => match seeW w st1 with
  | some d => truD d fun b => two b (k w st1) (u σ st1 k ex)
  | none => False) ex
theorem pe_andW {ta tb : TE} {rest : List Expr} (ha : PE X e1 ta) (hb : PE X (.BoolOp .And (e2 :: rest) pos) tb) : PE X (.BoolOp .And (e1 :: e2 :: rest) pos) (fun σ H Q => ta σ H fun x H1 => ∃ k, TruW X.K x H1 k ∧ if k = true then tb σ H1 Q else Q x H1) := by
  refine ⟨fun pins s σ H Q I h => ?_⟩
  refine BoolOp_and (thn (ha.run pins s σ H _ I h) fun v s1 ⟨x, H1, I1, r1, q1⟩ => ?_)
  obtain ⟨k, e, q1⟩ := q1
  refine thn (truW_ok pins s1 σ H1 x v (fun c H2 => c = k ∧ H2 = H1) I1 r1 ⟨k, e, rfl, rfl⟩) fun c s2 hc => ?_
  obtain ⟨H2, I2, e1, e2⟩ := hc
  subst e1 e2
  cases c with
  | true => exact hb.run pins s2 σ H2 Q I2 q1
  | false => exact ⟨x, H2, I2, r1, q1⟩
theorem pe_orW {ta tb : TE} {rest : List Expr} (ha : PE X e1 ta) (hb : PE X (.BoolOp .Or (e2 :: rest) pos) tb) : PE X (.BoolOp .Or (e1 :: e2 :: rest) pos) (fun σ H Q => ta σ H fun x H1 => ∃ k, TruW X.K x H1 k ∧ if k = true then Q x H1 else tb σ H1 Q) := by
  refine ⟨fun pins s σ H Q I h => ?_⟩
  refine BoolOp_or (thn (ha.run pins s σ H _ I h) fun v s1 ⟨x, H1, I1, r1, q1⟩ => ?_)
  obtain ⟨k, e, q1⟩ := q1
  refine thn (truW_ok pins s1 σ H1 x v (fun c H2 => c = k ∧ H2 = H1) I1 r1 ⟨k, e, rfl, rfl⟩) fun c s2 hc => ?_
  obtain ⟨H2, I2, e1, e2⟩ := hc
  subst e1 e2
  cases c with
  | true => exact ⟨x, H2, I2, r1, q1⟩
  | false => exact hb.run pins s2 σ H2 Q I2 q1
theorem e_andV {t u : DW} {rest : List Expr} (ha : PE X e1 (lW (XN X b) Wx t)) (hb : PE X (.BoolOp .And (e2 :: rest) pos) (lW (XN X b) Wx u)) : PE X (.BoolOp .And (e1 :: e2 :: rest) pos) (lW (XN X b) Wx (dAndV t u)) := PE.imp (pe_andW ha hb) fun σV H Q h => by
  obtain ⟨M, ρ, σ, st, k, ex, c, ht, q⟩ := Kx.open_ h
  refine Lf.of c ht fun w st' hk v M' ρ' H' E c' r => ?_
  cases hz : seeW w st' with
  | none => simp only [hz] at hk
  | some d =>
    simp only [hz] at hk
    obtain ⟨b, h1, h2⟩ := tru_of (Fv.sub c'.rep.sub) ((see_ok c'.rep hz r).rp (Fv.same _ _ _)) hk
    refine ⟨b, h1, ?_⟩
    rw [two_eq]
    exact ⟨fun z => Lf.of c' (h2.1 z) fun d2 st2 hk2 v2 M2 ρ2 H2 E2 c2 r2 => q _ _ hk2 _ M2 ρ2 H2 (E.trans E2) c2 r2, fun z => q _ _ (h2.2 z) _ M' ρ' H' E c' r⟩
theorem e_orV {t u : DW} {rest : List Expr} (ha : PE X e1 (lW (XN X b) Wx t)) (hb : PE X (.BoolOp .Or (e2 :: rest) pos) (lW (XN X b) Wx u)) : PE X (.BoolOp .Or (e1 :: e2 :: rest) pos) (lW (XN X b) Wx (dOrV t u)) := PE.imp (pe_orW ha hb) fun σV H Q h => by
  obtain ⟨M, ρ, σ, st, k, ex, c, ht, q⟩ := Kx.open_ h
  refine Lf.of c ht fun w st' hk v M' ρ' H' E c' r => ?_
  cases hz : seeW w st' with
  | none => simp only [hz] at hk
  | some d =>
    simp only [hz] at hk
    obtain ⟨b, h1, h2⟩ := tru_of (Fv.sub c'.rep.sub) ((see_ok c'.rep hz r).rp (Fv.same _ _ _)) hk
    refine ⟨b, h1, ?_⟩
    rw [two_eq]
    exact ⟨fun z => q _ _ (h2.1 z) _ M' ρ' H' E c' r, fun z => Lf.of c' (h2.2 z) fun d2 st2 hk2 v2 M2 ρ2 H2 E2 c2 r2 => q _ _ hk2 _ M2 ρ2 H2 (E.trans E2) c2 r2⟩
theorem e_and1 {t : TE} (h : PE X e t) : PE X (.BoolOp .And [e] pos) t := pe_one h
theorem e_or1 {t : TE} (h : PE X e t) : PE X (.BoolOp .Or [e] pos) t := pe_one h
theorem e_ifW {c : DT} {t u : DW} (hc : PT X e1 (lT N Wx c)) (ha : PE X e2 (lW N Wx t)) (hb : PE X e3 (lW N Wx u)) : PE X (.IfExp e1 e2 e3 pos) (lW N Wx (dIfE c t u)) := PE.imp (e_if hc ha hb) fun σV H Q h => by
  obtain ⟨M, ρ, σ, st, k, ex, c, ht, q⟩ := Kx.open_ h
  refine Lf.of c ht fun d st' hk v M' ρ' H' E c' r => ?_
  rw [show v = d from r]
  exact ⟨fun z => Lf.of c' (hk.1 z) fun d2 st2 hk2 v2 M2 ρ2 H2 E2 c2 r2 => q _ _ hk2 _ M2 ρ2 H2 (E.trans E2) c2 r2, fun z => Lf.of c' (hk.2 z) fun d2 st2 hk2 v2 M2 ρ2 H2 E2 c2 r2 => q _ _ hk2 _ M2 ρ2 H2 (E.trans E2) c2 r2⟩
theorem isN_lift {t : DW} {σV : L2.St} {H M : Hp} {ρ : List Addr} {σ : Sl} {st : Sto} {ex : DX} {k : Bool → Sto → Prop} {Q : Bool → Hp → Prop} (c : Kx N Wx M ρ σ st H σV ex) (ht : dIsN t σ st k ex)
    (q : ∀ b st', k b st' → ∀ M' ρ' H', Ext M ρ H M' ρ' H' → Kx N Wx M' ρ' σ st' H' σV ex → Q b H') : lW N Wx t σV H (fun x H1 => Q (decide (x = V.non)) H1) := by
  refine Lf.of c ht fun w st' hk v M' ρ' H' E c' r => ?_
  have go : ∀ bb, k bb st' → decide (v = V.non) = bb → Q (decide (v = V.non)) H' := fun bb h1 h2 => by rw [h2]; exact q _ _ h1 M' ρ' H' E c'
  cases w with
  | dead => exact False.elim hk
  | loc n => obtain ⟨a, _, rfl⟩ := r; exact go false hk (by simp)
  | im d =>
    cases d with
    | non => cases r; exact go true hk (by simp)
    | bl _ => cases r; exact go false hk (by simp)
    | int _ => cases r; exact go false hk (by simp)
    | str _ => cases r; exact go false hk (by simp)
    | ty _ => cases r; exact go false hk (by simp)
    | glo _ => cases r; exact go false hk (by simp)
    | scr _ => obtain ⟨p, rfl, _⟩ := r; exact go false hk (by simp)
    | tup _ => obtain ⟨p, _, rfl, _⟩ := r; exact go false hk (by simp)
    | lst _ => obtain ⟨p, _, rfl, _⟩ := r; exact go false hk (by simp)
    | dct _ _ => obtain ⟨p, _, rfl, _⟩ := r; exact go false hk (by simp)
    | dcT _ _ => obtain ⟨p, _, rfl, _⟩ := r; exact go false hk (by simp)
    | ins _ _ _ => obtain ⟨p, _, _, rfl, _⟩ := r; exact go false hk (by simp)
theorem e_isND {j : Nat} {pos' : Pos} {t : DW} (ha : PE X e1 (lW N Wx t)) : PE X (.Compare e1 [.Is] [.Constant .none j pos'] pos) (lD N Wx (dB (dIsN t))) := PE.imp (pe_cmp (pc_isN ha)) fun σV H Q h => by
  obtain ⟨M, ρ, σ, st, k, ex, c, ht, q⟩ := Kx.open_ h
  exact isN_lift (Q := fun b H1 => Q (.bl b) H1) c ht fun b st' hb M' ρ' H' E c' => q _ _ hb _ M' ρ' H' E c' rfl
theorem e_notND {j : Nat} {pos' : Pos} {t : DW} (ha : PE X e1 (lW N Wx t)) : PE X (.Compare e1 [.IsNot] [.Constant .none j pos'] pos) (lD N Wx (dB (dNot (dIsN t)))) := PE.imp (pe_cmp (pc_notN ha)) fun σV H Q h => by
  obtain ⟨M, ρ, σ, st, k, ex, c, ht, q⟩ := Kx.open_ h
  exact isN_lift (k := fun b st1 => k (.bl (!b)) st1) (Q := fun b H1 => Q (.bl (!b)) H1) c ht fun b st' hb M' ρ' H' E c' => q _ _ hb _ M' ρ' H' E c' rfl
theorem t_isND {j : Nat} {pos' : Pos} {t : DW} (ha : PE X e1 (lW N Wx t)) : PT X (.Compare e1 [.Is] [.Constant .none j pos'] pos) (lT N Wx (dIsN t)) := PT.imp (pt_cmp (pc_isN ha)) fun σV H Q h => by
  obtain ⟨M, ρ, σ, st, k, ex, c, ht, q⟩ := Kx.open_ h
  exact isN_lift (Q := fun b H1 => ∃ c, V.bl b = .bl c ∧ Q c H1) c ht fun b st' hb M' ρ' H' E c' => ⟨b, rfl, q _ _ hb _ M' ρ' H' E c' rfl⟩
theorem t_notND {j : Nat} {pos' : Pos} {t : DW} (ha : PE X e1 (lW N Wx t)) : PT X (.Compare e1 [.IsNot] [.Constant .none j pos'] pos) (lT N Wx (dNot (dIsN t))) := PT.imp (pt_cmp (pc_notN ha)) fun σV H Q h => by
  obtain ⟨M, ρ, σ, st, k, ex, c, ht, q⟩ := Kx.open_ h
  exact isN_lift (k := fun b st1 => k (!b) st1) (Q := fun b H1 => ∃ c, V.bl (!b) = .bl c ∧ Q c H1) c ht fun b st' hb M' ρ' H' E c' => ⟨!b, rfl, q _ _ hb _ M' ρ' H' E c' rfl⟩
theorem a_nil : PA X [] (lA N Wx aNil) := ⟨fun pos pins s σ H Q I h => pa_nil.run pos pins s σ H Q I (by
  obtain ⟨M, ρ, σ, st, k, ex, c, ht, q⟩ := Kx.open_ h
  exact q _ _ ht _ M ρ H Ext.refl c rfl)⟩
theorem PA.imp {es : List Expr} {t t' : TA} (h : PA X es t) (i : ∀ σ H Q, t' σ H Q → t σ H Q) : PA X es t' := ⟨fun pos pins s σ H Q I q => h.run pos pins s σ H Q I (i σ H Q q)⟩
theorem a_cons {es : List Expr} {t : DW} {r : DA} (ha : PE X e (lW N Wx t)) (hr : PA X es (lA N Wx r)) (hs : starEach (e :: es) X.env = (false, eval e X.env) :: starEach es X.env := by rfl) : PA X (e :: es) (lA N Wx (aCons t r)) := PA.imp (pa_cons ha hr hs) fun σV H Q h => by
  obtain ⟨M, ρ, σ, st, k, ex, c, ht, q⟩ := Kx.open_ h
  exact Lf.bin c ht fun w ws st' hk v vs M' ρ' H' E c' r1 r2 => q _ _ hk _ M' ρ' H' E c' ⟨v, vs, rfl, r1, r2⟩
theorem ad_nil : PA X [] (lAD N Wx adNil) := ⟨fun pos pins s σ H Q I h => pa_nil.run pos pins s σ H Q I (by
  obtain ⟨M, ρ, σ, st, k, ex, c, ht, q⟩ := Kx.open_ h
  exact q _ _ ht _ M ρ H Ext.refl c rfl)⟩
theorem ad_cons {es : List Expr} {t : DD} {r : DAD} (ha : PE X e (lD N Wx t)) (hr : PA X es (lAD N Wx r)) (hs : starEach (e :: es) X.env = (false, eval e X.env) :: starEach es X.env := by rfl) : PA X (e :: es) (lAD N Wx (adCons t r)) := PA.imp (pa_cons ha hr hs) fun σV H Q h => by
  obtain ⟨M, ρ, σ, st, k, ex, c, ht, q⟩ := Kx.open_ h
  exact Lf.bin c ht fun w ws st' hk v vs M' ρ' H' E c' r1 r2 => q _ _ hk _ M' ρ' H' E c' ⟨v, vs, rfl, r1, r2⟩
theorem e_tup {es : List Expr} {kk : Nat} {t : DAD} (ha : PA X es (lAD N Wx t)) : PE X (.Tuple es kk pos) (lD N Wx (dTup t)) := PE.imp (pe_tup ha) fun σV H Q h => by
  obtain ⟨M, ρ, σ, st, k, ex, c, ht, q⟩ := Kx.open_ h
  refine Lf.of c ht fun ds st' hk vs M' ρ' H' E c' r => ⟨lenL6 (by rw [Rps.length r]; exact hk.1), fun p hp => ?_⟩
  obtain ⟨E2, c2⟩ := c'.new (o := .tup vs) hp
  exact q _ _ hk.2 _ _ ρ' _ (E.trans E2) c2 ⟨p, vs, rfl, .inl upd_same, Rps.ext r E2⟩
theorem e_lst {es : List Expr} {t : DAD} (ha : PA X es (lAD N Wx t)) : PE X (.List es pos) (lD N Wx (dLst t)) := PE.imp (pe_lst ha) fun σV H Q h => by
  obtain ⟨M, ρ, σ, st, k, ex, c, ht, q⟩ := Kx.open_ h
  refine Lf.of c ht fun ds st' hk vs M' ρ' H' E c' r => ⟨lenL6 (by rw [Rps.length r]; exact hk.1), fun p hp => ?_⟩
  obtain ⟨E2, c2⟩ := c'.new (o := .lst vs) hp
  exact q _ _ hk.2 _ _ ρ' _ (E.trans E2) c2 ⟨p, vs, rfl, upd_same, Rps.ext r E2⟩
theorem Rep.last {M H : Hp} {ρ : List Addr} {st : Sto} (r : Rep N M ρ st H) (p : Addr) : (ρ ++ [p])[st.length]? = some p := by rw [← r.len]; simp
theorem e_lstM {es : List Expr} {t : DAD} (ha : PA X es (lAD N Wx t)) : PE X (.List es pos) (lW N Wx (dLstM t)) := PE.imp (pe_lst ha) fun σV H Q h => by
  obtain ⟨M, ρ, σ, st, k, ex, c, ht, q⟩ := Kx.open_ h
  refine Lf.of c ht fun ds st' hk vs M' ρ' H' E c' r => ⟨lenL6 (by rw [Rps.length r]; exact hk.1), fun p hp => ?_⟩
  obtain ⟨E2, c2⟩ := c'.loc (u := .lst vs) (o := .lst ds) hp ⟨c'.rep.non hp, vs, upd_same, r⟩
  exact q _ _ hk.2 _ _ _ _ (E.trans E2) c2 ⟨p, c'.rep.last p, rfl⟩
end
end Dl
end

section
set_option maxHeartbeats 4000000
namespace Dl
open PySem PySem.Spec PyProof.Rows L2 Co
def atD (x i : D) (k : D → Prop) : Prop := match x, i with
  | .tup ds, .int j => (match atI ds j with
    | some d => k d
    | none => False)
  | .lst ds, .int j => (match atI ds j with
    | some d => k d
    | none => False)
  | .str z, .int j => z.length ≤ sizeLine ∧ (match atI z.cps.toList j with
    | some c => k (.str ⟨#[c]⟩)
    | none => False)
  | _, _ => False
def dIx (ta : DW) (ti : DD) : DD := fun σ st k ex => ta σ st (fun w st1 => ti σ st1 (fun i st2 => match seeW w st2 with
  | some x => atD x i fun d => k d st2
  | none => False) ex) ex
def getK {κ : Type} [DecidableEq κ] : List κ → List D → κ → Option D
  | a :: ks, d :: ds, q => if a = q then some d else getK ks ds q
  | _, _, _ => none
def keyD : D → Option Key
  | .int i => some (.inl i)
  | .str x => some (.inr x)
  | _ => none
def keysD : List D → Option (List Key)
  | [] => some []
  | d :: ds => match keyD d, keysD ds with
    | some q, some qs => some (q :: qs)
    | _, _ => none
def getD_ (T : Bool) (x i : D) (k : Option D → Prop) : Prop := match x with
  | .dct ks ds => (match keyD i with
    | some q => k (getK ks ds q)
    | none => False)
  | .dcT ks ds => (match i with
    | .tup es => (match keysD es with
      | some q => T = true ∧ k (getK ks ds q)
      | none => False)
    | _ => False)
  | _ => False
def dGet (T : Bool) (ta : DW) (ti : DD) : DD := fun σ st k ex => ta σ st (fun w st1 => ti σ st1 (fun i st2 => match seeW w st2 with
  | some x => getD_ T x i fun o => match o with
    | some d => k d st2
    | none => False
  | none => False) ex) ex
def isDD : Option D → Prop
  | some (.dct _ _) => True
  | some (.dcT _ _) => True
  | _ => False
def dGet2 (T : Bool) (ta : DW) (ti tz : DD) : DD := fun σ st k ex => ta σ st (fun w st1 => isDD (seeW w st1) ∧ ti σ st1 (fun i st2 => tz σ st2 (fun z st3 => match seeW w st3 with
  | some x => getD_ T x i fun o => k (o.getD z) st3
  | none => False) ex) ex) ex
def dGet1 (T : Bool) (ta : DW) (ti : DD) : DD := fun σ st k ex => ta σ st (fun w st1 => isDD (seeW w st1) ∧ ti σ st1 (fun i st2 => match seeW w st2 with
  | some x => getD_ T x i fun o => k (o.getD .non) st2
  | none => False) ex) ex
def dIn (T : Bool) (ti : DD) (ta : DW) : DT := fun σ st k ex => ti σ st (fun i st1 => ta σ st1 (fun w st2 => match seeW w st2 with
  | some x => getD_ T x i fun o => k o.isSome st2
  | none => False) ex) ex
def seeWs : List W → Sto → Option (List D)
  | [], _ => some []
  | w :: r, st => match seeW w st, seeWs r st with
    | some d, some ds => some (d :: ds)
    | _, _ => none
abbrev FL := List D → (D → Prop) → Prop
def dCB (f : FL) (ta : DA) : DD := fun σ st k ex => ta σ st (fun ws st1 => match seeWs ws st1 with
  | some ds => f ds fun d => k d st1
  | none => False) ex
def isTy (T : String) : Option D → Prop
  | some (.str _) => T = "str"
  | some (.lst _) => T = "list"
  | some (.dct _ _) => T = "dict"
  | some (.dcT _ _) => T = "dict"
  | _ => False
def dBM (T : String) (f : D → FL) (to : DW) (ta : DA) : DD := fun σ st k ex => to σ st (fun w st1 => isTy T (seeW w st1) ∧ ta σ st1 (fun ws st2 => match seeW w st2, seeWs ws st2 with
  | some x, some ds => f x ds fun d => k d st2
  | _, _ => False) ex) ex
def lenD (x : D) (k : D → Prop) : Prop := match x with
  | .str z => z.length ≤ sizeLine ∧ k (.int z.length)
  | .tup ds => k (.int ds.length)
  | .lst ds => k (.int ds.length)
  | .dct ks _ => k (.int ks.length)
  | .dcT ks _ => k (.int ks.length)
  | _ => False
def fLen : FL := fun xs k => match xs with
  | [x] => lenD x k
  | _ => False
abbrev DO := Lv (Option Int)
def dNoPart : DO := fun _ st k _ => k none st
def dPart (t : DD) : DO := fun σ st k ex => t σ st (fun x st1 => match x with
  | .int i => k (some i) st1
  | _ => False) ex
def cutD (ds : List D) (lo hi : Option Int) : List D := (ds.drop (HT.sIx ds.length 0 lo)).take (HT.sIx ds.length ds.length hi - HT.sIx ds.length 0 lo)
def sliceD (x : D) (lo hi : Option Int) (k : D → Prop) : Prop := match x with
  | .str z => z.length ≤ sizeLine ∧ k (.str (cutS z lo hi))
  | .tup ds => k (.tup (cutD ds lo hi))
  | .lst ds => k (.lst (cutD ds lo hi))
  | _ => False
def dSl (ta : DW) (tl th : DO) : DD := fun σ st k ex => ta σ st (fun w st1 => tl σ st1 (fun l st2 => th σ st2 (fun h st3 => match seeW w st3 with
  | some x => sliceD x l h fun d => k d st3
  | none => False) ex) ex) ex
def fldD (C f : Str) (w : W) (st : Sto) (k : W → Prop) : Prop := match w with
  | .im (.ins C' ns ds) => C' = C ∧ (match getK ns ds f with
    | some d => k (.im d)
    | none => False)
  | .loc n => (match st[n]? with
    | some (.ins C' fs) => C' = C ∧ (match fs.lookup f with
      | some w' => k w'
      | none => False)
    | some (.fz (.ins C' ns ds)) => C' = C ∧ (match getK ns ds f with
      | some d => k (.im d)
      | none => False)
    | _ => False)
  | _ => False
def dFld (C f : Str) (ta : DW) : DW := fun σ st k ex => ta σ st (fun w st1 => fldD C f w st1 fun w' => k w' st1) ex
section
variable {X : Cx} {b : Bool} {Wx : WX} {e e1 e2 e3 : Expr} {pos : Pos} {N : Kn}
theorem atI_rps {M : Hp} {ds : List D} {vs : List V} {j : Int} {d : D} (h : Rps N M ds vs) (e : atI ds j = some d) : ∃ v, atI vs j = some v ∧ Rp N M d v := by
  unfold atI at e ⊢
  rw [h.length]
  cases z : ixN ds.length j with
  | none => rw [z] at e; cases e
  | some n =>
    rw [z] at e
    exact h.get e
theorem e_ix {ta : DW} {ti : DD} (ha : PE X e1 (lW (XN X b) Wx ta)) (hi : PE X e2 (lD (XN X b) Wx ti)) (hs : PlainIx e2 := by exact fun _ _ => rfl) : PE X (.Subscript e1 e2 pos) (lD (XN X b) Wx (dIx ta ti)) := PE.imp (pe_ix ix_seq ha hi hs) fun σV H Q h => by
  obtain ⟨M, ρ, σ, st, k, ex, c, ht, q⟩ := Kx.open_ h
  refine Lf.bin c ht fun w i st' hk u v M' ρ' H' E c' r1 r2 => ?_
  cases hz : seeW w st' with
  | none => simp only [hz] at hk
  | some x =>
    simp only [hz] at hk
    have r := see_ok c'.rep hz r1
    have s := Fv.sub (ρ := ρ') c'.rep.sub
    cases x <;> cases i <;> try exact False.elim hk
    · rename_i z j
      cases r; cases r2
      obtain ⟨h1, h2⟩ := hk
      refine .inr (.inr ?_)
      cases hj : atI z.cps.toList j with
      | none => rw [hj] at h2; exact False.elim h2
      | some cc =>
        rw [hj] at h2
        exact ⟨z, j, cc, rfl, rfl, h1, hj, q _ _ h2 _ M' ρ' H' E c' rfl⟩
    · rename_i ds j
      obtain ⟨p, xs, rfl, h1, h2⟩ := (show Rp (XN X b) M' (.tup ds) u from r)
      cases r2
      refine .inr (.inl ?_)
      cases hj : atI ds j with
      | none => simp only [atD, hj] at hk
      | some d =>
        simp only [atD, hj] at hk
        obtain ⟨v, h3, h4⟩ := atI_rps h2 hj
        exact ⟨p, xs, j, v, rfl, rfl, c'.rep.sub.tup h1, h3, q _ _ hk _ M' ρ' H' E c' h4⟩
    · rename_i ds j
      obtain ⟨p, xs, rfl, h1, h2⟩ := r
      cases r2
      refine .inl ?_
      cases hj : atI ds j with
      | none => simp only [atD, hj] at hk
      | some d =>
        simp only [atD, hj] at hk
        obtain ⟨v, h3, h4⟩ := atI_rps h2 hj
        exact ⟨p, xs, j, v, rfl, rfl, SqL.of (s.lst1 h1), h3, q _ _ hk _ M' ρ' H' E c' h4⟩
theorem getK_val {κ : Type} [DecidableEq κ] {M : Hp} : ∀ {kvs : List (κ × V)} {ds : List D}, Rps N M ds (kvs.map (·.2)) → ∀ q, match getK (kvs.map (·.1)) ds q with
    | some d => ∃ v, valV kvs q = some v ∧ Rp N M d v
    | none => valV kvs q = none
  | [], ds, h, q => by
    have : ds = [] := List.eq_nil_of_length_eq_zero (by have := h.length; simpa using this.symm)
    subst this
    rfl
  | (a, v) :: kvs, [], h, q => by have := h.length; simp at this
  | (a, v) :: kvs, d :: ds, ⟨x, r, h1, h2, h3⟩, q => by
    cases h1
    by_cases z : a = q
    · simp only [List.map_cons, getK, if_pos z]
      exact ⟨v, valV_pos z, h2⟩
    · simp only [List.map_cons, getK, if_neg z]
      have := getK_val h3 q
      rw [valV_neg (show ¬ ((a, v) : κ × V).1 = q from z)]
      exact this
theorem keyD_rp {M : Hp} {i : D} {q : Key} {v : V} (e : keyD i = some q) (h : Rp N M i v) : v = kV q := by
  cases i <;> simp only [keyD, Option.some.injEq, reduceCtorEq] at e <;> subst e <;> exact h
theorem keysD_rp {M : Hp} : ∀ {is : List D} {qs : List Key} {vs : List V}, keysD is = some qs → Rps N M is vs → vs = qs.map kV
  | [], qs, vs, e, h => by cases e; exact h
  | d :: ds, qs, vs, e, ⟨x, r, h1, h2, h3⟩ => by
    cases h4 : keyD d with
    | none => simp only [keysD, h4] at e; cases e
    | some q =>
      cases h5 : keysD ds with
      | none => simp only [keysD, h4, h5] at e; cases e
      | some qs' =>
        simp only [keysD, h4, h5, Option.some.injEq] at e
        subst e h1
        rw [keyD_rp h4 h2, keysD_rp h5 h3]
        rfl
theorem get_ok {T : Bool} {M F H : Hp} {x i : D} {u y : V} {ko : Option D → Prop} (s : Sub F H) (sM : Sub M H) (hT : T = true → N.b = false) (h1 : RpC N M F x u) (h2 : Rp N M i y) (h : getD_ T x i ko) :
    ∃ a o, u = .ref a ∧ IsD H a ∧ (∃ ov, DGet H a y ov ∧ ko o ∧ match o with
      | some d => ∃ v, ov = some v ∧ Rp N M d v
      | none => ov = none) := by
  cases x <;> try exact False.elim h
  · rename_i ks ds
    obtain ⟨p, kvs, rfl, h3, h4, h5⟩ := h1
    subst h4
    cases hq : keyD i with
    | none => simp only [getD_, hq] at h
    | some q =>
      simp only [getD_, hq] at h
      have e := keyD_rp hq h2
      have r := s.dK h3
      have g := getK_val h5 q
      exact ⟨p, _, rfl, .inl ⟨kvs, r⟩, _, .inl ⟨kvs, q, r, e, rfl⟩, h, by
        cases z : getK (kvs.map (·.1)) ds q with
        | none => rw [z] at g; exact g
        | some d => rw [z] at g; obtain ⟨v, g1, g2⟩ := g; exact ⟨v, g1, g2⟩⟩
  · rename_i ks ds
    obtain ⟨p, kvs, rfl, h3, h4, h5⟩ := h1
    subst h4
    cases i <;> try exact False.elim h
    rename_i es
    cases hq : keysD es with
    | none => simp only [getD_, hq] at h
    | some q =>
      simp only [getD_, hq] at h
      obtain ⟨hT', h⟩ := h
      obtain ⟨t, xs, rfl, g1, g2⟩ := h2
      have e := keysD_rp hq g2
      subst e
      have g1 : M t = some (.tup (q.map kV)) := g1.elim (fun z => z) fun z => by
        have := hT hT'
        rw [this] at z
        cases z.1
      have r := s.dT h3
      have g := getK_val h5 q
      exact ⟨p, _, rfl, .inr ⟨kvs, r⟩, _, .inr ⟨kvs, q, t, r, rfl, sM.tup1 g1, rfl⟩, h, by
        cases z : getK (kvs.map (·.1)) ds q with
        | none => rw [z] at g; exact g
        | some d => rw [z] at g; obtain ⟨v, g1, g2⟩ := g; exact ⟨v, g1, g2⟩⟩
theorem e_get {T : Bool} {ta : DW} {ti : DD} (hu : X.A.units + 1 < cLine) (hT : T = true → N.b = false) (ha : PE X e1 (lW N Wx ta)) (hi : PE X e2 (lD N Wx ti)) (hs : NoSl e2 := by exact fun _ _ => rfl) : PE X (.Subscript e1 e2 pos) (lD N Wx (dGet T ta ti)) := PE.imp (pe_dget hu ha hi hs) fun σV H Q h => by
  obtain ⟨M, ρ, σ, st, k, ex, c, ht, q⟩ := Kx.open_ h
  refine Lf.bin c ht fun w i st' hk u v M' ρ' H' E c' r1 r2 => ?_
  cases hz : seeW w st' with
  | none => simp only [hz] at hk
  | some x =>
    simp only [hz] at hk
    obtain ⟨a, o, rfl, _, ov, g1, g2, g3⟩ := get_ok (Fv.sub (ρ := ρ') c'.rep.sub) c'.rep.sub hT (see_ok c'.rep hz r1) r2 hk
    cases o with
    | none => exact False.elim g2
    | some d =>
      obtain ⟨v', rfl, g4⟩ := g3
      exact ⟨a, v', rfl, g1, q _ _ g2 _ M' ρ' H' E c' g4⟩
theorem in_lift {T : Bool} {ta : DW} {ti : DD} {σV : L2.St} {H M : Hp} {ρ : List Addr} {σ : Sl} {st : Sto} {ex : DX} {k : Bool → Sto → Prop} {Q : Bool → Hp → Prop} (hT : T = true → N.b = false) (c : Kx N Wx M ρ σ st H σV ex) (ht : dIn T ti ta σ st k ex)
    (q : ∀ b st', k b st' → ∀ M' ρ' H', Ext M ρ H M' ρ' H' → Kx N Wx M' ρ' σ st' H' σV ex → Q b H') :
    lD N Wx ti σV H (fun y H1 => lW N Wx ta σV H1 (fun x H2 => ∃ a o, x = .ref a ∧ DGet H2 a y o ∧ Q o.isSome H2)) := by
  refine Lf.bin c ht fun i w st' hk u v M' ρ' H' E c' r1 r2 => ?_
  cases hz : seeW w st' with
  | none => simp only [hz] at hk
  | some x =>
    simp only [hz] at hk
    obtain ⟨a, o, rfl, _, ov, g1, g2, g3⟩ := get_ok (Fv.sub (ρ := ρ') c'.rep.sub) c'.rep.sub hT (see_ok c'.rep hz r2) r1 hk
    refine ⟨a, ov, rfl, g1, ?_⟩
    have : ov.isSome = o.isSome := by
      cases o with
      | none => rw [g3]; rfl
      | some d => obtain ⟨_, rfl, _⟩ := g3; rfl
    rw [this]
    exact q _ _ g2 M' ρ' H' E c'
theorem e_din {T : Bool} {ta : DW} {ti : DD} (hu : X.A.units + 1 < cLine) (hT : T = true → N.b = false) (hi : PE X e1 (lD N Wx ti)) (ha : PE X e2 (lW N Wx ta)) (hm : behindInMarks .In e2 = false := by first | exact nobehind _ (by decide) (by decide) | rfl) : PE X (.Compare e1 [.In] [e2] pos) (lD N Wx (dB (dIn T ti ta))) := PE.imp (pe_cmp (pc_din hu hi ha) hm) fun σV H Q h => by
  obtain ⟨M, ρ, σ, st, k, ex, c, ht, q⟩ := Kx.open_ h
  exact in_lift (Q := fun b H1 => Q (.bl b) H1) hT c ht fun b st' hb M' ρ' H' E c' => q _ _ hb _ M' ρ' H' E c' rfl
theorem e_dnotin {T : Bool} {ta : DW} {ti : DD} (hu : X.A.units + 1 < cLine) (hT : T = true → N.b = false) (hi : PE X e1 (lD N Wx ti)) (ha : PE X e2 (lW N Wx ta)) (hm : behindInMarks .NotIn e2 = false := by first | exact nobehind _ (by decide) (by decide) | rfl) : PE X (.Compare e1 [.NotIn] [e2] pos) (lD N Wx (dB (dNot (dIn T ti ta)))) := PE.imp (pe_cmp (pc_dnotin hu hi ha) hm) fun σV H Q h => by
  obtain ⟨M, ρ, σ, st, k, ex, c, ht, q⟩ := Kx.open_ h
  exact in_lift (k := fun b st1 => k (.bl (!b)) st1) (Q := fun b H1 => Q (.bl (!b)) H1) hT c ht fun b st' hb M' ρ' H' E c' => q _ _ hb _ M' ρ' H' E c' rfl
theorem t_din {T : Bool} {ta : DW} {ti : DD} (hu : X.A.units + 1 < cLine) (hT : T = true → N.b = false) (hi : PE X e1 (lD N Wx ti)) (ha : PE X e2 (lW N Wx ta)) (hm : behindInMarks .In e2 = false := by first | exact nobehind _ (by decide) (by decide) | rfl) : PT X (.Compare e1 [.In] [e2] pos) (lT N Wx (dIn T ti ta)) := PT.imp (pt_cmp (pc_din hu hi ha) hm) fun σV H Q h => by
  obtain ⟨M, ρ, σ, st, k, ex, c, ht, q⟩ := Kx.open_ h
  have z := in_lift (Q := fun b H1 => ∃ c, V.bl b = .bl c ∧ Q c H1) hT c ht fun b st' hb M' ρ' H' E c' => ⟨b, rfl, q _ _ hb _ M' ρ' H' E c' rfl⟩
  exact z
theorem t_dnotin {T : Bool} {ta : DW} {ti : DD} (hu : X.A.units + 1 < cLine) (hT : T = true → N.b = false) (hi : PE X e1 (lD N Wx ti)) (ha : PE X e2 (lW N Wx ta)) (hm : behindInMarks .NotIn e2 = false := by first | exact nobehind _ (by decide) (by decide) | rfl) : PT X (.Compare e1 [.NotIn] [e2] pos) (lT N Wx (dNot (dIn T ti ta))) := PT.imp (pt_cmp (pc_dnotin hu hi ha) hm) fun σV H Q h => by
  obtain ⟨M, ρ, σ, st, k, ex, c, ht, q⟩ := Kx.open_ h
  have z := in_lift (k := fun b st1 => k (!b) st1) (Q := fun b H1 => ∃ c, V.bl (!b) = .bl c ∧ Q c H1) hT c ht fun b st' hb M' ρ' H' E c' => ⟨!b, rfl, q _ _ hb _ M' ρ' H' E c' rfl⟩
  exact z
theorem isDD_ok {M H : Hp} {ρ : List Addr} {σ : Sl} {st : Sto} {σV : L2.St} {ex : DX} {w : W} {u : V} (c : Kx N Wx M ρ σ st H σV ex) (h : isDD (seeW w st)) (r : Rw N M ρ w u) : ∃ a, u = .ref a ∧ IsD H a := by
  cases hz : seeW w st with
  | none => rw [hz] at h; exact False.elim h
  | some x =>
    rw [hz] at h
    have g := see_ok c.rep hz r
    have s := Fv.sub (ρ := ρ) c.rep.sub
    cases x <;> try exact False.elim h
    · obtain ⟨p, kvs, rfl, h3, _⟩ := g; exact ⟨p, rfl, .inl ⟨kvs, s.dK h3⟩⟩
    · obtain ⟨p, kvs, rfl, h3, _⟩ := g; exact ⟨p, rfl, .inr ⟨kvs, s.dT h3⟩⟩
theorem e_get1 {T : Bool} {apos : Pos} {ta : DW} {ti : DD} (hu : X.A.units + 1 < cLine) (hT : T = true → N.b = false) (ha : PE X e1 (lW N Wx ta)) (hi : PE X e2 (lD N Wx ti)) (m : M1 X e1 "get" apos e2 pos := by exact ⟨rfl, rfl, rfl, rfl⟩) : PE X (.Call (.Attribute e1 "get" apos) [e2] [] pos) (lD N Wx (dGet1 T ta ti)) := PE.imp (pe_dget1 hu ha hi m) fun σV H Q h => by
  obtain ⟨M, ρ, σ, st, k, ex, c, ht, q⟩ := Kx.open_ h
  refine Lf.of c ht fun w st1 hk u M1 ρ1 H1 E1 c1 r1 => ?_
  obtain ⟨a, rfl, hd⟩ := isDD_ok c1 hk.1 r1
  refine ⟨a, rfl, hd, Lf.of c1 hk.2 fun i st2 hk2 y M2 ρ2 H2 E2 c2 r2 => ?_⟩
  cases hz : seeW w st2 with
  | none => simp only [hz] at hk2
  | some x =>
    simp only [hz] at hk2
    obtain ⟨a', o, e', _, ov, g1, g2, g3⟩ := get_ok (Fv.sub (ρ := ρ2) c2.rep.sub) c2.rep.sub hT (see_ok c2.rep hz (Rw.ext r1 E2)) r2 hk2
    cases e'
    refine ⟨ov, g1, q _ _ g2 _ M2 ρ2 H2 (E1.trans E2) c2 ?_⟩
    cases o with
    | none => rw [g3]; rfl
    | some d => obtain ⟨v, rfl, g4⟩ := g3; exact g4
theorem e_get2 {T : Bool} {apos : Pos} {ta : DW} {ti tz : DD} (hu : X.A.units + 1 < cLine) (hT : T = true → N.b = false) (ha : PE X e1 (lW N Wx ta)) (hi : PE X e2 (lD N Wx ti)) (hz : PE X e3 (lD N Wx tz)) (m : M2 X e1 "get" apos e2 e3 pos := by exact ⟨rfl, rfl, rfl, rfl⟩) : PE X (.Call (.Attribute e1 "get" apos) [e2, e3] [] pos) (lD N Wx (dGet2 T ta ti tz)) := PE.imp (pe_dget2 hu ha hi hz m) fun σV H Q h => by
  obtain ⟨M, ρ, σ, st, k, ex, c, ht, q⟩ := Kx.open_ h
  refine Lf.of c ht fun w st1 hk u M1 ρ1 H1 E1 c1 r1 => ?_
  obtain ⟨a, rfl, hd⟩ := isDD_ok c1 hk.1 r1
  refine ⟨a, rfl, hd, Lf.bin c1 hk.2 fun i z st2 hk2 y zv M2 ρ2 H2 E2 c2 r2 r3 => ?_⟩
  cases hz : seeW w st2 with
  | none => simp only [hz] at hk2
  | some x =>
    simp only [hz] at hk2
    obtain ⟨a', o, e', _, ov, g1, g2, g3⟩ := get_ok (Fv.sub (ρ := ρ2) c2.rep.sub) c2.rep.sub hT (see_ok c2.rep hz (Rw.ext r1 E2)) r2 hk2
    cases e'
    refine ⟨ov, g1, q _ _ g2 _ M2 ρ2 H2 (E1.trans E2) c2 ?_⟩
    cases o with
    | none => rw [g3]; exact r3
    | some d => obtain ⟨v, rfl, g4⟩ := g3; exact g4
def RpCs (N : Kn) (M F : Hp) : List D → List V → Prop
  | [], vs => vs = []
  | d :: ds, vs => ∃ x r, vs = x :: r ∧ RpC N M F d x ∧ RpCs N M F ds r
theorem sees_ok {M H : Hp} {ρ : List Addr} {st : Sto} (r : Rep N M ρ st H) : ∀ {ws : List W} {ds : List D} {vs : List V}, seeWs ws st = some ds → Rws N M ρ ws vs → RpCs N M (Fv M ρ H) ds vs
  | [], _, _, e, h => by cases e; exact h
  | w :: ws, ds, vs, e, ⟨x, q, h1, h2, h3⟩ => by
    cases e1 : seeW w st with
    | none => simp only [seeWs, e1] at e; cases e
    | some d =>
      cases e2 : seeWs ws st with
      | none => simp only [seeWs, e1, e2] at e; cases e
      | some ds' =>
        simp only [seeWs, e1, e2, Option.some.injEq] at e
        subst e
        exact ⟨x, q, h1, see_ok r e1 h2, sees_ok r e2 h3⟩
def CallOk (N : Kn) (r : List V → Hp → VK → Prop) (f : FL) : Prop := ∀ {Wx : WX} {M H : Hp} {ρ : List Addr} {σ : Sl} {st : Sto} {σV : L2.St} {ex : DX} {ds : List D} {us : List V} {kd : D → Prop} {Q : VK}, Kx N Wx M ρ σ st H σV ex → RpCs N M (Fv M ρ H) ds us → f ds kd →
  (∀ d, kd d → ∀ w M' H', Ext M ρ H M' ρ H' → Kx N Wx M' ρ σ st H' σV ex → Rp N M' d w → Q w H') → r us H Q
theorem cb_lift {r : List V → Hp → VK → Prop} {f : FL} {ta : DA} (ok : CallOk N r f) {σV : L2.St} {H : Hp} {Q : VK} (h : lD N Wx (dCB f ta) σV H Q) : tCB r (lA N Wx ta) σV H Q := by
  obtain ⟨M, ρ, σ, st, k, ex, c, ht, q⟩ := Kx.open_ h
  refine Lf.of c ht fun ws st' hk vs M' ρ' H' E c' r => ?_
  cases hz : seeWs ws st' with
  | none => simp only [hz] at hk
  | some ds =>
    simp only [hz] at hk
    exact ok c' (sees_ok c'.rep hz r) hk fun d hd w M2 H2 E2 c2 r2 => q _ _ hd w M2 ρ' H2 (E.trans E2) c2 r2
theorem e_cb {id : String} {r : List V → Hp → VK → Prop} {f : FL} {ta : DA} {x : Str} {p : Pos} {es : List Expr} (hc : CallR X (.builtin id) r) (ok : CallOk N r f) (hg : Gl X x) (hm : X.mg x = none) (hv : bootBuiltins x = some (.builtin id)) (ha : PA X (e :: es) (lA N Wx ta)) (hn : x ≠ "__name__" := by decide) (hdb : (x == ("__debug__" : Str)) = false := by decide)
    (he : starEach (e :: es) X.env = (false, eval e X.env) :: starEach es X.env := by rfl) (hpl : (backTo pos (starEach es X.env)).any (·.1) = false := by rfl) : PE X (.Call (.Name x p) (e :: es) [] pos) (lD N Wx (dCB f ta)) := PE.imp (pe_callB hc hg hm hv ha hn hdb he hpl) fun _ _ _ => cb_lift ok
theorem e_cty {T : String} {r : List V → Hp → VK → Prop} {f : FL} {ta : DA} {x : Str} {p : Pos} {es : List Expr} (hc : CallR X (.type T) r) (ok : CallOk N r f) (hg : Gl X x) (hm : X.mg x = none) (hv : bootBuiltins x = some (.type T)) (ha : PA X (e :: es) (lA N Wx ta)) (hn : x ≠ "__name__" := by decide) (hdb : (x == ("__debug__" : Str)) = false := by decide)
    (he : starEach (e :: es) X.env = (false, eval e X.env) :: starEach es X.env := by rfl) (hpl : (backTo pos (starEach es X.env)).any (·.1) = false := by rfl) : PE X (.Call (.Name x p) (e :: es) [] pos) (lD N Wx (dCB f ta)) := PE.imp (pe_callTy hc hg hm hv ha hn hdb he hpl) fun _ _ _ => cb_lift ok
theorem CallR.or {f : Value} {r r' : List V → Hp → VK → Prop} (h : CallR X f r) (h' : CallR X f r') : CallR X f (fun xs H Q => r xs H Q ∨ r' xs H Q) := fun pins s σ H xs us Q I rx q => q.elim (h pins s σ H xs us Q I rx) (h' pins s σ H xs us Q I rx)
theorem RpCs.one {M F : Hp} {d : D} {us : List V} (h : RpCs N M F [d] us) : ∃ u, us = [u] ∧ RpC N M F d u := by
  obtain ⟨x, r, h1, h2, h3⟩ := h
  rw [show r = [] from h3] at h1
  exact ⟨x, h1, h2⟩
theorem RpCs.two {M F : Hp} {d d' : D} {us : List V} (h : RpCs N M F [d, d'] us) : ∃ u u', us = [u, u'] ∧ RpC N M F d u ∧ RpC N M F d' u' := by
  obtain ⟨x, r, h1, h2, h3⟩ := h
  obtain ⟨u, rfl, h4⟩ := RpCs.one h3
  exact ⟨x, u, h1, h2, h4⟩
def rLenW (K : PySem.W.Frag) : List V → Hp → VK → Prop := fun xs H Q => cLenA K xs H Q ∨ (∃ a kvs, xs = [V.ref a] ∧ Rd H a (.dK kvs) ∧ Q (.int kvs.length) H) ∨ ∃ a kvs, xs = [V.ref a] ∧ Rd H a (.dT kvs) ∧ Q (.int kvs.length) H
theorem c_lenW : CallR X (.builtin "len") (rLenW X.K) := by
  intro pins s σ H xs us Q I r h
  rcases h with h | ⟨a, kvs, rfl, ha, q⟩ | ⟨p, kvs, rfl, hp, q⟩
  · exact c_lenA pins s σ H xs us Q I r h
  · obtain ⟨u, rfl, ru⟩ := vals1 r
    cases ru
    exact d_len I ha fun t s' I' => ⟨.int kvs.length, H, I', ⟨t, rfl⟩, q⟩
  · obtain ⟨u, rfl, rx⟩ := vals1 r
    obtain rfl : u = .ref p := rx
    obtain ⟨z, hd, ys, rel, dd⟩ := dt_rd I.hok hp
    have hl : kvs.length = ys.length := Paired.length rel
    refine call_len_dictH hd dd (by rw [← hl]; rw [sizeLine_eq] at z; omega) ?_
    rw [← hl]
    exact ⟨.int ((kvs.length : Nat) : Int), H, I.tok _, ⟨_, rfl⟩, q⟩
theorem ok_len : CallOk N (rLenW N.K) fLen := by
  intro Wx M H ρ σ st σV ex ds us kd Q c hd h k
  unfold fLen at h
  split at h
  · rename_i x
    obtain ⟨u, rfl, r⟩ := RpCs.one hd
    have s := Fv.sub (ρ := ρ) c.rep.sub
    cases x <;> try exact False.elim h
    · cases r; exact .inl ⟨h.1, k _ h.2 _ M H Ext.refl c rfl⟩
    · obtain ⟨p, xs, rfl, h1, h2⟩ := (show Rp N M _ u from r)
      exact .inl ⟨_, .inl ⟨xs, .inr (c.rep.sub.tup h1), rfl⟩, by rw [h2.length]; exact k _ h _ M H Ext.refl c rfl⟩
    · obtain ⟨p, xs, rfl, h1, h2⟩ := r
      exact .inl ⟨_, .inl ⟨xs, .inl (SqL.of (s.lst1 h1)), rfl⟩, by rw [h2.length]; exact k _ h _ M H Ext.refl c rfl⟩
    · obtain ⟨p, kvs, rfl, h1, h2, h3⟩ := r
      refine .inr (.inl ⟨p, kvs, rfl, s.dK h1, ?_⟩)
      rw [show (kvs.length : Int) = ((kvs.map (·.1)).length : Int) by simp, h2]
      exact k _ h _ M H Ext.refl c rfl
    · obtain ⟨p, kvs, rfl, h1, h2, h3⟩ := r
      refine .inr (.inr ⟨p, kvs, rfl, s.dT h1, ?_⟩)
      rw [show (kvs.length : Int) = ((kvs.map (·.1)).length : Int) by simp, h2]
      exact k _ h _ M H Ext.refl c rfl
  · exact h.elim
def fInt : FL := fun xs k => match xs with
  | [.int i] => k (.int i)
  | [.bl b] => k (.int (if b then 1 else 0))
  | [.str a] => ∃ n, PySem.intText? a = some n ∧ a.length ≤ 640 ∧ k (.int n)
  | _ => False
theorem c_intA : CallR X (.type "int") (fun xs H Q => cInt xs H Q ∨ cIntS xs H Q) := CallR.or c_int c_intS
theorem ok_int : CallOk N (fun xs H Q => cInt xs H Q ∨ cIntS xs H Q) fInt := by
  intro Wx M H ρ σ st σV ex ds us kd Q c hd h k
  unfold fInt at h
  split at h
  · obtain ⟨u, rfl, r⟩ := RpCs.one hd; cases r; exact .inl (k _ h _ M H Ext.refl c rfl)
  · obtain ⟨u, rfl, r⟩ := RpCs.one hd; cases r; exact .inl (k _ h _ M H Ext.refl c rfl)
  · obtain ⟨u, rfl, r⟩ := RpCs.one hd; cases r
    obtain ⟨n, h1, h2, h3⟩ := h
    exact .inr ⟨n, h1, h2, k _ h3 _ M H Ext.refl c rfl⟩
  · exact h.elim
def fStrI : FL := fun xs k => match xs with
  | [.int i] => i.natAbs.log2 < 1920 ∧ k (.str (toString i))
  | _ => False
theorem ok_strI : CallOk N cStrI fStrI := by
  intro Wx M H ρ σ st σV ex ds us kd Q c hd h k
  unfold fStrI at h
  split at h
  · obtain ⟨u, rfl, r⟩ := RpCs.one hd; cases r; exact ⟨h.1, k _ h.2 _ M H Ext.refl c rfl⟩
  · exact h.elim
def fAbs : FL := fun xs k => match xs with
  | [.int i] => k (.int (i.natAbs : Int))
  | _ => False
theorem ok_abs : CallOk N cAbs fAbs := by
  intro Wx M H ρ σ st σV ex ds us kd Q c hd h k
  unfold fAbs at h
  split at h
  · obtain ⟨u, rfl, r⟩ := RpCs.one hd; cases r; exact k _ h _ M H Ext.refl c rfl
  · exact h.elim
def fMin : FL := fun xs k => match xs with
  | [.int i, .int j] => k (.int (min i j))
  | _ => False
theorem ok_min : CallOk N cMin2 fMin := by
  intro Wx M H ρ σ st σV ex ds us kd Q c hd h k
  unfold fMin at h
  split at h
  · rename_i i j
    obtain ⟨u, u', rfl, r, r'⟩ := RpCs.two hd; cases r; cases r'
    have : (if j < i then j else i) = min i j := by split <;> omega
    show Q (.int (if j < i then j else i)) H
    rw [this]
    exact k _ h _ M H Ext.refl c rfl
  · exact h.elim
def fMax : FL := fun xs k => match xs with
  | [.int i, .int j] => k (.int (max i j))
  | _ => False
theorem ok_max : CallOk N cMax2 fMax := by
  intro Wx M H ρ σ st σV ex ds us kd Q c hd h k
  unfold fMax at h
  split at h
  · rename_i i j
    obtain ⟨u, u', rfl, r, r'⟩ := RpCs.two hd; cases r; cases r'
    have : (if j > i then j else i) = max i j := by split <;> omega
    show Q (.int (if j > i then j else i)) H
    rw [this]
    exact k _ h _ M H Ext.refl c rfl
  · exact h.elim
theorem Rps.ints {M : Hp} : ∀ {ns : List Int} {vs : List V}, Rps N M (ns.map D.int) vs → vs = ns.map V.int
  | [], _, h => h
  | n :: ns, _, ⟨x, r, h1, h2, h3⟩ => by
    subst h1
    cases h2
    rw [Rps.ints h3]
    rfl
theorem Rps.bls {M : Hp} : ∀ {ns : List Bool} {vs : List V}, Rps N M (ns.map D.bl) vs → vs = ns.map V.bl
  | [], _, h => h
  | n :: ns, _, ⟨x, r, h1, h2, h3⟩ => by
    subst h1
    cases h2
    rw [Rps.bls h3]
    rfl
theorem Rps.strs {M : Hp} : ∀ {ns : List Str} {vs : List V}, Rps N M (ns.map D.str) vs → vs = ns.map V.str
  | [], _, h => h
  | n :: ns, _, ⟨x, r, h1, h2, h3⟩ => by
    subst h1
    cases h2
    rw [Rps.strs h3]
    rfl
def fSum : FL := fun xs k => match xs with
  | [.lst ds] => ∃ ns : List Int, ds = ns.map D.int ∧ k (.int ns.sum)
  | _ => False
theorem ok_sum : CallOk N (rSum N.K) fSum := by
  intro Wx M H ρ σ st σV ex ds us kd Q c hd h k
  unfold fSum at h
  split at h
  · obtain ⟨u, rfl, p, xs, rfl, h1, h2⟩ := RpCs.one hd
    obtain ⟨ns, rfl, h⟩ := h
    have := h2.ints
    subst this
    exact ⟨p, ns, rfl, SqL.of ((Fv.sub (ρ := ρ) c.rep.sub).lst1 h1), k _ h _ M H Ext.refl c rfl⟩
  · exact h.elim
def fAll : FL := fun xs k => match xs with
  | [.lst ds] => ∃ ns : List Bool, ds = ns.map D.bl ∧ k (.bl (ns.all id))
  | _ => False
theorem ok_all : CallOk N (rAll N.K) fAll := by
  intro Wx M H ρ σ st σV ex ds us kd Q c hd h k
  unfold fAll at h
  split at h
  · obtain ⟨u, rfl, p, xs, rfl, h1, h2⟩ := RpCs.one hd
    obtain ⟨ns, rfl, h⟩ := h
    have := h2.bls
    subst this
    exact ⟨p, ns, rfl, SqL.of ((Fv.sub (ρ := ρ) c.rep.sub).lst1 h1), k _ h _ M H Ext.refl c rfl⟩
  · exact h.elim
def fAny : FL := fun xs k => match xs with
  | [.lst ds] => ∃ ns : List Bool, ds = ns.map D.bl ∧ k (.bl (ns.any id))
  | _ => False
theorem ok_any : CallOk N (rAny N.K) fAny := by
  intro Wx M H ρ σ st σV ex ds us kd Q c hd h k
  unfold fAny at h
  split at h
  · obtain ⟨u, rfl, p, xs, rfl, h1, h2⟩ := RpCs.one hd
    obtain ⟨ns, rfl, h⟩ := h
    have := h2.bls
    subst this
    exact ⟨p, ns, rfl, SqL.of ((Fv.sub (ρ := ρ) c.rep.sub).lst1 h1), k _ h _ M H Ext.refl c rfl⟩
  · exact h.elim
def fTuple : FL := fun xs k => match xs with
  | [.lst ds] => k (.tup ds)
  | [.tup ds] => k (.tup ds)
  | _ => False
def fList : FL := fun xs k => match xs with
  | [.lst ds] => k (.lst ds)
  | [.tup ds] => k (.lst ds)
  | _ => False
end
end Dl
end

section
set_option maxHeartbeats 4000000
namespace Dl
open PySem PySem.Spec PyProof.Rows L2 Co
section
variable {X : Cx} {b : Bool} {Wx : WX} {e e1 e2 e3 : Expr} {pos : Pos} {N : Kn}
theorem ok_tuple : CallOk N (rTupOf N.K) fTuple := by
  intro Wx M H ρ σ st σV ex ds us kd Q c hd h k
  unfold fTuple at h
  split at h
  · obtain ⟨u, rfl, p, xs, rfl, h1, h2⟩ := RpCs.one hd
    refine ⟨p, xs, rfl, .inl ⟨SqL.of ((Fv.sub (ρ := ρ) c.rep.sub).lst1 h1), fun l hl => ?_⟩⟩
    obtain ⟨E, c'⟩ := c.new (o := .tup xs) hl
    exact k _ h _ _ _ E c' ⟨l, xs, rfl, .inl upd_same, h2.ext E⟩
  · obtain ⟨u, rfl, p, xs, rfl, h1, h2⟩ := RpCs.one hd
    exact ⟨p, xs, rfl, .inr ⟨c.rep.sub.tup h1, k _ h _ M H Ext.refl c ⟨p, xs, rfl, h1, h2⟩⟩⟩
  · exact h.elim
theorem ok_list : CallOk N (rListOf N.K) fList := by
  intro Wx M H ρ σ st σV ex ds us kd Q c hd h k
  unfold fList at h
  split at h
  · obtain ⟨u, rfl, p, xs, rfl, h1, h2⟩ := RpCs.one hd
    refine ⟨p, xs, rfl, .inl (SqL.of ((Fv.sub (ρ := ρ) c.rep.sub).lst1 h1)), fun l hl => ?_⟩
    obtain ⟨E, c'⟩ := c.new (o := .lst xs) hl
    exact k _ h _ _ _ E c' ⟨l, xs, rfl, upd_same, h2.ext E⟩
  · obtain ⟨u, rfl, p, xs, rfl, h1, h2⟩ := RpCs.one hd
    refine ⟨p, xs, rfl, .inr (c.rep.sub.tup h1), fun l hl => ?_⟩
    obtain ⟨E, c'⟩ := c.new (o := .lst xs) hl
    exact k _ h _ _ _ E c' ⟨l, xs, rfl, upd_same, h2.ext E⟩
  · exact h.elim
def dListM (ta : DW) : DW := fun σ st k ex => ta σ st (fun w st1 => match seeW w st1 with
  | some (.lst ds) => k (.loc st1.length) (st1 ++ [.lst ds])
  | some (.tup ds) => k (.loc st1.length) (st1 ++ [.lst ds])
  | _ => False) ex
theorem e_listM {ta : DW} {x : Str} {p : Pos} (hg : Gl X x) (hm : X.mg x = none) (hv : bootBuiltins x = some (.type "list")) (ha : PE X e (lW (XN X b) Wx ta)) (hn : x ≠ "__name__" := by decide) (hdb : (x == ("__debug__" : Str)) = false := by decide)
    (he : starEach [e] X.env = (false, eval e X.env) :: starEach [] X.env := by rfl) (hpl : (backTo pos (starEach [] X.env)).any (·.1) = false := by rfl) : PE X (.Call (.Name x p) [e] [] pos) (lW (XN X b) Wx (dListM ta)) := PE.imp (pe_callTy call_list_of hg hm hv (pa_cons ha pa_nil he) hn hdb he hpl) fun σV H Q h => by
  obtain ⟨M, ρ, σ, st, k, ex, c, ht, q⟩ := Kx.open_ h
  refine Lf.of c ht fun w st' hk u M' ρ' H' E c' r => ?_
  cases hz : seeW w st' with
  | none => simp only [hz] at hk
  | some x =>
    simp only [hz] at hk
    have g := see_ok c'.rep hz r
    cases x <;> try exact False.elim hk
    · obtain ⟨p, xs, rfl, h1, h2⟩ := (show Rp (XN X b) M' _ u from g)
      refine ⟨p, xs, rfl, .inr (c'.rep.sub.tup h1), fun l hl => ?_⟩
      obtain ⟨E2, c2⟩ := c'.loc (u := .lst xs) hl (o := .lst _) ⟨c'.rep.non hl, xs, upd_same, h2⟩
      exact q _ _ hk _ _ _ _ (E.trans E2) c2 ⟨l, c'.rep.last l, rfl⟩
    · obtain ⟨p, xs, rfl, h1, h2⟩ := g
      refine ⟨p, xs, rfl, .inl (SqL.of ((Fv.sub (ρ := ρ') c'.rep.sub).lst1 h1)), fun l hl => ?_⟩
      obtain ⟨E2, c2⟩ := c'.loc (u := .lst xs) hl (o := .lst _) ⟨c'.rep.non hl, xs, upd_same, h2⟩
      exact q _ _ hk _ _ _ _ (E.trans E2) c2 ⟨l, c'.rep.last l, rfl⟩
def lO (N : Kn) (Wx : WX) (t : DO) : TO := Lf N Wx (fun _ _ (a b : Option Int) => b = a) t
instance : Mo (fun _ _ (a b : Option Int) => b = a) := ⟨fun _ h => h⟩
theorem PO.imp {eo : Option Expr} {t t' : TO} (h : PO X eo t) (i : ∀ σ H Q, t' σ H Q → t σ H Q) : PO X eo t' := ⟨fun pins s σ H Q I q => h.run pins s σ H Q I (i σ H Q q)⟩
theorem o_none : PO X none (lO N Wx dNoPart) := PO.imp po_none fun σV H Q h => by
  obtain ⟨M, ρ, σ, st, k, ex, c, ht, q⟩ := Kx.open_ h
  exact q _ _ ht _ M ρ H Ext.refl c rfl
theorem o_some {t : DD} (h : PE X e (lD N Wx t)) : PO X (some e) (lO N Wx (dPart t)) := PO.imp (po_some h) fun σV H Q h => by
  obtain ⟨M, ρ, σ, st, k, ex, c, ht, q⟩ := Kx.open_ h
  refine Lf.of c ht fun x st' hk v M' ρ' H' E c' r => ?_
  cases x <;> try exact False.elim hk
  cases r
  exact ⟨_, rfl, q _ _ hk _ M' ρ' H' E c' rfl⟩
theorem cut_rps {M : Hp} {ds : List D} {vs : List V} (h : Rps N M ds vs) (lo hi : Option Int) : Rps N M (cutD ds lo hi) (cutV vs lo hi) := by
  unfold cutD cutV
  rw [h.length]
  exact Rps.take _ (Rps.drop _ h)
theorem sl_all : SlR X (fun x lo hi H Q => rSlS x lo hi H Q ∨ rSlA X.K x lo hi H Q ∨ rSlL X.K x lo hi H Q) := SlR.or sl_str (SlR.or sl_tupA sl_list)
theorem e_sl {ta : DW} {tl th : DO} {lo hi : Option Expr} {p2 : Pos} (ha : PE X e (lW (XN X b) Wx ta)) (hl : PO X lo (lO (XN X b) Wx tl)) (hh : PO X hi (lO (XN X b) Wx th)) : PE X (.Subscript e (.Slice lo hi none p2) pos) (lD (XN X b) Wx (dSl ta tl th)) := PE.imp (pe_slice sl_all ha hl hh) fun σV H Q h => by
  obtain ⟨M, ρ, σ, st, k, ex, c, ht, q⟩ := Kx.open_ h
  refine Lf.of c ht fun w st1 hk1 u M1 ρ1 H1 E1 c1 r1 => Lf.bin c1 hk1 fun l h st' hk l' h' M' ρ' H' E c' r2 r3 => ?_
  rw [show l' = l from r2, show h' = h from r3]
  have E := E1.trans E
  have r1 := Rw.ext r1 ‹Ext M1 ρ1 H1 M' ρ' H'›
  cases hz : seeW w st' with
  | none => simp only [hz] at hk
  | some x =>
    simp only [hz] at hk
    have g := see_ok c'.rep hz r1
    cases x <;> try exact False.elim hk
    · cases g; exact .inl ⟨_, rfl, hk.1, q _ _ hk.2 _ M' ρ' H' E c' rfl⟩
    · obtain ⟨p, xs, rfl, h1, h2⟩ := (show Rp (XN X b) M' _ u from g)
      have hc := cut_rps h2 l h
      refine .inr (.inl ⟨p, xs, rfl, c'.rep.sub.tup h1, fun z => ?_, fun _ l' hl' => ?_⟩)
      · have e1 : cutV xs l h = xs := by
          unfold cutV
          rw [z.1, z.2]
          simp
        rw [e1] at hc
        exact q _ _ hk _ M' ρ' H' E c' ⟨p, xs, rfl, h1, hc⟩
      · obtain ⟨E2, c2⟩ := c'.new (o := .tup (cutV xs l h)) hl'
        exact q _ _ hk _ _ _ _ (E.trans E2) c2 ⟨l', _, rfl, .inl upd_same, hc.ext E2⟩
    · obtain ⟨p, xs, rfl, h1, h2⟩ := g
      have hc := cut_rps h2 l h
      refine .inr (.inr ⟨p, xs, rfl, SqL.of ((Fv.sub (ρ := ρ') c'.rep.sub).lst1 h1), fun l' hl' => ?_⟩)
      obtain ⟨E2, c2⟩ := c'.new (o := .lst (cutV xs l h)) hl'
      exact q _ _ hk _ _ _ _ (E.trans E2) c2 ⟨l', _, rfl, upd_same, hc.ext E2⟩
theorem lookup_rps {M : Hp} : ∀ {fs : List (Str × V)} {ds : List D} {f : Str} {d : D}, Rps N M ds (fs.map (·.2)) → getK (fs.map (·.1)) ds f = some d → ∃ v, fs.lookup f = some v ∧ Rp N M d v
  | [], _, _, _, _, e => by cases e
  | (a, v) :: fs, [], f, d, h, e => by cases e
  | (a, v) :: fs, d' :: ds, f, d, ⟨x, r, h1, h2, h3⟩, e => by
    cases h1
    by_cases z : a = f
    · simp only [List.map_cons, getK, if_pos z, Option.some.injEq] at e
      subst e
      refine ⟨v, ?_, h2⟩
      rw [List.lookup_cons, show (f == a) = true by rw [z]; exact beq_self_eq_true f]
    · simp only [List.map_cons, getK, if_neg z] at e
      obtain ⟨v', h4, h5⟩ := lookup_rps h3 e
      refine ⟨v', ?_, h5⟩
      rw [List.lookup_cons, show (f == a) = false from beq_eq_false_iff_ne.mpr fun w => z w.symm]
      exact h4
theorem lookup_rws {M : Hp} {ρ : List Addr} : ∀ {fs : List (Str × V)} {gs : List (Str × W)} {f : Str} {w : W}, fs.map (·.1) = gs.map (·.1) → Rws N M ρ (gs.map (·.2)) (fs.map (·.2)) → gs.lookup f = some w → ∃ v, fs.lookup f = some v ∧ Rw N M ρ w v
  | [], [], _, _, _, _, e => by cases e
  | [], _ :: _, _, _, e, _, _ => by cases e
  | _ :: _, [], _, _, e, _, _ => by cases e
  | (a, v) :: fs, (a', w') :: gs, f, w, e0, ⟨x, r, h1, h2, h3⟩, e => by
    cases h1
    rw [List.map_cons, List.map_cons, List.cons.injEq] at e0
    obtain ⟨e1, e2⟩ := e0
    have e1 : a = a' := e1
    subst e1
    rw [List.lookup_cons] at e ⊢
    cases z : f == a with
    | true => rw [z] at e; cases e; exact ⟨v, rfl, h2⟩
    | false =>
      rw [z] at e
      exact lookup_rws e2 h3 e
theorem fld_ok {M H : Hp} {ρ : List Addr} {st : Sto} {C f : Str} {w : W} {u : V} {k : W → Prop} (r : Rep N M ρ st H) (h : fldD C f w st k) (hr : Rw N M ρ w u) : ∃ a dx fs v w', u = .ref a ∧ H a = some (.ins (He.ga N.K C) dx fs) ∧ fs.lookup f = some v ∧ k w' ∧ Rw N M ρ w' v := by
  have im : ∀ {C' : Str} {ns : List Str} {ds : List D} {v : V}, Rp N M (.ins C' ns ds) v → (C' = C ∧ (match getK ns ds f with
      | some d => k (.im d)
      | none => False)) → ∃ a dx fs x w', v = .ref a ∧ H a = some (.ins (He.ga N.K C) dx fs) ∧ fs.lookup f = some x ∧ k w' ∧ Rw N M ρ w' x := by
    rintro C' ns ds v ⟨p, dx, fs, rfl, h1, h2, h3⟩ ⟨rfl, h4⟩
    subst h2
    cases hz : getK (fs.map (·.1)) ds f with
    | none => rw [hz] at h4; exact h4.elim
    | some d =>
      rw [hz] at h4
      obtain ⟨x, h5, h6⟩ := lookup_rps h3 hz
      exact ⟨p, dx, fs, x, .im d, rfl, r.sub.ins h1, h5, h4, h6⟩
  cases w with
  | dead => exact False.elim h
  | im d =>
    cases d <;> try exact False.elim h
    exact im hr h
  | loc n =>
    obtain ⟨a, ha, rfl⟩ := hr
    cases ho : st[n]? with
    | none => simp only [fldD, ho] at h
    | some o =>
      simp only [fldD, ho] at h
      have q := r.ob n a o ha ho
      cases o <;> try exact False.elim h
      · rename_i C' fs
        simp only at h
        obtain ⟨rfl, h⟩ := h
        cases hl : fs.lookup f with
        | none => rw [hl] at h; exact h.elim
        | some w' =>
          rw [hl] at h
          obtain ⟨hm, dx, fxs, h1, h2, h3⟩ := q
          obtain ⟨v, h4, h5⟩ := lookup_rws h2 h3 hl
          exact ⟨a, dx, fxs, v, w', rfl, h1, h4, h, h5⟩
      · rename_i d
        cases d <;> try exact False.elim h
        exact im q.1 h
theorem e_fld {C f : Str} {ta : DW} (hc : Cls X.K (He.ga X.K C)) (hn : NoAttr X.K (He.ga X.K C) f) (ha : PE X e (lW (XN X b) Wx ta)) (hb : attributeBase e f X.env (eval e X.env) = eval e X.env := by rfl) : PE X (.Attribute e f pos) (lW (XN X b) Wx (dFld C f ta)) := PE.imp (pe_fld ha hb) fun σV H Q h => by
  obtain ⟨M, ρ, σ, st, k, ex, c, ht, q⟩ := Kx.open_ h
  refine Lf.of c ht fun w st' hk u M' ρ' H' E c' r => ?_
  obtain ⟨a, dx, fs, v, w', rfl, h1, h2, h3, h4⟩ := fld_ok c'.rep hk r
  exact ⟨a, _, dx, fs, v, rfl, h1, hc, hn, h2, q _ _ h3 _ M' ρ' H' E c' h4⟩
def MtOk (N : Kn) (r : V → List V → Hp → VK → Prop) (f : D → FL) : Prop := ∀ {Wx : WX} {M H : Hp} {ρ : List Addr} {σ : Sl} {st : Sto} {σV : L2.St} {ex : DX} {x : D} {u : V} {ds : List D} {us : List V} {kd : D → Prop} {Q : VK}, Kx N Wx M ρ σ st H σV ex → RpC N M (Fv M ρ H) x u → RpCs N M (Fv M ρ H) ds us → f x ds kd →
  (∀ d, kd d → ∀ w M' H', Ext M ρ H M' ρ H' → Kx N Wx M' ρ σ st H' σV ex → Rp N M' d w → Q w H') → r u us H Q
theorem e_m1 {id : String} {name : Str} {apos : Pos} {r : V → List V → Hp → VK → Prop} {f : D → FL} {to ta : DW} (slot : Slot "str" name id) (ty : typeOf (.builtin id) = pure (.type "method_descriptor")) (rule : MtR X id r) (ok : MtOk N r f) (ho : PE X e1 (lW N Wx to)) (he : PE X e2 (lW N Wx ta))
    (hs : starEach [e2] X.env = [(false, eval e2 X.env)] := by rfl) (hbase : attributeBase e1 name X.env (eval e1 X.env) = eval e1 X.env := by rfl) (hline : (apos.endLine == pos.line) = true := by rfl) : PE X (.Call (.Attribute e1 name apos) [e2] [] pos) (lD N Wx (dBM "str" f to (aCons ta aNil))) := PE.imp (pe_m1 slot ty rule ho he hs hbase hline) fun σV H Q h => by
  obtain ⟨M, ρ, σ, st, k, ex, c, ht, q⟩ := Kx.open_ h
  refine Lf.of c ht fun w st1 hk u M1 ρ1 H1 E1 c1 r1 => ?_
  obtain ⟨ht, hk⟩ := hk
  refine ⟨?_, Lf.of c1 hk fun y st2 hk2 v M2 ρ2 H2 E2 c2 r2 => ?_⟩
  · cases hz : seeW w st1 with
    | none => rw [hz] at ht; exact False.elim ht
    | some x =>
      rw [hz] at ht
      have g := see_ok c1.rep hz r1
      cases x <;> first | exact False.elim ht | exact absurd (show "str" = "list" from ht) (by decide) | exact absurd (show "str" = "dict" from ht) (by decide) | (cases g; exact ⟨_, rfl⟩)
  · have hk2 : (match seeW w st2, seeWs [y] st2 with
      | some x, some ds => f x ds fun d => k d st2
      | _, _ => False) := hk2
    cases hz : seeW w st2 with
    | none => rw [hz] at hk2; exact False.elim hk2
    | some x =>
      cases hy : seeWs [y] st2 with
      | none => rw [hz, hy] at hk2; exact False.elim hk2
      | some ds =>
        rw [hz, hy] at hk2
        refine ok c2 (see_ok c2.rep hz (Rw.ext r1 E2)) (sees_ok c2.rep hy ⟨v, [], rfl, r2, rfl⟩) hk2 fun d hd w M3 H3 E3 c3 r3 => q _ _ hd w M3 ρ2 H3 (E1.trans (E2.trans E3)) c3 r3
theorem e_m0 {id : String} {name : Str} {apos : Pos} {r : V → List V → Hp → VK → Prop} {f : D → FL} {to : DW} (slot : Slot "str" name id) (ty : typeOf (.builtin id) = pure (.type "method_descriptor")) (rule : MtR X id r) (ok : MtOk N r f) (ho : PE X e1 (lW N Wx to))
    (hbase : attributeBase e1 name X.env (eval e1 X.env) = eval e1 X.env := by rfl) (hline : (apos.endLine == pos.line) = true := by rfl) : PE X (.Call (.Attribute e1 name apos) [] [] pos) (lD N Wx (dBM "str" f to aNil)) := PE.imp (pe_m0 slot ty rule ho hbase hline) fun σV H Q h => by
  obtain ⟨M, ρ, σ, st, k, ex, c, ht, q⟩ := Kx.open_ h
  refine Lf.of c ht fun w st1 hk u M1 ρ1 H1 E1 c1 r1 => ?_
  obtain ⟨ht, hk⟩ := hk
  have hk2 : (match seeW w st1, seeWs [] st1 with
      | some x, some ds => f x ds fun d => k d st1
      | _, _ => False) := hk
  cases hz : seeW w st1 with
  | none => rw [hz] at ht; exact False.elim ht
  | some x =>
    rw [hz] at ht hk2
    have g := see_ok c1.rep hz r1
    refine ⟨?_, ok c1 g (show RpCs N M1 _ [] [] from rfl) hk2 fun d hd w M3 H3 E3 c3 r3 => q _ _ hd w M3 ρ1 H3 (E1.trans E3) c3 r3⟩
    cases x <;> first | exact False.elim ht | exact absurd (show "str" = "list" from ht) (by decide) | exact absurd (show "str" = "dict" from ht) (by decide) | (cases g; exact ⟨_, rfl⟩)
def mJoin : D → FL := fun x xs k => match x, xs with
  | .str a, [.lst ds] => ∃ ys : List Str, ds = ys.map D.str ∧ (ys.map (·.length)).sum + ys.length * a.length ≤ 16777216 ∧ k (.str (Txt.join a ys))
  | .str a, [.tup ds] => ∃ ys : List Str, ds = ys.map D.str ∧ (ys.map (·.length)).sum + ys.length * a.length ≤ 16777216 ∧ k (.str (Txt.join a ys))
  | _, _ => False
theorem ok_join : MtOk N (rJoinS N.K) mJoin := by
  intro Wx M H ρ σ st σV ex x u ds us kd Q c hx hd h k
  unfold mJoin at h
  split at h
  · cases hx
    obtain ⟨u, rfl, p, xs, rfl, h1, h2⟩ := RpCs.one hd
    obtain ⟨ys, rfl, h3, h4⟩ := h
    have := h2.strs
    subst this
    exact ⟨ys, .inl (SqL.of ((Fv.sub (ρ := ρ) c.rep.sub).lst1 h1)), h3, k _ h4 _ M H Ext.refl c rfl⟩
  · cases hx
    obtain ⟨u, rfl, p, xs, rfl, h1, h2⟩ := RpCs.one hd
    obtain ⟨ys, rfl, h3, h4⟩ := h
    have := h2.strs
    subst this
    exact ⟨ys, .inr (c.rep.sub.tup h1), h3, k _ h4 _ M H Ext.refl c rfl⟩
  · exact h.elim
def mSS (g : Str → Str → D) : D → FL := fun x xs k => match x, xs with
  | .str a, [.str b] => k (g a b)
  | _, _ => False
def mLstrip : D → FL := fun x xs k => match x, xs with
  | .str a, [.str b] => a.length ≤ sizeLine ∧ k (.str (Txt.lstripChars a b))
  | _, _ => False
theorem ok_lstrip : MtOk N rLstripS mLstrip := by
  intro Wx M H ρ σ st σV ex x u ds us kd Q c hx hd h k
  unfold mLstrip at h
  split at h
  · cases hx
    obtain ⟨u, rfl, r⟩ := RpCs.one hd
    cases r
    exact ⟨h.1, k _ h.2 _ M H Ext.refl c rfl⟩
  · exact h.elim
end
end Dl
end

section
set_option maxHeartbeats 4000000
namespace Dl
open PySem PySem.Spec PyProof.Rows L2 Co
structure Lk (N : Kn) (Wx : WX) (M : Hp) (ρ : List Addr) (H : Hp) (D : Ends) (E : En) : Prop where
  nx : ∀ σ' st', E.nx σ' st' → ∀ M' ρ' H' σV', Ext M ρ H M' ρ' H' → Rep N M' ρ' st' H' → Rs N M' ρ' σ' σV' → D.nx σV' H'
  rt : ∀ w st', E.rt w st' → ∀ v M' ρ' H', Ext M ρ H M' ρ' H' → Rep N M' ρ' st' H' → Rw N M' ρ' w v → D.rt v H'
  ex : ∀ c fs σ' st', E.ex c fs σ' st' → ∀ o M' ρ' H' σV', Ext M ρ H M' ρ' H' → Rep N M' ρ' st' H' → Rs N M' ρ' σ' σV' → ErrOwn N M' o fs → Wx (.ref (He.ga N.K c)) o σV' H'
  bk : ∀ σ' st', E.bk σ' st' → ∀ M' ρ' H' σV', Ext M ρ H M' ρ' H' → Rep N M' ρ' st' H' → Rs N M' ρ' σ' σV' → D.bk σV' H'
  ct : ∀ σ' st', E.ct σ' st' → ∀ M' ρ' H' σV', Ext M ρ H M' ρ' H' → Rep N M' ρ' st' H' → Rs N M' ρ' σ' σV' → D.ct σV' H'
def lS (N : Kn) (Wx : WX) (t : DS) : TS := fun D σV H => ∃ M ρ σ st E, Rep N M ρ st H ∧ Rs N M ρ σ σV ∧ t E σ st ∧ Lk N Wx M ρ H D E
def exE (E : En) (σ : Sl) : DX := fun c fs st' => E.ex c fs σ st'
def sNext : DS := fun E σ st => E.nx σ st
def sSeq (t u : DS) : DS := fun E σ st => t { E with nx := fun σ' st' => u E σ' st' } σ st
def sAsg (i : Nat) (t : DW) : DS := fun E σ st => t σ st (fun w st1 => E.nx (σ.set i (some w)) st1) (exE E σ)
def sDrop (t : DW) : DS := fun E σ st => t σ st (fun _ st1 => E.nx σ st1) (exE E σ)
def sRet (t : DW) : DS := fun E σ st => t σ st (fun w st1 => E.rt w st1) (exE E σ)
def sRetN : DS := fun E _ st => E.rt (.im .non) st
def sIf (c : DT) (t u : DS) : DS := fun E σ st => c σ st (fun b st1 => two b (t E σ st1) (u E σ st1)) (exE E σ)
def sBrk : DS := fun E σ st => E.bk σ st
def sCnt : DS := fun E σ st => E.ct σ st
section
variable {N : Kn} {Wx : WX} {M H M' H' : Hp} {ρ ρ' : List Addr} {σ : Sl} {st : Sto} {σV : L2.St} {D : Ends} {E : En}
theorem Lk.step (l : Lk N Wx M ρ H D E) (e : Ext M ρ H M' ρ' H') : Lk N Wx M' ρ' H' D E :=
  ⟨fun σ' st' h M2 ρ2 H2 σV' e2 => l.nx σ' st' h M2 ρ2 H2 σV' (e.trans e2), fun w st' h v M2 ρ2 H2 e2 => l.rt w st' h v M2 ρ2 H2 (e.trans e2), fun c fs σ' st' h o M2 ρ2 H2 σV' e2 => l.ex c fs σ' st' h o M2 ρ2 H2 σV' (e.trans e2),
   fun σ' st' h M2 ρ2 H2 σV' e2 => l.bk σ' st' h M2 ρ2 H2 σV' (e.trans e2), fun σ' st' h M2 ρ2 H2 σV' e2 => l.ct σ' st' h M2 ρ2 H2 σV' (e.trans e2)⟩
theorem Lk.kx (l : Lk N Wx M ρ H D E) (r : Rep N M ρ st H) (s : Rs N M ρ σ σV) : Kx N Wx M ρ σ st H σV (exE E σ) :=
  ⟨r, s, fun c fs st' h o M' ρ' H' e r' eo => l.ex c fs σ st' h o M' ρ' H' σV e r' (s.ext e) eo⟩
theorem lS.of {t : DS} (l : Lk N Wx M ρ H D E) (r : Rep N M ρ st H) (s : Rs N M ρ σ σV) (h : t E σ st) : lS N Wx t D σV H := ⟨M, ρ, σ, st, E, r, s, h, l⟩
end
section
variable {X : Cx} {b : Bool} {Wx : WX} {e e1 e2 e3 : Expr} {pos : Pos} {N : Kn} {s s1 s2 : Stmt} {ss : List Stmt}
theorem PSs.imp {t t' : TS} (h : PSs X ss t) (i : ∀ D σ H, t' D σ H → t D σ H) : PSs X ss t' := ⟨fun pins s σ H D I q => h.run pins s σ H D I (i D σ H q)⟩
theorem ss_nil : PSs X [] (lS N Wx sNext) := PSs.imp pss_nil fun D σV H h => by
  obtain ⟨M, ρ, σ, st, E, r, s, h, l⟩ := h
  exact l.nx _ _ h M ρ H σV Ext.refl r s
theorem ss_one {t : DS} (h : PS X s (lS N Wx t)) : PSs X [s] (lS N Wx t) := pss_one h
theorem ss_cons {t u : DS} (h : PS X s (lS N Wx t)) (h2 : PSs X (s1 :: ss) (lS N Wx u)) : PSs X (s :: s1 :: ss) (lS N Wx (sSeq t u)) := PSs.imp (pss_cons h h2) fun D σV H q => by
  obtain ⟨M, ρ, σ, st, E, r, s, h, l⟩ := q
  refine lS.of (E := { E with nx := fun σ' st' => u E σ' st' }) ⟨fun σ' st' h' M' ρ' H' σV' e' r' s' => lS.of (l.step e') r' s' h', l.rt, l.ex, l.bk, l.ct⟩ r s h
theorem s_pass : PS X (.Pass pos) (lS N Wx sNext) := PS.imp ps_pass fun D σV H h => by
  obtain ⟨M, ρ, σ, st, E, r, s, h, l⟩ := h
  exact l.nx _ _ h M ρ H σV Ext.refl r s
theorem s_doc {c : Const} {k : Nat} {p1 p2 : Pos} (h : PS X (.Expr (.Constant c k p1) p2) tNext) : PS X (.Expr (.Constant c k p1) p2) (lS N Wx sNext) := PS.imp h fun D σV H h => by
  obtain ⟨M, ρ, σ, st, E, r, s, h, l⟩ := h
  exact l.nx _ _ h M ρ H σV Ext.refl r s
theorem s_brk : PS X (.Break pos) (lS N Wx sBrk) := PS.imp ps_break fun D σV H h => by
  obtain ⟨M, ρ, σ, st, E, r, s, h, l⟩ := h
  exact l.bk _ _ h M ρ H σV Ext.refl r s
theorem s_cnt : PS X (.Continue pos) (lS N Wx sCnt) := PS.imp ps_continue fun D σV H h => by
  obtain ⟨M, ρ, σ, st, E, r, s, h, l⟩ := h
  exact l.ct _ _ h M ρ H σV Ext.refl r s
theorem s_retN : PS X (.Return none pos) (lS N Wx sRetN) := PS.imp ps_retN fun D σV H h => by
  obtain ⟨M, ρ, σ, st, E, r, s, h, l⟩ := h
  exact l.rt _ _ h _ M ρ H Ext.refl r rfl
theorem s_ret {t : DW} (h : PE X e (lW N Wx t)) : PS X (.Return (some e) pos) (lS N Wx (sRet t)) := PS.imp (ps_ret h) fun D σV H h => by
  obtain ⟨M, ρ, σ, st, E, r, s, h, l⟩ := h
  exact Lf.of (l.kx r s) h fun w st' hk v M' ρ' H' e' c' rv => l.rt _ _ hk v M' ρ' H' e' c'.rep rv
theorem s_drop {t : DW} (h : PS X (.Expr e pos) (tDrop (lW N Wx t))) : PS X (.Expr e pos) (lS N Wx (sDrop t)) := PS.imp h fun D σV H h => by
  obtain ⟨M, ρ, σ, st, E, r, s, h, l⟩ := h
  exact Lf.of (l.kx r s) h fun w st' hk v M' ρ' H' e' c' rv => l.nx _ _ hk M' ρ' H' σV e' c'.rep c'.rs
theorem s_asg {t : DW} {i : Nat} (h : PS X s (tAsg (lW N Wx t) (gName i))) : PS X s (lS N Wx (sAsg i t)) := PS.imp h fun D σV H h => by
  obtain ⟨M, ρ, σ, st, E, r, s, h, l⟩ := h
  exact Lf.of (l.kx r s) h fun w st' hk v M' ρ' H' e' c' rv => l.nx _ _ hk M' ρ' H' _ e' c'.rep (c'.rs.set rv i)
theorem s_if {c : DT} {t u : DS} {p q : List Stmt} (hc : PT X e (lT N Wx c)) (ha : PSs X p (lS N Wx t)) (hb : PSs X q (lS N Wx u)) : PS X (.If e p q pos) (lS N Wx (sIf c t u)) := PS.imp (Co.s_if hc ha hb) fun D σV H h => by
  obtain ⟨M, ρ, σ, st, E, r, s, h, l⟩ := h
  refine Lf.of (l.kx r s) h fun b st' hk v M' ρ' H' e' c' rv => ?_
  rw [show v = b from rv]
  exact ⟨fun z => lS.of (l.step e') c'.rep c'.rs (hk.1 z), fun z => lS.of (l.step e') c'.rep c'.rs (hk.2 z)⟩
def putW (f : Str) (w : W) : List (Str × W) → List (Str × W)
  | [] => [(f, w)]
  | (g, x) :: r => if g = f then (g, w) :: r else (g, x) :: putW f w r
def sFldS (C f : Str) (to t : DW) : DS := fun E σ st => t σ st (fun w st1 => to σ st1 (fun o st2 => match o with
  | .loc n => (match st2[n]? with
    | some (.ins C' fs) => C' = C ∧ fs.length < 1000 ∧ E.nx σ (st2.set n (.ins C' (putW f w fs)))
    | _ => False)
  | _ => False) (exE E σ)) (exE E σ)
theorem putW_ok {M : Hp} {ρ : List Addr} {f : Str} {w : W} {v : V} (hw : Rw N M ρ w v) : ∀ {gs : List (Str × W)} {fs : List (Str × V)}, fs.map (·.1) = gs.map (·.1) → Rws N M ρ (gs.map (·.2)) (fs.map (·.2)) →
    (putF f v fs).map (·.1) = (putW f w gs).map (·.1) ∧ Rws N M ρ ((putW f w gs).map (·.2)) ((putF f v fs).map (·.2))
  | [], [], _, _ => ⟨rfl, ⟨v, [], rfl, hw, rfl⟩⟩
  | [], _ :: _, e, _ => by cases e
  | _ :: _, [], e, _ => by cases e
  | (a, x) :: gs, (a', y) :: fs, e0, ⟨x', r, h1, h2, h3⟩ => by
    cases h1
    rw [List.map_cons, List.map_cons, List.cons.injEq] at e0
    obtain ⟨e1, e2⟩ := e0
    have e1 : a' = a := e1
    subst e1
    by_cases z : a' = f
    · simp only [putF, putW, if_pos z, List.map_cons]
      exact ⟨by rw [e2], ⟨v, _, rfl, hw, h3⟩⟩
    · simp only [putF, putW, if_neg z, List.map_cons]
      obtain ⟨g1, g2⟩ := putW_ok hw e2 h3
      exact ⟨by rw [g1], ⟨y, _, rfl, h2, g2⟩⟩
theorem s_fld {C f : Str} {to t : DW} {pos' : Pos} (hc : Cls X.K (He.ga X.K C)) (hn : NoAttr X.K (He.ga X.K C) f) (ho : PE X e1 (lW (XN X b) Wx to)) (hv : PE X e2 (lW (XN X b) Wx t)) (hs : swapsWith e2 (some (.Attribute e1 f pos')) pos.line X.env = pure false := by rfl) :
    PS X (.Assign [.Attribute e1 f pos'] e2 pos) (lS (XN X b) Wx (sFldS C f to t)) := PS.imp (ps_fld ho hv hs) fun D σV H h => by
  obtain ⟨M, ρ, σ, st, E, r, s, h, l⟩ := h
  refine Lf.bin (l.kx r s) h fun w o st' hk v u M' ρ' H' e' c' rv ro => ?_
  cases o <;> try exact False.elim hk
  rename_i n
  obtain ⟨a, ha, rfl⟩ := ro
  cases hz : st'[n]? with
  | none => simp only [hz] at hk
  | some ob =>
    simp only [hz] at hk
    cases ob <;> try exact False.elim hk
    rename_i C' fs
    obtain ⟨rfl, hl, hk⟩ := hk
    obtain ⟨hm, dx, fxs, h1, h2, h3⟩ := c'.rep.ob n a _ ha hz
    obtain ⟨g1, g2⟩ := putW_ok (f := f) rv h2 h3
    refine ⟨a, _, dx, fxs, rfl, h1, hc, hn, ?_, ?_⟩
    · have := congrArg List.length h2
      rw [List.length_map, List.length_map] at this
      omega
    · obtain ⟨E2, c2⟩ := c'.wr (o := .ins C' (putW f w fs)) ha hm (u := .ins (He.ga X.K C') dx (putF f v fxs)) ⟨hm, dx, _, upd_same, g1, g2⟩
      exact l.nx _ _ hk _ _ _ σV (e'.trans E2) c2.rep c2.rs
def sApp (to : DW) (t : DD) : DS := fun E σ st => to σ st (fun o st1 => (∃ ds, seeW o st1 = some (.lst ds)) ∧ t σ st1 (fun d st2 => match o with
  | .loc n => (match st2[n]? with
    | some (.lst ds) => ds.length ≤ 1000000 ∧ E.nx σ (st2.set n (.lst (ds ++ [d])))
    | _ => False)
  | _ => False) (exE E σ)) (exE E σ)
theorem see_lst {w : W} {M H : Hp} {ρ : List Addr} {st : Sto} {ds : List D} {u : V} (r : Rep N M ρ st H) (e : seeW w st = some (.lst ds)) (h : Rw N M ρ w u) : ∃ p xs, u = .ref p ∧ H p = some (.lst xs) ∧ Rps N M ds xs := by
  obtain ⟨p, xs, h1, h2, h3⟩ := see_ok r e h
  exact ⟨p, xs, h1, (Fv.sub (ρ := ρ) r.sub).lst1 h2, h3⟩
theorem s_app {to : DW} {t : DD} (h : PS X s (tDrop (tBM X.K "list" rAppend (lW N Wx to) (tCons (lD N Wx t) tNil)))) : PS X s (lS N Wx (sApp to t)) := PS.imp h fun D σV H h => by
  obtain ⟨M, ρ, σ, st, E, r, s, h, l⟩ := h
  refine Lf.of (l.kx r s) h fun o st1 hk u M1 ρ1 H1 e1 c1 ro => ?_
  obtain ⟨⟨ds0, hs0⟩, hk⟩ := hk
  obtain ⟨p0, xs0, rfl, q1, q2⟩ := see_lst c1.rep hs0 ro
  refine ⟨.inl ⟨rfl, xs0, SqL.of q1⟩, Lf.of c1 hk fun d st2 hk v M2 ρ2 H2 e2 c2 rd => ?_⟩
  obtain ⟨n, rfl⟩ : ∃ n, o = .loc n := by cases o <;> first | exact False.elim hk | exact ⟨_, rfl⟩
  obtain ⟨a, ha, e⟩ := Rw.ext ro e2
  cases e
  cases hz : st2[n]? with
  | none => simp only [hz] at hk
  | some ob =>
    simp only [hz] at hk
    cases ob <;> try exact False.elim hk
    rename_i ds
    obtain ⟨hm, xs, h1, h2⟩ := c2.rep.ob n _ _ ha hz
    obtain ⟨hl, hk⟩ := hk
    refine ⟨_, xs, v, rfl, rfl, h1, ?_, ?_⟩
    · rw [h2.length, sizeLine_eq]; omega
    · obtain ⟨E2, c3⟩ := c2.wr (o := .lst (ds ++ [d])) ha hm (u := .lst (xs ++ [v])) ⟨hm, _, upd_same, h2.append (Rps.cons rd .nil)⟩
      exact l.nx _ _ hk _ _ _ σV ((e1.trans e2).trans E2) c3.rep c3.rs
def sExt (to : DW) (t : DW) : DS := fun E σ st => to σ st (fun o st1 => (∃ ds, seeW o st1 = some (.lst ds)) ∧ t σ st1 (fun w st2 => match o, seeW w st2 with
  | .loc n, some (.lst es) => (match st2[n]? with
    | some (.lst ds) => ds.length + es.length ≤ 1000000 ∧ E.nx σ (st2.set n (.lst (ds ++ es)))
    | _ => False)
  | _, _ => False) (exE E σ)) (exE E σ)
theorem s_ext {to : DW} {t : DW} (h : PS X s (tDrop (tBM X.K "list" rExtend (lW N Wx to) (tCons (lW N Wx t) tNil)))) : PS X s (lS N Wx (sExt to t)) := PS.imp h fun D σV H h => by
  obtain ⟨M, ρ, σ, st, E, r, s, h, l⟩ := h
  refine Lf.of (l.kx r s) h fun o st1 hk u M1 ρ1 H1 e1 c1 ro => ?_
  obtain ⟨⟨ds0, hs0⟩, hk⟩ := hk
  obtain ⟨p0, xs0, rfl, q1, q2⟩ := see_lst c1.rep hs0 ro
  refine ⟨.inl ⟨rfl, xs0, SqL.of q1⟩, Lf.of c1 hk fun w st2 hk v M2 ρ2 H2 e2 c2 rd => ?_⟩
  obtain ⟨n, rfl⟩ : ∃ n, o = .loc n := by cases o <;> first | exact False.elim hk | exact ⟨_, rfl⟩
  cases hy : seeW w st2 with
  | none => simp only [hy] at hk
  | some y =>
    simp only [hy] at hk
    cases y <;> try exact False.elim hk
    rename_i es
    obtain ⟨a, ha, e⟩ := Rw.ext ro e2
    cases e
    obtain ⟨p2, ys, rfl, w1, w2⟩ := see_lst c2.rep hy rd
    cases hz : st2[n]? with
    | none => simp only [hz] at hk
    | some ob =>
      simp only [hz] at hk
      cases ob <;> try exact False.elim hk
      rename_i ds
      obtain ⟨hm, xs, h1, h2⟩ := c2.rep.ob n _ _ ha hz
      obtain ⟨hl, hk⟩ := hk
      refine ⟨_, p2, xs, ys, rfl, rfl, h1, w1, ?_, ?_⟩
      · rw [h2.length, w2.length]; exact lenL6 hl
      · obtain ⟨E2, c3⟩ := c2.wr (o := .lst (ds ++ es)) ha hm (u := .lst (xs ++ ys)) ⟨hm, _, upd_same, h2.append w2⟩
        exact l.nx _ _ hk _ _ _ σV ((e1.trans e2).trans E2) c3.rep c3.rs
def setK {κ : Type} [DecidableEq κ] : List κ → List D → κ → D → List D
  | a :: ks, d :: ds, q, v => (if a = q then v else d) :: setK ks ds q v
  | _, ds, _, _ => ds
def putKs {κ : Type} [DecidableEq κ] (ks : List κ) (q : κ) : List κ := if ks.any (fun a => decide (a = q)) = true then ks else ks ++ [q]
def putDs {κ : Type} [DecidableEq κ] (ks : List κ) (ds : List D) (q : κ) (v : D) : List D := if ks.any (fun a => decide (a = q)) = true then setK ks ds q v else ds ++ [v]
def sDPutS (T : Bool) (to : DW) (ti t : DD) : DS := fun E σ st => t σ st (fun v st1 => to σ st1 (fun o st2 => ti σ st2 (fun i st3 => match o with
  | .loc n => (match st3[n]? with
    | some (.dct ks ds) => (match keyD i with
      | some q => ks.length ≤ 1000000 ∧ E.nx σ (st3.set n (.dct (putKs ks q) (putDs ks ds q v)))
      | none => False)
    | some (.dcT ks ds) => (match i with
      | .tup es => (match keysD es with
        | some q => T = true ∧ ks.length ≤ 1000000 ∧ E.nx σ (st3.set n (.dcT (putKs ks q) (putDs ks ds q v)))
        | none => False)
      | _ => False)
    | _ => False)
  | _ => False) (exE E σ)) (exE E σ)) (exE E σ)
theorem setK_ok {κ : Type} [DecidableEq κ] {M : Hp} {q : κ} {d : D} {v : V} (hd : Rp N M d v) : ∀ {kvs : List (κ × V)} {ds : List D}, Rps N M ds (kvs.map (·.2)) →
    Rps N M (setK (kvs.map (·.1)) ds q d) ((kvs.map fun kv => if kv.1 = q then (kv.1, v) else kv).map (·.2))
  | [], ds, h => h
  | (a, x) :: kvs, [], h => by have := h.length; simp at this
  | (a, x) :: kvs, d' :: ds, ⟨x', r, h1, h2, h3⟩ => by
    cases h1
    have g := setK_ok (q := q) hd h3
    by_cases z : a = q
    · simp only [List.map_cons, setK, if_pos z]
      exact ⟨v, _, rfl, hd, g⟩
    · simp only [List.map_cons, setK, if_neg z]
      exact ⟨x, _, rfl, h2, g⟩
theorem putK_ok {κ : Type} [DecidableEq κ] {M : Hp} {q : κ} {d : D} {v : V} (hd : Rp N M d v) {kvs : List (κ × V)} {ds : List D} (h : Rps N M ds (kvs.map (·.2))) :
    (putK kvs q v).map (·.1) = putKs (kvs.map (·.1)) q ∧ Rps N M (putDs (kvs.map (·.1)) ds q d) ((putK kvs q v).map (·.2)) := by
  have ea : ((kvs.map (·.1)).any fun a => decide (a = q)) = kvs.any fun kv => decide (kv.1 = q) := by rw [List.any_map]; rfl
  unfold putK putKs putDs
  rw [ea]
  split
  · refine ⟨?_, setK_ok hd h⟩
    rw [List.map_map]
    refine List.map_congr_left fun p _ => ?_
    show (if p.1 = q then (p.1, v) else p).1 = p.1
    split <;> rfl
  · rw [List.map_append, List.map_append]
    exact ⟨rfl, h.append ⟨v, [], rfl, hd, rfl⟩⟩
theorem s_dput {T : Bool} {to : DW} {ti t : DD} {pos' : Pos} (hu : X.A.units + 1 < cLine) (hT : T = true → N.b = false) (ho : PE X e1 (lW N Wx to)) (hi : PE X e2 (lD N Wx ti)) (hv : PE X e3 (lD N Wx t)) (hs : swapsWith e3 (some (.Subscript e1 e2 pos')) pos.line X.env = pure false := by rfl) :
    PS X (.Assign [.Subscript e1 e2 pos'] e3 pos) (lS N Wx (sDPutS T to ti t)) := PS.imp (ps_dput hu ho hi hv hs) fun D σV H h => by
  obtain ⟨M, ρ, σ, st, E, r, s, h, l⟩ := h
  refine Lf.of (l.kx r s) h fun v st1 hk1 vv M1 ρ1 H1 E1 c1 r1 => Lf.bin c1 hk1 fun o i st3 hk u y M3 ρ3 H3 E3 c3 r2 r3 => ?_
  have r1 := Rp.ext r1 E3
  obtain ⟨n, rfl⟩ : ∃ n, o = .loc n := by cases o <;> first | exact False.elim hk | exact ⟨_, rfl⟩
  obtain ⟨a, ha, rfl⟩ := r2
  cases hz : st3[n]? with
  | none => simp only [hz] at hk
  | some ob =>
    simp only [hz] at hk
    cases ob with
    | dct ks ds =>
      simp only at hk
      cases hq : keyD i with
      | none => simp only [hq] at hk
      | some q =>
        simp only [hq] at hk
        obtain ⟨hm, kvs, h1, h2, h3⟩ := c3.rep.ob n a _ ha hz
        subst h2
        obtain ⟨g1, g2⟩ := putK_ok (q := q) r1 h3
        obtain ⟨hl, hk⟩ := hk
        refine ⟨a, _, rfl, .inl ⟨kvs, q, h1, keyD_rp hq r3, ?_, rfl⟩, ?_⟩
        · rw [List.length_map] at hl; rw [sizeLine_eq]; omega
        · obtain ⟨E4, c4⟩ := c3.wr (o := .dct (putKs (kvs.map (·.1)) q) (putDs (kvs.map (·.1)) ds q v)) ha hm (u := .dK (putK kvs q vv)) ⟨hm, _, upd_same, g1, g2⟩
          exact l.nx _ _ hk _ _ _ σV (E1.trans (E3.trans E4)) c4.rep c4.rs
    | dcT ks ds =>
      simp only at hk
      cases i with
      | tup es =>
        simp only at hk
        cases hq : keysD es with
        | none => simp only [hq] at hk
        | some q =>
          simp only [hq] at hk
          obtain ⟨hT', hl, hk⟩ := hk
          obtain ⟨t, xs, rfl, w1, w2⟩ := r3
          have e := keysD_rp hq w2
          subst e
          have w1 : M3 t = some (.tup (q.map kV)) := w1.elim (fun z => z) fun z => by
            have := hT hT'
            rw [this] at z
            cases z.1
          obtain ⟨hm, kvs, h1, h2, h3⟩ := c3.rep.ob n a _ ha hz
          subst h2
          obtain ⟨g1, g2⟩ := putK_ok (q := q) r1 h3
          refine ⟨a, _, rfl, .inr ⟨kvs, q, t, h1, rfl, c3.rep.sub.tup1 w1, ?_, rfl⟩, ?_⟩
          · rw [List.length_map] at hl; rw [sizeLine_eq]; omega
          · obtain ⟨E4, c4⟩ := c3.wr (o := .dcT (putKs (kvs.map (·.1)) q) (putDs (kvs.map (·.1)) ds q v)) ha hm (u := .dT (putK kvs q vv)) ⟨hm, _, upd_same, g1, g2⟩
            exact l.nx _ _ hk _ _ _ σV (E1.trans (E3.trans E4)) c4.rep c4.rs
      | _ => exact False.elim hk
    | _ => exact False.elim hk
end
end Dl
end

section
set_option maxHeartbeats 4000000
namespace Dl
open PySem PySem.Spec PyProof.Rows L2 Co
abbrev Pf := List W → Sto → (W → Sto → Prop) → DX → Prop
def idx (n : Nat) : List Nat → Option Nat
  | [] => none
  | m :: r => if m = n then some 0 else (idx n r).map (· + 1)
def wl : W → List Nat
  | .loc n => [n]
  | _ => []
def addN (l : List Nat) : List Nat → List Nat
  | [] => l
  | n :: r => match idx n l with
    | some _ => addN l r
    | none => addN (l ++ [n]) r
def locsO (st : Sto) (n : Nat) : List Nat := match st[n]? with
  | some (.ins _ fs) => fs.flatMap fun p => wl p.2
  | _ => []
def reach1 (st : Sto) (l : List Nat) : List Nat := addN l (l.flatMap (locsO st))
def reach (st : Sto) (ws : List W) : List Nat := match addN [] (ws.flatMap wl) with
  | [] => []
  | l => reach1 st (reach1 st (reach1 st l))
def ren (ls : List Nat) : W → W
  | .loc n => (match idx n ls with
    | some j => .loc j
    | none => .dead)
  | w => w
def renO (ls : List Nat) : Ob → Ob
  | .ins C fs => .ins C (fs.map fun p => (p.1, ren ls p.2))
  | o => o
def subS (st : Sto) : List Nat → List Nat → Sto
  | _, [] => []
  | ls, n :: r => (match st[n]? with
    | some o => renO ls o
    | none => .gone) :: subS st ls r
def unW (ls : List Nat) (n0 : Nat) : W → W
  | .loc j => (match ls[j]? with
    | some n => .loc n
    | none => .loc (n0 + (j - ls.length)))
  | w => w
def unO (ls : List Nat) (n0 : Nat) : Ob → Ob
  | .ins C fs => .ins C (fs.map fun p => (p.1, unW ls n0 p.2))
  | o => o
def backO (ls : List Nat) (n0 : Nat) (st2 : Sto) : Nat → Sto → Sto
  | _, [] => []
  | i, o :: r => (match idx i ls with
    | some j => (match st2[j]? with
      | some o2 => unO ls n0 o2
      | none => .gone)
    | none => o) :: backO ls n0 st2 (i + 1) r
def back (ls : List Nat) (st st2 : Sto) : Sto := match ls, st2 with
  | [], [] => st
  | ls, st2 => backO ls st.length st2 0 st ++ (st2.drop ls.length).map (unO ls st.length)
def lsOk (ls : List Nat) (n : Nat) : Bool := ls.all fun i => decide (i < n)
structure callD (f : Pf) (ls : List Nat) (ws : List W) (st : Sto) (k : W → Sto → Prop) (ex : DX) : Prop where
  ok : lsOk ls st.length = true
  run : f (ws.map (ren ls)) (subS st ls ls) (fun w st2 => k (unW ls st.length w) (back ls st st2)) (fun c fs st2 => ex c fs (back ls st st2))
def dCall (f : Pf) (ta : DA) : DW := fun σ st k ex => ta σ st (fun ws st1 => callD f (reach st1 ws) ws st1 k ex) ex
def dNew (C : Str) (f : Pf) (ta : DA) : DW := fun σ st k ex => ta σ st (fun ws st1 => match st1.length, st1 ++ [Ob.ins C []] with
  | n, st2 => callD f (reach st2 (.loc n :: ws)) (.loc n :: ws) st2 (fun w st3 => (match w with
    | .im .non => k (.loc n) st3
    | _ => False)) ex) ex
def clsW (C m : Str) (w : W) (st : Sto) : Prop := match w with
  | .im (.ins C' ns ds) => C' = C ∧ getK ns ds m = none
  | .loc n => (match st[n]? with
    | some (.ins C' fs) => C' = C ∧ fs.lookup m = none
    | some (.fz (.ins C' ns ds)) => C' = C ∧ getK ns ds m = none
    | _ => False)
  | _ => False
def dMeth (C m : Str) (f : Pf) (to : DW) (ta : DA) : DW := fun σ st k ex => to σ st (fun o st1 => clsW C m o st1 ∧ ta σ st1 (fun ws st2 => callD f (reach st2 (o :: ws)) (o :: ws) st2 k ex) ex) ex
def spD (N : Kn) (f : Pf) : Sp := fun vs H Q E => ∃ M ρ ws st k ex, Rep N M ρ st H ∧ Rws N M ρ ws vs ∧ f ws st k ex ∧
  (∀ w st', k w st' → ∀ v M' ρ' H', Ext M ρ H M' ρ' H' → Rep N M' ρ' st' H' → Rw N M' ρ' w v → Q v H') ∧
  (∀ c fs st', ex c fs st' → ∀ o M' ρ' H', Ext M ρ H M' ρ' H' → Rep N M' ρ' st' H' → ErrOwn N M' o fs → E (.ref (He.ga N.K c)) o H')
section
variable {N : Kn} {Wx : WX} {M H M' H' : Hp} {ρ ρ' : List Addr} {σ : Sl} {st : Sto} {σV : L2.St}
theorem idx_get : ∀ {ls : List Nat} {n j : Nat}, idx n ls = some j → ls[j]? = some n
  | [], _, _, e => by cases e
  | m :: r, n, j, e => by
    unfold idx at e
    split at e
    · rename_i h
      cases e
      rw [h]
      rfl
    · cases z : idx n r with
      | none => rw [z] at e; cases e
      | some i =>
        rw [z] at e
        cases e
        simpa using idx_get z
theorem idx_none : ∀ {ls : List Nat} {n : Nat}, idx n ls = none → n ∉ ls
  | [], _, _, h => by cases h
  | m :: r, n, e, h => by
    unfold idx at e
    split at e
    · cases e
    · rename_i hm
      rcases List.mem_cons.mp h with h | h
      · exact hm h.symm
      · refine idx_none ?_ h
        cases z : idx n r with
        | none => rfl
        | some i => rw [z] at e; cases e
def pickA (ρ : List Addr) (ls : List Nat) : List Addr := ls.map fun n => ρ.getD n 0
theorem pick_get {ls : List Nat} (hl : lsOk ls ρ.length = true) {j n : Nat} (h : ls[j]? = some n) : (pickA ρ ls)[j]? = ρ[n]? ∧ n < ρ.length := by
  have hm := List.mem_of_getElem? h
  have := of_decide_eq_true (List.all_eq_true.mp hl n hm)
  refine ⟨?_, this⟩
  unfold pickA
  rw [List.getElem?_map, h]
  simp [List.getD, this]
theorem ren_ok {ls : List Nat} (hl : lsOk ls ρ.length = true) {w : W} {v : V} (h : Rw N M ρ w v) : Rw N M (pickA ρ ls) (ren ls w) v := by
  cases w with
  | im d => exact h
  | dead => exact h
  | loc n =>
    obtain ⟨a, ha, rfl⟩ := h
    cases z : idx n ls with
    | none => simp only [ren, z]; trivial
    | some j => simp only [ren, z]; exact ⟨a, by rw [(pick_get hl (idx_get z)).1]; exact ha, rfl⟩
theorem rens_ok {ls : List Nat} (hl : lsOk ls ρ.length = true) : ∀ {ws : List W} {vs : List V}, Rws N M ρ ws vs → Rws N M (pickA ρ ls) (ws.map (ren ls)) vs
  | [], _, h => h
  | _ :: _, _, ⟨x, r, h1, h2, h3⟩ => ⟨x, r, h1, ren_ok hl h2, rens_ok hl h3⟩
theorem renO_ok {ls : List Nat} (hl : lsOk ls ρ.length = true) {o : Ob} {a : Addr} (h : RO N M ρ H o a) : RO N M (pickA ρ ls) H (renO ls o) a := by
  cases o with
  | ins C fs =>
    obtain ⟨hm, dx, fxs, h1, h2, h3⟩ := h
    refine ⟨hm, dx, fxs, h1, ?_, ?_⟩
    · rw [h2, List.map_map]; rfl
    · have := rens_ok hl h3
      rw [List.map_map] at this ⊢
      exact this
  | _ => exact h
theorem subS_get (st : Sto) (ls0 : List Nat) : ∀ (ls : List Nat) (j : Nat), (subS st ls0 ls)[j]? = ls[j]?.map fun n => match st[n]? with
    | some o => renO ls0 o
    | none => .gone
  | [], j => by simp [subS]
  | n :: r, 0 => by simp [subS]
  | n :: r, j + 1 => by simpa [subS] using subS_get st ls0 r j
theorem subS_len (st : Sto) (ls0 : List Nat) : ∀ ls : List Nat, (subS st ls0 ls).length = ls.length
  | [] => rfl
  | n :: r => by simp [subS, subS_len st ls0 r]
theorem nodup_addN : ∀ (r l : List Nat), l.Nodup → (addN l r).Nodup
  | [], l, h => h
  | n :: r, l, h => by
    unfold addN
    cases z : idx n l with
    | some j => exact nodup_addN r l h
    | none =>
      refine nodup_addN r _ ?_
      rw [List.nodup_append]
      refine ⟨h, by simp, fun a ha b hb e => ?_⟩
      rw [List.mem_singleton] at hb
      subst hb
      subst e
      exact idx_none z ha
theorem nodup_reach (st : Sto) (ws : List W) : (reach st ws).Nodup := by
  unfold reach
  split
  · exact List.nodup_nil
  · exact nodup_addN _ _ (nodup_addN _ _ (nodup_addN _ _ (nodup_addN _ _ List.nodup_nil)))
theorem nodup_get : ∀ {ls : List Nat} {i j n : Nat}, ls.Nodup → ls[i]? = some n → ls[j]? = some n → i = j := by
  intro ls i j n h h1 h2
  have hi := (List.getElem?_eq_some_iff.mp h1)
  have hj := (List.getElem?_eq_some_iff.mp h2)
  obtain ⟨a, ha⟩ := hi
  obtain ⟨b, hb⟩ := hj
  exact (List.getElem_inj h).mp (ha.trans hb.symm)
theorem Rep.pick {ls : List Nat} (r : Rep N M ρ st H) (hl : lsOk ls st.length = true) (nd : ls.Nodup) : Rep N M (pickA ρ ls) (subS st ls ls) H := by
  rw [← r.len] at hl
  refine ⟨r.sub, by rw [subS_len]; simp [pickA], fun i j a h1 h2 => ?_, fun i a o h1 h2 => ?_⟩
  · have hi : i < ls.length := by have := (List.getElem?_eq_some_iff.mp h1).1; simpa [pickA] using this
    have hj : j < ls.length := by have := (List.getElem?_eq_some_iff.mp h2).1; simpa [pickA] using this
    have e1 : ls[i]? = some ls[i] := by simp [hi]
    have e2 : ls[j]? = some ls[j] := by simp [hj]
    rw [(pick_get hl e1).1] at h1
    rw [(pick_get hl e2).1] at h2
    have := r.inj _ _ _ h1 h2
    exact nodup_get nd e1 (by rw [this]; exact e2)
  · have hi : i < ls.length := by have := (List.getElem?_eq_some_iff.mp h1).1; simpa [pickA] using this
    have e1 : ls[i]? = some ls[i] := by simp [hi]
    rw [(pick_get hl e1).1] at h1
    rw [subS_get, e1] at h2
    obtain ⟨o', h3, h4⟩ := r.at_ h1
    simp only [Option.map_some, h3, Option.some.injEq] at h2
    subst h2
    exact renO_ok hl h4
theorem backO_get (ls : List Nat) (n0 : Nat) (st2 : Sto) : ∀ (st : Sto) (i k : Nat), (backO ls n0 st2 i st)[k]? = st[k]?.map fun o => match idx (i + k) ls with
    | some j => (match st2[j]? with
      | some o2 => unO ls n0 o2
      | none => .gone)
    | none => o
  | [], i, k => by simp [backO]
  | o :: r, i, 0 => by simp [backO]
  | o :: r, i, k + 1 => by
    have := backO_get ls n0 st2 r (i + 1) k
    rw [show i + 1 + k = i + (k + 1) by omega] at this
    simpa [backO] using this
theorem backO_len (ls : List Nat) (n0 : Nat) (st2 : Sto) : ∀ (st : Sto) (i : Nat), (backO ls n0 st2 i st).length = st.length
  | [], i => rfl
  | o :: r, i => by simp [backO, backO_len ls n0 st2 r (i + 1)]
theorem back_eq (ls : List Nat) (st st2 : Sto) : back ls st st2 = backO ls st.length st2 0 st ++ (st2.drop ls.length).map (unO ls st.length) := by
  unfold back
  split
  · have : ∀ (s : Sto) (i : Nat), backO [] st.length [] i s = s := by
      intro s
      induction s with
      | nil => intro i; rfl
      | cons o r ih => intro i; simp [backO, idx, ih]
    rw [this]
    simp
  · rfl
theorem Rep.back {ls : List Nat} {st2 : Sto} {ρc : List Addr} (r : Rep N M ρ st H) (hl : lsOk ls st.length = true) (nd : ls.Nodup) (e : Ext M (pickA ρ ls) H M' ρc H') (r2 : Rep N M' ρc st2 H') :
    ∃ ρ', Ext M ρ H M' ρ' H' ∧ Rep N M' ρ' (Dl.back ls st st2) H' ∧ ∀ w v, Rw N M' ρc w v → Rw N M' ρ' (unW ls st.length w) v := by
  have hl' := hl
  rw [← r.len] at hl
  obtain ⟨mm, ⟨q, rfl⟩, fr, nw, rn⟩ := e
  have sub : ∀ a ∈ pickA ρ ls, a ∈ ρ := fun a ha => by
    obtain ⟨j, hj⟩ := List.getElem?_of_mem ha
    have hi : j < ls.length := by have := (List.getElem?_eq_some_iff.mp hj).1; simpa [pickA] using this
    have e1 : ls[j]? = some ls[j] := by simp [hi]
    rw [(pick_get hl e1).1] at hj
    exact List.mem_of_getElem? hj
  have plen : (pickA ρ ls).length = ls.length := by simp [pickA]
  have newq : ∀ (i : Nat) a, q[i]? = some a → H a = none := fun i a ha => by
    rcases rn a (List.mem_append_right _ (List.mem_of_getElem? ha)) with h | h
    · obtain ⟨j, hj⟩ := List.getElem?_of_mem h
      have hj' := (List.getElem?_eq_some_iff.mp hj).1
      have h1 : (pickA ρ ls ++ q)[j]? = some a := by rw [List.getElem?_append_left hj']; exact hj
      have h2 : (pickA ρ ls ++ q)[(pickA ρ ls).length + i]? = some a := by rw [List.getElem?_append_right (by omega)]; simpa using ha
      have := r2.inj _ _ _ h1 h2
      omega
    · exact h
  have hun : ∀ w v, Rw N M' (pickA ρ ls ++ q) w v → Rw N M' (ρ ++ q) (unW ls st.length w) v := fun w v h => by
    cases w with
    | im d => exact h
    | dead => exact h
    | loc j =>
      obtain ⟨a, ha, rfl⟩ := h
      cases z : ls[j]? with
      | some n =>
        simp only [unW, z]
        have hj := (List.getElem?_eq_some_iff.mp z).1
        rw [List.getElem?_append_left (by omega), (pick_get hl z).1] at ha
        exact ⟨a, by rw [List.getElem?_append_left (List.getElem?_eq_some_iff.mp ha).1]; exact ha, rfl⟩
      | none =>
        simp only [unW, z]
        have hj : ls.length ≤ j := List.getElem?_eq_none_iff.mp z
        rw [List.getElem?_append_right (by omega), plen] at ha
        exact ⟨a, by rw [← r.len, List.getElem?_append_right (by omega)]; simpa using ha, rfl⟩
  have hunO : ∀ o a, RO N M' (pickA ρ ls ++ q) H' o a → RO N M' (ρ ++ q) H' (unO ls st.length o) a := fun o a h => by
    cases o with
    | ins C fs =>
      obtain ⟨hm, dx, fxs, h1, h2, h3⟩ := h
      refine ⟨hm, dx, fxs, h1, by rw [h2, List.map_map]; rfl, ?_⟩
      have go : ∀ (ws : List W) (vs : List V), Rws N M' (pickA ρ ls ++ q) ws vs → Rws N M' (ρ ++ q) (ws.map (unW ls st.length)) vs := by
        intro ws
        induction ws with
        | nil => intro vs h; exact h
        | cons w ws ih =>
          rintro vs ⟨x, r, h1, h2, h3⟩
          exact ⟨x, r, h1, hun _ _ h2, ih _ h3⟩
      have := go _ _ h3
      rw [List.map_map] at this ⊢
      exact this
    | _ => exact h
  refine ⟨ρ ++ q, ⟨mm, ⟨q, rfl⟩, fun b o h1 h2 => fr b o h1 fun z => h2 (sub b z), fun a h => ?_, fun a h => ?_⟩, ?_, hun⟩
  · rcases nw a h with h | h | h
    · exact .inl h
    · exact .inr (.inl h)
    · exact .inr (.inr (sub a h))
  · rcases List.mem_append.mp h with h | h
    · exact .inl h
    · obtain ⟨i, hi⟩ := List.getElem?_of_mem h
      exact .inr (newq i a hi)
  · have len2 : st2.length = ls.length + q.length := by rw [← r2.len, List.length_append, plen]
    refine ⟨r2.sub, ?_, fun i j a h1 h2 => ?_, fun i a o h1 h2 => ?_⟩
    · rw [back_eq, List.length_append, List.length_append, backO_len, List.length_map, List.length_drop, r.len, len2]
      omega
    · by_cases hi : i < ρ.length <;> by_cases hj : j < ρ.length
      · rw [List.getElem?_append_left hi] at h1
        rw [List.getElem?_append_left hj] at h2
        exact r.inj _ _ _ h1 h2
      · rw [List.getElem?_append_left hi] at h1
        rw [List.getElem?_append_right (by omega)] at h2
        exact absurd (newq _ _ h2) (r.mem (List.mem_of_getElem? h1))
      · rw [List.getElem?_append_right (by omega)] at h1
        rw [List.getElem?_append_left hj] at h2
        exact absurd (newq _ _ h1) (r.mem (List.mem_of_getElem? h2))
      · rw [List.getElem?_append_right (by omega)] at h1 h2
        have g1 : (pickA ρ ls ++ q)[(pickA ρ ls).length + (i - ρ.length)]? = some a := by rw [List.getElem?_append_right (by omega)]; simpa using h1
        have g2 : (pickA ρ ls ++ q)[(pickA ρ ls).length + (j - ρ.length)]? = some a := by rw [List.getElem?_append_right (by omega)]; simpa using h2
        have := r2.inj _ _ _ g1 g2
        omega
    · rw [back_eq] at h2
      by_cases hi : i < ρ.length
      · rw [List.getElem?_append_left hi] at h1
        rw [List.getElem?_append_left (by rw [backO_len, ← r.len]; exact hi), backO_get, Nat.zero_add] at h2
        obtain ⟨o0, h3, h4⟩ := r.at_ h1
        rw [h3, Option.map_some] at h2
        cases z : idx i ls with
        | some j =>
          simp only [z] at h2
          have hj := idx_get z
          have hjl := (List.getElem?_eq_some_iff.mp hj).1
          have g1 : (pickA ρ ls ++ q)[j]? = some a := by
            rw [List.getElem?_append_left (by omega), (pick_get hl hj).1]
            exact h1
          obtain ⟨o2, h5, h6⟩ := r2.at_ g1
          simp only [h5, Option.some.injEq] at h2
          subst h2
          exact hunO _ _ h6
        | none =>
          simp only [z, Option.some.injEq] at h2
          subst h2
          have hna : a ∉ pickA ρ ls := fun w => by
            obtain ⟨j, hj⟩ := List.getElem?_of_mem w
            have hjl : j < ls.length := by have := (List.getElem?_eq_some_iff.mp hj).1; simpa [pickA] using this
            have e1 : ls[j]? = some ls[j] := by simp [hjl]
            rw [(pick_get hl e1).1] at hj
            have := r.inj _ _ _ h1 hj
            exact idx_none z (by rw [this]; exact List.getElem_mem hjl)
          refine h4.mono mm ⟨q, rfl⟩ (fun hm => ?_) fun u hu => fr a u hu hna
          cases hz : M' a with
          | none => rfl
          | some u =>
            rcases nw a (by rw [hz]; exact fun w => nomatch w) with w | w | w
            · exact absurd hm w
            · exact absurd w h4.there
            · exact absurd w hna
      · rw [List.getElem?_append_right (by omega)] at h1
        rw [List.getElem?_append_right (by rw [backO_len, ← r.len]; omega), backO_len, List.getElem?_map, List.getElem?_drop] at h2
        have g1 : (pickA ρ ls ++ q)[ls.length + (i - ρ.length)]? = some a := by rw [List.getElem?_append_right (by omega), plen]; simpa using h1
        obtain ⟨o2, h5, h6⟩ := r2.at_ g1
        rw [show i - st.length = i - ρ.length by rw [r.len], h5, Option.map_some, Option.some.injEq] at h2
        subst h2
        exact hunO _ _ h6
end
end Dl
end

section
set_option maxHeartbeats 4000000
namespace Dl
open PySem PySem.Spec PyProof.Rows L2 Co
section
variable {X : Cx} {b : Bool} {Wx : WX} {e e1 e2 e3 : Expr} {es : List Expr} {pos p apos : Pos} {N : Kn} {x m : Str} {k : Nat} {f C : Addr} {ps : List Str} {pf : Pf} {M H M' H' : Hp} {ρ ρ' : List Addr} {σ : Sl} {st : Sto} {σV : L2.St} {ex : DX}
theorem callD_ok {ls : List Nat} {ws : List W} {vs : List V} {kd : W → Sto → Prop} {Q : VK} (nd : ls.Nodup) (c : Kx N Wx M ρ σ st H σV ex) (h : callD pf ls ws st kd ex) (r : Rws N M ρ ws vs)
    (q : ∀ w st', kd w st' → ∀ v M' ρ' H', Ext M ρ H M' ρ' H' → Kx N Wx M' ρ' σ st' H' σV ex → Rw N M' ρ' w v → Q v H') : spD N pf vs H Q (WE Wx σV) := by
  obtain ⟨hl, hf⟩ := h
  have hl2 := hl
  rw [← c.rep.len] at hl2
  refine ⟨M, pickA ρ ls, ws.map (ren ls), subS st ls ls, _, _, c.rep.pick hl nd, rens_ok hl2 r, hf, fun w st2 hk v M2 ρ2 H2 e2 r2 rv => ?_, fun c' fs st2 hk o M2 ρ2 H2 e2 r2 eo => ?_⟩
  · obtain ⟨ρ', E', R', un⟩ := c.rep.back hl nd e2 r2
    exact q _ _ hk v M2 ρ' H2 E' (c.step E' R') (un _ _ rv)
  · obtain ⟨ρ', E', R', _⟩ := c.rep.back hl nd e2 r2
    exact c.xl _ _ _ hk o M2 ρ' H2 E' R' eo
theorem e_call {ta : DA} (d : Def X.prog X.w X.K X.mg X.base k f ps (spD N pf)) (hr : Room k X.A) (hg : Gl X x) (hm : X.mg x = some (.ref f)) (tk : ∀ σ, PassesAt (L2.CX X.prog X.w) X σ (WE Wx σ)) (ha : PA X (e :: es) (lA N Wx ta)) (hdb : (x == ("__debug__" : Str)) = false := by decide)
    (he : starEach (e :: es) X.env = (false, eval e X.env) :: starEach es X.env := by rfl) (hpl : (backTo pos (starEach es X.env)).any (·.1) = false := by rfl) : PE X (.Call (.Name x p) (e :: es) [] pos) (lW N Wx (dCall pf ta)) := PE.imp (e_callS d hr hg hm tk ha hdb he hpl) fun σV H Q h => by
  obtain ⟨M, ρ, σ, st, k, ex, c, ht, q⟩ := Kx.open_ h
  exact Lf.of c ht fun ws st' hk vs M1 ρ1 H1 E1 c1 r1 => callD_ok (nodup_reach _ _) c1 hk r1 fun w st2 hk2 v M2 ρ2 H2 E2 c2 r2 => q _ _ hk2 v M2 ρ2 H2 (E1.trans E2) c2 r2
theorem getK_none {M : Hp} : ∀ {fs : List (Str × V)} {ds : List D} {f : Str}, Rps N M ds (fs.map (·.2)) → getK (fs.map (·.1)) ds f = none → fs.lookup f = none
  | [], _, _, _, _ => rfl
  | (a, v) :: fs, [], f, h, e => by have := h.length; simp at this
  | (a, v) :: fs, d' :: ds, f, ⟨x, r, h1, h2, h3⟩, e => by
    cases h1
    by_cases z : a = f
    · simp only [List.map_cons, getK, if_pos z] at e; cases e
    · simp only [List.map_cons, getK, if_neg z] at e
      rw [List.lookup_cons, show (f == a) = false from beq_eq_false_iff_ne.mpr fun w => z w.symm]
      exact getK_none h3 e
theorem lookup_none : ∀ {fs : List (Str × V)} {gs : List (Str × W)} {f : Str}, fs.map (·.1) = gs.map (·.1) → gs.lookup f = none → fs.lookup f = none
  | [], [], _, _, _ => rfl
  | [], _ :: _, _, e, _ => by cases e
  | _ :: _, [], _, e, _ => by cases e
  | (a, v) :: fs, (a', w) :: gs, f, e0, e => by
    rw [List.map_cons, List.map_cons, List.cons.injEq] at e0
    obtain ⟨e1, e2⟩ := e0
    have e1 : a = a' := e1
    subst e1
    rw [List.lookup_cons] at e ⊢
    cases z : f == a with
    | true => rw [z] at e; cases e
    | false => rw [z] at e; exact lookup_none e2 e
theorem cls_ok {C m : Str} {o : W} {u : V} (r : Rep N M ρ st H) (h : clsW C m o st) (ro : Rw N M ρ o u) : ∃ a dx fs, u = .ref a ∧ H a = some (.ins (He.ga N.K C) dx fs) ∧ fs.lookup m = none := by
  have im : ∀ {C' : Str} {ns : List Str} {ds : List D} {v : V}, Rp N M (.ins C' ns ds) v → (C' = C ∧ getK ns ds m = none) → ∃ a dx fs, v = .ref a ∧ H a = some (.ins (He.ga N.K C) dx fs) ∧ fs.lookup m = none := by
    rintro C' ns ds v ⟨p, dx, fs, rfl, h1, h2, h3⟩ ⟨rfl, h4⟩
    subst h2
    exact ⟨p, dx, fs, rfl, r.sub.ins h1, getK_none h3 h4⟩
  cases o with
  | dead => exact False.elim h
  | im d => cases d <;> try exact False.elim h
            exact im ro h
  | loc n =>
    obtain ⟨a, ha, rfl⟩ := ro
    cases ho : st[n]? with
    | none => simp only [clsW, ho] at h
    | some ob =>
      simp only [clsW, ho] at h
      have q := r.ob n a _ ha ho
      cases ob <;> try exact False.elim h
      · rename_i C' fs
        obtain ⟨rfl, h⟩ := h
        obtain ⟨hm, dx, fxs, h1, h2, h3⟩ := q
        exact ⟨a, dx, fxs, rfl, h1, lookup_none h2 h⟩
      · rename_i d
        cases d <;> try exact False.elim h
        exact im q.1 h
theorem e_meth {C : Str} {pl : Sem Bool} {to : DW} {ta : DA} (he : PE X e1 (lW (XN X b) Wx to)) (c : Cls X.K (He.ga X.K C)) (hm : Meth X.K (He.ga X.K C) m f) (d : Def X.prog X.w X.K X.mg X.base k f ps (spD (XN X b) pf)) (hr : Room k X.A) (tk : ∀ σ, PassesAt (L2.CX X.prog X.w) X σ (WE Wx σ)) (ha : PA X (e :: es) (lA (XN X b) Wx ta))
    (hst : starEach (e :: es) X.env = (false, eval e X.env) :: starEach es X.env := by rfl) (hpl : (backTo pos (starEach es X.env)).any (·.1) = false := by rfl)
    (ht : eval (.Call (.Attribute e1 m apos) (e :: es) [] pos) X.env = (do
      let ov ← eval e1 X.env
      standAt apos.atName
      let (f, first) ← holding [ov] (getMethod ov m pl)
      callWith pos f first (backTo pos (starEach (e :: es) X.env)) (backToKw pos (keywordEach [] X.env))) := by rfl) :
    PE X (.Call (.Attribute e1 m apos) (e :: es) [] pos) (lW (XN X b) Wx (dMeth C m pf to ta)) := PE.imp (Co.e_meth he c hm d hr tk ha hst hpl ht) fun σV H Q h => by
  obtain ⟨M, ρ, σ, st, k, ex, c, ht, q⟩ := Kx.open_ h
  refine Lf.of c ht fun o st1 hk u M1 ρ1 H1 E1 c1 ro => ?_
  obtain ⟨a, dx, fs, rfl, h1, h2⟩ := cls_ok c1.rep hk.1 ro
  refine ⟨a, dx, fs, rfl, h1, h2, Lf.of c1 hk.2 fun ws st2 hk2 vs M2 ρ2 H2 E2 c2 r2 => ?_⟩
  exact callD_ok (nodup_reach _ _) c2 hk2 ⟨_, _, rfl, Rw.ext ro E2, r2⟩ fun w st3 hk3 v M3 ρ3 H3 E3 c3 r3 => q _ _ hk3 v M3 ρ3 H3 (E1.trans (E2.trans E3)) c3 r3
theorem e_meth0 {C : Str} {pl : Sem Bool} {to : DW} (he : PE X e1 (lW (XN X b) Wx to)) (c : Cls X.K (He.ga X.K C)) (hm : Meth X.K (He.ga X.K C) m f) (d : Def X.prog X.w X.K X.mg X.base k f ps (spD (XN X b) pf)) (hr : Room k X.A) (tk : ∀ σ, PassesAt (L2.CX X.prog X.w) X σ (WE Wx σ))
    (ht : eval (.Call (.Attribute e1 m apos) [] [] pos) X.env = (do
      let ov ← eval e1 X.env
      standAt apos.atName
      let (f, first) ← holding [ov] (getMethod ov m pl)
      callWith pos f first (backTo pos (starEach [] X.env)) (backToKw pos (keywordEach [] X.env))) := by rfl) :
    PE X (.Call (.Attribute e1 m apos) [] [] pos) (lW (XN X b) Wx (dMeth C m pf to aNil)) := PE.imp (Co.e_meth0 he c hm d hr tk ht) fun σV H Q h => by
  obtain ⟨M, ρ, σ, st, k, ex, c, ht, q⟩ := Kx.open_ h
  refine Lf.of c ht fun o st1 hk u M1 ρ1 H1 E1 c1 ro => ?_
  obtain ⟨a, dx, fs, rfl, h1, h2⟩ := cls_ok c1.rep hk.1 ro
  refine ⟨a, dx, fs, rfl, h1, h2, ?_⟩
  exact callD_ok (nodup_reach _ _) c1 hk.2 ⟨_, [], rfl, ro, rfl⟩ fun w st3 hk3 v M3 ρ3 H3 E3 c3 r3 => q _ _ hk3 v M3 ρ3 H3 (E1.trans E3) c3 r3
theorem run_makeS {CX : CXT} {fd : FuncData} {sp : Sp} {E : L2.St → XK} {pins : List (Addr × Obj)} {s : Shared} {Q : VK} {us : List Value} {vs : List V} {C f : Addr} (Mk' : Mk X.K C f) (F : FnOk X.prog X.w X.K X.mg X.base CX k f fd ps sp) (hr : Room (k + 1) X.A) (hb : Binds X.K fd ps [])
    (hx : PassesAt CX X σV (E σV)) (I : Inv X pins σV H s) (r : Vals vs us)
    (h : ∀ x dx, H x = none → H dx = none → dx ≠ x → sp (.ref x :: vs) (upd (upd H dx (.own x)) x (.ins C dx [])) (fun v H2 => v = .non ∧ Q (.ref x) H2) (E σV)) :
    wpAny (model X.prog X.w) X.A (call (.ref C) us) (EP X pins σV Q) X.xe s := by
  have hq := h (s.heap.objs.size + 1) s.heap.objs.size (I.hok.fresh (Nat.le_succ _)) (I.hok.fresh (Nat.le_refl _)) (Nat.ne_of_lt (Nat.lt_succ_self _))
  have I2 := Inv.made (C := C) I
  have r2 : Vals (V.ref (s.heap.objs.size + 1) :: (vs ++ [])) (Value.ref (s.heap.objs.size + 1) :: (us ++ [])) := .cons rfl (r.append .nil)
  have hl : (Value.ref (s.heap.objs.size + 1) :: us ++ []).length = ps.length := by
    have e := r2.length
    rw [List.append_nil, F.len _ _ _ _ hq] at e
    exact e.symm
  rw [List.append_nil] at r2
  have b := hb _ (Value.ref (s.heap.objs.size + 1) :: us) I2.kIn hl
  rw [List.append_nil] at r2 b
  refine wpAny_call (make_map (f := f) I.kIn Mk'.makes Mk'.init (beq_iff_eq.mp Mk'.fn) (codeAny_mono (F.run _ X.stack _ _ ⟨Value.ref (s.heap.objs.size + 1) :: us, []⟩ (Value.ref (s.heap.objs.size + 1) :: us) _ _ (E σV) (hr.make C us [])
    (I2.env0.make C us []) b r2 hq) fun r s' hq' => ?_))
  cases r with
  | error e => exact hx pins _ _ e s' I2 hq'
  | ok fl =>
    cases fl with
    | ret u =>
      obtain ⟨v, H', I3, rv, ev, q3⟩ := I2.after hq'
      subst ev
      exact ⟨rv, ⟨V.ref (s.heap.objs.size + 1), H', I3, rfl, q3⟩⟩
    | next => exact False.elim hq'
    | brk => exact False.elim hq'
    | cont => exact False.elim hq'
def uMakeS (C : Addr) (sp : Sp) (E : L2.St → XK) (t : TA) : TE := fun σ H Q => t σ H fun vs H1 => ∀ x dx, H1 x = none → H1 dx = none → dx ≠ x →
  sp (.ref x :: vs) (upd (upd H1 dx (.own x)) x (.ins C dx [])) (fun v H2 => v = .non ∧ Q (.ref x) H2) (E σ)
theorem e_makeS {sp : Sp} {E : L2.St → XK} {t : TA} (Mk' : Mk X.K C f) (d : Def X.prog X.w X.K X.mg X.base k f ps sp) (hr : Room (k + 1) X.A) (hg : Gl X x) (hm : X.mg x = some (.ref C)) (hx : ∀ σ, PassesAt (L2.CX X.prog X.w) X σ (E σ)) (ha : PA X (e :: es) t) (hdb : (x == ("__debug__" : Str)) = false := by decide)
    (he : starEach (e :: es) X.env = (false, eval e X.env) :: starEach es X.env := by rfl) (hpl : (backTo pos (starEach es X.env)).any (·.1) = false := by rfl) : PE X (.Call (.Name x p) (e :: es) [] pos) (uMakeS C sp E t) := by
  obtain ⟨fd, F, b⟩ := d.ex
  refine ⟨fun pins s σ H Q I h => ?_⟩
  refine wpAny_Call_Name_kw (ld_glob I hg hm ?_ hdb)
  exact PySem.W.callWith_K (h₀ := X.base) I.ok.mod.kin Mk'.kp (thn (ha.run pos pins s σ H _ I h) fun us s1 ⟨vs, H1, I1, r, q⟩ => ⟨I1.kIn, run_makeS Mk' F hr b (hx σ) I1 r q⟩) he hpl
theorem e_makeS0 {sp : Sp} {E : L2.St → XK} (Mk' : Mk X.K C f) (d : Def X.prog X.w X.K X.mg X.base k f ps sp) (hr : Room (k + 1) X.A) (hg : Gl X x) (hm : X.mg x = some (.ref C)) (hx : ∀ σ, PassesAt (L2.CX X.prog X.w) X σ (E σ)) (hdb : (x == ("__debug__" : Str)) = false := by decide) : PE X (.Call (.Name x p) [] [] pos) (uMakeS C sp E tNil) := by
  obtain ⟨fd, F, b⟩ := d.ex
  refine ⟨fun pins s σ H Q I h => ?_⟩
  refine wpAny_Call_Name_kw (ld_glob I hg hm ?_ hdb)
  exact PySem.W.callWith_K0 I.kIn Mk'.kp (run_makeS (us := []) Mk' F hr b (hx σ) I .nil h)
theorem new_ok {C : Str} {ws : List W} {vs : List V} {kd : W → Sto → Prop} {Q : VK} (c : Kx N Wx M ρ σ st H σV ex)
    (h : (match st.length, st ++ [Ob.ins C []] with
      | n, st2 => callD pf (reach st2 (.loc n :: ws)) (.loc n :: ws) st2 (fun w st3 => (match w with
        | .im .non => kd (.loc n) st3
        | _ => False)) ex)) (r : Rws N M ρ ws vs)
    (q : ∀ w st', kd w st' → ∀ v M' ρ' H', Ext M ρ H M' ρ' H' → Kx N Wx M' ρ' σ st' H' σV ex → Rw N M' ρ' w v → Q v H') {xa dx : Addr} (h1 : H xa = none) (h2 : H dx = none) (ne : dx ≠ xa) :
    spD N pf (.ref xa :: vs) (upd (upd H dx (.own xa)) xa (.ins (He.ga N.K C) dx [])) (fun v H2 => v = .non ∧ Q (.ref xa) H2) (WE Wx σV) := by
  obtain ⟨E1, c1⟩ := c.new (o := .own xa) h2
  have h1' : upd H dx (.own xa) xa = none := by rw [upd_ne ne.symm]; exact h1
  obtain ⟨E2, c2⟩ := c1.loc (u := .ins (He.ga N.K C) dx []) (o := .ins C []) h1' ⟨c1.rep.non h1', dx, [], upd_same, rfl, rfl⟩
  refine callD_ok (kd := fun w st3 => (match w with
        | .im .non => kd (.loc st.length) st3
        | _ => False)) (nodup_reach _ _) c2 h ⟨_, vs, rfl, ⟨xa, c1.rep.last xa, rfl⟩, Rws.mono E2.mm E2.pre (Rws.ext r E1)⟩ fun w st3 hk v M3 ρ3 H3 E3 c3 r3 => ?_
  cases w with
  | im d =>
    cases d <;> try exact False.elim hk
    cases r3
    exact ⟨rfl, q _ _ hk _ M3 ρ3 H3 (E1.trans (E2.trans E3)) c3 ⟨xa, E3.pre.get (c1.rep.last xa), rfl⟩⟩
  | _ => exact False.elim hk
theorem e_new {C : Str} {ta : DA} (Mk' : Mk X.K (He.ga X.K C) f) (d : Def X.prog X.w X.K X.mg X.base k f ps (spD (XN X b) pf)) (hr : Room (k + 1) X.A) (hg : Gl X x) (hm : X.mg x = some (.ref (He.ga X.K C))) (tk : ∀ σ, PassesAt (L2.CX X.prog X.w) X σ (WE Wx σ)) (ha : PA X (e :: es) (lA (XN X b) Wx ta)) (hdb : (x == ("__debug__" : Str)) = false := by decide)
    (he : starEach (e :: es) X.env = (false, eval e X.env) :: starEach es X.env := by rfl) (hpl : (backTo pos (starEach es X.env)).any (·.1) = false := by rfl) : PE X (.Call (.Name x p) (e :: es) [] pos) (lW (XN X b) Wx (dNew C pf ta)) := PE.imp (e_makeS Mk' d hr hg hm tk ha hdb he hpl) fun σV H Q h => by
  obtain ⟨M, ρ, σ, st, k, ex, c, ht, q⟩ := Kx.open_ h
  refine Lf.of c ht fun ws st1 hk vs M1 ρ1 H1 E1 c1 r1 => fun xa dx h1 h2 ne => ?_
  exact new_ok (N := XN X b) c1 hk r1 (fun w st2 hk2 v M2 ρ2 H2 E2 c2 r2 => q _ _ hk2 v M2 ρ2 H2 (E1.trans E2) c2 r2) h1 h2 ne
theorem e_new0 {C : Str} (Mk' : Mk X.K (He.ga X.K C) f) (d : Def X.prog X.w X.K X.mg X.base k f ps (spD (XN X b) pf)) (hr : Room (k + 1) X.A) (hg : Gl X x) (hm : X.mg x = some (.ref (He.ga X.K C))) (tk : ∀ σ, PassesAt (L2.CX X.prog X.w) X σ (WE Wx σ)) (hdb : (x == ("__debug__" : Str)) = false := by decide) : PE X (.Call (.Name x p) [] [] pos) (lW (XN X b) Wx (dNew C pf aNil)) := PE.imp (e_makeS0 Mk' d hr hg hm tk hdb) fun σV H Q h => by
  obtain ⟨M, ρ, σ, st, k, ex, c, ht, q⟩ := Kx.open_ h
  intro xa dx h1 h2 ne
  exact new_ok (N := XN X b) c ht (vs := []) rfl (fun w st2 hk2 v M2 ρ2 H2 E2 c2 r2 => q _ _ hk2 v M2 ρ2 H2 E2 c2 r2) h1 h2 ne
end
def trW (n0 : Nat) : W → W
  | .loc n => if n < n0 then .loc n else .dead
  | w => w
def trO (n0 : Nat) : Ob → Ob
  | .ins C fs => .ins C (fs.map fun p => (p.1, trW n0 p.2))
  | o => o
def trS (n0 : Nat) (st : Sto) : Sto := (st.take n0).map (trO n0)
def fin (kp : Bool) (n0 : Nat) (k : W → Sto → Prop) (w : W) (st : Sto) : Prop := match kp with
  | true => k w st
  | false => match w with
    | .im d => k (.im d) (trS n0 st)
    | .loc n => if n < n0 then k (.loc n) (trS n0 st) else (match toD (.loc n) st with
      | some (d, st') => k (.im d) (trS n0 st')
      | none => False)
    | .dead => False
def EnD (kp : Bool) (n0 : Nat) (k : W → Sto → Prop) (ex : DX) : En :=
  { nx := fun _ st => fin kp n0 k (.im .non) st, rt := fun w st => fin kp n0 k w st, ex := fun c fs _ st => match kp with
    | true => ex c fs st
    | false => ex c fs (trS n0 st) }
def startD (N : List Str) (ws : List W) : Sl := ws.map some ++ List.replicate (N.length - ws.length) none
section
variable {N : Kn} {M H M' H' : Hp} {ρ ρ' : List Addr} {st : Sto}
theorem trW_ok {n0 : Nat} {w : W} {v : V} (h : Rw N M ρ w v) : Rw N M (ρ.take n0) (trW n0 w) v := by
  cases w with
  | im d => exact h
  | dead => exact h
  | loc n =>
    obtain ⟨a, ha, rfl⟩ := h
    by_cases z : n < n0
    · simp only [trW, if_pos z]
      exact ⟨a, by rw [List.getElem?_take_of_lt z]; exact ha, rfl⟩
    · simp only [trW, if_neg z]; trivial
theorem trWs_ok {n0 : Nat} : ∀ {ws : List W} {vs : List V}, Rws N M ρ ws vs → Rws N M (ρ.take n0) (ws.map (trW n0)) vs
  | [], _, h => h
  | _ :: _, _, ⟨x, r, h1, h2, h3⟩ => ⟨x, r, h1, trW_ok h2, trWs_ok h3⟩
theorem Rep.tr (r : Rep N M ρ st H) (n0 : Nat) : Rep N M (ρ.take n0) (trS n0 st) H := by
  refine ⟨r.sub, by simp [trS, r.len], fun i j a h1 h2 => ?_, fun i a o h1 h2 => ?_⟩
  · have hi := (List.getElem?_eq_some_iff.mp h1).1
    have hj := (List.getElem?_eq_some_iff.mp h2).1
    rw [List.length_take] at hi hj
    rw [List.getElem?_take_of_lt (by omega)] at h1 h2
    exact r.inj _ _ _ h1 h2
  · have hi := (List.getElem?_eq_some_iff.mp h1).1
    rw [List.length_take] at hi
    rw [List.getElem?_take_of_lt (by omega)] at h1
    unfold trS at h2
    rw [List.getElem?_map, List.getElem?_take_of_lt (by omega)] at h2
    obtain ⟨o', h3, h4⟩ := r.at_ h1
    rw [h3, Option.map_some, Option.some.injEq] at h2
    subst h2
    cases o' with
    | ins C fs =>
      obtain ⟨hm, dx, fxs, g1, g2, g3⟩ := h4
      refine ⟨hm, dx, fxs, g1, by rw [g2, List.map_map]; rfl, ?_⟩
      have := trWs_ok (n0 := n0) g3
      rw [List.map_map] at this ⊢
      exact this
    | _ => exact h4
theorem Ext.tr (e : Ext M ρ H M' ρ' H') : Ext M ρ H M' (ρ'.take ρ.length) H' := by
  have : ρ'.take ρ.length = ρ := by
    obtain ⟨r, rfl⟩ := e.pre
    simp
  rw [this]
  exact ⟨e.mm, Pre.refl _, e.fr, e.nw, fun a h => .inl h⟩
theorem Rs.start {Nm : List Str} {ws : List W} {vs : List V} (h : Rws N M ρ ws vs) : Rs N M ρ (startD Nm ws) (L2.start Nm vs) := by
  have hl := Rws.length h
  refine ⟨by simp [startD, L2.start, hl], fun i w e => ?_⟩
  unfold startD at e
  unfold L2.start
  by_cases z : i < ws.length
  · rw [List.getElem?_append_left (by simpa using z), List.getElem?_map] at e
    rw [List.getElem?_append_left (by simpa [hl] using z), List.getElem?_map]
    cases z2 : ws[i]? with
    | none => rw [z2] at e; cases e
    | some w' =>
      rw [z2] at e
      cases e
      obtain ⟨v, h1, h2⟩ := Rws.get h z2
      exact ⟨v, by rw [h1]; rfl, h2⟩
  · rw [List.getElem?_append_right (by simpa using z), List.getElem?_replicate] at e
    split at e <;> cases e
theorem fin_ok {kp : Bool} {k : W → Sto → Prop} {w : W} {st' : Sto} {v : V} {Q : VK} (hρ : ρ.length = st.length) (h : fin kp st.length k w st') (e : Ext M ρ H M' ρ' H') (r : Rep N M' ρ' st' H') (rw : Rw N M' ρ' w v)
    (q : ∀ w st', k w st' → ∀ v M' ρ' H', Ext M ρ H M' ρ' H' → Rep N M' ρ' st' H' → Rw N M' ρ' w v → Q v H') : Q v H' := by
  cases kp with
  | true => exact q _ _ h v M' ρ' H' e r rw
  | false =>
    have R := r.tr st.length
    have E := e.tr
    rw [hρ] at E
    cases w with
    | dead => exact False.elim h
    | im d => exact q _ _ (show k (.im d) (trS st.length st') from h) v M' _ H' E R rw
    | loc n =>
      have h : (if n < st.length then k (.loc n) (trS st.length st') else (match toD (.loc n) st' with
      | some (d, st2) => k (.im d) (trS st.length st2)
      | none => False)) := h
      split at h
      · rename_i hn
        refine q _ _ h v M' _ H' E R ?_
        obtain ⟨a, ha, rfl⟩ := rw
        exact ⟨a, by rw [List.getElem?_take_of_lt hn]; exact ha, rfl⟩
      · cases hz : toD (.loc n) st' with
        | none => rw [hz] at h; exact False.elim h
        | some p =>
          obtain ⟨d, st2⟩ := p
          rw [hz] at h
          obtain ⟨M2, E2, R2, r2⟩ := toD_ok r hz rw
          have E3 := (e.trans E2).tr
          rw [hρ] at E3
          exact q _ _ h v M2 _ H' E3 (R2.tr st.length) r2
theorem body_ok {Nm : List Str} {pf : Pf} {t : DS} {kp : Bool} {vs : List V} {Q : VK} {E : XK} (hr : ∀ ws st k ex, pf ws st k ex → t (EnD kp st.length k ex) (startD Nm ws) st) (h : spD N pf vs H Q E) :
    lS N (fun cls d _ H => E cls d H) t { nx := fun _ H' => Q .non H', rt := Q } (start Nm vs) H := by
  obtain ⟨M, ρ, ws, st, k, ex, r, rw, hf, hk, hx⟩ := h
  refine ⟨M, ρ, startD Nm ws, st, _, r, Rs.start rw, hr _ _ _ _ hf, ⟨fun σ' st' h M' ρ' H' σV' e r' s' => fin_ok r.len h e r' (show Rw N M' ρ' (.im .non) .non from rfl) hk, fun w st' h v M' ρ' H' e r' rv => fin_ok r.len h e r' rv hk, fun c fs σ' st' h o M' ρ' H' σV' e r' s' eo => ?_, fun _ _ h => False.elim h, fun _ _ h => False.elim h⟩⟩
  cases kp with
  | true => exact hx _ _ _ h o M' ρ' H' e r' eo
  | false =>
    have E := e.tr
    rw [r.len] at E
    exact hx _ _ _ h o M' _ H' E (r'.tr st.length) eo
theorem spD_len {pf : Pf} {n : Nat} (h : ∀ ws st k ex, pf ws st k ex → ws.length = n) : ∀ vs H Q E, spD N pf vs H Q E → vs.length = n := fun vs H Q E q => by
  obtain ⟨M, ρ, ws, st, k, ex, r, rw, hf, _⟩ := q
  rw [Rws.length rw]
  exact h _ _ _ _ hf
end
end Dl
end

section
set_option maxHeartbeats 4000000
namespace Dl
open PySem PySem.Spec PyProof.Rows L2 Co
abbrev DG := D → Sl → (Sl → Prop) → Prop
def gN (i : Nat) : DG := fun d σ k => k (σ.set i (some (.im d)))
def gAll : List DG → List D → Sl → (Sl → Prop) → Prop
  | [], [], σ, k => k σ
  | g :: gs, d :: ds, σ, k => g d σ fun σ' => gAll gs ds σ' k
  | _, _, _, _ => False
def gT (gs : List DG) : DG := fun d σ k => match d with
  | .tup ds => ds.length = gs.length ∧ gAll gs ds σ k
  | _ => False
structure GOk (N : Kn) (vs : List Nat) (g : DG) (gV : TG) : Prop where
  ok : ∀ {d : D} {v : V} {M H : Hp} {ρ : List Addr} {σ : Sl} {σV : L2.St} {k : Sl → Prop} {Q : L2.St → Hp → Prop}, Rp N M d v → Sub M H → Rs N M ρ σ σV → g d σ k → (∀ σ', k σ' → ∀ σV', Rs N M ρ σ' σV' → wipe σV' vs = wipe σV vs → Q σV' H) → gV v σV H Q
structure GsOk (N : Kn) (vs : List Nat) (gs : List DG) (gV : TGs) : Prop where
  ok : ∀ {ds : List D} {us : List V} {M H : Hp} {ρ : List Addr} {σ : Sl} {σV : L2.St} {k : Sl → Prop} {Q : L2.St → Hp → Prop}, Rps N M ds us → Sub M H → Rs N M ρ σ σV → gAll gs ds σ k → (∀ σ', k σ' → ∀ σV', Rs N M ρ σ' σV' → wipe σV' vs = wipe σV vs → Q σV' H) → gV us σV H Q
structure PGD (N : Kn) (X : Cx) (tg : Expr) (vs : List Nat) (g : DG) : Prop where
  ex : ∃ gV, PG X tg gV ∧ GOk N vs g gV
structure PGDs (N : Kn) (X : Cx) (ts : List Expr) (vs : List Nat) (gs : List DG) : Prop where
  ex : ∃ gV, PGs X ts gV ∧ GsOk N vs gs gV
theorem wipe_get {σ : L2.St} {j : Nat} : ∀ {vs : List Nat}, j ∈ vs → j < σ.length → (wipe σ vs)[j]? = some none
  | [], h, _ => by cases h
  | v :: vs, h, hj => by
    unfold wipe
    by_cases z : v = j
    · subst z
      rw [List.getElem?_set_self (by rw [wipe_length]; exact hj)]
    · rw [List.getElem?_set_ne z]
      exact wipe_get ((List.mem_cons.mp h).elim (fun w => absurd w.symm z) fun w => w) hj
theorem wipe_set {σ : L2.St} {i : Nat} {o : Option V} {vs : List Nat} (h : i ∈ vs) : wipe (σ.set i o) vs = wipe σ vs := by
  apply List.ext_getElem?
  intro j
  by_cases z : j ∈ vs
  · by_cases hj : j < σ.length
    · rw [wipe_get z hj, wipe_get z (by rw [List.length_set]; exact hj)]
    · rw [List.getElem?_eq_none (by rw [wipe_length, List.length_set]; omega), List.getElem?_eq_none (by rw [wipe_length]; omega)]
  · rw [wipe_out z, wipe_out z, List.getElem?_set_ne (fun w => z (by rw [← w]; exact h))]
theorem wipe_wipe {σ : L2.St} {vs : List Nat} : wipe (wipe σ vs) vs = wipe σ vs := by
  apply List.ext_getElem?
  intro j
  by_cases z : j ∈ vs
  · by_cases hj : j < σ.length
    · rw [wipe_get z hj, wipe_get z (by rw [wipe_length]; exact hj)]
    · rw [List.getElem?_eq_none (by rw [wipe_length, wipe_length]; omega), List.getElem?_eq_none (by rw [wipe_length]; omega)]
  · rw [wipe_out z]
theorem gok_name {N : Kn} {i : Nat} {vs : List Nat} (h : i ∈ vs) : GOk N vs (gN i) (gName i) := ⟨fun r _ rs h1 q => q _ h1 _ (rs.set (w := .im _) r i) (wipe_set h)⟩
theorem gd_name {N : Kn} {X : Cx} {i : Nat} {x : Str} {pos : Pos} {vs : List Nat} (hN : X.N.Nodup) (hi : X.N[i]? = some x) (hx : Loc X.env.scope x) (h : i ∈ vs := by decide) (hf : X.fn x = true ∨ X.env.scope.names.lookup x = some .local := by first | exact .inl rfl | exact .inr rfl | assumption) : PGD N X (.Name x pos) vs (gN i) := ⟨_, pg_name hN hi hx hf, gok_name h⟩
theorem gds_nil {N : Kn} {X : Cx} {vs : List Nat} : PGDs N X [] vs [] := ⟨_, pgs_nil, ⟨fun {ds us M H ρ σ σV k Q} r s rs h q => by
  cases ds with
  | nil => exact ⟨r, q _ h _ rs rfl⟩
  | cons _ _ => exact False.elim h⟩⟩
theorem gds_cons {N : Kn} {X : Cx} {vs : List Nat} {e : Expr} {es : List Expr} {g : DG} {gs : List DG} (h1 : PGD N X e vs g) (h2 : PGDs N X es vs gs) (hs : (assignEach (e :: es) X.env).map (·.2) = assign e X.env :: (assignEach es X.env).map (·.2) := by rfl) : PGDs N X (e :: es) vs (g :: gs) := by
  obtain ⟨gV, a1, a2⟩ := h1.ex
  obtain ⟨gsV, b1, b2⟩ := h2.ex
  refine ⟨_, pgs_cons a1 b1 hs, ⟨fun {ds us M H ρ σ σV k Q} r s rs h q => ?_⟩⟩
  cases ds with
  | nil => exact False.elim h
  | cons d ds =>
    obtain ⟨v, us', rfl, r1, r2⟩ := r
    refine ⟨v, us', rfl, a2.ok r1 s rs h fun σ1 h1 σV1 rs1 w1 => b2.ok r2 s rs1 h1 fun σ2 h2 σV2 rs2 w2 => q _ h2 _ rs2 (w2.trans w1)⟩
theorem gd_tup {N : Kn} {X : Cx} {vs : List Nat} {es : List Expr} {kk : Nat} {pos : Pos} {gs : List DG} (hK : N.K = X.K) (hc : X.calm = true) (h : PGDs N X es vs gs) (hn : (assignEach es X.env).length = gs.length := by rfl) (hst : (assignEach es X.env).findIdx? (·.1) = none := by rfl) : PGD N X (.Tuple es kk pos) vs (gT gs) := by
  obtain ⟨gV, b1, b2⟩ := h.ex
  refine ⟨_, pg_tup (n := gs.length) hc b1 hn hst, ⟨fun {d v M H ρ σ σV k Q} r s rs h q => ?_⟩⟩
  cases d <;> try exact False.elim h
  rename_i ds
  obtain ⟨p, xs, rfl, h1, h2⟩ := r
  exact ⟨p, xs, rfl, by rw [← hK]; exact s.tup h1, by rw [h2.length]; exact h.1, b2.ok h2 s rs h.2 q⟩
structure GoD (N : Kn) (J : It) (M0 : Hp) (ds : List D) : Prop where
  stop : ∀ (i : Nat) (M H : Hp), Same M0 M → Sub M H → ds.length ≤ i → J.stop i H
  go : ∀ (i : Nat) (M H : Hp), Same M0 M → Sub M H → i < ds.length → J.go i H
  yld : ∀ (i : Nat) (M H : Hp) (v : V) (H' : Hp), Same M0 M → Sub M H → i < ds.length → J.yld i H v H' → ∃ d, ds[i]? = some d ∧ ((H' = H ∧ Rp N M d v) ∨ ∃ T xs es, H T = none ∧ H' = upd H T (.tup xs) ∧ v = .ref T ∧ d = .tup es ∧ Rps N M es xs)
def lI (N : Kn) (Wx : WX) (t : Lv (List D)) : TI := fun σV H R => ∃ M ρ σ st k ex, Kx N Wx M ρ σ st H σV ex ∧ t σ st k ex ∧ ∀ ds st', k ds st' → ∀ J M' ρ' H', Ext M ρ H M' ρ' H' → Rep N M' ρ' st' H' → GoD N J M' ds → R J H'
section
variable {N : Kn} {Wx : WX} {M H : Hp} {ρ : List Addr} {σ : Sl} {st : Sto} {σV : L2.St} {ex : DX}
theorem lI.open_ {t : Lv (List D)} {R : It → Hp → Prop} (h : lI N Wx t σV H R) : ∃ M ρ σ st k ex, Kx N Wx M ρ σ st H σV ex ∧ t σ st k ex ∧ ∀ ds st', k ds st' → ∀ J M' ρ' H', Ext M ρ H M' ρ' H' → Rep N M' ρ' st' H' → GoD N J M' ds → R J H' := h
def iSq (t : DD) : Lv (List D) := fun σ st k ex => t σ st (fun d st1 => match d with
  | .tup ds => k ds st1
  | .lst ds => k ds st1
  | _ => False) ex
def chD (z : Str) : List D := z.cps.toList.map fun c => .str ⟨#[c]⟩
def iSt (t : DD) : Lv (List D) := fun σ st k ex => t σ st (fun d st1 => match d with
  | .str z => k (chD z) st1
  | _ => False) ex
def rgD (lo : Int) (n : Nat) : List D := (List.range n).map fun (i : Nat) => D.int (lo + (i : Int))
def iRg1 (t : DD) : Lv (List D) := fun σ st k ex => t σ st (fun d st1 => match d with
  | .int j => -(2 ^ 62) ≤ j ∧ j < 2 ^ 62 ∧ k (rgD 0 j.toNat) st1
  | _ => False) ex
def iRg2 (t u : DD) : Lv (List D) := fun σ st k ex => t σ st (fun d st1 => u σ st1 (fun d' st2 => match d, d' with
  | .int i, .int j => (-(2 ^ 62) ≤ i ∧ i < 2 ^ 62 ∧ -(2 ^ 62) ≤ j ∧ j < 2 ^ 62) ∧ k (rgD i (j - i).toNat) st2
  | _, _ => False) ex) ex
def enD : Nat → List D → List D
  | _, [] => []
  | i, d :: ds => .tup [.int (i : Int), d] :: enD (i + 1) ds
def iEn (t : DD) : Lv (List D) := fun σ st k ex => t σ st (fun d st1 => match d with
  | .tup ds => k (enD 0 ds) st1
  | .lst ds => k (enD 0 ds) st1
  | _ => False) ex
def zpD : List D → List D → List D
  | a :: as, b :: bs => .tup [a, b] :: zpD as bs
  | _, _ => []
def iZp (t u : DD) : Lv (List D) := fun σ st k ex => t σ st (fun d st1 => u σ st1 (fun d' st2 => match d, d' with
  | .lst as, .lst bs => k (zpD as bs) st2
  | _, _ => False) ex) ex
def iRv (t : DD) : Lv (List D) := fun σ st k ex => t σ st (fun d st1 => match d with
  | .lst ds => k ds.reverse st1
  | _ => False) ex
theorem lsts {M M' H : Hp} {a : Addr} {xs : List V} {K : PySem.W.Frag} (s : Same M M') (u : Sub M' H) (h : M a = some (.lst xs)) : SqL K H a xs := SqL.of (u.lst1 (s _ _ h))
theorem sq_inj {K : PySem.W.Frag} {H : Hp} {a : Addr} {xs ys : List V} (h : H a = some (.lst xs)) (hy : SqL K H a ys) : xs = ys ∨ ∃ (o : Obj) (its : Array Value) (n : Nat), K.lookup a = some o ∧ o.cls = .type "list" ∧ o.dict = none ∧ o.data = .seq its n ∧ its.size ≤ sizeLine ∧ Vals ys its.toList := by
  rcases hy with (hy | ⟨o, hy⟩) | hy
  · rw [h] at hy; cases hy; exact .inl rfl
  · rw [h] at hy; cases hy
  · exact .inr hy
theorem go_list {a : Addr} {xs : List V} {ds : List D} (h : M a = some (.lst xs)) (r : Rps N M ds xs) : GoD N (Itl N.K a) M ds where
  stop := fun i M' H s u hi => ⟨xs, lsts s u h, by rw [r.length]; exact hi⟩
  go := fun i M' H s u hi => ⟨xs, xs[i]'(by rw [r.length]; exact hi), lsts s u h, by simp [r.length, hi]⟩
  yld := fun i M' H v H' s u hi y => by
    obtain ⟨rfl, y⟩ := y
    obtain ⟨d, h1, h2⟩ := Rps.get2 r (y xs (lsts s u h))
    exact ⟨d, h1, .inl ⟨rfl, h2.mono s⟩⟩
theorem go_tup {a : Addr} {xs : List V} {ds : List D} (h : SqC N M a xs) (r : Rps N M ds xs) : GoD N (Itt N.K a) M ds where
  stop := fun i M' H s u hi => ⟨xs, u.tup (h.mono s), by rw [r.length]; exact hi⟩
  go := fun i M' H s u hi => ⟨xs, xs[i]'(by rw [r.length]; exact hi), u.tup (h.mono s), by simp [r.length, hi]⟩
  yld := fun i M' H v H' s u hi y => by
    obtain ⟨rfl, y⟩ := y
    obtain ⟨d, h1, h2⟩ := Rps.get2 r (y xs (u.tup (h.mono s)))
    exact ⟨d, h1, .inl ⟨rfl, h2.mono s⟩⟩
theorem go_str {z : Str} : GoD N (Its z) M (chD z) where
  stop := fun i M' H s u hi => by simpa [chD, Its] using hi
  go := fun i M' H s u hi => by simpa [chD, Its] using hi
  yld := fun i M' H v H' s u hi y => by
    obtain ⟨rfl, c, h1, rfl⟩ := y
    refine ⟨.str ⟨#[c]⟩, ?_, .inl ⟨rfl, rfl⟩⟩
    have : z.cps.toList[i]? = some c := by simpa using h1
    simp [chD, this]
theorem go_rng {lo : Int} {n : Nat} : GoD N (Itr lo n) M (rgD lo n) where
  stop := fun i M' H s u hi => by simpa [rgD, Itr] using hi
  go := fun i M' H s u hi => by simpa [rgD, Itr] using hi
  yld := fun i M' H v H' s u hi y => by
    obtain ⟨rfl, rfl⟩ := y
    have hi : i < n := by simpa [rgD] using hi
    exact ⟨.int (lo + i), by simp [rgD, hi], .inl ⟨rfl, rfl⟩⟩
theorem enD_get : ∀ (ds : List D) (j i : Nat), (enD j ds)[i]? = ds[i]?.map fun d => .tup [.int ((j + i : Nat) : Int), d]
  | [], j, i => by simp [enD]
  | d :: ds, j, 0 => by simp [enD]
  | d :: ds, j, i + 1 => by
    have := enD_get ds (j + 1) i
    rw [show j + 1 + i = j + (i + 1) by omega] at this
    simpa [enD] using this
theorem enD_len : ∀ (ds : List D) (j : Nat), (enD j ds).length = ds.length
  | [], j => rfl
  | d :: ds, j => by simp [enD, enD_len ds (j + 1)]
theorem go_en {a : Addr} {xs : List V} {ds : List D} (h : M a = some (.lst xs)) (r : Rps N M ds xs) : GoD N (Ite N.K a) M (enD 0 ds) where
  stop := fun i M' H s u hi => ⟨xs, lsts s u h, by rw [r.length]; rwa [enD_len] at hi⟩
  go := fun i M' H s u hi => by
    rw [enD_len] at hi
    exact ⟨xs, xs[i]'(by rw [r.length]; exact hi), lsts s u h, by simp [r.length, hi]⟩
  yld := fun i M' H v H' s u hi y => by
    obtain ⟨T, x, rfl, hT, rfl, y⟩ := y
    obtain ⟨d, h1, h2⟩ := Rps.get2 r (y xs (lsts s u h))
    exact ⟨.tup [.int (i : Int), d], by rw [enD_get, h1, Nat.zero_add]; rfl, .inr ⟨T, _, [.int (i : Int), d], hT, rfl, rfl, rfl, ⟨_, _, rfl, rfl, _, _, rfl, h2.mono s, rfl⟩⟩⟩
theorem go_enT {a : Addr} {xs : List V} {ds : List D} (h : SqC N M a xs) (r : Rps N M ds xs) : GoD N (IteT N.K a) M (enD 0 ds) where
  stop := fun i M' H s u hi => ⟨xs, u.tup (h.mono s), by rw [r.length]; rwa [enD_len] at hi⟩
  go := fun i M' H s u hi => by
    rw [enD_len] at hi
    exact ⟨xs, xs[i]'(by rw [r.length]; exact hi), u.tup (h.mono s), by simp [r.length, hi]⟩
  yld := fun i M' H v H' s u hi y => by
    obtain ⟨T, x, rfl, hT, rfl, y⟩ := y
    obtain ⟨d, h1, h2⟩ := Rps.get2 r (y xs (u.tup (h.mono s)))
    exact ⟨.tup [.int (i : Int), d], by rw [enD_get, h1, Nat.zero_add]; rfl, .inr ⟨T, _, [.int (i : Int), d], hT, rfl, rfl, rfl, ⟨_, _, rfl, rfl, _, _, rfl, h2.mono s, rfl⟩⟩⟩
theorem zpD_get : ∀ (as bs : List D) (i : Nat), (zpD as bs)[i]? = match as[i]?, bs[i]? with
    | some a, some b => some (.tup [a, b])
    | _, _ => none
  | [], bs, i => by simp [zpD]
  | a :: as, [], i => by cases i <;> simp [zpD] <;> split <;> simp_all
  | a :: as, b :: bs, 0 => by simp [zpD]
  | a :: as, b :: bs, i + 1 => by simpa [zpD] using zpD_get as bs i
theorem zpD_len : ∀ (as bs : List D), (zpD as bs).length = min as.length bs.length
  | [], bs => by simp [zpD]
  | a :: as, [] => by simp [zpD]
  | a :: as, b :: bs => by simp [zpD, zpD_len as bs, Nat.succ_min_succ]
theorem go_zp {a b : Addr} {xs ys : List V} {as bs : List D} (h : M a = some (.lst xs)) (r : Rps N M as xs) (h' : M b = some (.lst ys)) (r' : Rps N M bs ys) : GoD N (Itz N.K a b) M (zpD as bs) where
  stop := fun i M' H s u hi => ⟨xs, ys, lsts s u h, lsts s u h', by rw [r.length, r'.length]; rw [zpD_len] at hi; omega⟩
  go := fun i M' H s u hi => by
    rw [zpD_len] at hi
    exact ⟨xs, ys, xs[i]'(by rw [r.length]; omega), ys[i]'(by rw [r'.length]; omega), lsts s u h, lsts s u h', by simp, by simp⟩
  yld := fun i M' H v H' s u hi y => by
    obtain ⟨T, x, y', rfl, hT, rfl, y1, y2⟩ := y
    obtain ⟨d, h1, h2⟩ := Rps.get2 r (y1 xs (lsts s u h))
    obtain ⟨d', h1', h2'⟩ := Rps.get2 r' (y2 ys (lsts s u h'))
    exact ⟨.tup [d, d'], by rw [zpD_get, h1, h1'], .inr ⟨T, _, [d, d'], hT, rfl, rfl, rfl, ⟨_, _, rfl, h2.mono s, _, _, rfl, h2'.mono s, rfl⟩⟩⟩
theorem go_rv {a : Addr} {xs : List V} {ds : List D} (h : M a = some (.lst xs)) (r : Rps N M ds xs) : GoD N (Itv N.K a xs.length) M ds.reverse where
  stop := fun i M' H s u hi => by
    rw [List.length_reverse, ← r.length] at hi
    exact hi
  go := fun i M' H s u hi => by
    rw [List.length_reverse, ← r.length] at hi
    exact ⟨hi, xs, xs[xs.length - 1 - i]'(by omega), lsts s u h, by simp⟩
  yld := fun i M' H v H' s u hi y => by
    rw [List.length_reverse] at hi
    obtain ⟨rfl, y⟩ := y
    obtain ⟨d, h1, h2⟩ := Rps.get2 r (y xs (lsts s u h))
    refine ⟨d, ?_, .inl ⟨rfl, h2.mono s⟩⟩
    rw [List.getElem?_reverse hi, ← r.length]
    exact h1
end
section
variable {X : Cx} {b : Bool} {Wx : WX} {e e1 e2 e3 tg : Expr} {es : List Expr} {pos p tpos : Pos} {x : Str} {kk : Nat} {elts : List Expr}
theorem PI.imp {t t' : TI} (h : PI X tg e t) (i : ∀ σ H R, t' σ H R → t σ H R) : PI X tg e t' := ⟨fun pins s σ H R I q => h.run pins s σ H R I (i σ H R q)⟩
theorem i_sq {t : DD} (h : PE X e (lD (XN X b) Wx t)) : PI X tg e (lI (XN X b) Wx (iSq t)) := PI.imp (pi_seq h) fun σV H R q => by
  obtain ⟨M, ρ, σ, st, k, ex, c, ht, q⟩ := lI.open_ q
  refine Lf.of c ht fun d st' hk v M' ρ' H' E c' r => ?_
  cases d <;> try exact False.elim hk
  · obtain ⟨a, xs, rfl, h1, h2⟩ := r
    exact ⟨a, rfl, .inr ⟨⟨xs, c'.rep.sub.tup h1⟩, q _ _ hk _ M' ρ' H' E c'.rep (go_tup h1 h2)⟩⟩
  · obtain ⟨a, xs, rfl, h1, h2⟩ := r
    exact ⟨a, rfl, .inl ⟨⟨xs, SqL.of (c'.rep.sub.lst1 h1)⟩, q _ _ hk _ M' ρ' H' E c'.rep (go_list (N := XN X b) h1 h2)⟩⟩
variable {N : Kn}
theorem i_st {t : DD} (h : PE X e (lD N Wx t)) : PI X tg e (lI N Wx (iSt t)) := PI.imp (pi_str h) fun σV H R q => by
  obtain ⟨M, ρ, σ, st, k, ex, c, ht, q⟩ := lI.open_ q
  refine Lf.of c ht fun d st' hk v M' ρ' H' E c' r => ?_
  cases d <;> try exact False.elim hk
  cases r
  exact ⟨_, rfl, q _ _ hk _ M' ρ' H' E c'.rep go_str⟩
theorem i_rg1 {t : DD} (hg : Gl X "range") (hm : X.mg "range" = none) (h : PA X [e] (tCons (lD N Wx t) tNil)) (hs : starEach [e] X.env = [(false, eval e X.env)] := by rfl) : PI X tg (.Call (.Name "range" p) [e] [] pos) (lI N Wx (iRg1 t)) := PI.imp (pi_range1 hg hm h hs) fun σV H R q => by
  obtain ⟨M, ρ, σ, st, k, ex, c, ht, q⟩ := lI.open_ q
  refine Lf.of c ht fun d st' hk v M' ρ' H' E c' r => ?_
  cases d <;> try exact False.elim hk
  cases r
  exact ⟨_, rfl, hk.1, hk.2.1, q _ _ hk.2.2 _ M' ρ' H' E c'.rep go_rng⟩
theorem i_rg2 {t u : DD} (hg : Gl X "range") (hm : X.mg "range" = none) (h : PA X [e1, e2] (tCons (lD N Wx t) (tCons (lD N Wx u) tNil))) (hs : starEach [e1, e2] X.env = [(false, eval e1 X.env), (false, eval e2 X.env)] := by rfl) (hpl : starEach [e2] X.env = [(false, eval e2 X.env)] := by rfl) : PI X tg (.Call (.Name "range" p) [e1, e2] [] pos) (lI N Wx (iRg2 t u)) := PI.imp (pi_range2 hg hm h hs hpl) fun σV H R q => by
  obtain ⟨M, ρ, σ, st, k, ex, c, ht, q⟩ := lI.open_ q
  refine Lf.bin c ht fun d d' st' hk v v' M' ρ' H' E c' r r' => ?_
  cases d <;> cases d' <;> try exact False.elim hk
  cases r; cases r'
  exact ⟨_, _, rfl, hk.1, q _ _ hk.2 _ M' ρ' H' E c'.rep go_rng⟩
theorem i_en {t : DD} (hg : Gl X "enumerate") (hm : X.mg "enumerate" = none) (h : PA X [e] (tCons (lD (XN X b) Wx t) tNil)) (hs : starEach [e] X.env = [(false, eval e X.env)] := by rfl) : PI X (.Tuple elts kk tpos) (.Call (.Name "enumerate" p) [e] [] pos) (lI (XN X b) Wx (iEn t)) := PI.imp (pi_enumA hg hm h hs) fun σV H R q => by
  obtain ⟨M, ρ, σ, st, k, ex, c, ht, q⟩ := lI.open_ q
  refine Lf.of c ht fun d st' hk v M' ρ' H' E c' r => ?_
  cases d <;> try exact False.elim hk
  · obtain ⟨a, xs, rfl, h1, h2⟩ := r
    exact ⟨a, rfl, .inr ⟨⟨xs, c'.rep.sub.tup h1⟩, q _ _ hk _ M' ρ' H' E c'.rep (go_enT h1 h2)⟩⟩
  · obtain ⟨a, xs, rfl, h1, h2⟩ := r
    exact ⟨a, rfl, .inl ⟨⟨xs, SqL.of (c'.rep.sub.lst1 h1)⟩, q _ _ hk _ M' ρ' H' E c'.rep (go_en (N := XN X b) h1 h2)⟩⟩
theorem i_zp {t u : DD} (hg : Gl X "zip") (hm : X.mg "zip" = none) (h : PA X [e1, e2] (tCons (lD (XN X b) Wx t) (tCons (lD (XN X b) Wx u) tNil))) (hs : starEach [e1, e2] X.env = (false, eval e1 X.env) :: starEach [e2] X.env := by rfl) (hpl : (backTo pos (starEach [e2] X.env)).any (·.1) = false := by rfl) :
    PI X (.Tuple elts kk tpos) (.Call (.Name "zip" p) [e1, e2] [] pos) (lI (XN X b) Wx (iZp t u)) := PI.imp (pi_zip hg hm h hs hpl) fun σV H R q => by
  obtain ⟨M, ρ, σ, st, k, ex, c, ht, q⟩ := lI.open_ q
  refine Lf.bin c ht fun d d' st' hk v v' M' ρ' H' E c' r r' => ?_
  cases d <;> cases d' <;> try exact False.elim hk
  obtain ⟨a, xs, rfl, h1, h2⟩ := r
  obtain ⟨a', xs', rfl, h1', h2'⟩ := r'
  exact ⟨a, a', xs, xs', rfl, SqL.of (c'.rep.sub.lst1 h1), SqL.of (c'.rep.sub.lst1 h1'), q _ _ hk _ M' ρ' H' E c'.rep (go_zp (N := XN X b) h1 h2 h1' h2')⟩
theorem i_rv {t : DD} (hg : Gl X "reversed") (hm : X.mg "reversed" = none) (h : PA X [e] (tCons (lD (XN X b) Wx t) tNil)) (hs : starEach [e] X.env = [(false, eval e X.env)] := by rfl) : PI X tg (.Call (.Name "reversed" p) [e] [] pos) (lI (XN X b) Wx (iRv t)) := PI.imp (pi_reversed hg hm h hs) fun σV H R q => by
  obtain ⟨M, ρ, σ, st, k, ex, c, ht, q⟩ := lI.open_ q
  refine Lf.of c ht fun d st' hk v M' ρ' H' E c' r => ?_
  cases d <;> try exact False.elim hk
  obtain ⟨a, xs, rfl, h1, h2⟩ := r
  exact ⟨a, xs, rfl, SqL.of (c'.rep.sub.lst1 h1), q _ _ hk _ M' ρ' H' E c'.rep (go_rv (N := XN X b) h1 h2)⟩
end
end Dl
end

section
set_option maxHeartbeats 4000000
namespace Dl
open PySem PySem.Spec PyProof.Rows L2 Co
def trSl (n0 : Nat) (σ : Sl) : Sl := σ.map fun o => match o with
  | some (.loc n) => if n < n0 then some (.loc n) else none
  | o => o
def sFor (it : Lv (List D)) (g : DG) (tb : DS) : DS := fun E σ st => it σ st (fun ds st1 => ∃ I : Nat → Sl → Sto → Prop, I 0 σ st1 ∧
  (∀ (i : Nat) d σ' st', ds[i]? = some d → I i σ' st' → st'.length = st1.length → g d σ' fun σ2 => tb { E with nx := fun σ3 st3 => I (i + 1) (trSl st1.length σ3) (trS st1.length st3), ct := fun σ3 st3 => I (i + 1) (trSl st1.length σ3) (trS st1.length st3), bk := E.nx } σ2 st') ∧
  ∀ σ' st', I ds.length σ' st' → st'.length = st1.length → E.nx σ' st') (exE E σ)
def sWhile (c : DT) (tb : DS) : DS := fun E σ st => ∃ I : Nat → Sl → Sto → Prop, (∃ m, I m σ st) ∧
  ∀ m σ' st', I m σ' st' → st'.length = st.length → c σ' st' (fun b st2 => two b (tb { E with nx := fun σ3 st3 => ∃ m', m' < m ∧ I m' (trSl st.length σ3) (trS st.length st3), ct := fun σ3 st3 => ∃ m', m' < m ∧ I m' (trSl st.length σ3) (trS st.length st3), bk := E.nx } σ' st2) (E.nx σ' st2)) (exE E σ')
def sAsgG (t : DD) (g : DG) : DS := fun E σ st => t σ st (fun d st1 => g d σ fun σ' => E.nx σ' st1) (exE E σ)
def sAug (f : F2) (i : Nat) (t : DD) : DS := fun E σ st => match σ[i]? with
  | some (some (.im x)) => t σ st (fun y st1 => f x y fun d => E.nx (σ.set i (some (.im d))) st1) (exE E σ)
  | _ => False
def wipeD (σ : Sl) : List Nat → Sl
  | [] => σ
  | v :: vs => (wipeD σ vs).set v none
def dYes : DT := fun _ st k _ => k true st
def exF : DX := fun _ _ _ => False
def lcB (ds : List D) (g : DG) (tt : DT) (te : DD) (vs : List Nat) (σ : Sl) (st : Sto) (k : List D → Sto → Prop) : Prop := ∃ I : Nat → List D → Sto → Prop, I 0 [] st ∧
  (∀ (i : Nat) d acc st', ds[i]? = some d → I i acc st' → st'.length = st.length → g d (wipeD σ vs) fun σ2 => tt σ2 st' (fun b st2 => two b (te σ2 st2 (fun y st3 => acc.length ≤ 1000000 ∧ I (i + 1) (acc ++ [y]) (trS st.length st3)) exF) (I (i + 1) acc (trS st.length st2))) exF) ∧
  ∀ acc st', I ds.length acc st' → st'.length = st.length → k acc st'
def dLc (it : Lv (List D)) (g : DG) (tt : DT) (te : DD) (vs : List Nat) : DD := fun σ st k ex => it σ st (fun ds st1 => lcB ds g tt te vs σ st1 fun acc st' => k (.lst acc) st') ex
def dLcM (it : Lv (List D)) (g : DG) (tt : DT) (te : DD) (vs : List Nat) : DW := fun σ st k ex => it σ st (fun ds st1 => lcB ds g tt te vs σ st1 fun acc st' => k (.loc st'.length) (st' ++ [.lst acc])) ex
abbrev W0 : WX := fun _ _ _ _ => False
section
variable {N : Kn} {Wx : WX} {M H M' H' : Hp} {ρ ρ' : List Addr} {σ : Sl} {st : Sto} {σV : L2.St} {ex : DX}
theorem trSl_ok {n0 : Nat} (h : Rs N M ρ σ σV) : Rs N M (ρ.take n0) (trSl n0 σ) σV := by
  refine ⟨by simp [trSl, h.1], fun i w e => ?_⟩
  unfold trSl at e
  rw [List.getElem?_map] at e
  cases z : σ[i]? with
  | none => rw [z] at e; cases e
  | some o =>
    rw [z, Option.map_some, Option.some.injEq] at e
    cases o with
    | none => cases e
    | some w' =>
      obtain ⟨v, h1, h2⟩ := h.2 i w' z
      refine ⟨v, h1, ?_⟩
      cases w' with
      | im d => cases e; exact h2
      | dead => cases e; exact h2
      | loc n =>
        simp only at e
        split at e
        · rename_i hn
          cases e
          obtain ⟨a, ha, rfl⟩ := h2
          exact ⟨a, by rw [List.getElem?_take_of_lt hn]; exact ha, rfl⟩
        · cases e
theorem trS_len (n0 : Nat) (h : n0 ≤ st.length) : (trS n0 st).length = n0 := by
  simp [trS, h]
theorem GoD.item {J : It} {ds : List D} {M1 H1 : Hp} {ρ1 : List Addr} (g : GoD N J M ds) (e : Ext M ρ H M1 ρ1 H1) (r : Rep N M1 ρ1 st H1) {i : Nat} {v : V} {H2 : Hp} (hi : i < ds.length) (y : J.yld i H1 v H2) :
    ∃ d M2, ds[i]? = some d ∧ Ext M1 ρ1 H1 M2 ρ1 H2 ∧ Rep N M2 ρ1 st H2 ∧ Rp N M2 d v := by
  obtain ⟨d, h1, h2⟩ := g.yld i M1 H1 v H2 e.mm r.sub hi y
  rcases h2 with ⟨rfl, h2⟩ | ⟨T, xs, es, hT, rfl, rfl, rfl, h2⟩
  · exact ⟨d, M1, h1, Ext.refl, r, h2⟩
  · exact ⟨_, _, h1, Ext.new r.sub hT, r.new hT, ⟨T, xs, rfl, .inl upd_same, h2.ext (Ext.new (ρ := ρ1) (o := .tup xs) r.sub hT)⟩⟩
end
section
variable {X : Cx} {b : Bool} {Wx : WX} {e e1 e2 e3 tg : Expr} {pos : Pos} {N : Kn}
theorem Ext.cut {M H M' H' : Hp} {ρ ρ' : List Addr} {n : Nat} (e : Ext M ρ H M' ρ' H') (h : ρ.length = n) : Ext M ρ H M' ρ H' ∧ ρ'.take n = ρ := by
  subst h
  have := e.tr
  have e2 : ρ'.take ρ.length = ρ := by
    obtain ⟨r, rfl⟩ := e.pre
    simp
  rw [e2] at this
  exact ⟨this, e2⟩
theorem s_for {it : Lv (List D)} {vs : List Nat} {g : DG} {gV : TG} {tb : DS} {body : List Stmt} (g2 : GOk N vs g gV) (hp : PassesOwn (model X.prog X.w) X.A X.env X.xe) (hc : X.calm = true) (hi : PI X tg e (lI N Wx it)) (g1 : PG X tg gV) (hb : PSs X body (lS N Wx tb))
    (hs : ∀ x, foldedSetIterable e X.env x = pure x := by intro _; rfl) : PS X (.For tg e body [] pos) (lS N Wx (sFor it g tb)) := by
  refine PS.imp (ps_for hp hc hi g1 hb hs) fun D σV H h => ?_
  obtain ⟨M, ρ, σ, st, E, r, s, h, l⟩ := h
  refine ⟨M, ρ, σ, st, _, _, l.kx r s, h, fun ds st1 hk J M1 ρ1 H1 E1 r1 gd => ?_⟩
  obtain ⟨I, h0, hstep, hend⟩ := hk
  have l1 := l.step E1
  have hρ1 := r1.len
  refine ⟨fun i m σV' H' => m = ds.length - i ∧ i ≤ ds.length ∧ ∃ M' σ' st', Ext M1 ρ1 H1 M' ρ1 H' ∧ Rep N M' ρ1 st' H' ∧ Rs N M' ρ1 σ' σV' ∧ I i σ' st', ⟨ds.length, by simp, Nat.zero_le _, M1, σ, st1, Ext.refl, r1, s.ext E1, h0⟩, ?_⟩
  rintro i m σV' H' ⟨rfl, hi, M', σ', st', E', r', s', hI⟩
  have hlen : st'.length = st1.length := by rw [← r'.len, r1.len]
  by_cases hlt : i < ds.length
  · refine .inr ⟨gd.go i M' H' E'.mm r'.sub hlt, fun σV3 H3 => ∃ M3 σ3 st3, Ext M1 ρ1 H1 M3 ρ1 H3 ∧ Rep N M3 ρ1 st3 H3 ∧ Rs N M3 ρ1 σ3 σV3 ∧ I (i + 1) σ3 st3, fun σV3 H3 q => ⟨ds.length - (i + 1), by omega, rfl, hlt, q⟩, fun v H2 y => ?_⟩
    obtain ⟨d, M2, hd, E2, r2, rd⟩ := gd.item E' r' hlt y
    refine g2.ok rd r2.sub (s'.ext E2) (hstep i d σ' st' hd hI hlen) fun σ2 h2 σV2 s2 _ => ?_
    have E12 := E'.trans E2
    have l2 := l1.step E12
    have turn : ∀ σ3 st3, I (i + 1) (trSl st1.length σ3) (trS st1.length st3) → ∀ M3 ρ3 H3 σV3, Ext M2 ρ1 H2 M3 ρ3 H3 → Rep N M3 ρ3 st3 H3 → Rs N M3 ρ3 σ3 σV3 → ∃ M3 σ3 st3, Ext M1 ρ1 H1 M3 ρ1 H3 ∧ Rep N M3 ρ1 st3 H3 ∧ Rs N M3 ρ1 σ3 σV3 ∧ I (i + 1) σ3 st3 := fun σ3 st3 hI3 M3 ρ3 H3 σV3 E3 r3 s3 => by
      obtain ⟨E4, e4⟩ := (E12.trans E3).cut hρ1
      have q1 := r3.tr st1.length
      have q2 := trSl_ok (n0 := st1.length) s3
      rw [e4] at q1 q2
      exact ⟨M3, _, _, E4, q1, q2, hI3⟩
    exact lS.of (E := { E with nx := fun σ3 st3 => I (i + 1) (trSl st1.length σ3) (trS st1.length st3), ct := fun σ3 st3 => I (i + 1) (trSl st1.length σ3) (trS st1.length st3), bk := E.nx })
      ⟨turn, l2.rt, l2.ex, l2.nx, turn⟩ r2 s2 h2
  · have e : i = ds.length := by omega
    subst e
    exact .inl ⟨gd.stop _ M' H' E'.mm r'.sub (Nat.le_refl _), l1.nx _ _ (hend σ' st' hI hlen) M' ρ1 H' σV' E' r' s'⟩
theorem s_while {c : DT} {tb : DS} {body : List Stmt} (hp : PassesOwn (model X.prog X.w) X.A X.env X.xe) (hc : PT X e (lT N Wx c)) (hb : PSs X body (lS N Wx tb)) : PS X (.While e body [] pos) (lS N Wx (sWhile c tb)) := PS.imp (Co.s_while hp hc hb) fun D σV H h => by
  obtain ⟨M, ρ, σ, st, E, r, s, ⟨I, ⟨m0, h0⟩, hstep⟩, l⟩ := h
  refine ⟨fun m σV' H' => ∃ M' σ' st', Ext M ρ H M' ρ H' ∧ Rep N M' ρ st' H' ∧ Rs N M' ρ σ' σV' ∧ I m σ' st', ⟨m0, M, σ, st, Ext.refl, r, s, h0⟩, ?_⟩
  rintro m σV' H' ⟨M', σ', st', E', r', s', hI⟩
  have hlen : st'.length = st.length := by rw [← r'.len, r.len]
  have l' := l.step E'
  refine Lf.of (l'.kx r' s') (hstep m σ' st' hI hlen) fun b st2 hk v M2 ρ2 H2 E2 c2 rv => ?_
  rw [show v = b from rv]
  refine ⟨fun z => ?_, fun z => l'.nx _ _ (hk.2 z) M2 ρ2 H2 σV' E2 c2.rep c2.rs⟩
  have l2 := l'.step E2
  have E12 := E'.trans E2
  have turn : ∀ σ3 st3, (∃ m', m' < m ∧ I m' (trSl st.length σ3) (trS st.length st3)) → ∀ M3 ρ3 H3 σV3, Ext M2 ρ2 H2 M3 ρ3 H3 → Rep N M3 ρ3 st3 H3 → Rs N M3 ρ3 σ3 σV3 → ∃ m', m' < m ∧ ∃ M' σ' st', Ext M ρ H M' ρ H3 ∧ Rep N M' ρ st' H3 ∧ Rs N M' ρ σ' σV3 ∧ I m' σ' st' := fun σ3 st3 ⟨m', hm, hI3⟩ M3 ρ3 H3 σV3 E3 r3 s3 => by
    obtain ⟨E4, e4⟩ := (E12.trans E3).cut r.len
    have q1 := r3.tr st.length
    have q2 := trSl_ok (n0 := st.length) s3
    rw [e4] at q1 q2
    exact ⟨m', hm, M3, _, _, E4, q1, q2, hI3⟩
  exact lS.of (E := { E with nx := fun σ3 st3 => ∃ m', m' < m ∧ I m' (trSl st.length σ3) (trS st.length st3), ct := fun σ3 st3 => ∃ m', m' < m ∧ I m' (trSl st.length σ3) (trS st.length st3), bk := E.nx })
    ⟨turn, l2.rt, l2.ex, l2.nx, turn⟩ c2.rep c2.rs (hk.1 z)
theorem s_asgG {t : DD} {g : DG} {gV : TG} {vs : List Nat} (g2 : GOk N vs g gV) (h : PS X (.Assign [tg] e pos) (tAsg (lD N Wx t) gV)) : PS X (.Assign [tg] e pos) (lS N Wx (sAsgG t g)) := by
  refine PS.imp h fun D σV H h => ?_
  obtain ⟨M, ρ, σ, st, E, r, s, h, l⟩ := h
  refine Lf.of (l.kx r s) h fun d st' hk v M' ρ' H' e' c' rv => ?_
  exact g2.ok rv c'.rep.sub c'.rs hk fun σ2 h2 σV2 s2 _ => l.nx _ _ h2 M' ρ' H' σV2 e' c'.rep s2
theorem PIp_or {op : Operator} {t t' : TIp} (h : PIp X op t) (h' : PIp X op t') : PIp X op (fun x y H Q => t x y H Q ∨ t' x y H Q) := fun pins s σ H x y v u Q I rx ry q => q.elim (h pins s σ H x y v u Q I rx ry) (h' pins s σ H x y v u Q I rx ry)
theorem s_aug {op : Operator} {f : F2} {i : Nat} {x : Str} {t : DD} {pos' : Pos} {r : TIp} (hN : X.N.Nodup) (hi : X.N[i]? = some x) (hx : Loc X.env.scope x) (hop : PIp X op r) (ok : ∀ {M H : Hp} {a c : D} {u v : V} {kd : D → Prop} {Q : VK}, Rp N M a u → Rp N M c v → f a c kd → (∀ d, kd d → ∀ w, Rp N M d w → Q w H) → r u v H Q)
    (he : PE X e (lD N Wx t)) (hf : X.fn x = true ∨ X.env.scope.names.lookup x = some .local := by first | exact .inl rfl | exact .inr rfl | assumption) : PS X (.AugAssign (.Name x pos') op e pos) (lS N Wx (sAug f i t)) := PS.imp (ps_aug hN hi hx he hop hf) fun D σV H h => by
  obtain ⟨M, ρ, σ, st, E, rr, s, h, l⟩ := h
  unfold sAug at h
  split at h
  · rename_i xd hx
    obtain ⟨u, h1, h2⟩ := s.2 i _ hx
    refine ⟨u, h1, Lf.of (l.kx rr s) h fun y st' hk v M' ρ' H' e' c' rv => ?_⟩
    exact ok (Rp.ext h2 e') rv hk fun d hd w hw => l.nx _ _ hd M' ρ' H' _ e' c'.rep (c'.rs.set (w := .im d) hw i)
  · exact False.elim h
theorem ok_iadd {M H : Hp} {a c : D} {u v : V} {kd : D → Prop} {Q : VK} (ha : Rp N M a u) (hc : Rp N M c v) (h : fAdd a c kd) (hi : ∃ i j, a = .int i ∧ c = .int j) (k : ∀ d, kd d → ∀ w, Rp N M d w → Q w H) : (ipI fun i j => i + j) u v H Q := by
  obtain ⟨i, j, rfl, rfl⟩ := hi
  cases ha; cases hc
  exact ⟨i, j, rfl, rfl, k _ h _ rfl⟩
def fAddI : F2 := fun x y k => match x, y with
  | .int i, .int j => k (.int (i + j))
  | _, _ => False
theorem s_augadd {i : Nat} {x : Str} {t : DD} {pos' : Pos} (hN : X.N.Nodup) (hi : X.N[i]? = some x) (hx : Loc X.env.scope x) (he : PE X e (lD N Wx t)) (hf : X.fn x = true ∨ X.env.scope.names.lookup x = some .local := by first | exact .inl rfl | exact .inr rfl | assumption) : PS X (.AugAssign (.Name x pos') .Add e pos) (lS N Wx (sAug fAddI i t)) :=
  s_aug hN hi hx ip_add (fun {M H a c u v kd Q} ha hc h k => by
    cases a <;> cases c <;> try exact False.elim h
    cases ha; cases hc
    exact ⟨_, _, rfl, rfl, k _ h _ rfl⟩) he hf
theorem s_augsub {i : Nat} {x : Str} {t : DD} {pos' : Pos} (hN : X.N.Nodup) (hi : X.N[i]? = some x) (hx : Loc X.env.scope x) (he : PE X e (lD N Wx t)) (hf : X.fn x = true ∨ X.env.scope.names.lookup x = some .local := by first | exact .inl rfl | exact .inr rfl | assumption) : PS X (.AugAssign (.Name x pos') .Sub e pos) (lS N Wx (sAug fSub i t)) :=
  s_aug hN hi hx ip_sub (fun {M H a c u v kd Q} ha hc h k => by
    cases a <;> cases c <;> try exact False.elim h
    cases ha; cases hc
    exact ⟨_, _, rfl, rfl, k _ h _ rfl⟩) he hf
theorem wipe_rs {M : Hp} {ρ : List Addr} {σ : Sl} {σV : L2.St} (h : Rs N M ρ σ σV) : ∀ vs : List Nat, Rs N M ρ (wipeD σ vs) (wipe σV vs)
  | [] => h
  | v :: vs => (wipe_rs h vs).unset v none
theorem lc_lift {it : Lv (List D)} {g : DG} {gV : TG} {tt : DT} {te : DD} {vs : List Nat} {K : List D → Sto → Prop} {σV : L2.St} {H : Hp} {Q : VK} {M : Hp} {ρ : List Addr} {σ : Sl} {st : Sto} {ex : DX} (g2 : GOk N vs g gV) (c : Kx N Wx M ρ σ st H σV ex)
    (ht : it σ st (fun ds st1 => lcB ds g tt te vs σ st1 K) ex)
    (q : ∀ acc st', K acc st' → ∀ p M' ρ' H' xs, Ext M ρ H M' ρ' H' → Rep N M' ρ' st' H' → M' p = none → p ∉ ρ' → H p = none → H' p = some (.lst xs) → Rps N M' acc xs → Q (.ref p) H') :
    uLc (lI N Wx it) gV (lT N W0 tt) (lD N W0 te) vs σV H Q := by
  refine ⟨M, ρ, σ, st, _, _, c, ht, fun ds st1 hk J M1 ρ1 H1 E1 r1 gd D hD => ?_⟩
  obtain ⟨I, h0, hstep, hend⟩ := hk
  have hm1 := r1.non hD
  have hn1 : D ∉ ρ1 := fun z => r1.mem z hD
  have hH : H D = none := by
    cases z : H D with
    | none => rfl
    | some o =>
      by_cases w : D ∈ ρ
      · exact absurd (E1.pre.mem w) hn1
      · rw [E1.fr D o z w] at hD; cases hD
  have rD : ∀ {M' : Hp} {st' : Sto} {H' : Hp} {xs : List V}, Rep N M' ρ1 st' H' → M' D = none → Rep N M' ρ1 st' (upd H' D (.lst xs)) := fun {M' st' H' xs} r hm => by
    refine ⟨fun b u z => ?_, r.len, r.inj, fun i a o h1 h2 => ?_⟩
    · have hb : b ≠ D := fun w => by rw [w, hm] at z; cases z
      rw [upd_ne hb]
      exact r.sub b u z
    · have q := r.ob i a o h1 h2
      have ha : a ≠ D := fun w => hn1 (by rw [← w]; exact List.mem_of_getElem? h1)
      exact q.mono (Same.refl _) (Pre.refl _) (fun z => z) fun u hu => by rw [upd_ne ha]; exact hu
  refine ⟨fun i m H' => m = ds.length - i ∧ i ≤ ds.length ∧ ∃ M' st' acc xs, Ext M1 ρ1 H1 M' ρ1 H' ∧ Rep N M' ρ1 st' H' ∧ M' D = none ∧ H' D = some (.lst xs) ∧ Rps N M' acc xs ∧ I i acc st',
    ⟨ds.length, by simp, Nat.zero_le _, M1, st1, [], [], ⟨Same.refl _, Pre.refl _, (Fr.refl _ _).new hD, fun _ h => .inl h, fun _ h => .inl h⟩, rD r1 hm1, hm1, upd_same, rfl, h0⟩, ?_⟩
  rintro i m H' ⟨rfl, hi, M', st', acc, xs, E', r', hm', hD', ra, hI⟩
  have hlen : st'.length = st1.length := by rw [← r'.len, r1.len]
  by_cases hlt : i < ds.length
  · refine .inr ⟨gd.go i M' H' E'.mm r'.sub hlt, fun H3 => ∃ M3 st3 acc xs, Ext M1 ρ1 H1 M3 ρ1 H3 ∧ Rep N M3 ρ1 st3 H3 ∧ M3 D = none ∧ H3 D = some (.lst xs) ∧ Rps N M3 acc xs ∧ I (i + 1) acc st3, fun H3 q => ⟨ds.length - (i + 1), by omega, rfl, hlt, q⟩, fun v H2 y => ?_⟩
    obtain ⟨d, M2, hd, E2, r2, rd⟩ := gd.item E' r' hlt y
    have keep : ∀ {M3 : Hp} {ρ3 : List Addr} {H3 : Hp}, Ext M' ρ1 H' M3 ρ3 H3 → H3 D = some (.lst xs) ∧ M3 D = none := fun {M3 ρ3 H3} E3 => ⟨E3.fr D _ hD' hn1, by
      cases z : M3 D with
      | none => rfl
      | some u =>
        rcases E3.nw D (by rw [z]; exact fun w => nomatch w) with w | w | w
        · exact absurd hm' w
        · rw [hD'] at w; cases w
        · exact absurd w hn1⟩
    refine g2.ok rd r2.sub (wipe_rs (c.rs.ext (E1.trans (E'.trans E2))) vs) (hstep i d acc st' hd hI hlen) fun σ2 h2 σV2 s2 hw => ⟨by rw [hw, wipe_wipe], ?_⟩
    have k2 : Kx N W0 M2 ρ1 σ2 st' H2 σV2 exF := ⟨r2, s2, fun _ _ _ h => False.elim h⟩
    refine Lf.of k2 h2 fun bb st2 hk2 v2 M3 ρ3 H3 E3 c3 r3 => ?_
    rw [show v2 = bb from r3]
    refine ⟨fun z => Lf.of c3 (hk2.1 z) fun y st3 hk3 yv M4 ρ4 H4 E4 c4 r4 => ?_, fun z => ?_⟩
    · have EE := E2.trans (E3.trans E4)
      obtain ⟨g3, g4⟩ := keep EE
      obtain ⟨E5, e5⟩ := (E'.trans EE).cut r1.len
      have q1 := c4.rep.tr st1.length
      rw [e5] at q1
      have ra4 := (Rps.ext ra EE).append (Rps.cons r4 .nil)
      refine ⟨xs, g3, by rw [ra.length, sizeLine_eq]; omega, M4, _, _, _, ⟨E5.mm, E5.pre, E5.fr.loc hD, E5.nw, E5.rn⟩, rD q1 g4, g4, upd_same, ra4, hk3.2⟩
    · have EE := E2.trans E3
      obtain ⟨g3, g4⟩ := keep EE
      obtain ⟨E5, e5⟩ := (E'.trans EE).cut r1.len
      have q1 := c3.rep.tr st1.length
      rw [e5] at q1
      exact ⟨M3, _, _, xs, E5, q1, g4, g3, Rps.ext ra EE, hk2.2 z⟩
  · have e : i = ds.length := by omega
    subst e
    exact .inl ⟨gd.stop _ M' H' E'.mm r'.sub (Nat.le_refl _), q _ _ (hend acc st' hI hlen) D M' ρ1 H' xs (E1.trans E') r' hm' hn1 hH hD' ra⟩
theorem gsok_nil {vs : List Nat} : GsOk N vs [] gNil := ⟨fun {ds us M H ρ σ σV k Q} r s rs h q => by
  cases ds with
  | nil => exact ⟨r, q _ h _ rs rfl⟩
  | cons _ _ => exact False.elim h⟩
theorem gsok_cons {vs : List Nat} {g : DG} {gs : List DG} {gV : TG} {gsV : TGs} (a2 : GOk N vs g gV) (b2 : GsOk N vs gs gsV) : GsOk N vs (g :: gs) (gCons gV gsV) := ⟨fun {ds us M H ρ σ σV k Q} r s rs h q => by
  cases ds with
  | nil => exact False.elim h
  | cons d ds =>
    obtain ⟨v, us', rfl, r1, r2⟩ := r
    refine ⟨v, us', rfl, a2.ok r1 s rs h fun σ1 h1 σV1 rs1 w1 => b2.ok r2 s rs1 h1 fun σ2 h2 σV2 rs2 w2 => q _ h2 _ rs2 (w2.trans w1)⟩⟩
theorem gok_tup {vs : List Nat} {gs : List DG} {gsV : TGs} {n : Nat} (b2 : GsOk N vs gs gsV) (hn : gs.length = n := by rfl) : GOk N vs (gT gs) (gTup N.K n gsV) := ⟨fun {d v M H ρ σ σV k Q} r s rs h q => by
  subst hn
  cases d <;> try exact False.elim h
  obtain ⟨p, xs, rfl, h1, h2⟩ := r
  exact ⟨p, xs, rfl, s.tup h1, by rw [h2.length]; exact h.1, b2.ok h2 s rs h.2 q⟩⟩
theorem Rep.adopt {M H : Hp} {ρ : List Addr} {st : Sto} (r : Rep N M ρ st H) {p : Addr} {u : HO} (hm : M p = Option.none) (hn : p ∉ ρ) (hu : H p = some u) : Rep N (upd M p u) ρ st H := by
  refine ⟨fun b u' e => ?_, r.len, r.inj, fun i a o h1 h2 => ?_⟩
  · by_cases z : b = p
    · subst z
      rw [upd_same] at e
      cases e
      exact .inl hu
    · rw [upd_ne z] at e
      exact r.sub b u' e
  · have ha : a ≠ p := fun w => hn (by rw [← w]; exact List.mem_of_getElem? h1)
    exact (r.ob i a o h1 h2).mono (same_grow0 hm) (Pre.refl _) (fun z => by rw [upd_ne ha]; exact z) fun u hu => hu
theorem Rep.adoptL {M H : Hp} {ρ : List Addr} {st : Sto} (r : Rep N M ρ st H) {p : Addr} {o : Ob} (hn : p ∉ ρ) (ho : RO N M (ρ ++ [p]) H o p) : Rep N M (ρ ++ [p]) (st ++ [o]) H := by
  refine ⟨r.sub, by rw [List.length_append, List.length_append, r.len]; rfl, fun i j a e1 e2 => ?_, fun i a o' e1 e2 => ?_⟩
  · rw [List.getElem?_append] at e1 e2
    split at e1 <;> split at e2
    · exact r.inj i j a e1 e2
    · exfalso
      have : a = p := by
        cases z : j - ρ.length with
        | zero => rw [z] at e2; simpa using e2.symm
        | succ n => rw [z] at e2; simp at e2
      rw [this] at e1
      exact hn (List.mem_of_getElem? e1)
    · exfalso
      have : a = p := by
        cases z : i - ρ.length with
        | zero => rw [z] at e1; simpa using e1.symm
        | succ n => rw [z] at e1; simp at e1
      rw [this] at e2
      exact hn (List.mem_of_getElem? e2)
    · rename_i h1 h2
      have k1 : i - ρ.length = 0 := by
        have := (List.getElem?_eq_some_iff.mp e1).1
        simpa using this
      have k2 : j - ρ.length = 0 := by
        have := (List.getElem?_eq_some_iff.mp e2).1
        simpa using this
      omega
  · rw [List.getElem?_append] at e1 e2
    split at e1
    · rename_i h1
      rw [if_pos (by rw [← r.len]; exact h1)] at e2
      exact (r.ob i a o' e1 e2).mono (Same.refl _) ⟨[p], rfl⟩ (fun h => h) fun u hu => hu
    · rename_i h1
      rw [if_neg (by rw [← r.len]; exact h1)] at e2
      have k1 : i - ρ.length = 0 := by
        have := (List.getElem?_eq_some_iff.mp e1).1
        simpa using this
      rw [k1] at e1
      rw [← r.len, k1] at e2
      cases e1
      cases e2
      exact ho
theorem lc_D {it : Lv (List D)} {g : DG} {gV : TG} {tt : DT} {te : DD} {vs : List Nat} {σV : L2.St} {H : Hp} {Q : VK} (g2 : GOk N vs g gV) (h : lD N Wx (dLc it g tt te vs) σV H Q) : uLc (lI N Wx it) gV (lT N W0 tt) (lD N W0 te) vs σV H Q := by
  obtain ⟨M, ρ, σ, st, k, ex, c, ht, q⟩ := Kx.open_ h
  refine lc_lift g2 c ht fun acc st' hk p M' ρ' H' xs E r hm hn hH hp ra => ?_
  have E2 : Ext M ρ H (upd M' p (.lst xs)) ρ' H' := ⟨E.mm.trans (same_grow0 hm), E.pre, E.fr, fun a z => by
    by_cases w : a = p
    · exact .inr (.inl (by rw [w]; exact hH))
    · rw [upd_ne w] at z; exact E.nw a z, E.rn⟩
  exact q _ _ hk _ _ ρ' H' E2 (c.step E2 (r.adopt hm hn hp)) ⟨p, xs, rfl, upd_same, ra.mono (same_grow0 hm)⟩
theorem lc_M {it : Lv (List D)} {g : DG} {gV : TG} {tt : DT} {te : DD} {vs : List Nat} {σV : L2.St} {H : Hp} {Q : VK} (g2 : GOk N vs g gV) (h : lW N Wx (dLcM it g tt te vs) σV H Q) : uLc (lI N Wx it) gV (lT N W0 tt) (lD N W0 te) vs σV H Q := by
  obtain ⟨M, ρ, σ, st, k, ex, c, ht, q⟩ := Kx.open_ h
  refine lc_lift g2 c ht fun acc st' hk p M' ρ' H' xs E r hm hn hH hp ra => ?_
  have R := r.adoptL (o := .lst acc) hn ⟨hm, xs, hp, ra⟩
  have E2 : Ext M ρ H M' (ρ' ++ [p]) H' := ⟨E.mm, E.pre.trans ⟨[p], rfl⟩, E.fr, E.nw, fun a z => by
    rcases List.mem_append.mp z with z | z
    · exact E.rn a z
    · rw [List.mem_singleton] at z; rw [z]; exact .inr hH⟩
  exact q _ _ hk _ _ _ H' E2 (c.step E2 R) ⟨p, r.last p, rfl⟩
theorem lW_I {t : DD} {σV : L2.St} {H : Hp} {Q : VK} (h : lW N Wx (dI t) σV H Q) : lD N Wx t σV H Q := by
  obtain ⟨M, ρ, σ, st, k, ex, c, ht, q⟩ := Kx.open_ h
  exact Lf.of c ht fun d st' hk v M' ρ' H' E c' r => q _ _ hk v M' ρ' H' E c' r
theorem yes_ok {N : Kn} : ∀ σV H Q, lT N W0 dYes σV H Q → tYes σV H Q := fun σV H Q h => by
  obtain ⟨M, ρ, σ, st, k, ex, c, ht, q⟩ := Kx.open_ h
  exact q _ _ ht _ M ρ H Ext.refl c rfl
theorem PTs.imp {es : List Expr} {t t' : TT} (h : PTs X es t) (i : ∀ σ H Q, t' σ H Q → t σ H Q) : PTs X es t' := ⟨fun pins s σ H Q I q => h.run pins s σ H Q I (i σ H Q q)⟩
theorem ts_nil {N : Kn} : PTs X [] (lT N W0 dYes) := PTs.imp pts_nil yes_ok
theorem ts_one {N : Kn} {t : DT} (h : PT X e (lT N W0 t)) : PTs X [e] (lT N W0 t) := pts_one h
section
variable {elt iter : Expr} {ifs : List Expr} {scope : Scope} {own : List (Str × Nat)} {it : Lv (List D)} {g : DG} {gV : TG} {tt : DT} {te : DD}
theorem e_lcD (g2 : GOk N (own.map (·.2)) g gV) (hc : X.calm = true) (hN : X.N.Nodup) (hi : PI X tg iter (lI N Wx it)) (ok : BlkOk X.N X.env.scope scope own)
    (hg : ∀ (s : Shared) (H : Hp) (C : Addr) (cl : List (Str × Addr)) (fp : List Addr), PG (X.blk s H scope (compEnvC scope cl C X.env) fp) tg gV) (ht : ∀ (s : Shared) (H : Hp) (C : Addr) (cl : List (Str × Addr)) (fp : List Addr), PTs (X.blk s H scope (compEnvC scope cl C X.env) fp) ifs (lT N W0 tt))
    (he : ∀ (s : Shared) (H : Hp) (C : Addr) (cl : List (Str × Addr)) (fp : List Addr), PE (X.blk s H scope (compEnvC scope cl C X.env) fp) elt (lD N W0 te)) (hs : ∀ x, foldedSetIterable iter X.env x = pure x := by intro _; rfl) :
    PE X (.ListComp elt [⟨tg, iter, ifs, 0⟩] scope pos) (lD N Wx (dLc it g tt te (own.map (·.2)))) := PE.imp (Co.e_lc hc hN hi ok hg ht he hs) fun _ _ _ => lc_D g2
theorem e_lcM (g2 : GOk N (own.map (·.2)) g gV) (hc : X.calm = true) (hN : X.N.Nodup) (hi : PI X tg iter (lI N Wx it)) (ok : BlkOk X.N X.env.scope scope own)
    (hg : ∀ (s : Shared) (H : Hp) (C : Addr) (cl : List (Str × Addr)) (fp : List Addr), PG (X.blk s H scope (compEnvC scope cl C X.env) fp) tg gV) (ht : ∀ (s : Shared) (H : Hp) (C : Addr) (cl : List (Str × Addr)) (fp : List Addr), PTs (X.blk s H scope (compEnvC scope cl C X.env) fp) ifs (lT N W0 tt))
    (he : ∀ (s : Shared) (H : Hp) (C : Addr) (cl : List (Str × Addr)) (fp : List Addr), PE (X.blk s H scope (compEnvC scope cl C X.env) fp) elt (lD N W0 te)) (hs : ∀ x, foldedSetIterable iter X.env x = pure x := by intro _; rfl) :
    PE X (.ListComp elt [⟨tg, iter, ifs, 0⟩] scope pos) (lW N Wx (dLcM it g tt te (own.map (·.2)))) := PE.imp (Co.e_lc hc hN hi ok hg ht he hs) fun _ _ _ => lc_M g2
variable {i : Nat} {y : Str} {py spos : Pos}
theorem s_setLcD (g2 : GOk N (own.map (·.2)) g gV) (hc : X.calm = true) (hN : X.N.Nodup) (hy : X.N[i]? = some y) (hyl : X.env.scope.names.lookup y = some .local)
    (hsw : swapsWith (.ListComp elt [⟨tg, iter, ifs, 0⟩] scope pos) (some (.Name y py)) spos.line X.env = pure true) (hi : PI X tg iter (lI N Wx it)) (ok : BlkOk X.N X.env.scope scope own)
    (hg : ∀ (s : Shared) (H : Hp) (C : Addr) (cl : List (Str × Addr)) (fp : List Addr), PG (X.blk s H scope (compEnvC scope cl C X.env) fp) tg gV) (ht : ∀ (s : Shared) (H : Hp) (C : Addr) (cl : List (Str × Addr)) (fp : List Addr), PTs (X.blk s H scope (compEnvC scope cl C X.env) fp) ifs (lT N W0 tt))
    (he : ∀ (s : Shared) (H : Hp) (C : Addr) (cl : List (Str × Addr)) (fp : List Addr), PE (X.blk s H scope (compEnvC scope cl C X.env) fp) elt (lD N W0 te)) (hs : ∀ x, foldedSetIterable iter X.env x = pure x := by intro _; rfl) :
    PS X (.Assign [.Name y py] (.ListComp elt [⟨tg, iter, ifs, 0⟩] scope pos) spos) (lS N Wx (sAsg i (dI (dLc it g tt te (own.map (·.2)))))) := s_asg (PS.imp (Co.s_setLc hc hN hy hyl hsw hi ok hg ht he hs) fun _ _ _ h => lc_D g2 (lW_I h))
theorem s_setLcM (g2 : GOk N (own.map (·.2)) g gV) (hc : X.calm = true) (hN : X.N.Nodup) (hy : X.N[i]? = some y) (hyl : X.env.scope.names.lookup y = some .local)
    (hsw : swapsWith (.ListComp elt [⟨tg, iter, ifs, 0⟩] scope pos) (some (.Name y py)) spos.line X.env = pure true) (hi : PI X tg iter (lI N Wx it)) (ok : BlkOk X.N X.env.scope scope own)
    (hg : ∀ (s : Shared) (H : Hp) (C : Addr) (cl : List (Str × Addr)) (fp : List Addr), PG (X.blk s H scope (compEnvC scope cl C X.env) fp) tg gV) (ht : ∀ (s : Shared) (H : Hp) (C : Addr) (cl : List (Str × Addr)) (fp : List Addr), PTs (X.blk s H scope (compEnvC scope cl C X.env) fp) ifs (lT N W0 tt))
    (he : ∀ (s : Shared) (H : Hp) (C : Addr) (cl : List (Str × Addr)) (fp : List Addr), PE (X.blk s H scope (compEnvC scope cl C X.env) fp) elt (lD N W0 te)) (hs : ∀ x, foldedSetIterable iter X.env x = pure x := by intro _; rfl) :
    PS X (.Assign [.Name y py] (.ListComp elt [⟨tg, iter, ifs, 0⟩] scope pos) spos) (lS N Wx (sAsg i (dLcM it g tt te (own.map (·.2))))) := s_asg (PS.imp (Co.s_setLc hc hN hy hyl hsw hi ok hg ht he hs) fun _ _ _ h => lc_M g2 h)
end
end
end Dl
end

section
set_option maxHeartbeats 4000000
namespace Dl
open PySem PySem.Spec PyProof.Rows L2 Co
mutual
def eqvD : D → D → Bool
  | .non, .non => true
  | .bl a, .bl b => a == b
  | .bl a, .int j => (if a then 1 else 0) == j
  | .int i, .bl b => i == (if b then 1 else 0)
  | .int i, .int j => i == j
  | .str x, .str y => x == y
  | .lst xs, .lst ys => eqvDs xs ys
  | .tup xs, .tup ys => eqvDs xs ys
  | _, _ => false
def eqvDs : List D → List D → Bool
  | [], [] => true
  | x :: xs, y :: ys => eqvD x y && eqvDs xs ys
  | _, _ => false
end
def shp : Nat → D → Bool
  | _, .non => true
  | _, .bl _ => true
  | _, .int _ => true
  | _, .str _ => true
  | n + 1, .tup ds => ds.all (shp n)
  | n + 1, .lst ds => ds.all (shp n)
  | _, _ => false
theorem shp_mono : ∀ (n : Nat) (d : D), shp n d = true → shp (n + 1) d = true
  | n, .non, _ => rfl
  | n, .bl _, _ => rfl
  | n, .int _, _ => rfl
  | n, .str _, _ => rfl
  | 0, .tup ds, h => by cases h
  | 0, .lst ds, h => by cases h
  | n + 1, .tup ds, h => List.all_eq_true.mpr fun d hd => shp_mono n d (List.all_eq_true.mp h d hd)
  | n + 1, .lst ds, h => List.all_eq_true.mpr fun d hd => shp_mono n d (List.all_eq_true.mp h d hd)
  | 0, .ty _, h => by cases h
  | n + 1, .ty _, h => by cases h
  | 0, .glo _, h => by cases h
  | n + 1, .glo _, h => by cases h
  | 0, .scr _, h => by cases h
  | n + 1, .scr _, h => by cases h
  | 0, .dct _ _, h => by cases h
  | n + 1, .dct _ _, h => by cases h
  | 0, .dcT _ _, h => by cases h
  | n + 1, .dcT _ _, h => by cases h
  | 0, .ins _ _ _, h => by cases h
  | n + 1, .ins _ _ _, h => by cases h
mutual
theorem eqvD_refl : ∀ (d : D) (n : Nat), shp n d = true → eqvD d d = true
  | .non, _, _ => rfl
  | .bl b, _, _ => by simp [eqvD]
  | .int i, _, _ => by simp [eqvD]
  | .str x, _, _ => by simp [eqvD]
  | .tup ds, 0, h => by cases h
  | .lst ds, 0, h => by cases h
  | .tup ds, n + 1, h => by rw [eqvD]; exact eqvDs_refl ds n h
  | .lst ds, n + 1, h => by rw [eqvD]; exact eqvDs_refl ds n h
  | .ty _, n, h => by cases n <;> cases h
  | .glo _, n, h => by cases n <;> cases h
  | .scr _, n, h => by cases n <;> cases h
  | .dct _ _, n, h => by cases n <;> cases h
  | .dcT _ _, n, h => by cases n <;> cases h
  | .ins _ _ _, n, h => by cases n <;> cases h
theorem eqvDs_refl : ∀ (ds : List D) (n : Nat), ds.all (shp n) = true → eqvDs ds ds = true
  | [], _, _ => rfl
  | d :: ds, n, h => by
    rw [List.all_cons, Bool.and_eq_true] at h
    rw [eqvDs, eqvD_refl d n h.1, eqvDs_refl ds n h.2]
    rfl
end
theorem eqvDs_at : ∀ (xs ys : List D), eqvDs xs ys = ((List.range (min xs.length ys.length)).all (fun j => eqvD (xs.getD j .non) (ys.getD j .non)) && xs.length == ys.length)
  | [], [] => rfl
  | [], y :: ys => by simp [eqvDs]
  | x :: xs, [] => by simp [eqvDs]
  | x :: xs, y :: ys => by
    rw [eqvDs, eqvDs_at xs ys, List.length_cons, List.length_cons, Nat.succ_min_succ, List.range_succ_eq_map, List.all_cons, List.all_map]
    have e1 : ((fun j => eqvD ((x :: xs).getD j .non) ((y :: ys).getD j .non)) ∘ Nat.succ) = fun j => eqvD (xs.getD j .non) (ys.getD j .non) := by
      funext j
      simp
    rw [e1]
    have e2 : (xs.length + 1 == ys.length + 1) = (xs.length == ys.length) := by
      by_cases z : xs.length = ys.length
      · simp [z]
      · rw [beq_eq_false_iff_ne.mpr z, beq_eq_false_iff_ne.mpr (by omega)]
    rw [e2, Bool.and_assoc]
    rfl
section
variable {X : Cx} {pins : List (Addr × Obj)} {σ : L2.St} {F H : Hp} {s : Shared} {N : Kn}
mutual
theorem rp_inj (I : Inv X pins σ H s) (hK : N.K = X.K) (sub : Sub F H) : ∀ (d e : D) (n : Nat) (v : V), shp n d = true → shp n e = true → Rp N F d v → Rp N F e v → d = e
  | .non, e, n, v, h1, h2, r1, r2 => by
    cases r1
    cases e <;> first | rfl | (cases r2; done) | (obtain ⟨_, _, z, _⟩ := r2; cases z; done) | (obtain ⟨_, z, _⟩ := r2; cases z; done) | (cases n <;> cases h2 <;> done)
  | .bl b, e, n, v, h1, h2, r1, r2 => by
    cases r1
    cases e <;> first | (cases r2; rfl) | (cases r2; done) | (obtain ⟨_, _, z, _⟩ := r2; cases z; done) | (obtain ⟨_, z, _⟩ := r2; cases z; done) | (cases n <;> cases h2 <;> done)
  | .int b, e, n, v, h1, h2, r1, r2 => by
    cases r1
    cases e <;> first | (cases r2; rfl) | (cases r2; done) | (obtain ⟨_, _, z, _⟩ := r2; cases z; done) | (obtain ⟨_, z, _⟩ := r2; cases z; done) | (cases n <;> cases h2 <;> done)
  | .str b, e, n, v, h1, h2, r1, r2 => by
    cases r1
    cases e <;> first | (cases r2; rfl) | (cases r2; done) | (obtain ⟨_, _, z, _⟩ := r2; cases z; done) | (obtain ⟨_, z, _⟩ := r2; cases z; done) | (cases n <;> cases h2 <;> done)
  | .tup xs, e, 0, v, h1, h2, r1, r2 => by cases h1
  | .lst xs, e, 0, v, h1, h2, r1, r2 => by cases h1
  | .tup xs, e, n + 1, v, h1, h2, r1, r2 => by
    obtain ⟨p, vs, rfl, f1, g1⟩ := r1
    cases e <;> first | (cases r2; done) | (cases h2; done) | skip
    · obtain ⟨p2, vs2, z, f2, g2⟩ := r2
      cases z
      have := I.tuple_inj (hK ▸ sub.tup f1) (hK ▸ sub.tup f2)
      subst this
      rw [rps_inj I hK sub xs _ n vs h1 h2 g1 g2]
    · obtain ⟨p2, vs2, z, f2, g2⟩ := r2
      cases z
      obtain ⟨its, _, ⟨o, ho, hc, _⟩, _⟩ := I.tuple (hK ▸ sub.tup f1)
      obtain ⟨its2, _, ⟨o2, n2, ho2, hc2, _⟩, _⟩ := I.list (SqL.of (sub.lst1 f2))
      rw [ho] at ho2
      cases ho2
      rw [hc] at hc2
      exact absurd hc2 (by decide)
  | .lst xs, e, n + 1, v, h1, h2, r1, r2 => by
    obtain ⟨p, vs, rfl, f1, g1⟩ := r1
    cases e <;> first | (cases r2; done) | (cases h2; done) | skip
    · obtain ⟨p2, vs2, z, f2, g2⟩ := r2
      cases z
      obtain ⟨its, _, ⟨o, ho, hc, _⟩, _⟩ := I.tuple (hK ▸ sub.tup f2)
      obtain ⟨its2, _, ⟨o2, n2, ho2, hc2, _⟩, _⟩ := I.list (SqL.of (sub.lst1 f1))
      rw [ho] at ho2
      cases ho2
      rw [hc] at hc2
      exact absurd hc2 (by decide)
    · obtain ⟨p2, vs2, z, f2, g2⟩ := r2
      cases z
      rw [f1] at f2
      cases f2
      rw [rps_inj I hK sub xs _ n vs h1 h2 g1 g2]
  | .ty _, e, n, v, h1, h2, r1, r2 => by cases n <;> cases h1
  | .glo _, e, n, v, h1, h2, r1, r2 => by cases n <;> cases h1
  | .scr _, e, n, v, h1, h2, r1, r2 => by cases n <;> cases h1
  | .dct _ _, e, n, v, h1, h2, r1, r2 => by cases n <;> cases h1
  | .dcT _ _, e, n, v, h1, h2, r1, r2 => by cases n <;> cases h1
  | .ins _ _ _, e, n, v, h1, h2, r1, r2 => by cases n <;> cases h1
theorem rps_inj (I : Inv X pins σ H s) (hK : N.K = X.K) (sub : Sub F H) : ∀ (xs ys : List D) (n : Nat) (vs : List V), xs.all (shp n) = true → ys.all (shp n) = true → Rps N F xs vs → Rps N F ys vs → xs = ys
  | [], ys, n, vs, h1, h2, r1, r2 => by
    have : vs = [] := r1
    subst this
    have := r2.length
    exact (List.eq_nil_of_length_eq_zero (by simpa using this.symm)).symm
  | x :: xs, [], n, vs, h1, h2, r1, r2 => by
    have : vs = [] := r2
    subst this
    have := r1.length
    simp at this
  | x :: xs, y :: ys, n, vs, h1, h2, ⟨v, r, e1, a1, a2⟩, ⟨v', r', e2, b1, b2⟩ => by
    rw [e1] at e2
    cases e2
    rw [List.all_cons, Bool.and_eq_true] at h1 h2
    rw [rp_inj I hK sub x y n v h1.1 h2.1 a1 b1, rps_inj I hK sub xs ys n r h1.2 h2.2 a2 b2]
end
theorem item_eq {m : Nat} (ih : ∀ k, m + 1 = k + 1 → ∀ (A : Around) (d e : D) (v w : V) (u u' : Value), shp k d = true → shp k e = true → Rp N F d v → Rp N F e w → RelV v u → RelV w u' → A.units + k < cLine → SeqAt.EqAt A s u u' (eqvD d e)) {A : Around} {xs ys : List D} {vs vs2 : List V} {its its2 : List Value}
    (g : Rps N F xs vs) (g2 : Rps N F ys vs2) (rv : Vals vs its) (rv2 : Vals vs2 its2) (s1 : xs.all (shp m) = true) (s2 : ys.all (shp m) = true) (hn : A.units + m < cLine) (j : Nat) (j1 : j < xs.length) (j2 : j < ys.length) (h1 : j < its.toArray.size := by simpa using (by have := g.length; have := rv.length; omega)) (h2 : j < its2.toArray.size := by simpa using (by have := g2.length; have := rv2.length; omega)) :
    SeqAt.EqAt A s its.toArray[j] its2.toArray[j] (eqvD (xs.getD j .non) (ys.getD j .non)) := by
  obtain ⟨v, a1, a2⟩ := g.get (i := j) (d := xs[j]) (by simp [j1])
  obtain ⟨u, a3, a4⟩ := rv.get a1
  obtain ⟨w, b1, b2⟩ := g2.get (i := j) (d := ys[j]) (by simp [j2])
  obtain ⟨u', b3, b4⟩ := rv2.get b1
  have e1 : its.toArray[j] = u := by
    have := (List.getElem?_eq_some_iff.mp a3).2
    simpa using this
  have e2 : its2.toArray[j] = u' := by
    have := (List.getElem?_eq_some_iff.mp b3).2
    simpa using this
  have e3 : xs.getD j .non = xs[j] := by simp [List.getD, j1]
  have e4 : ys.getD j .non = ys[j] := by simp [List.getD, j2]
  rw [e1, e2, e3, e4]
  exact ih m rfl A _ _ v w u u' (List.all_eq_true.mp s1 _ (List.getElem_mem j1)) (List.all_eq_true.mp s2 _ (List.getElem_mem j2)) a2 b2 a4 b4 hn
theorem eq_both (I : Inv X pins σ H s) (hK : N.K = X.K) (sub : Sub F H) (n : Nat) (ih : ∀ m, n = m + 1 → ∀ (A : Around) (d e : D) (v w : V) (u u' : Value), shp m d = true → shp m e = true → Rp N F d v → Rp N F e w → RelV v u → RelV w u' → A.units + m < cLine → SeqAt.EqAt A s u u' (eqvD d e)) :
    ∀ (A : Around) (d e : D) (v w : V) (u u' : Value), shp n d = true → shp n e = true → Rp N F d v → Rp N F e w → RelV v u → RelV w u' → A.units + n < cLine → SeqAt.EqAt A s u u' (eqvD d e) ∧ SeqAt.RcAt A s u u' (eqvD d e) ∧ SeqAt.RcNeAt A s u u' (!eqvD d e) := by
  intro A d e v w u u' s1 s2 r1 r2 q1 q2 hn
  have hu : A.units < cLine := by omega
  have K1 : ∀ {a : Addr} {vs : List V}, H a = some (.lst vs) → SqL X.K H a vs := fun h => SqL.of h
  have K2 : ∀ {a : Addr} {vs : List V}, SqT N.K H a vs → SqT X.K H a vs := fun h => hK ▸ h
  open SeqAt in
  exact match d, e, s1, s2, r1, r2 with
  | .non, .non, s1, s2, r1, r2 => by
    cases r1; cases q1; cases r2; cases q2; exact ⟨EqAt.same _, RcAt.none_none, RcNeAt.none_none⟩
  | .non, .bl y, s1, s2, r1, r2 => by
    cases r1; cases q1; cases r2; cases q2; exact ⟨EqAt.none_bool y, RcAt.none_bool y, RcNeAt.none_bool y⟩
  | .non, .int y, s1, s2, r1, r2 => by
    cases r1; cases q1; cases r2; obtain ⟨t2, rfl⟩ := q2; exact ⟨EqAt.none_int y t2, RcAt.none_int y t2, RcNeAt.none_int y t2⟩
  | .non, .str y, s1, s2, r1, r2 => by
    cases r1; cases q1; cases r2; obtain ⟨t2, rfl⟩ := q2; exact ⟨EqAt.none_str y t2, RcAt.none_str y t2, RcNeAt.none_str y t2⟩
  | .non, .lst ys, s1, s2, r1, r2 => by
    cases r1; cases q1; obtain ⟨p2, vs2, rfl, f2, g2⟩ := r2; cases q2; obtain ⟨its2, rv2, hl2, _⟩ := I.list (K1 (sub.lst1 f2)); exact ⟨EqAt.none_list hl2.isList hu, RcAt.none_list hl2.isList hu, RcNeAt.none_list hl2.isList hu⟩
  | .non, .tup ys, s1, s2, r1, r2 => by
    cases r1; cases q1; obtain ⟨p2, vs2, rfl, f2, g2⟩ := r2; cases q2; obtain ⟨its2, rv2, hl2, _⟩ := I.tuple (K2 (sub.tup f2)); exact ⟨EqAt.none_tuple hl2 hu, RcAt.none_tuple hl2 hu, RcNeAt.none_tuple hl2 hu⟩
  | .bl x, .non, s1, s2, r1, r2 => by
    cases r1; cases q1; cases r2; cases q2; exact ⟨EqAt.bool_none x, RcAt.bool_none x, RcNeAt.bool_none x⟩
  | .bl x, .bl y, s1, s2, r1, r2 => by
    cases r1; cases q1; cases r2; cases q2; exact ⟨EqAt.bool_bool x y, RcAt.bool_bool x y, RcNeAt.bool_bool x y⟩
  | .bl x, .int y, s1, s2, r1, r2 => by
    cases r1; cases q1; cases r2; obtain ⟨t2, rfl⟩ := q2; exact ⟨EqAt.bool_int x y t2, RcAt.bool_int x y t2, RcNeAt.bool_int x y t2⟩
  | .bl x, .str y, s1, s2, r1, r2 => by
    cases r1; cases q1; cases r2; obtain ⟨t2, rfl⟩ := q2; exact ⟨EqAt.bool_str x y t2, RcAt.bool_str x y t2, RcNeAt.bool_str x y t2⟩
  | .bl x, .lst ys, s1, s2, r1, r2 => by
    cases r1; cases q1; obtain ⟨p2, vs2, rfl, f2, g2⟩ := r2; cases q2; obtain ⟨its2, rv2, hl2, _⟩ := I.list (K1 (sub.lst1 f2)); exact ⟨EqAt.bool_list x hl2.isList hu, RcAt.bool_list x hl2.isList hu, RcNeAt.bool_list x hl2.isList hu⟩
  | .bl x, .tup ys, s1, s2, r1, r2 => by
    cases r1; cases q1; obtain ⟨p2, vs2, rfl, f2, g2⟩ := r2; cases q2; obtain ⟨its2, rv2, hl2, _⟩ := I.tuple (K2 (sub.tup f2)); exact ⟨EqAt.bool_tuple x hl2 hu, RcAt.bool_tuple x hl2 hu, RcNeAt.bool_tuple x hl2 hu⟩
  | .int x, .non, s1, s2, r1, r2 => by
    cases r1; obtain ⟨t, rfl⟩ := q1; cases r2; cases q2; exact ⟨EqAt.int_none x t, RcAt.int_none x t, RcNeAt.int_none x t⟩
  | .int x, .bl y, s1, s2, r1, r2 => by
    cases r1; obtain ⟨t, rfl⟩ := q1; cases r2; cases q2; exact ⟨EqAt.int_bool x t y, RcAt.int_bool x t y, RcNeAt.int_bool x t y⟩
  | .int x, .int y, s1, s2, r1, r2 => by
    cases r1; obtain ⟨t, rfl⟩ := q1; cases r2; obtain ⟨t2, rfl⟩ := q2; exact ⟨EqAt.int_int x t y t2, RcAt.int_int x t y t2, RcNeAt.int_int x t y t2⟩
  | .int x, .str y, s1, s2, r1, r2 => by
    cases r1; obtain ⟨t, rfl⟩ := q1; cases r2; obtain ⟨t2, rfl⟩ := q2; exact ⟨EqAt.int_str x t y t2, RcAt.int_str x t y t2, RcNeAt.int_str x t y t2⟩
  | .int x, .lst ys, s1, s2, r1, r2 => by
    cases r1; obtain ⟨t, rfl⟩ := q1; obtain ⟨p2, vs2, rfl, f2, g2⟩ := r2; cases q2; obtain ⟨its2, rv2, hl2, _⟩ := I.list (K1 (sub.lst1 f2)); exact ⟨EqAt.int_list x t hl2.isList hu, RcAt.int_list x t hl2.isList hu, RcNeAt.int_list x t hl2.isList hu⟩
  | .int x, .tup ys, s1, s2, r1, r2 => by
    cases r1; obtain ⟨t, rfl⟩ := q1; obtain ⟨p2, vs2, rfl, f2, g2⟩ := r2; cases q2; obtain ⟨its2, rv2, hl2, _⟩ := I.tuple (K2 (sub.tup f2)); exact ⟨EqAt.int_tuple x t hl2 hu, RcAt.int_tuple x t hl2 hu, RcNeAt.int_tuple x t hl2 hu⟩
  | .str x, .non, s1, s2, r1, r2 => by
    cases r1; obtain ⟨t, rfl⟩ := q1; cases r2; cases q2; exact ⟨EqAt.str_none x t, RcAt.str_none x t, RcNeAt.str_none x t⟩
  | .str x, .bl y, s1, s2, r1, r2 => by
    cases r1; obtain ⟨t, rfl⟩ := q1; cases r2; cases q2; exact ⟨EqAt.str_bool x t y, RcAt.str_bool x t y, RcNeAt.str_bool x t y⟩
  | .str x, .int y, s1, s2, r1, r2 => by
    cases r1; obtain ⟨t, rfl⟩ := q1; cases r2; obtain ⟨t2, rfl⟩ := q2; exact ⟨EqAt.str_int x t y t2, RcAt.str_int x t y t2, RcNeAt.str_int x t y t2⟩
  | .str x, .str y, s1, s2, r1, r2 => by
    cases r1; obtain ⟨t, rfl⟩ := q1; cases r2; obtain ⟨t2, rfl⟩ := q2; exact ⟨EqAt.str_str x t y t2, RcAt.str_str x t y t2, RcNeAt.str_str x t y t2⟩
  | .str x, .lst ys, s1, s2, r1, r2 => by
    cases r1; obtain ⟨t, rfl⟩ := q1; obtain ⟨p2, vs2, rfl, f2, g2⟩ := r2; cases q2; obtain ⟨its2, rv2, hl2, _⟩ := I.list (K1 (sub.lst1 f2)); exact ⟨EqAt.str_list x t hl2.isList hu, RcAt.str_list x t hl2.isList hu, RcNeAt.str_list x t hl2.isList hu⟩
  | .str x, .tup ys, s1, s2, r1, r2 => by
    cases r1; obtain ⟨t, rfl⟩ := q1; obtain ⟨p2, vs2, rfl, f2, g2⟩ := r2; cases q2; obtain ⟨its2, rv2, hl2, _⟩ := I.tuple (K2 (sub.tup f2)); exact ⟨EqAt.str_tuple x t hl2 hu, RcAt.str_tuple x t hl2 hu, RcNeAt.str_tuple x t hl2 hu⟩
  | .lst xs, .non, s1, s2, r1, r2 => by
    obtain ⟨p, vs, rfl, f, g⟩ := r1; cases q1; obtain ⟨its, rv, hl, _⟩ := I.list (K1 (sub.lst1 f)); cases r2; cases q2; exact ⟨EqAt.list_none hl.isList hu, RcAt.list_none hl.isList hu, RcNeAt.list_none hl.isList hu⟩
  | .lst xs, .bl y, s1, s2, r1, r2 => by
    obtain ⟨p, vs, rfl, f, g⟩ := r1; cases q1; obtain ⟨its, rv, hl, _⟩ := I.list (K1 (sub.lst1 f)); cases r2; cases q2; exact ⟨EqAt.list_bool y hl.isList hu, RcAt.list_bool y hl.isList hu, RcNeAt.list_bool y hl.isList hu⟩
  | .lst xs, .int y, s1, s2, r1, r2 => by
    obtain ⟨p, vs, rfl, f, g⟩ := r1; cases q1; obtain ⟨its, rv, hl, _⟩ := I.list (K1 (sub.lst1 f)); cases r2; obtain ⟨t2, rfl⟩ := q2; exact ⟨EqAt.list_int y t2 hl.isList hu, RcAt.list_int y t2 hl.isList hu, RcNeAt.list_int y t2 hl.isList hu⟩
  | .lst xs, .str y, s1, s2, r1, r2 => by
    obtain ⟨p, vs, rfl, f, g⟩ := r1; cases q1; obtain ⟨its, rv, hl, _⟩ := I.list (K1 (sub.lst1 f)); cases r2; obtain ⟨t2, rfl⟩ := q2; exact ⟨EqAt.list_str y t2 hl.isList hu, RcAt.list_str y t2 hl.isList hu, RcNeAt.list_str y t2 hl.isList hu⟩
  | .lst xs, .tup ys, s1, s2, r1, r2 => by
    obtain ⟨p, vs, rfl, f, g⟩ := r1; cases q1; obtain ⟨its, rv, hl, _⟩ := I.list (K1 (sub.lst1 f)); obtain ⟨p2, vs2, rfl, f2, g2⟩ := r2; cases q2; obtain ⟨its2, rv2, hl2, _⟩ := I.tuple (K2 (sub.tup f2)); exact ⟨EqAt.list_tuple hl.isList hl2 hu, RcAt.list_tuple hl.isList hl2 hu, RcNeAt.list_tuple hl.isList hl2 hu⟩
  | .tup xs, .non, s1, s2, r1, r2 => by
    obtain ⟨p, vs, rfl, f, g⟩ := r1; cases q1; obtain ⟨its, rv, hl, _⟩ := I.tuple (K2 (sub.tup f)); cases r2; cases q2; exact ⟨EqAt.tuple_none hl hu, RcAt.tuple_none hl hu, RcNeAt.tuple_none hl hu⟩
  | .tup xs, .bl y, s1, s2, r1, r2 => by
    obtain ⟨p, vs, rfl, f, g⟩ := r1; cases q1; obtain ⟨its, rv, hl, _⟩ := I.tuple (K2 (sub.tup f)); cases r2; cases q2; exact ⟨EqAt.tuple_bool y hl hu, RcAt.tuple_bool y hl hu, RcNeAt.tuple_bool y hl hu⟩
  | .tup xs, .int y, s1, s2, r1, r2 => by
    obtain ⟨p, vs, rfl, f, g⟩ := r1; cases q1; obtain ⟨its, rv, hl, _⟩ := I.tuple (K2 (sub.tup f)); cases r2; obtain ⟨t2, rfl⟩ := q2; exact ⟨EqAt.tuple_int y t2 hl hu, RcAt.tuple_int y t2 hl hu, RcNeAt.tuple_int y t2 hl hu⟩
  | .tup xs, .str y, s1, s2, r1, r2 => by
    obtain ⟨p, vs, rfl, f, g⟩ := r1; cases q1; obtain ⟨its, rv, hl, _⟩ := I.tuple (K2 (sub.tup f)); cases r2; obtain ⟨t2, rfl⟩ := q2; exact ⟨EqAt.tuple_str y t2 hl hu, RcAt.tuple_str y t2 hl hu, RcNeAt.tuple_str y t2 hl hu⟩
  | .tup xs, .lst ys, s1, s2, r1, r2 => by
    obtain ⟨p, vs, rfl, f, g⟩ := r1; cases q1; obtain ⟨its, rv, hl, _⟩ := I.tuple (K2 (sub.tup f)); obtain ⟨p2, vs2, rfl, f2, g2⟩ := r2; cases q2; obtain ⟨its2, rv2, hl2, _⟩ := I.list (K1 (sub.lst1 f2)); exact ⟨EqAt.tuple_list hl hl2.isList hu, RcAt.tuple_list hl hl2.isList hu, RcNeAt.tuple_list hl hl2.isList hu⟩
  | .lst xs, .lst ys, s1, s2, r1, r2 => by
    have R1 := r1
    have R2 := r2
    obtain ⟨p, vs, rfl, f, g⟩ := r1; cases q1; obtain ⟨its, rv, hl, _⟩ := I.list (K1 (sub.lst1 f))
    obtain ⟨p2, vs2, rfl, f2, g2⟩ := r2; cases q2; obtain ⟨its2, rv2, hl2, _⟩ := I.list (K1 (sub.lst1 f2))
    have n1 : its.toArray.size = xs.length := by rw [← g.length, rv.length]; simp
    have n2 : its2.toArray.size = ys.length := by rw [← g2.length, rv2.length]; simp
    have rc : RcAt A s (.ref p) (.ref p2) (eqvD (.lst xs) (.lst ys)) := by
      rw [eqvD, eqvDs_at]
      by_cases hsz : xs.length = ys.length
      · rw [hsz, Nat.min_self, beq_self_eq_true, Bool.and_true, ← hsz, ← n1]
        cases n with
        | zero => cases s1
        | succ m =>
          refine RcAt.lists hl.isList hl2.isList (by omega) hu fun j j1 j2 => ?_
          rw [n1] at j1
          rw [n2] at j2
          exact item_eq ih g g2 rv rv2 s1 s2 (by have : A.in1.units = A.units + 1 := rfl; omega) j j1 j2
      · rw [beq_eq_false_iff_ne.mpr hsz, Bool.and_false]
        exact RcAt.lists_lengths hl.isList hl2.isList (by rw [n1, n2]; exact bne_iff_ne.mpr hsz) hu
    have rn : RcNeAt A s (.ref p) (.ref p2) (!eqvD (.lst xs) (.lst ys)) := by
      rw [eqvD, eqvDs_at]
      by_cases hsz : xs.length = ys.length
      · rw [hsz, Nat.min_self, beq_self_eq_true, Bool.and_true, ← hsz, ← n1]
        cases n with
        | zero => cases s1
        | succ m =>
          refine RcNeAt.lists hl.isList hl2.isList (by omega) hu fun j j1 j2 => ?_
          rw [n1] at j1
          rw [n2] at j2
          exact item_eq ih g g2 rv rv2 s1 s2 (by have : A.in1.units = A.units + 1 := rfl; omega) j j1 j2
      · rw [beq_eq_false_iff_ne.mpr hsz, Bool.and_false]
        exact RcNeAt.lists_lengths hl.isList hl2.isList (by rw [n1, n2]; exact bne_iff_ne.mpr hsz) hu
    refine ⟨?_, rc, rn⟩
    by_cases hp : p = p2
    · subst hp
      rw [rp_inj I hK sub _ _ n _ s1 s2 R1 R2, eqvD_refl _ n s2]
      exact EqAt.same _
    · exact EqAt.of_refs hp rc
  | .tup xs, .tup ys, s1, s2, r1, r2 => by
    have R1 := r1
    have R2 := r2
    obtain ⟨p, vs, rfl, f, g⟩ := r1; cases q1; obtain ⟨its, rv, hl, _⟩ := I.tuple (K2 (sub.tup f))
    obtain ⟨p2, vs2, rfl, f2, g2⟩ := r2; cases q2; obtain ⟨its2, rv2, hl2, _⟩ := I.tuple (K2 (sub.tup f2))
    have n1 : its.toArray.size = xs.length := by rw [← g.length, rv.length]; simp
    have n2 : its2.toArray.size = ys.length := by rw [← g2.length, rv2.length]; simp
    have rc : RcAt A s (.ref p) (.ref p2) (eqvD (.tup xs) (.tup ys)) := by
      rw [eqvD, eqvDs_at, ← n1, ← n2]
      cases n with
      | zero => cases s1
      | succ m =>
        refine RcAt.tuples (show s.heap.IsTuple p its.toArray from hl) (show s.heap.IsTuple p2 its2.toArray from hl2) hu fun j j1 j2 => ?_
        rw [n1] at j1
        rw [n2] at j2
        exact item_eq ih g g2 rv rv2 s1 s2 (by have : A.in1.units = A.units + 1 := rfl; omega) j j1 j2
    have rn : RcNeAt A s (.ref p) (.ref p2) (!eqvD (.tup xs) (.tup ys)) := by
      rw [eqvD, eqvDs_at, ← n1, ← n2]
      cases n with
      | zero => cases s1
      | succ m =>
        refine RcNeAt.tuples (show s.heap.IsTuple p its.toArray from hl) (show s.heap.IsTuple p2 its2.toArray from hl2) hu fun j j1 j2 => ?_
        rw [n1] at j1
        rw [n2] at j2
        exact item_eq ih g g2 rv rv2 s1 s2 (by have : A.in1.units = A.units + 1 := rfl; omega) j j1 j2
    refine ⟨?_, rc, rn⟩
    by_cases hp : p = p2
    · subst hp
      rw [rp_inj I hK sub _ _ n _ s1 s2 R1 R2, eqvD_refl _ n s2]
      exact EqAt.same _
    · exact EqAt.of_refs hp rc
  | .ty _, _, s1, _, _, _ => by cases n <;> cases s1
  | .glo _, _, s1, _, _, _ => by cases n <;> cases s1
  | .scr _, _, s1, _, _, _ => by cases n <;> cases s1
  | .dct _ _, _, s1, _, _, _ => by cases n <;> cases s1
  | .dcT _ _, _, s1, _, _, _ => by cases n <;> cases s1
  | .ins _ _ _, _, s1, _, _, _ => by cases n <;> cases s1
  | _, .ty _, _, s2, _, _ => by cases n <;> cases s2
  | _, .glo _, _, s2, _, _ => by cases n <;> cases s2
  | _, .scr _, _, s2, _, _ => by cases n <;> cases s2
  | _, .dct _ _, _, s2, _, _ => by cases n <;> cases s2
  | _, .dcT _ _, _, s2, _, _ => by cases n <;> cases s2
  | _, .ins _ _ _, _, s2, _, _ => by cases n <;> cases s2
end
end Dl
end

section
set_option maxHeartbeats 4000000
namespace Dl
open PySem PySem.Spec PyProof.Rows L2 Co
section
variable {X : Cx} {pins : List (Addr × Obj)} {F H : Hp} {s : Shared} {N : Kn}
theorem eqAt_d {σ : L2.St} (I : Inv X pins σ H s) (hK : N.K = X.K) (sub : Sub F H) : ∀ (n : Nat) (A : Around) (d e : D) (v w : V) (u u' : Value), shp n d = true → shp n e = true → Rp N F d v → Rp N F e w → RelV v u → RelV w u' → A.units + n < cLine → SeqAt.EqAt A s u u' (eqvD d e)
  | 0 => fun A d e v w u u' s1 s2 r1 r2 q1 q2 h => (eq_both I hK sub 0 (fun m e => absurd e (by omega)) A d e v w u u' s1 s2 r1 r2 q1 q2 h).1
  | n + 1 => fun A d e v w u u' s1 s2 r1 r2 q1 q2 h => (eq_both I hK sub (n + 1) (fun m e => by cases e; exact eqAt_d I hK sub n) A d e v w u u' s1 s2 r1 r2 q1 q2 h).1
theorem rcAt_d {σ : L2.St} (I : Inv X pins σ H s) (hK : N.K = X.K) (sub : Sub F H) (n : Nat) {A : Around} {d e : D} {v w : V} {u u' : Value} (s1 : shp n d = true) (s2 : shp n e = true) (r1 : Rp N F d v) (r2 : Rp N F e w) (q1 : RelV v u) (q2 : RelV w u') (h : A.units + n < cLine) :
    SeqAt.RcAt A s u u' (eqvD d e) ∧ SeqAt.RcNeAt A s u u' (!eqvD d e) := by
  cases n with
  | zero => exact (eq_both I hK sub 0 (fun m e => absurd e (by omega)) A d e v w u u' s1 s2 r1 r2 q1 q2 h).2
  | succ n => exact (eq_both I hK sub (n + 1) (fun m e => by cases e; exact eqAt_d I hK sub n) A d e v w u u' s1 s2 r1 r2 q1 q2 h).2
end
def eqSD : D → D → Option Bool
  | .non, .non => some true | .non, .int _ => some false | .int _, .non => some false | .non, .bl _ => some false | .bl _, .non => some false | .non, .str _ => some false | .str _, .non => some false
  | .int i, .int j => some (decide (i = j)) | .bl i, .bl j => some (decide (i = j)) | .str i, .str j => some (decide (i = j))
  | .int _, .str _ => some false | .str _, .int _ => some false | .bl _, .str _ => some false | .str _, .bl _ => some false
  | _, _ => none
def cEq : C2 := fun x y k => match eqSD x y with
  | some b => k b
  | none => shp 60 x = true ∧ shp 60 y = true ∧ k (eqvD x y)
def cNe : C2 := fun x y k => match eqSD x y with
  | some b => k (!b)
  | none => shp 60 x = true ∧ shp 60 y = true ∧ k (!eqvD x y)
section
variable {X : Cx} {b : Bool} {Wx : WX} {e e1 e2 e3 : Expr} {pos : Pos} {N : Kn}
def rEqW (K : PySem.W.Frag) (neg : Bool) : R2 := fun x y H Q => ∃ (N : Kn) (F : Hp) (d e : D), N.K = K ∧ Sub F H ∧ Rp N F d x ∧ Rp N F e y ∧ shp 60 d = true ∧ shp 60 e = true ∧ Q (.bl (if neg = true then !eqvD d e else eqvD d e)) H
theorem op_eqW (hu : X.A.units + 64 < cLine) : OpR X (compareOp .Eq) (rEqW X.K false) := by
  intro pins s σ H x y v u Q I rx ry h
  obtain ⟨N, F, d, e, hK, sub, hd, he, sd, se, q⟩ := h
  exact (rcAt_d I hK sub 60 sd se hd he rx ry (by omega)).1 _ _ _ _ ⟨.bl _, H, I, rfl, q⟩
theorem op_neW (hu : X.A.units + 64 < cLine) : OpR X (compareOp .NotEq) (rEqW X.K true) := by
  intro pins s σ H x y v u Q I rx ry h
  obtain ⟨N, F, d, e, hK, sub, hd, he, sd, se, q⟩ := h
  exact (rcAt_d I hK sub 60 sd se hd he rx ry (show X.A.units + 60 < cLine by omega)).2 _ _ _ _ ⟨.bl _, H, I, rfl, q⟩
theorem eqSD_ok {F : Hp} {x y : D} {u v : V} {c : Bool} (h : eqSD x y = some c) (hx : Rp N F x u) (hy : Rp N F y v) : eqS u v = some c := by
  cases x <;> cases y <;> simp only [eqSD, Option.some.injEq, reduceCtorEq] at h <;> subst h <;> cases hx <;> cases hy <;> rfl
theorem o_eq' (hu : X.A.units + 64 < cLine) : OpR X (compareOp .Eq) (fun x y H Q => fEq x y H Q ∨ rEqW X.K false x y H Q) := OpR.or o_eq (op_eqW hu)
theorem o_ne' (hu : X.A.units + 64 < cLine) : OpR X (compareOp .NotEq) (fun x y H Q => fNe x y H Q ∨ rEqW X.K true x y H Q) := OpR.or o_ne (op_neW hu)
theorem ok_eq : CmpOk (XN X b) (fun x y H Q => fEq x y H Q ∨ rEqW X.K false x y H Q) cEq := by
  intro F H x y u v kb Q s hx hy h k
  cases z : eqSD x y with
  | some c =>
    simp only [cEq, z] at h
    refine .inl ?_
    unfold fEq
    rw [eqSD_ok z hx hy]
    exact k _ h
  | none =>
    simp only [cEq, z] at h
    exact .inr ⟨XN X b, F, x, y, rfl, s, hx, hy, h.1, h.2.1, k _ h.2.2⟩
theorem ok_ne : CmpOk (XN X b) (fun x y H Q => fNe x y H Q ∨ rEqW X.K true x y H Q) cNe := by
  intro F H x y u v kb Q s hx hy h k
  cases z : eqSD x y with
  | some c =>
    simp only [cNe, z] at h
    refine .inl ?_
    unfold fNe
    rw [eqSD_ok z hx hy]
    exact k _ h
  | none =>
    simp only [cNe, z] at h
    exact .inr ⟨XN X b, F, x, y, rfl, s, hx, hy, h.1, h.2.1, k _ h.2.2⟩
def memD (x : D) (ds : List D) : Bool := ds.any fun z => eqvD z x
def inStr (a z : Str) (k : Bool → Prop) : Prop := match a.cps.toList with
  | [c] => k (decide (c ∈ z.cps.toList))
  | _ => k (!(Builtin.Str.occurrences z a 0 z.length 1).isEmpty)
def cIn : C2 := fun x y k => match y with
  | .str z => (match x with
    | .str a => inStr a z k
    | _ => False)
  | .tup ds => shp 60 x = true ∧ ds.all (shp 60) = true ∧ k (memD x ds)
  | .lst ds => shp 60 x = true ∧ ds.all (shp 60) = true ∧ k (memD x ds)
  | _ => False
def rInW (K : PySem.W.Frag) (neg : Bool) : R2 := fun x y H Q => ∃ (N : Kn) (F : Hp) (d : D) (ds : List D), N.K = K ∧ Sub F H ∧ Rp N F d x ∧ (Rp N F (.lst ds) y ∨ Rp N F (.tup ds) y) ∧ shp 60 d = true ∧ ds.all (shp 60) = true ∧ Q (.bl (if neg = true then !memD d ds else memD d ds)) H
open Classical in
noncomputable def valEq (ds : List D) (its : List Value) (d : D) (u : Value) : Bool := if h : ∃ j : Nat, its[j]? = some u ∧ j < ds.length then eqvD (ds.getD h.choose .non) d else false
theorem any_val {pins : List (Addr × Obj)} {σ : L2.St} {F H : Hp} {s : Shared} {ds : List D} {vs : List V} {its : List Value} {d : D} (I : Inv X pins σ H s) (hK : N.K = X.K) (sub : Sub F H) (g : Rps N F ds vs) (rv : Vals vs its) (hs : ds.all (shp 60) = true) :
    its.toArray.any (valEq ds its d) = memD d ds ∧ ∀ (j : Nat) u, its[j]? = some u → ∃ e w, ds[j]? = some e ∧ Rp N F e w ∧ RelV w u ∧ valEq ds its d u = eqvD e d := by
  have n1 := g.length
  have n2 := rv.length
  have key : ∀ (j : Nat) u, its[j]? = some u → ∃ e w, ds[j]? = some e ∧ Rp N F e w ∧ RelV w u ∧ valEq ds its d u = eqvD e d := fun j u hj => by
    have hjl := (List.getElem?_eq_some_iff.mp hj).1
    have at_ : ∀ (i : Nat), its[i]? = some u → ∃ e w, ds[i]? = some e ∧ Rp N F e w ∧ RelV w u := fun i hi => by
      have hil := (List.getElem?_eq_some_iff.mp hi).1
      obtain ⟨w, a1, a2⟩ := g.get (i := i) (d := ds[i]'(by omega)) (by simp [show i < ds.length by omega])
      obtain ⟨u', a3, a4⟩ := rv.get a1
      rw [hi] at a3
      cases a3
      exact ⟨_, w, by simp [show i < ds.length by omega], a2, a4⟩
    have h : ∃ j : Nat, its[j]? = some u ∧ j < ds.length := ⟨j, hj, by omega⟩
    obtain ⟨e, w, b1, b2, b3⟩ := at_ j hj
    refine ⟨e, w, b1, b2, b3, ?_⟩
    unfold valEq
    rw [dif_pos h]
    obtain ⟨c1, c2⟩ := h.choose_spec
    obtain ⟨e', w', d1, d2, d3⟩ := at_ h.choose c1
    have ew : w' = w := by
      exact d3.inj b3
    subst ew
    have m1 := List.all_eq_true.mp hs e (List.mem_of_getElem? b1)
    have m2 := List.all_eq_true.mp hs e' (List.mem_of_getElem? d1)
    rw [show ds.getD h.choose .non = e' by simp [List.getD, d1], rp_inj I hK sub e' e 60 w' m2 m1 d2 b2]
  refine ⟨?_, key⟩
  unfold memD
  rw [← Array.any_toList]
  show its.any (valEq ds its d) = _
  have : its.map (valEq ds its d) = ds.map fun z => eqvD z d := by
    apply List.ext_getElem?
    intro j
    rw [List.getElem?_map, List.getElem?_map]
    cases z : its[j]? with
    | none =>
      have : its.length ≤ j := List.getElem?_eq_none_iff.mp z
      rw [List.getElem?_eq_none (show ds.length ≤ j by omega)]
      rfl
    | some u =>
      obtain ⟨e, w, h1, _, _, h2⟩ := key j u z
      rw [h1, Option.map_some, Option.map_some, h2]
  have a1 : its.any (valEq ds its d) = (its.map (valEq ds its d)).any id := by rw [List.any_map]; rfl
  have a2 : (ds.any fun z => eqvD z d) = (ds.map fun z => eqvD z d).any id := by rw [List.any_map]; rfl
  rw [a1, a2, this]
theorem op_inW (neg : Bool) (op : CmpOp) (hop : (op = .In ∧ neg = false) ∨ (op = .NotIn ∧ neg = true)) (hu : X.A.units + 65 < cLine) : OpR X (compareOp op) (rInW X.K neg) := by
  intro pins s σ H x y v u Q I rx ry h
  obtain ⟨N, F, d, ds, hK, sub, hd, hy, sd, sds, q⟩ := h
  have hq : ∀ c, c = memD d ds → EP X pins σ Q (.bool (if neg = true then !c else c)) s := fun c e => by
    subst e
    exact ⟨.bl _, H, I, rfl, q⟩
  rcases hy with ⟨p, vs, rfl, h1, h2⟩ | ⟨p, vs, rfl, h1, h2⟩
  · cases ry
    obtain ⟨its, rv, hl, _⟩ := I.list (SqL.of (sub.lst1 h1))
    obtain ⟨ea, key⟩ := any_val (d := d) I hK sub h2 rv sds
    have he : ∀ z, z ∈ its.toArray → SeqAt.EqAt X.A.in1 s z v (valEq ds its d z) := fun z hz => by
      obtain ⟨j, hj⟩ := List.getElem?_of_mem (show z ∈ its by simpa using hz)
      obtain ⟨e, w, k1, k2, k3, k4⟩ := key j z hj
      rw [k4]
      exact eqAt_d I hK sub 60 _ e d w x z v (List.all_eq_true.mp sds e (List.mem_of_getElem? k1)) sd k2 hd k3 rx (by have : X.A.in1.units = X.A.units + 1 := rfl; omega)
    rcases hop with ⟨rfl, rfl⟩ | ⟨rfl, rfl⟩
    · exact SeqAt.in_listAt _ hl.isList he (hq _ ea)
    · exact SeqAt.notIn_listAt _ hl.isList he (hq _ ea)
  · cases ry
    obtain ⟨its, rv, hl, _⟩ := I.tuple (hK ▸ sub.tup h1)
    obtain ⟨ea, key⟩ := any_val (d := d) I hK sub h2 rv sds
    have he : ∀ z, z ∈ its.toArray → SeqAt.EqAt X.A.in1 s z v (valEq ds its d z) := fun z hz => by
      obtain ⟨j, hj⟩ := List.getElem?_of_mem (show z ∈ its by simpa using hz)
      obtain ⟨e, w, k1, k2, k3, k4⟩ := key j z hj
      rw [k4]
      exact eqAt_d I hK sub 60 _ e d w x z v (List.all_eq_true.mp sds e (List.mem_of_getElem? k1)) sd k2 hd k3 rx (by have : X.A.in1.units = X.A.units + 1 := rfl; omega)
    rcases hop with ⟨rfl, rfl⟩ | ⟨rfl, rfl⟩
    · exact SeqAt.in_tupleAt _ (show s.heap.IsTuple p its.toArray from hl) he (hq _ ea)
    · exact SeqAt.notIn_tupleAt _ (show s.heap.IsTuple p its.toArray from hl) he (hq _ ea)
def rInSx (neg : Bool) : R2 := fun x y H Q => (∃ (c : Nat) (z : Str), x = .str ⟨#[c]⟩ ∧ y = .str z ∧ Q (.bl (if neg = true then !decide (c ∈ z.cps.toList) else decide (c ∈ z.cps.toList))) H) ∨
  ∃ i j : Str, x = .str i ∧ y = .str j ∧ Q (.bl (if neg = true then !(!(Builtin.Str.occurrences j i 0 j.length 1).isEmpty) else !(Builtin.Str.occurrences j i 0 j.length 1).isEmpty)) H
theorem op_inSx (neg : Bool) (op : CmpOp) (hop : (op = .In ∧ neg = false) ∨ (op = .NotIn ∧ neg = true)) : OpR X (compareOp op) (rInSx neg) := by
  intro pins s σ H x y v u Q I rx ry h
  rcases hop with ⟨rfl, rfl⟩ | ⟨rfl, rfl⟩
  · exact h.elim (fun h => op_in_sign pins s σ H x y v u Q I rx ry h) fun h => op_in_str pins s σ H x y v u Q I rx ry h
  · exact h.elim (fun h => op_notIn_sign pins s σ H x y v u Q I rx ry h) fun h => op_notIn_str pins s σ H x y v u Q I rx ry h
theorem in_ok (neg : Bool) {F H : Hp} {x y : D} {u v : V} {kb : Bool → Prop} {Q : VK} (s : Sub F H) (hx : Rp (XN X b) F x u) (hy : Rp (XN X b) F y v) (h : cIn x y kb) (k : ∀ c, kb c → Q (.bl (if neg = true then !c else c)) H) : rInSx neg u v H Q ∨ rInW X.K neg u v H Q := by
  cases y <;> try exact False.elim h
  · rename_i z
    cases x <;> try exact False.elim h
    rename_i a
    cases hx; cases hy
    refine .inl ?_
    have h : inStr a z kb := h
    unfold inStr at h
    split at h
    · rename_i c hc
      refine .inl ⟨c, z, ?_, rfl, k _ h⟩
      have : a = ⟨#[c]⟩ := by
        obtain ⟨⟨l⟩⟩ := a
        simp only at hc
        rw [hc]
      rw [this]
    · exact .inr ⟨a, z, rfl, rfl, k _ h⟩
  · exact .inr ⟨XN X b, F, x, _, rfl, s, hx, .inr hy, h.1, h.2.1, k _ h.2.2⟩
  · exact .inr ⟨XN X b, F, x, _, rfl, s, hx, .inl hy, h.1, h.2.1, k _ h.2.2⟩
theorem o_in (hu : X.A.units + 65 < cLine) : OpR X (compareOp .In) (fun x y H Q => rInSx false x y H Q ∨ rInW X.K false x y H Q) := OpR.or (op_inSx false .In (.inl ⟨rfl, rfl⟩)) (op_inW false .In (.inl ⟨rfl, rfl⟩) hu)
theorem o_notIn (hu : X.A.units + 65 < cLine) : OpR X (compareOp .NotIn) (fun x y H Q => rInSx true x y H Q ∨ rInW X.K true x y H Q) := OpR.or (op_inSx true .NotIn (.inr ⟨rfl, rfl⟩)) (op_inW true .NotIn (.inr ⟨rfl, rfl⟩) hu)
def cNotIn : C2 := fun x y k => cIn x y fun c => k (!c)
theorem ok_in : CmpOk (XN X b) (fun x y H Q => rInSx false x y H Q ∨ rInW X.K false x y H Q) cIn := by
  intro F H x y u v kb Q s hx hy h k
  exact in_ok false s hx hy h fun c hc => k c hc
theorem ok_notIn : CmpOk (XN X b) (fun x y H Q => rInSx true x y H Q ∨ rInW X.K true x y H Q) cNotIn := by
  intro F H x y u v kb Q s hx hy h k
  exact in_ok true s hx hy h fun c hc => k (!c) hc
def isiD : D → String → Option Bool
  | .non, c => isiS .non c
  | .bl b, c => isiS (.bl b) c
  | .int i, c => isiS (.int i) c
  | .str x, c => isiS (.str x) c
  | .tup _, c => if c = "tuple" ∨ c = "list" ∨ c = "dict" ∨ c = "int" ∨ c = "str" ∨ c = "bool" then some (decide ("tuple" = c)) else none
  | .lst _, c => if c = "tuple" ∨ c = "list" ∨ c = "dict" ∨ c = "int" ∨ c = "str" ∨ c = "bool" then some (decide ("list" = c)) else none
  | _, _ => none
def fIsi : FL := fun xs k => match xs with
  | [x, .ty c] => (match isiD x c with
    | some b => k (.bl b)
    | none => False)
  | _ => False
theorem ok_isi : CallOk (XN X b) (cIsi X.K) fIsi := by
  intro Wx M H ρ σ st σV ex ds us kd Q c hd h k
  unfold fIsi at h
  split at h
  · rename_i x cn
    obtain ⟨u, u', rfl, r, r'⟩ := RpCs.two hd
    cases r'
    cases z : isiD x cn with
    | none => simp only [z] at h
    | some bb =>
      simp only [z] at h
      have sc : ∀ v : V, isiS v cn = some bb → (∀ p, v ≠ .ref p) → cIsi X.K [v, .ty cn] H Q := fun v hv hn => by
        have q := k _ h _ M H Ext.refl c rfl
        unfold cIsi
        cases v <;> first | exact absurd rfl (hn _) | (simp only [hv]; exact q)
      cases x <;> simp only [isiD, reduceCtorEq] at z
      · cases r; exact sc _ z (fun p w => nomatch w)
      · cases r; exact sc _ z (fun p w => nomatch w)
      · cases r; exact sc _ z (fun p w => nomatch w)
      · cases r; exact sc _ z (fun p w => nomatch w)
      · obtain ⟨p, xs, rfl, h1, h2⟩ := (show Rp (XN X b) M (.tup _) u from r)
        split at z
        · rename_i hc
          simp only [Option.some.injEq] at z
          subst z
          exact isi_t (c.rep.sub.tup h1) hc (k _ h _ M H Ext.refl c rfl)
        · cases z
      · obtain ⟨p, xs, rfl, h1, h2⟩ := r
        split at z
        · rename_i hc
          simp only [Option.some.injEq] at z
          subst z
          exact isi_l (SqL.of ((Fv.sub (ρ := ρ) c.rep.sub).lst1 h1)) hc (k _ h _ M H Ext.refl c rfl)
        · cases z
  · exact h.elim
def dChain (f g : C2) (ta tb tc : DW) : DT := fun σ st k ex => ta σ st (fun x st1 => tb σ st1 (fun y st2 => match seeW x st2, seeW y st2 with
  | some d, some e => f d e fun b => two b (tc σ st2 (fun z st3 => match seeW y st3, seeW z st3 with
    | some d, some e => g d e fun b => k b st3
    | _, _ => False) ex) (k false st2)
  | _, _ => False) ex) ex
theorem chain_lift {r r' : R2} {f g : C2} {ta tb tc : DW} (ok : CmpOk N r f) (ok' : CmpOk N r' g) {σV : L2.St} {H : Hp} {Q : VK} {M : Hp} {ρ : List Addr} {σ : Sl} {st : Sto} {k : Bool → Sto → Prop} {ex : DX} (c : Kx N Wx M ρ σ st H σV ex) (ht : dChain f g ta tb tc σ st k ex)
    (q : ∀ c st', k c st' → ∀ M' ρ' H', Ext M ρ H M' ρ' H' → Kx N Wx M' ρ' σ st' H' σV ex → Q (.bl c) H') : uChain r r' (lW N Wx ta) (lW N Wx tb) (lW N Wx tc) σV H Q := by
  refine Lf.bin c ht fun x y st' hk u v M1 ρ1 H1 E1 c1 r1 r2 => ?_
  cases h1 : seeW x st' with
  | none => simp only [h1] at hk
  | some d =>
    cases h2 : seeW y st' with
    | none => simp only [h1, h2] at hk
    | some e =>
      simp only [h1, h2] at hk
      refine ok (Fv.sub c1.rep.sub) ((see_ok c1.rep h1 r1).rp (Fv.same _ _ _)) ((see_ok c1.rep h2 r2).rp (Fv.same _ _ _)) hk fun b hb => ?_
      refine ⟨fun z => Lf.of c1 (hb.1 z) fun z3 st3 hk3 v3 M3 ρ3 H3 E3 c3 r3 => ?_, fun z => q _ _ (hb.2 z) M1 ρ1 H1 E1 c1⟩
      cases h3 : seeW y st3 with
      | none => simp only [h3] at hk3
      | some d3 =>
        cases h4 : seeW z3 st3 with
        | none => simp only [h3, h4] at hk3
        | some e3 =>
          simp only [h3, h4] at hk3
          exact ok' (Fv.sub c3.rep.sub) ((see_ok c3.rep h3 (Rw.ext r2 E3)).rp (Fv.same _ _ _)) ((see_ok c3.rep h4 r3).rp (Fv.same _ _ _)) hk3 fun b' hb' => q _ _ hb' M3 ρ3 H3 (E1.trans E3) c3
theorem e_chainD {op op' : CmpOp} {r r' : R2} {f g : C2} {ta tb tc : DW} (ho : OpR X (compareOp op) r) (ho' : OpR X (compareOp op') r') (ok : CmpOk N r f) (ok' : CmpOk N r' g) (ha : PE X e1 (lW N Wx ta)) (hb : PE X e2 (lW N Wx tb)) (hc : PE X e3 (lW N Wx tc))
    (hm : lastMarks [op, op'] [e2, e3] = false := by with_unfolding_all rfl) : PE X (.Compare e1 [op, op'] [e2, e3] pos) (lD N Wx (dB (dChain f g ta tb tc))) := PE.imp (e_chain ho ho' ha hb hc hm) fun σV H Q h => by
  obtain ⟨M, ρ, σ, st, k, ex, c, ht, q⟩ := Kx.open_ h
  exact chain_lift ok ok' c ht fun b st' hb M' ρ' H' E c' => q _ _ hb _ M' ρ' H' E c' rfl
theorem t_chainD {op op' : CmpOp} {r r' : R2} {f g : C2} {ta tb tc : DW} (ho : OpR X (compareOp op) r) (ho' : OpR X (compareOp op') r') (ok : CmpOk N r f) (ok' : CmpOk N r' g) (ha : PE X e1 (lW N Wx ta)) (hb : PE X e2 (lW N Wx tb)) (hc : PE X e3 (lW N Wx tc))
    (hm : lastMarks [op, op'] [e2, e3] = false := by with_unfolding_all rfl) : PT X (.Compare e1 [op, op'] [e2, e3] pos) (lT N Wx (dChain f g ta tb tc)) := PT.imp (t_chain ho ho' ha hb hc hm) fun σV H Q h => by
  obtain ⟨M, ρ, σ, st, k, ex, c, ht, q⟩ := Kx.open_ h
  exact chain_lift (Q := fun x H1 => match x with
    | .bl c => Q c H1
    | _ => False) ok ok' c ht fun b st' hb M' ρ' H' E c' => q _ _ hb b M' ρ' H' E c' rfl
end
def pf_take : Pf := fun ws st k _ => match ws, st with
  | [.loc 0, .im (.int m)], [.pool] => 0 < m ∧ m < 2 ^ 250 ∧ ∀ r : Int, 0 ≤ r → r < m → k (.im (.int r)) [.pool]
  | _, _ => False
def pf_pool : Pf := fun ws st k _ => match ws, st with
  | [.im (.scr ns)], [] => ns.length ≤ 63 ∧ k (.loc 0) [.pool]
  | _, _ => False
section
variable {N : Kn}
theorem take_ok {vs : List V} {H : Hp} {Q : VK} {E : XK} (h : spD N pf_take vs H Q E) : sp_take 2 vs H Q E := by
  obtain ⟨M, ρ, ws, st, k, ex, r, rw, hf, hk, _⟩ := h
  unfold pf_take at hf
  split at hf
  · rename_i m
    obtain ⟨h1, h2, h3⟩ := hf
    obtain ⟨v, us, rfl, ⟨a, ha, rfl⟩, v2, us2, rfl, hv2, hus⟩ := rw
    cases hv2
    obtain rfl : us2 = [] := hus
    obtain ⟨hm, q, ns, i, d, s, p1, p2, p3, p4, p5, p6, p7⟩ := r.ob 0 a _ ha rfl
    have hne : q ≠ a := fun z => by rw [z, hm] at p1; cases p1
    refine ⟨by decide, q, ⟨ns, i, d, s, ⟨p2, r.sub.lst1 p1, hne, p3, p4, p5, p6, p7⟩, fun e => absurd e (by decide)⟩, h1, h2, fun rr H' g1 g2 ⟨ns', i', d', s', P⟩ fr => ?_⟩
    have hns : ns' = ns := by
      have e1 := fr.at1 (r.sub.lst1 p1) hne
      rw [P.hq] at e1
      have e2 := HO.lst.inj (Option.some.inj e1)
      exact (List.map_inj_right fun x y h => V.int.inj h).mp e2
    have hρ : ρ = [a] := by
      have hl := r.len
      match ρ, hl, ha with
      | [b], _, ha => simp at ha; rw [ha]
    subst hρ
    have E : Ext M [a] H M [a] H' := ⟨Same.refl _, Pre.refl _, fr, fun _ h => .inl h, fun _ h => .inl h⟩
    refine hk _ _ (h3 rr g1 g2) _ M [a] H' E ⟨fun b u e => ?_, rfl, r.inj, fun j b o h1 h2 => ?_⟩ rfl
    · have hb : b ≠ a := fun z => by rw [z, hm] at e; cases e
      rcases r.sub b u e with h | ⟨h, o, h'⟩
      · exact .inl (fr.at1 h hb)
      · exact .inr ⟨h, o, fr.at1 h' hb⟩
    · cases j with
      | zero =>
        simp at h1 h2
        subst h1 h2
        exact ⟨hm, q, ns, i', d', s', p1, P.hp, p3, P.hi, P.hd, P.hs, P.hs2⟩
      | succ j => simp at h1
  · exact hf.elim
theorem pool_ok {vs : List V} {H : Hp} {Q : VK} {E : XK} (h : spD N pf_pool vs H Q E) : sp_pool N.K vs H Q E := by
  obtain ⟨M, ρ, ws, st, k, ex, r, rw, hf, hk, _⟩ := h
  unfold pf_pool at hf
  split at hf
  · rename_i ns
    obtain ⟨h1, h2⟩ := hf
    obtain ⟨v, us, rfl, ⟨a, rfl, hs⟩, hus⟩ := rw
    obtain rfl : us = [] := hus
    refine ⟨ns, r.sub.seq hs, h1, fun p q H' hp hq ⟨ns', i', d', s', P⟩ sm => ?_⟩
    have hρ : ρ = [] := List.eq_nil_of_length_eq_zero r.len
    subst hρ
    have hMq := r.non hq
    have hMp := r.non hp
    have E : Ext M [] H (upd M q (.lst (ns'.map V.int))) ([] ++ [p]) H' := ⟨same_grow0 hMq, ⟨[p], rfl⟩, Fr.of sm, fun b h => by
      by_cases z : b = q
      · exact .inr (.inl (by rw [z]; exact hq))
      · rw [upd_ne z] at h; exact .inl h, fun b h => by
      have : b = p := by simpa using h
      exact .inr (by rw [this]; exact hp)⟩
    refine hk _ _ h2 _ _ _ H' E ⟨fun b u e => ?_, rfl, fun i j b e1 e2 => ?_, fun j b o e1 e2 => ?_⟩ ⟨p, rfl, rfl⟩
    · by_cases z : b = q
      · subst z
        rw [upd_same] at e
        cases e
        exact .inl P.hq
      · rw [upd_ne z] at e
        rcases r.sub b u e with h | ⟨h, o, h'⟩
        · exact .inl (sm _ _ h)
        · exact .inr ⟨h, o, sm _ _ h'⟩
    · have hi := (List.getElem?_eq_some_iff.mp e1).1
      have hj := (List.getElem?_eq_some_iff.mp e2).1
      simp at hi hj
      omega
    · cases j with
      | zero =>
        simp at e1 e2
        subst e1 e2
        refine ⟨by rw [upd_ne P.ne.symm]; exact hMp, q, ns', i', d', s', upd_same, P.hp, P.nn, P.hi, P.hd, P.hs, P.hs2⟩
      | succ j => simp at e1
  · exact hf.elim
def pf_law : Pf := fun ws st k _ => match ws, st with
  | [.im (.scr ns)], [] => ns.length ≤ 63 ∧ k (.im (.bl true)) []
  | _, _ => False
def sp_law (K : PySem.W.Frag) : Sp := fun vs H Q _ => match vs with
  | [.ref a] => ∃ ns : List Int, SqL K H a (ns.map V.int) ∧ ns.length ≤ 63 ∧ ∀ H', Q (.bl true) H'
  | _ => False
theorem law_ok {vs : List V} {H : Hp} {Q : VK} {E : XK} (h : sp_law N.K vs H Q E) : spD N pf_law vs H Q E := by
  unfold sp_law at h
  split at h
  · rename_i a
    obtain ⟨ns, h1, h2, h3⟩ := h
    refine ⟨H, [], [.im (.scr ns)], [], fun w st => w = .im (.bl true), fun _ _ _ => False, ⟨fun b u e => .inl e, rfl, fun i j b e => by simp at e, fun i b o e => by simp at e⟩, ⟨_, [], rfl, ⟨a, rfl, h1⟩, rfl⟩, ⟨h2, rfl⟩, fun w st' hw v M' ρ' H' e r rv => ?_, fun _ _ _ h => h.elim⟩
    subst hw
    cases rv
    exact h3 H'
  · exact h.elim
end
end Dl
end

section
set_option maxHeartbeats 4000000
namespace Dl
open PySem PySem.Spec PyProof.Rows L2 Co
section
variable {N : Kn} {Wx : WX} {M H M' H' : Hp} {ρ ρ' : List Addr} {σ : Sl} {st : Sto} {σV : L2.St} {ex : DX}
theorem Rep.hid (r : Rep N M ρ st H) {p : Addr} {o : HO} (hm : M p = Option.none) (hn : p ∉ ρ) : Rep N M ρ st (upd H p o) := by
  refine ⟨fun b u z => ?_, r.len, r.inj, fun i a o h1 h2 => ?_⟩
  · rw [upd_ne (fun w => by rw [w, hm] at z; cases z)]
    exact r.sub b u z
  · have ha : a ≠ p := fun w => hn (by rw [← w]; exact List.mem_of_getElem? h1)
    exact (r.ob i a o h1 h2).mono (Same.refl _) (Pre.refl _) (fun z => z) fun u hu => by rw [upd_ne ha]; exact hu
theorem Ext.unhid {p : Addr} {o : HO} (hp : H p = none) (e : Ext M ρ (upd H p o) M' ρ' H') : Ext M ρ H M' ρ' H' := by
  refine ⟨e.mm, e.pre, fun b u h1 h2 => e.fr b u (by rw [upd_ne (ne_of_none h1 hp)]; exact h1) h2, fun a h => ?_, fun a h => ?_⟩
  · rcases e.nw a h with h | h | h
    · exact .inl h
    · by_cases z : a = p
      · exact .inr (.inl (by rw [z]; exact hp))
      · rw [upd_ne z] at h; exact .inr (.inl h)
    · exact .inr (.inr h)
  · rcases e.rn a h with h | h
    · exact .inl h
    · by_cases z : a = p
      · exact .inr (by rw [z]; exact hp)
      · rw [upd_ne z] at h; exact .inr h
theorem Kx.hid (c : Kx N Wx M ρ σ st H σV ex) {p : Addr} {o : HO} (hp : H p = none) : Kx N Wx M ρ σ st (upd H p o) σV ex :=
  ⟨c.rep.hid (c.rep.non hp) fun z => c.rep.mem z hp, c.rs, fun c' fs st' h o' M2 ρ2 H2 e => c.xl c' fs st' h o' M2 ρ2 H2 (e.unhid hp)⟩
theorem Ext.kept {p : Addr} {o : HO} (e : Ext M ρ H M' ρ' H') (hn : p ∉ ρ) (hm : M p = Option.none) (hp : H p = some o) : H' p = some o ∧ M' p = Option.none ∧ p ∉ ρ' := by
  refine ⟨e.fr p o hp hn, ?_, fun z => ?_⟩
  · cases z : M' p with
    | none => rfl
    | some u =>
      rcases e.nw p (by rw [z]; exact fun w => nomatch w) with w | w | w
      · exact absurd hm w
      · rw [hp] at w; cases w
      · exact absurd w hn
  · rcases e.rn p z with w | w
    · exact hn w
    · rw [hp] at w; cases w
theorem Kx.adopt (c : Kx N Wx M ρ σ st H σV ex) {p : Addr} {u : HO} (hm : M p = Option.none) (hn : p ∉ ρ) (hu : H p = some u) : Same M (upd M p u) ∧ Rep N (upd M p u) ρ st H := ⟨same_grow0 hm, c.rep.adopt hm hn hu⟩
end
def dPairs : List (DD × DD) → Lv (List (D × D))
  | [] => fun _ st k _ => k [] st
  | (a, b) :: r => fun σ st k ex => a σ st (fun x st1 => b σ st1 (fun y st2 => dPairs r σ st2 (fun ps st3 => k ((x, y) :: ps) st3) ex) ex) ex
def mergeD : List (D × D) → List Key → List D → Option (List Key × List D)
  | [], ks, ds => some (ks, ds)
  | (x, y) :: r, ks, ds => match keyD x with
    | some q => mergeD r (putKs ks q) (putDs ks ds q y)
    | none => none
def dDispD (prs : List (DD × DD)) : DD := fun σ st k ex => dPairs prs σ st (fun ps st1 => ps.length ≤ 15 ∧ match mergeD ps [] [] with
  | some (ks, ds) => k (.dct ks ds) st1
  | none => False) ex
def dDispM (prs : List (DD × DD)) : DW := fun σ st k ex => dPairs prs σ st (fun ps st1 => ps.length ≤ 15 ∧ match mergeD ps [] [] with
  | some (ks, ds) => k (.loc st1.length) (st1 ++ [.dct ks ds])
  | none => False) ex
def dNewKD : DD := fun _ st k _ => k (.dct [] []) st
def dNewTD : DD := fun _ st k _ => k (.dcT [] []) st
def dNewKM : DW := fun _ st k _ => k (.loc st.length) (st ++ [.dct [] []])
def dNewTM : DW := fun _ st k _ => k (.loc st.length) (st ++ [.dcT [] []])
section
variable {X : Cx} {b : Bool} {Wx : WX} {e e1 e2 e3 : Expr} {pos : Pos} {N : Kn}
def lPs (N : Kn) (Wx : WX) (prs : List (DD × DD)) : List (TE × TE) := prs.map fun p => (lD N Wx p.1, lD N Wx p.2)
def Rpp (N : Kn) (M : Hp) : List (D × D) → List (V × V) → Prop
  | [], vs => vs = []
  | (x, y) :: r, vs => ∃ u v r', vs = (u, v) :: r' ∧ Rp N M x u ∧ Rp N M y v ∧ Rpp N M r r'
theorem Rpp.mono {M M' : Hp} (e : Same M M') : ∀ {ps : List (D × D)} {vs : List (V × V)}, Rpp N M ps vs → Rpp N M' ps vs
  | [], _, h => h
  | (_, _) :: _, _, ⟨u, v, r', h1, h2, h3, h4⟩ => ⟨u, v, r', h1, h2.mono e, h3.mono e, Rpp.mono e h4⟩
theorem dp_nil : PPs X pos [] [] (lPs N Wx []) := pps_nil
theorem dp_cons {k v : Expr} {ks : List (Option Expr)} {vs : List Expr} {a c : DD} {prs : List (DD × DD)} (hk : PE X k (lD N Wx a)) (hv : PE X v (lD N Wx c)) (hr : PPs X pos ks vs (lPs N Wx prs)) : PPs X pos (some k :: ks) (v :: vs) (lPs N Wx ((a, c) :: prs)) := pps_cons hk hv hr
theorem pairs_lift : ∀ {prs : List (DD × DD)} {M H : Hp} {ρ : List Addr} {σ : Sl} {st : Sto} {σV : L2.St} {ex : DX} {k : List (D × D) → Sto → Prop} {Q : List (V × V) → Hp → Prop}, Kx N Wx M ρ σ st H σV ex → dPairs prs σ st k ex →
    (∀ ps st', k ps st' → ∀ vs M' ρ' H', Ext M ρ H M' ρ' H' → Kx N Wx M' ρ' σ st' H' σV ex → Rpp N M' ps vs → Q vs H') → tPairs (lPs N Wx prs) σV H Q
  | [], M, H, ρ, σ, st, σV, ex, k, Q, c, ht, q => q _ _ ht _ M ρ H Ext.refl c rfl
  | (a, d) :: r, M, H, ρ, σ, st, σV, ex, k, Q, c, ht, q => by
    refine Lf.of c ht fun x st1 h1 u M1 ρ1 H1 E1 c1 r1 => Lf.of c1 h1 fun y st2 h2 v M2 ρ2 H2 E2 c2 r2 => ?_
    exact pairs_lift c2 h2 fun ps st3 h3 vs M3 ρ3 H3 E3 c3 r3 => q _ _ h3 _ M3 ρ3 H3 (E1.trans (E2.trans E3)) c3 ⟨u, v, vs, rfl, Rp.ext r1 (E2.trans E3), Rp.ext r2 E3, r3⟩
theorem merge_ok {M : Hp} : ∀ {ps : List (D × D)} {vs : List (V × V)} {kvs : List (Key × V)} {ds ds' : List D} {ks' : List Key}, Rpp N M ps vs → Rps N M ds (kvs.map (·.2)) → mergeD ps (kvs.map (·.1)) ds = some (ks', ds') →
    ∃ more : List (Key × V), vs = more.map (fun kv => (kV kv.1, kv.2)) ∧ more.length = ps.length ∧ (mergeK kvs more).map (·.1) = ks' ∧ Rps N M ds' ((mergeK kvs more).map (·.2))
  | [], _, kvs, _, _, _, h, hd, e => by
    cases e
    exact ⟨[], h, rfl, rfl, hd⟩
  | (x, y) :: r, _, kvs, ds, ds', ks', ⟨u, v, r', h1, h2, h3, h4⟩, hd, e => by
    cases hq : keyD x with
    | none => simp only [mergeD, hq] at e; cases e
    | some q =>
      simp only [mergeD, hq] at e
      obtain ⟨g1, g2⟩ := putK_ok (q := q) h3 hd
      rw [← g1] at e
      obtain ⟨more, m1, m2, m3, m4⟩ := merge_ok h4 g2 e
      exact ⟨(q, v) :: more, by rw [h1, keyD_rp hq h2, m1]; rfl, by simp [m2], m3, m4⟩
theorem disp_lift {prs : List (DD × DD)} {M H : Hp} {ρ : List Addr} {σ : Sl} {st : Sto} {σV : L2.St} {ex : DX} {K : List Key → List D → Sto → Prop} {Q : VK} (c : Kx N Wx M ρ σ st H σV ex) (ht : dPairs prs σ st (fun ps st1 => ps.length ≤ 15 ∧ match mergeD ps [] [] with
      | some (ks, ds) => K ks ds st1
      | none => False) ex)
    (q : ∀ ks ds st', K ks ds st' → ∀ p M' ρ' H' kvs, Ext M ρ H M' ρ' H' → Rep N M' ρ' st' H' → M' p = none → p ∉ ρ' → H p = none → H' p = some (.dK kvs) → kvs.map (·.1) = ks → Rps N M' ds (kvs.map (·.2)) → Q (.ref p) H') : tDisp (lPs N Wx prs) σV H Q := by
  intro p hp
  have hm := c.rep.non hp
  have hn : p ∉ ρ := fun z => c.rep.mem z hp
  refine pairs_lift (c.hid (o := .dK []) hp) ht fun ps st' hk vs M' ρ' H' E c' r => ?_
  obtain ⟨k1, k2, k3⟩ := E.kept hn hm upd_same
  refine ⟨k1, ?_⟩
  cases hz : mergeD ps [] [] with
  | none => simp only [hz] at hk; exact hk.2.elim
  | some z =>
    obtain ⟨ks, ds⟩ := z
    simp only [hz] at hk
    obtain ⟨more, m1, m2, m3, m4⟩ := merge_ok (kvs := []) r (show Rps N M' [] [] from rfl) hz
    refine ⟨more, m1, by rw [m2]; exact hk.1, ?_⟩
    have E2 := E.unhid hp
    refine q _ _ _ hk.2 p M' ρ' _ _ ⟨E2.mm, E2.pre, E2.fr.loc hp, E2.nw, E2.rn⟩ (c'.rep.hid k2 k3) k2 k3 hp upd_same m3 m4
theorem adoptE {M H M' H' : Hp} {ρ ρ' : List Addr} {p : Addr} {u : HO} (E : Ext M ρ H M' ρ' H') (hm : M' p = none) (hH : H p = none) : Ext M ρ H (upd M' p u) ρ' H' := ⟨E.mm.trans (same_grow0 hm), E.pre, E.fr, fun a z => by
    by_cases w : a = p
    · exact .inr (.inl (by rw [w]; exact hH))
    · rw [upd_ne w] at z; exact E.nw a z, E.rn⟩
theorem adoptEL {M H M' H' : Hp} {ρ ρ' : List Addr} {p : Addr} (E : Ext M ρ H M' ρ' H') (hH : H p = none) : Ext M ρ H M' (ρ' ++ [p]) H' := ⟨E.mm, E.pre.trans ⟨[p], rfl⟩, E.fr, E.nw, fun a z => by
    rcases List.mem_append.mp z with z | z
    · exact E.rn a z
    · rw [List.mem_singleton] at z; rw [z]; exact .inr hH⟩
theorem e_dispD {keys : List (Option Expr)} {values : List Expr} {prs : List (DD × DD)} (h : PPs X pos keys values (lPs N Wx prs)) (hall : keys.all (·.isSome) = true) (hl : keys.length = values.length) (h0 : keys ≠ []) (h15 : keys.length ≤ 15) : PE X (.Dict keys values pos) (lD N Wx (dDispD prs)) := PE.imp (pe_disp h hall hl h0 h15) fun σV H Q h => by
  obtain ⟨M, ρ, σ, st, k, ex, c, ht, q⟩ := Kx.open_ h
  refine disp_lift (K := fun ks ds st1 => k (.dct ks ds) st1) c ht fun ks ds st' hk p M' ρ' H' kvs E r hm hn hH hp e1 ra => ?_
  exact q _ _ hk _ _ ρ' H' (adoptE E hm hH) (c.step (adoptE E hm hH) (r.adopt hm hn hp)) ⟨p, kvs, rfl, upd_same, e1, ra.mono (same_grow0 hm)⟩
theorem e_dispM {keys : List (Option Expr)} {values : List Expr} {prs : List (DD × DD)} (h : PPs X pos keys values (lPs N Wx prs)) (hall : keys.all (·.isSome) = true) (hl : keys.length = values.length) (h0 : keys ≠ []) (h15 : keys.length ≤ 15) : PE X (.Dict keys values pos) (lW N Wx (dDispM prs)) := PE.imp (pe_disp h hall hl h0 h15) fun σV H Q h => by
  obtain ⟨M, ρ, σ, st, k, ex, c, ht, q⟩ := Kx.open_ h
  refine disp_lift (K := fun ks ds st1 => k (W.loc st1.length) (st1 ++ [Ob.dct ks ds])) c ht fun ks ds st' hk p M' ρ' H' kvs E r hm hn hH hp e1 ra => ?_
  exact q _ _ hk _ _ _ H' (adoptEL E hH) (c.step (adoptEL E hH) (r.adoptL hn ⟨hm, kvs, hp, e1, ra⟩)) ⟨p, r.last p, rfl⟩
theorem e_dnewKD : PE X (.Dict [] [] pos) (lD N Wx dNewKD) := PE.imp pe_dnewK fun σV H Q h => by
  obtain ⟨M, ρ, σ, st, k, ex, c, ht, q⟩ := Kx.open_ h
  intro p hp
  obtain ⟨E, c'⟩ := c.new (o := .dK []) hp
  exact q _ _ ht _ _ ρ _ E c' ⟨p, [], rfl, upd_same, rfl, rfl⟩
theorem e_dnewTD : PE X (.Dict [] [] pos) (lD N Wx dNewTD) := PE.imp pe_dnewT fun σV H Q h => by
  obtain ⟨M, ρ, σ, st, k, ex, c, ht, q⟩ := Kx.open_ h
  intro p hp
  obtain ⟨E, c'⟩ := c.new (o := .dT []) hp
  exact q _ _ ht _ _ ρ _ E c' ⟨p, [], rfl, upd_same, rfl, rfl⟩
theorem e_dnewKM : PE X (.Dict [] [] pos) (lW N Wx dNewKM) := PE.imp pe_dnewK fun σV H Q h => by
  obtain ⟨M, ρ, σ, st, k, ex, c, ht, q⟩ := Kx.open_ h
  intro p hp
  obtain ⟨E, c'⟩ := c.loc (u := .dK []) (o := .dct [] []) hp ⟨c.rep.non hp, [], upd_same, rfl, rfl⟩
  exact q _ _ ht _ _ _ _ E c' ⟨p, c.rep.last p, rfl⟩
theorem e_dnewTM : PE X (.Dict [] [] pos) (lW N Wx dNewTM) := PE.imp pe_dnewT fun σV H Q h => by
  obtain ⟨M, ρ, σ, st, k, ex, c, ht, q⟩ := Kx.open_ h
  intro p hp
  obtain ⟨E, c'⟩ := c.loc (u := .dT []) (o := .dcT [] []) hp ⟨c.rep.non hp, [], upd_same, rfl, rfl⟩
  exact q _ _ ht _ _ _ _ E c' ⟨p, c.rep.last p, rfl⟩
def sSetL (to : DW) (ti t : DD) : DS := fun E σ st => t σ st (fun v st1 => to σ st1 (fun o st2 => ti σ st2 (fun i st3 => match o, i with
  | .loc n, .int j => (match st3[n]? with
    | some (.lst ds) => (match ixN ds.length j with
      | some m => E.nx σ (st3.set n (.lst (ds.set m v)))
      | none => False)
    | _ => False)
  | _, _ => False) (exE E σ)) (exE E σ)) (exE E σ)
theorem s_setL {s : Stmt} {to : DW} {ti t : DD} (h : PS X s (tAsg (lD N Wx t) (gSub (lW N Wx to) (lD N Wx ti) rSetL))) : PS X s (lS N Wx (sSetL to ti t)) := PS.imp h fun D σV H h => by
  obtain ⟨M, ρ, σ, st, E, r, s, h, l⟩ := h
  refine Lf.of (l.kx r s) h fun v st1 hk1 vv M1 ρ1 H1 E1 c1 r1 => Lf.bin c1 hk1 fun o i st3 hk u y M3 ρ3 H3 E3 c3 r2 r3 => ?_
  obtain ⟨n, rfl⟩ : ∃ n, o = .loc n := by cases o <;> first | exact False.elim hk | exact ⟨_, rfl⟩
  obtain ⟨j, rfl⟩ : ∃ j, i = .int j := by cases i <;> first | exact False.elim hk | exact ⟨_, rfl⟩
  obtain ⟨a, ha, rfl⟩ := r2
  cases r3
  cases hz : st3[n]? with
  | none => simp only [hz] at hk
  | some ob =>
    simp only [hz] at hk
    cases ob <;> try exact False.elim hk
    rename_i ds
    cases hm : ixN ds.length j with
    | none => simp only [hm] at hk
    | some m =>
      simp only [hm] at hk
      obtain ⟨hM, xs, h1, h2⟩ := c3.rep.ob n a _ ha hz
      refine ⟨a, xs, j, m, rfl, rfl, h1, by rw [h2.length]; exact hm, ?_⟩
      obtain ⟨E4, c4⟩ := c3.wr (o := .lst (ds.set m v)) ha hM (u := .lst (xs.set m vv)) ⟨hM, _, upd_same, h2.set m (Rp.ext r1 E3)⟩
      exact l.nx _ _ hk _ _ _ σV (E1.trans (E3.trans E4)) c4.rep c4.rs
def sFldAug (C f : Str) (g : F2) (to : DW) (t : DD) : DS := fun E σ st => to σ st (fun o st1 => (match o with
  | .loc n => (match st1[n]? with
    | some (.ins C' fs) => C' = C ∧ (match fs.lookup f with
      | some (.im x) => t σ st1 (fun y st2 => g x y fun d => (match st2[n]? with
        | some (.ins C'' fs') => C'' = C ∧ fs'.length < 1000 ∧ E.nx σ (st2.set n (.ins C'' (putW f (.im d) fs')))
        | _ => False)) (exE E σ)
      | _ => False)
    | _ => False)
  | _ => False)) (exE E σ)
theorem s_fldaug {C f : Str} {op : Operator} {g : F2} {rd : V → V → Hp → VK → Prop} {to : DW} {t : DD} {tpos : Pos} (hc : Cls X.K (He.ga X.K C)) (hn : NoAttr X.K (He.ga X.K C) f) (ho : PE X e1 (lW (XN X b) Wx to)) (hv : PE X e2 (lD (XN X b) Wx t)) (hop : InOp X op rd)
    (ok : ∀ {M H : Hp} {a c : D} {u v : V} {kd : D → Prop} {Q : VK}, Rp (XN X b) M a u → Rp (XN X b) M c v → g a c kd → (∀ d, kd d → ∀ w, Rp (XN X b) M d w → Q w H) → rd u v H Q) : PS X (.AugAssign (.Attribute e1 f tpos) op e2 pos) (lS (XN X b) Wx (sFldAug C f g to t)) := PS.imp (ps_fldaug ho hv hop) fun D σV H h => by
  obtain ⟨M, ρ, σ, st, E, r, s, h, l⟩ := h
  refine Lf.of (l.kx r s) h fun o st1 hk u M1 ρ1 H1 E1 c1 ro => ?_
  obtain ⟨n, rfl⟩ : ∃ n, o = .loc n := by cases o <;> first | exact False.elim hk | exact ⟨_, rfl⟩
  obtain ⟨a, ha, rfl⟩ := ro
  cases hz : st1[n]? with
  | none => simp only [hz] at hk
  | some ob =>
    simp only [hz] at hk
    cases ob <;> try exact False.elim hk
    rename_i C' fs
    simp only at hk
    obtain ⟨rfl, hk⟩ := hk
    cases hl : fs.lookup f with
    | none => simp only [hl] at hk
    | some w =>
      simp only [hl] at hk
      obtain ⟨x, rfl⟩ : ∃ x, w = .im x := by cases w <;> first | exact False.elim hk | exact ⟨_, rfl⟩
      obtain ⟨hm, dx, fxs, h1, h2, h3⟩ := c1.rep.ob n a _ ha hz
      obtain ⟨v, h4, h5⟩ := lookup_rws h2 h3 hl
      refine ⟨a, _, dx, fxs, v, rfl, h1, hc, hn, h4, Lf.of c1 hk fun y st2 hk2 yv M2 ρ2 H2 E2 c2 r2 => ?_⟩
      refine ok (Rp.ext (show Rp (XN X b) M1 x v from h5) E2) r2 hk2 fun d hd zv hzv => ?_
      cases hz2 : st2[n]? with
      | none => simp only [hz2] at hd
      | some ob2 =>
        simp only [hz2] at hd
        cases ob2 <;> try exact False.elim hd
        rename_i C2 fs2
        simp only at hd
        obtain ⟨rfl, hl2, hd⟩ := hd
        have ha2 := E2.pre.get ha
        obtain ⟨hm2, dx2, fxs2, g1, g2, g3⟩ := c2.rep.ob n a _ ha2 hz2
        refine ⟨dx2, fxs2, g1, ?_, ?_⟩
        · have := congrArg List.length g2
          rw [List.length_map, List.length_map] at this
          omega
        · obtain ⟨q1, q2⟩ := putW_ok (N := XN X b) (ρ := ρ2) (f := f) (w := .im d) hzv g2 g3
          obtain ⟨E3, c3⟩ := c2.wr (o := .ins C2 (putW f (.im d) fs2)) ha2 hm2 (u := .ins (He.ga X.K C2) dx2 (putF f zv fxs2)) ⟨hm2, dx2, _, upd_same, q1, q2⟩
          exact l.nx _ _ hd _ _ _ σV (E1.trans (E2.trans E3)) c3.rep c3.rs
theorem ok_inadd {M H : Hp} {a c : D} {u v : V} {kd : D → Prop} {Q : VK} (ha : Rp N M a u) (hc : Rp N M c v) (h : fAddI a c kd) (k : ∀ d, kd d → ∀ w, Rp N M d w → Q w H) : rAdd u v H Q := by
  cases a <;> cases c <;> try exact False.elim h
  cases ha; cases hc
  exact ⟨_, _, rfl, rfl, k _ h _ rfl⟩
theorem ok_insub {M H : Hp} {a c : D} {u v : V} {kd : D → Prop} {Q : VK} (ha : Rp N M a u) (hc : Rp N M c v) (h : Dl.fSub a c kd) (k : ∀ d, kd d → ∀ w, Rp N M d w → Q w H) : rSub u v H Q := by
  cases a <;> cases c <;> try exact False.elim h
  cases ha; cases hc
  exact ⟨_, _, rfl, rfl, k _ h _ rfl⟩
end
end Dl
end

section
set_option maxHeartbeats 4000000
namespace Dl
open PySem PySem.Spec PyProof.Rows L2 Co
theorem getD_take {α : Type} {l : List α} {i : Nat} {a : α} (h : l[i]? = some a) : l.take (i + 1) = l.take i ++ [a] := by
  rw [List.take_add_one, h]
  rfl
theorem lc_map {n : Nat} {ds : List D} {te : DD} {vs : List Nat} {σ : Sl} {st : Sto} {K : List D → Sto → Prop} (f : Nat → D → D) (hl : ds.length ≤ 1000000) (hst : trS st.length st = st)
    (hs : ∀ (i : Nat) d, ds[i]? = some d → ∀ Q : D → Sto → Prop, Q (f i d) st → te ((wipeD σ vs).set n (some (.im d))) st Q exF) (hk : ∀ ys : List D, ys.length = ds.length → (∀ (i : Nat) d, ds[i]? = some d → ys[i]? = some (f i d)) → K ys st) : lcB ds (gN n) dYes te vs σ st K := by
  refine ⟨fun i acc st' => st' = st ∧ acc.length = i ∧ i ≤ ds.length ∧ ∀ (j : Nat) d, j < i → ds[j]? = some d → acc[j]? = some (f j d), ⟨rfl, rfl, Nat.zero_le _, fun j d h => absurd h (by omega)⟩, ?_, ?_⟩
  · rintro i d acc st' hd ⟨rfl, ha, _, hj⟩ -
    have hi := (List.getElem?_eq_some_iff.mp hd).1
    refine twoT (hs i d hd _ ⟨by omega, hst, by simp [ha], hi, fun j d' h1 h2 => ?_⟩)
    by_cases z : j = i
    · subst z
      rw [hd] at h2
      cases h2
      rw [List.getElem?_append_right (by omega), ha, Nat.sub_self]
      rfl
    · rw [List.getElem?_append_left (by omega)]
      exact hj j d' (by omega) h2
  · rintro acc st' ⟨rfl, ha, _, hj⟩ -
    exact hk acc ha fun i d h => hj i d (List.getElem?_eq_some_iff.mp h).1 h
theorem lc_fn {α β : Type} {n : Nat} {as : List α} {a : α → D} {b : β → D} {te : DD} {vs : List Nat} {σ : Sl} {st : Sto} {K : List D → Sto → Prop} (f : α → β) (hl : as.length ≤ 1000000) (hst : trS st.length st = st)
    (hs : ∀ x ∈ as, ∀ Q : D → Sto → Prop, Q (b (f x)) st → te ((wipeD σ vs).set n (some (.im (a x)))) st Q exF) (hk : K ((as.map f).map b) st) : lcB (as.map a) (gN n) dYes te vs σ st K := by
  refine lc_map (fun i _ => match as[i]? with
    | some x => b (f x)
    | none => .non) (by simpa using hl) hst (fun i d hd Q q => ?_) fun ys h1 h2 => ?_
  · rw [List.getElem?_map] at hd
    cases hx : as[i]? with
    | none => rw [hx] at hd; cases hd
    | some x =>
      rw [hx] at hd q
      cases hd
      exact hs x (List.mem_of_getElem? hx) Q q
  · have : ys = (as.map f).map b := by
      apply List.ext_getElem?
      intro i
      cases hx : as[i]? with
      | none =>
        have := List.getElem?_eq_none_iff.mp hx
        rw [List.getElem?_eq_none (by rw [h1]; simpa using this), List.getElem?_eq_none (by simpa using this)]
      | some x =>
        rw [h2 i (a x) (by rw [List.getElem?_map, hx]; rfl)]
        simp [hx]
    rw [this]
    exact hk
theorem lc_all {n : Nat} {ds : List D} {te : DD} {vs : List Nat} {σ : Sl} {st : Sto} {K : List D → Sto → Prop} (P : Nat → D → Prop) (hl : ds.length ≤ 1000000) (hst : trS st.length st = st)
    (hs : ∀ (i : Nat) d, ds[i]? = some d → ∀ Q : D → Sto → Prop, (∀ y, P i y → Q y st) → te ((wipeD σ vs).set n (some (.im d))) st Q exF) (hk : ∀ ys : List D, ys.length = ds.length → (∀ (i : Nat) y, ys[i]? = some y → P i y) → K ys st) : lcB ds (gN n) dYes te vs σ st K := by
  refine ⟨fun i acc st' => st' = st ∧ acc.length = i ∧ i ≤ ds.length ∧ ∀ (j : Nat) y, acc[j]? = some y → P j y, ⟨rfl, rfl, Nat.zero_le _, fun j d h => by simp at h⟩, ?_, ?_⟩
  · rintro i d acc st' hd ⟨rfl, ha, _, hj⟩ -
    have hi := (List.getElem?_eq_some_iff.mp hd).1
    refine twoT (hs i d hd _ fun y hy => ⟨by omega, hst, by simp [ha], hi, fun j d' h1 => ?_⟩)
    by_cases z : j < acc.length
    · rw [List.getElem?_append_left z] at h1
      exact hj j d' h1
    · rw [List.getElem?_append_right (by omega)] at h1
      have : j - acc.length = 0 := by
        have := (List.getElem?_eq_some_iff.mp h1).1
        simpa using this
      rw [this] at h1
      cases h1
      rw [show j = i by omega]
      exact hy
  · rintro acc st' ⟨rfl, ha, _, hj⟩ -
    exact hk acc ha hj
theorem chD_S (t : List Nat) : chD (S t) = t.map fun c => .str ⟨#[c]⟩ := rfl
theorem rgD_get {lo : Int} {n i : Nat} {d : D} (h : (rgD lo n)[i]? = some d) : i < n ∧ d = .int (lo + (i : Int)) := by
  unfold rgD at h
  rw [List.getElem?_map] at h
  by_cases hi : i < n
  · rw [List.getElem?_range hi] at h
    exact ⟨hi, (Option.some.inj h).symm⟩
  · rw [List.getElem?_eq_none (by simp; omega)] at h
    cases h
theorem rgD_len {lo : Int} {n : Nat} : (rgD lo n).length = n := by simp [rgD]
end Dl
end

section
set_option maxHeartbeats 4000000
namespace Dl.Vb
open PySem PySem.Spec PyProof.Rows L2 Co
inductive Tm where
  | mk (l : Str) (bs : List Tm)
inductive Vl where
  | absent
  | int (i : Int)
  | bool (b : Bool)
  | text (t : List Nat)
  | term (t : Tm)
mutual
def eT : Tm → D
  | .mk l bs => .tup [.str "term", .str l, .tup (eTs bs)]
def eTs : List Tm → List D
  | [] => []
  | t :: ts => eT t :: eTs ts
end
theorem eTs_eq : ∀ ts : List Tm, eTs ts = ts.map eT
  | [] => rfl
  | t :: ts => by
    show eT t :: eTs ts = _
    rw [eTs_eq ts]
    rfl
def eV : Vl → D
  | .absent => .tup [.str "absent"]
  | .int i => .tup [.str "integer", .int i]
  | .bool b => .tup [.str "boolean", .bl b]
  | .text t => .tup [.str "text", .str (S t)]
  | .term t => eT t
mutual
def szT : Tm → Nat
  | .mk _ bs => 1 + szTs bs
def szTs : List Tm → Nat
  | [] => 0
  | t :: ts => szT t + szTs ts
end
mutual
def hgT : Tm → Nat
  | .mk _ bs => hgTs bs
def hgTs : List Tm → Nat
  | [] => 0
  | t :: ts => max (hgT t + 1) (hgTs ts)
end
theorem szTs_eq : ∀ ts : List Tm, szTs ts = (ts.map szT).sum
  | [] => rfl
  | t :: ts => by
    show szT t + szTs ts = _
    rw [szTs_eq ts]
    rfl
theorem hg_mem : ∀ {ts : List Tm} {t : Tm}, t ∈ ts → hgT t + 1 ≤ hgTs ts
  | [], _, h => by cases h
  | u :: ts, t, h => by
    show _ ≤ max (hgT u + 1) (hgTs ts)
    rcases List.mem_cons.mp h with e | h
    · subst e
      exact Nat.le_max_left _ _
    · exact Nat.le_trans (hg_mem h) (Nat.le_max_right _ _)
theorem sz_mem : ∀ {ts : List Tm} {t : Tm}, t ∈ ts → szT t ≤ szTs ts
  | [], _, h => by cases h
  | u :: ts, t, h => by
    show _ ≤ szT u + szTs ts
    rcases List.mem_cons.mp h with e | h
    · subst e
      exact Nat.le_add_right _ _
    · exact Nat.le_trans (sz_mem h) (Nat.le_add_left _ _)
theorem len_sz : ∀ ts : List Tm, ts.length ≤ szTs ts
  | [] => Nat.le_refl _
  | .mk l bs :: ts => by
    have := len_sz ts
    show ts.length + 1 ≤ (1 + szTs bs) + szTs ts
    omega
def subs : Tm → List Tm
  | .mk _ bs => bs
def lab : Tm → Str
  | .mk l _ => l
def setV : Vl → Vl
  | .int i => if i.natAbs > 10 ^ 60 then .absent else .int i
  | .text t => if t.length > 1000 then .absent else .text t
  | .term t => if szT t > 400 then .absent else .term t
  | v => v
def quo (i j : Int) : Int := if (decide (i < 0) != decide (j < 0)) = true then -((i.natAbs : Int) / (j.natAbs : Int)) else (i.natAbs : Int) / (j.natAbs : Int)
def isFig (c : Nat) : Bool := 48 ≤ c && c ≤ 57
def dropZ : List Nat → List Nat
  | 48 :: c :: r => dropZ (c :: r)
  | l => l
def numOf (l : List Nat) : Int := (NumText.digitsVal l : Nat)
def parV (l : List Nat) : Vl := if l = [] ∨ l.all isFig = false then .absent else if (dropZ l).length > 61 then .absent else .int (numOf (dropZ l))
inductive H1 where
  | not_ | negative | length | shown | parsed | label | size | named
inductive H2 where
  | add | subtract | multiply | quotient | remainder | less | and_ | or_ | append | with_ | argument | same
def oneV : H1 → Vl → Vl
  | .not_, .bool b => .bool (!b)
  | .negative, .int i => .int (-i)
  | .length, .text t => .int t.length
  | .shown, .int i => .text (Str.ofString (toString i)).cps.toList
  | .parsed, .text t => parV t
  | .label, .term t => .text (lab t).cps.toList
  | .size, .term t => .int (subs t).length
  | .named, .text t => .term (.mk (S t) [])
  | _, _ => .absent
def twoV : H2 → Vl → Vl → Vl
  | .add, .int i, .int j => .int (i + j)
  | .subtract, .int i, .int j => .int (i - j)
  | .multiply, .int i, .int j => .int (i * j)
  | .quotient, .int i, .int j => if j = 0 then .absent else .int (quo i j)
  | .remainder, .int i, .int j => if j = 0 then .absent else .int (i - j * quo i j)
  | .less, .int i, .int j => .bool (decide (i < j))
  | .and_, .bool a, .bool b => .bool (a && b)
  | .or_, .bool a, .bool b => .bool (a || b)
  | .append, .text a, .text b => .text (a ++ b)
  | .with_, .term a, .term b => .term (.mk (lab a) (subs a ++ [b]))
  | .argument, .term a, .int i => if i < 0 ∨ ((subs a).length : Int) ≤ i then .absent else match (subs a)[i.toNat]? with
    | some b => .term b
    | none => .absent
  | .same, a, b => .bool (eqvD (eV a) (eV b))
  | _, _, _ => .absent
def isAbs : Vl → Bool
  | .absent => true
  | _ => false
def nm1 : H1 → Str
  | .not_ => "not" | .negative => "negative" | .length => "length" | .shown => "shown" | .parsed => "parsed" | .label => "label" | .size => "size" | .named => "named"
def nm2 : H2 → Str
  | .add => "add" | .subtract => "subtract" | .multiply => "multiply" | .quotient => "quotient" | .remainder => "remainder" | .less => "less" | .and_ => "and" | .or_ => "or" | .append => "append" | .with_ => "with" | .argument => "argument" | .same => "same"
def Ok (x : Vl) : Prop := match x with
  | .int i => i.natAbs ≤ 10 ^ 60
  | .text t => t.length ≤ 1000
  | .term t => szT t ≤ 400 ∧ hgT t ≤ 20 ∧ (lab t).length ≤ 1000
  | _ => True
def Big (x : Vl) : Prop := match x with
  | .text t => t.length ≤ 1000000
  | .term t => szT t ≤ 1000000 ∧ hgT t ≤ 25
  | _ => True
inductive Srt where
  | int | bool | text | term
def HasS : Srt → Vl → Prop
  | .int, .int _ => True
  | .bool, .bool _ => True
  | .text, .text _ => True
  | .term, .term _ => True
  | _, _ => False
def srt1 : H1 → Srt
  | .not_ => .bool | .negative => .int | .length => .text | .shown => .int | .parsed => .text | .label => .term | .size => .term | .named => .text
def srt2 : H2 → Option (Srt × Srt)
  | .and_ => some (.bool, .bool) | .or_ => some (.bool, .bool) | .append => some (.text, .text) | .with_ => some (.term, .term) | .argument => some (.term, .int) | .same => none
  | _ => some (.int, .int)
def Fit1 (h : H1) (x : Vl) : Prop := HasS (srt1 h) x
def Fit2 (h : H2) (x y : Vl) : Prop := match srt2 h with
  | some (a, b) => HasS a x ∧ HasS b y
  | none => True
def oneP : H1 → Vl → Vl
  | .parsed, .text t => setV (parV t)
  | h, x => oneV h x
def isI : H2 → Bool
  | .add => true | .subtract => true | .multiply => true | .quotient => true | .remainder => true | .less => true
  | _ => false
def work1 (h : H1) (x : Vl) : Vl := if isAbs x = true then .absent else setV (oneV h x)
def work2 (h : H2) (x y : Vl) : Vl := if isAbs x = true ∨ isAbs y = true then .absent else setV (twoV h x y)
def pf_size (n : Nat) : Pf := fun ws st k _ => match ws, st with
  | [.im d], [] => ∃ t, d = eT t ∧ hgT t < n ∧ szT t ≤ 1000000 ∧ k (.im (.int (szT t : Nat))) []
  | _, _ => False
def pf_height (n : Nat) : Pf := fun ws st k _ => match ws, st with
  | [.im d], [] => ∃ t, d = eT t ∧ hgT t < n ∧ k (.im (.int (hgT t : Nat))) []
  | _, _ => False
def pf_settled : Pf := fun ws st k _ => match ws, st with
  | [.im d], [] => ∃ x, d = eV x ∧ Big x ∧ k (.im (eV (setV x))) []
  | _, _ => False
def pf_parsed : Pf := fun ws st k _ => match ws, st with
  | [.im (.str z)], [] => ∃ t, z = S t ∧ t.length ≤ 1000 ∧ k (.im (eV (setV (parV t)))) []
  | _, _ => False
def pf_Lparsed : Pf := fun ws st k _ => match ws, st with
  | [.im (.str z)], [] => ∃ t, z = S t ∧ t.length ≤ 1000 ∧ k (.im (eV (parV t))) []
  | _, _ => False
def pf_of_one : Pf := fun ws st k _ => match ws, st with
  | [.im (.str s), .im d], [] => ∃ h x, s = nm1 h ∧ d = eV x ∧ Fit1 h x ∧ Ok x ∧ k (.im (eV (oneP h x))) []
  | _, _ => False
def pf_Lone : Pf := fun ws st k _ => match ws, st with
  | [.im (.str s), .im d], [] => ∃ h x, s = nm1 h ∧ d = eV x ∧ Fit1 h x ∧ Ok x ∧ k (.im (eV (oneV h x))) []
  | _, _ => False
def pf_quotient : Pf := fun ws st k _ => match ws, st with
  | [.im (.int i), .im (.int j)], [] => j ≠ 0 ∧ j.natAbs ≤ 10 ^ 60 ∧ k (.im (.int (quo i j))) []
  | _, _ => False
def pf_of_integers : Pf := fun ws st k _ => match ws, st with
  | [.im (.str s), .im (.int i), .im (.int j)], [] => ∃ h, s = nm2 h ∧ isI h = true ∧ i.natAbs ≤ 10 ^ 60 ∧ j.natAbs ≤ 10 ^ 60 ∧ k (.im (eV (twoV h (.int i) (.int j)))) []
  | _, _ => False
def pf_two : Pf := fun ws st k _ => match ws, st with
  | [.im (.str s), .im d, .im e], [] => ∃ h x y, s = nm2 h ∧ d = eV x ∧ e = eV y ∧ Fit2 h x y ∧ Ok x ∧ Ok y ∧ k (.im (eV (twoV h x y))) []
  | _, _ => False
def pf_worked : Pf := fun ws st k _ => match ws, st with
  | [.im (.str s), .im (.lst ds)], [] => (∃ h x, s = nm1 h ∧ ds = [eV x] ∧ (isAbs x = false → Fit1 h x) ∧ Ok x ∧ k (.im (eV (work1 h x))) []) ∨
      ∃ h x y, s = nm2 h ∧ ds = [eV x, eV y] ∧ (isAbs x = false → isAbs y = false → Fit2 h x y) ∧ Ok x ∧ Ok y ∧ k (.im (eV (work2 h x y))) []
  | _, _ => False
inductive H3 where
  | sum | all | any | collect | join
def nm3 : H3 → Str
  | .sum => "sum" | .all => "all" | .any => "any" | .collect => "collect" | .join => "join"
def srt3 : H3 → Srt
  | .sum => .int | .all => .bool | .any => .bool | .collect => .term | .join => .text
def stp3 : H3 → H2
  | .sum => .add | .all => .and_ | .any => .or_ | .collect => .with_ | .join => .append
def beg3 : H3 → Vl
  | .sum => .int 0 | .all => .bool true | .any => .bool false | .join => .text [] | .collect => .term (.mk "" [])
def isJ : H3 → Bool
  | .join => true
  | _ => false
def nx3 (g : H3) (btw : List Nat) (i : Nat) (f v : Vl) : Vl := work2 (stp3 g) (if isJ g = true ∧ 0 < i then work2 .append f (.text btw) else f) v
def gth (g : H3) (btw : List Nat) : Nat → Vl → List Vl → Vl
  | _, f, [] => f
  | i, f, v :: vs => gth g btw (i + 1) (nx3 g btw i f v) vs
def Fit3 (g : H3) (xs : List Vl) : Prop := xs.length ≤ 6 ∧ ∀ x ∈ xs, Ok x ∧ (isAbs x = true ∨ HasS (srt3 g) x) ∧ ∀ t, x = .term t → hgT t ≤ 1
def pf_gathered : Pf := fun ws st k _ => match ws, st with
  | [.im (.str s), .im (.lst ds), .im (.str z)], [] => ∃ g xs btw, s = nm3 g ∧ ds = xs.map eV ∧ z = S btw ∧ btw.length ≤ 10 ∧ Fit3 g xs ∧ k (.im (eV (gth g btw 0 (beg3 g) xs))) []
  | _, _ => False
def nmS : Srt → Str
  | .int => "integer" | .bool => "boolean" | .text => "text" | .term => "term"
def Drw (x : Vl) : Prop := Ok x ∧ ∀ t, x = .term t → hgT t ≤ 1
def pf_Linteger : Pf := fun ws st k _ => match ws, st with
  | [.loc 0], [.pool] => ∀ i : Int, i.natAbs ≤ 10 ^ 60 → k (.im (.int i)) [.pool]
  | _, _ => False
def pf_Ltext : Pf := fun ws st k _ => match ws, st with
  | [.loc 0], [.pool] => ∀ t : List Nat, t.length ≤ 1000 → k (.im (.str (S t))) [.pool]
  | _, _ => False
def pf_Lterm : Pf := fun ws st k _ => match ws, st with
  | [.loc 0], [.pool] => ∀ t, szT t ≤ 400 → hgT t ≤ 1 → (lab t).length ≤ 1000 → k (.im (eT t)) [.pool]
  | _, _ => False
def pf_Lvalue : Pf := fun ws st k _ => match ws, st with
  | [.loc 0, .im (.str s)], [.pool] => ∃ c, s = nmS c ∧ ∀ x, Drw x → (isAbs x = true ∨ HasS c x) → k (.im (eV x)) [.pool]
  | _, _ => False
inductive Op where
  | one (h : H1) | two (h : H2) (a b : Srt)
def OpOk : Op → Prop
  | .one _ => True
  | .two h a b => match srt2 h with
    | some (c, d) => a = c ∧ b = d
    | none => a = b
def eOp : Op → D
  | .one h => .tup [.str (nm1 h), .str (nmS (srt1 h))]
  | .two h a b => .tup [.str (nm2 h), .str (nmS a), .str (nmS b)]
def pf_Loperation : Pf := fun ws st k _ => match ws, st with
  | [.loc 0], [.pool] => ∀ o, OpOk o → k (.im (eOp o)) [.pool]
  | _, _ => False
def pf_Lsame : Pf := fun ws st k _ => match ws, st with
  | [.im d, .im e], [] => ∃ x, d = eV x ∧ e = eV x ∧ (∀ t, x = .term t → hgT t ≤ 25) ∧ k (.im (.bl true)) []
  | _, _ => False
end Dl.Vb
end

section
set_option maxHeartbeats 4000000
namespace Dl.Vb
open PySem PySem.Spec PyProof.Rows L2 Co
abbrev N_size : List Str := ["value", "many", "below"]
def t_size (pf : Pf) : DS :=
 (sSeq (sAsg 1 (dI (dC (.int 1))))
 (sSeq (sFor (iSq (dIx (dV 0) (dC (.int 2)))) (gN 2)
 (sAug fAddI 1 (dD (dCall pf (aCons (dV 2) aNil)))))
 (sRet (dV 1))))
abbrev N_height : List Str := ["value", "deepest", "below"]
def t_height (pf : Pf) : DS :=
 (sSeq (sAsg 1 (dI (dUn fNeg (dC (.int 1)))))
 (sSeq (sFor (iSq (dIx (dV 0) (dC (.int 2)))) (gN 2)
 (sAsg 1 (dI (dCB fMax (aCons (dV 1) (aCons (dCall pf (aCons (dV 2) aNil)) aNil))))))
 (sRet (dI (dOp fAdd (dD (dV 1)) (dC (.int 1)))))))
abbrev N_settled : List Str := ["value"]
def t_settled : DS :=
 (sSeq (sIf (dAnd (dCmp cEq (dI (dIx (dV 0) (dC (.int 0)))) (dI (dC (.str "integer")))) (dCmp cGt (dI (dCB fAbs (aCons (dI (dIx (dV 0) (dC (.int 1)))) aNil))) (dI (dC (.int (1000000000000000000000000000000000000000000000000000000000000)))))) (sRet (dI (dC (.tup [.str "absent"])))) sNext)
 (sSeq (sIf (dAnd (dCmp cEq (dI (dIx (dV 0) (dC (.int 0)))) (dI (dC (.str "text")))) (dCmp cGt (dI (dCB fLen (aCons (dI (dIx (dV 0) (dC (.int 1)))) aNil))) (dI (dC (.int (1000)))))) (sRet (dI (dC (.tup [.str "absent"])))) sNext)
 (sSeq (sIf (dAnd (dCmp cEq (dI (dIx (dV 0) (dC (.int 0)))) (dI (dC (.str "term")))) (dOr (dCmp cGt (dCall (pf_size 30) (aCons (dV 0) aNil)) (dI (dC (.int (400))))) (dCmp cGt (dCall (pf_height 30) (aCons (dV 0) aNil)) (dI (dC (.int 100)))))) (sRet (dI (dC (.tup [.str "absent"])))) sNext)
 (sRet (dV 0)))))
abbrev N_parsed : List Str := ["text", "sign"]
def t_parsed : DS :=
 (sSeq (sIf (dOr (dCmp cEq (dV 0) (dI (dC (.str "")))) (dNot (dTru (dI (dCB fAll (aCons (dI (dLc (iSt (dD (dV 0))) (gN 1) dYes (dB (dCmp cIn (dV 1) (dI (dC (.str "0123456789"))))) ([("sign", 1)].map (·.2)))) aNil)))))) (sRet (dI (dC (.tup [.str "absent"])))) sNext)
 (sSeq (sAsg 0 (dI (dBM "str" mLstrip (dV 0) (aCons (dI (dC (.str "0"))) aNil))))
 (sSeq (sIf (dCmp cGt (dI (dCB fLen (aCons (dV 0) aNil))) (dI (dC (.int 61)))) (sRet (dI (dC (.tup [.str "absent"])))) sNext)
 (sSeq (sIf (dCmp cEq (dV 0) (dI (dC (.str "")))) (sRet (dI (dTup (adCons (dC (.str "integer")) (adCons (dC (.int 0)) adNil))))) sNext)
 (sRet (dCall pf_settled (aCons (dI (dTup (adCons (dC (.str "integer")) (adCons (dCB fInt (aCons (dV 0) aNil)) adNil)))) aNil)))))))
abbrev N_of_one : List Str := ["head", "value"]
def t_of_one : DS :=
 (sSeq (sIf (dCmp cEq (dV 0) (dI (dC (.str "not")))) (sRet (dI (dTup (adCons (dC (.str "boolean")) (adCons (dB (dNot (dTru (dI (dIx (dV 1) (dC (.int 1))))))) adNil))))) sNext)
 (sSeq (sIf (dCmp cEq (dV 0) (dI (dC (.str "negative")))) (sRet (dI (dTup (adCons (dC (.str "integer")) (adCons (dUn fNeg (dIx (dV 1) (dC (.int 1)))) adNil))))) sNext)
 (sSeq (sIf (dCmp cEq (dV 0) (dI (dC (.str "length")))) (sRet (dI (dTup (adCons (dC (.str "integer")) (adCons (dCB fLen (aCons (dI (dIx (dV 1) (dC (.int 1)))) aNil)) adNil))))) sNext)
 (sSeq (sIf (dCmp cEq (dV 0) (dI (dC (.str "shown")))) (sRet (dI (dTup (adCons (dC (.str "text")) (adCons (dCB fStrI (aCons (dI (dIx (dV 1) (dC (.int 1)))) aNil)) adNil))))) sNext)
 (sSeq (sIf (dCmp cEq (dV 0) (dI (dC (.str "parsed")))) (sRet (dCall pf_parsed (aCons (dI (dIx (dV 1) (dC (.int 1)))) aNil))) sNext)
 (sSeq (sIf (dCmp cEq (dV 0) (dI (dC (.str "label")))) (sRet (dI (dTup (adCons (dC (.str "text")) (adCons (dIx (dV 1) (dC (.int 1))) adNil))))) sNext)
 (sSeq (sIf (dCmp cEq (dV 0) (dI (dC (.str "size")))) (sRet (dI (dTup (adCons (dC (.str "integer")) (adCons (dCB fLen (aCons (dI (dIx (dV 1) (dC (.int 2)))) aNil)) adNil))))) sNext)
 (sRet (dI (dTup (adCons (dC (.str "term")) (adCons (dIx (dV 1) (dC (.int 1))) (adCons (dTup adNil) adNil)))))))))))))
abbrev N_quotient : List Str := ["left", "right", "found"]
def t_quotient : DS :=
 (sSeq (sAsg 2 (dI (dOp fDiv (dCB fAbs (aCons (dV 0) aNil)) (dCB fAbs (aCons (dV 1) aNil)))))
 (sSeq (sIf (dCmp cNe (dI (dB (dCmp cLt (dV 0) (dI (dC (.int 0)))))) (dI (dB (dCmp cLt (dV 1) (dI (dC (.int 0))))))) (sRet (dI (dUn fNeg (dD (dV 2))))) sNext)
 (sRet (dV 2))))
abbrev N_of_integers : List Str := ["head", "left", "right"]
def t_of_integers : DS :=
 (sSeq (sIf (dCmp cEq (dV 0) (dI (dC (.str "add")))) (sRet (dI (dTup (adCons (dC (.str "integer")) (adCons (dOp fAdd (dD (dV 1)) (dD (dV 2))) adNil))))) sNext)
 (sSeq (sIf (dCmp cEq (dV 0) (dI (dC (.str "subtract")))) (sRet (dI (dTup (adCons (dC (.str "integer")) (adCons (dOp fSub (dD (dV 1)) (dD (dV 2))) adNil))))) sNext)
 (sSeq (sIf (dCmp cEq (dV 0) (dI (dC (.str "multiply")))) (sRet (dI (dTup (adCons (dC (.str "integer")) (adCons (dOp fMul (dD (dV 1)) (dD (dV 2))) adNil))))) sNext)
 (sSeq (sIf (dCmp cEq (dV 0) (dI (dC (.str "less")))) (sRet (dI (dTup (adCons (dC (.str "boolean")) (adCons (dB (dCmp cLt (dV 1) (dV 2))) adNil))))) sNext)
 (sSeq (sIf (dCmp cEq (dV 2) (dI (dC (.int 0)))) (sRet (dI (dC (.tup [.str "absent"])))) sNext)
 (sSeq (sIf (dCmp cEq (dV 0) (dI (dC (.str "quotient")))) (sRet (dI (dTup (adCons (dC (.str "integer")) (adCons (dD (dCall pf_quotient (aCons (dV 1) (aCons (dV 2) aNil)))) adNil))))) sNext)
 (sRet (dI (dTup (adCons (dC (.str "integer")) (adCons (dOp fSub (dD (dV 1)) (dOp fMul (dD (dV 2)) (dD (dCall pf_quotient (aCons (dV 1) (aCons (dV 2) aNil)))))) adNil)))))))))))
abbrev N_of_two : List Str := ["head", "one", "other"]
def t_of_two : DS :=
 (sSeq (sIf (dCmp cEq (dV 0) (dI (dC (.str "same")))) (sRet (dI (dTup (adCons (dC (.str "boolean")) (adCons (dB (dCmp cEq (dV 1) (dV 2))) adNil))))) sNext)
 (sSeq (sIf (dCmp cEq (dV 0) (dI (dC (.str "and")))) (sRet (dI (dTup (adCons (dC (.str "boolean")) (adCons (dD (dAndV (dI (dIx (dV 1) (dC (.int 1)))) (dI (dIx (dV 2) (dC (.int 1)))))) adNil))))) sNext)
 (sSeq (sIf (dCmp cEq (dV 0) (dI (dC (.str "or")))) (sRet (dI (dTup (adCons (dC (.str "boolean")) (adCons (dD (dOrV (dI (dIx (dV 1) (dC (.int 1)))) (dI (dIx (dV 2) (dC (.int 1)))))) adNil))))) sNext)
 (sSeq (sIf (dCmp cEq (dV 0) (dI (dC (.str "append")))) (sRet (dI (dTup (adCons (dC (.str "text")) (adCons (dOp fAdd (dIx (dV 1) (dC (.int 1))) (dIx (dV 2) (dC (.int 1)))) adNil))))) sNext)
 (sSeq (sIf (dCmp cEq (dV 0) (dI (dC (.str "with")))) (sRet (dI (dTup (adCons (dC (.str "term")) (adCons (dIx (dV 1) (dC (.int 1))) (adCons (dOp fAdd (dIx (dV 1) (dC (.int 2))) (dTup (adCons (dD (dV 2)) adNil))) adNil)))))) sNext)
 (sSeq (sIf (dCmp cEq (dV 0) (dI (dC (.str "argument")))) (sSeq (sIf (dOr (dCmp cLt (dI (dIx (dV 2) (dC (.int 1)))) (dI (dC (.int 0)))) (dCmp cGe (dI (dIx (dV 2) (dC (.int 1)))) (dI (dCB fLen (aCons (dI (dIx (dV 1) (dC (.int 2)))) aNil))))) (sRet (dI (dC (.tup [.str "absent"])))) sNext)
 (sRet (dI (dIx (dI (dIx (dV 1) (dC (.int 2)))) (dIx (dV 2) (dC (.int 1))))))) sNext)
 (sRet (dCall pf_of_integers (aCons (dV 0) (aCons (dI (dIx (dV 1) (dC (.int 1)))) (aCons (dI (dIx (dV 2) (dC (.int 1)))) aNil)))))))))))
abbrev N_worked : List Str := ["head", "operands"]
def t_worked : DS :=
 (sSeq (sIf (dCmp cIn (dI (dC (.tup [.str "absent"]))) (dV 1)) (sRet (dI (dC (.tup [.str "absent"])))) sNext)
 (sSeq (sIf (dCmp cEq (dI (dCB fLen (aCons (dV 1) aNil))) (dI (dC (.int 1)))) (sRet (dCall pf_settled (aCons (dCall pf_of_one (aCons (dV 0) (aCons (dI (dIx (dV 1) (dC (.int 0)))) aNil))) aNil))) sNext)
 (sRet (dCall pf_settled (aCons (dCall pf_two (aCons (dV 0) (aCons (dI (dIx (dV 1) (dC (.int 0)))) (aCons (dI (dIx (dV 1) (dC (.int 1)))) aNil)))) aNil)))))
abbrev N_gathered : List Str := ["head", "values", "between", "starts", "found", "steps", "k"]
def t_gathered : DS :=
 (sSeq (sAsg 3 (dI (dDispD [((dC (.str "sum")), (dTup (adCons (dC (.str "integer")) (adCons (dC (.int 0)) adNil)))), ((dC (.str "all")), (dTup (adCons (dC (.str "boolean")) (adCons (dC (.bl true)) adNil)))), ((dC (.str "any")), (dTup (adCons (dC (.str "boolean")) (adCons (dC (.bl false)) adNil)))), ((dC (.str "join")), (dTup (adCons (dC (.str "text")) (adCons (dC (.str "")) adNil))))])))
 (sSeq (sAsg 4 (dI (dGet2 false (dV 3) (dD (dV 0)) (dTup (adCons (dC (.str "term")) (adCons (dC (.str "")) (adCons (dTup adNil) adNil)))))))
 (sSeq (sAsg 5 (dI (dDispD [((dC (.str "sum")), (dC (.str "add"))), ((dC (.str "all")), (dC (.str "and"))), ((dC (.str "any")), (dC (.str "or"))), ((dC (.str "collect")), (dC (.str "with"))), ((dC (.str "join")), (dC (.str "append")))])))
 (sSeq (sFor (iRg1 (dCB fLen (aCons (dV 1) aNil))) (gN 6)
 (sSeq (sIf (dAnd (dCmp cEq (dV 0) (dI (dC (.str "join")))) (dCmp cGt (dV 6) (dI (dC (.int 0))))) (sAsg 4 (dCall pf_worked (aCons (dI (dC (.str "append"))) (aCons (dI (dLst (adCons (dD (dV 4)) (adCons (dTup (adCons (dC (.str "text")) (adCons (dD (dV 2)) adNil))) adNil)))) aNil)))) sNext)
 (sAsg 4 (dIfE (dCmp cEq (dV 4) (dI (dC (.tup [.str "absent"])))) (dI (dC (.tup [.str "absent"]))) (dCall pf_worked (aCons (dI (dGet false (dV 5) (dD (dV 0)))) (aCons (dI (dLst (adCons (dD (dV 4)) (adCons (dIx (dV 1) (dD (dV 6))) adNil)))) aNil)))))))
 (sRet (dV 4))))))
abbrev N_Linteger : List Str := ["_law_pool_here", "_law_kind"]
def t_Linteger : DS :=
 (sSeq (sAsg 1 (dCall pf_take (aCons (dV 0) (aCons (dI (dC (.int 5))) aNil))))
 (sSeq (sIf (dCmp cEq (dV 1) (dI (dC (.int 0)))) (sRet (dI (dIx (dI (dTup (adCons (dOp fPow (dC (.int 10)) (dC (.int 60))) (adCons (dUn fNeg (dOp fPow (dC (.int 10)) (dC (.int 60)))) (adCons (dOp fSub (dOp fPow (dC (.int 10)) (dC (.int 60))) (dC (.int 1))) (adCons (dC (.int 0)) adNil)))))) (dD (dCall pf_take (aCons (dV 0) (aCons (dI (dC (.int 4))) aNil))))))) sNext)
 (sSeq (sIf (dCmp cEq (dV 1) (dI (dC (.int 1)))) (sRet (dI (dOp fMul (dOp fAdd (dD (dCall pf_take (aCons (dV 0) (aCons (dI (dOp fPow (dC (.int 10)) (dC (.int 30)))) aNil)))) (dC (.int 1))) (dIx (dI (dTup (adCons (dC (.int 1)) (adCons (dUn fNeg (dC (.int 1))) adNil)))) (dD (dCall pf_take (aCons (dV 0) (aCons (dI (dC (.int 2))) aNil)))))))) sNext)
 (sRet (dI (dOp fSub (dD (dCall pf_take (aCons (dV 0) (aCons (dI (dC (.int 41))) aNil)))) (dC (.int 20))))))))
abbrev N_Ltext : List Str := ["_law_pool_here", "_law_signs", "_law_size_here", "_law_base", "_law_k"]
def t_Ltext : DS :=
 (sSeq (sAsg 1 (dI (dC (.str "0123456789ab-+ "))))
 (sSeq (sAsg 2 (dI (dIx (dI (dTup (adCons (dC (.int 0)) (adCons (dC (.int 1)) (adCons (dC (.int 2)) (adCons (dC (.int 5)) (adCons (dC (.int 499)) (adCons (dC (.int 999)) adNil)))))))) (dD (dCall pf_take (aCons (dV 0) (aCons (dI (dC (.int 6))) aNil)))))))
 (sSeq (sAsg 3 (dI (dBM "str" mJoin (dI (dC (.str ""))) (aCons (dI (dLc (iRg1 (dCB fMin (aCons (dV 2) (aCons (dI (dC (.int 5))) aNil)))) (gN 4) dYes (dIx (dV 1) (dD (dCall pf_take (aCons (dV 0) (aCons (dI (dIx (dI (dTup (adCons (dC (.int 10)) (adCons (dC (.int 15)) adNil)))) (dOp fDiv (dD (dV 4)) (dC (.int 3))))) aNil))))) ([("_law_k", 4)].map (·.2)))) aNil))))
 (sRet (dI (dOp fAdd (dD (dV 3)) (dOp fMul (dC (.str "7")) (dOp fSub (dD (dV 2)) (dCB fLen (aCons (dV 3) aNil))))))))))
abbrev N_Lterm : List Str := ["_law_pool_here", "_law_many", "_law_below", "_law_k"]
def t_Lterm : DS :=
 (sSeq (sAsg 1 (dI (dIx (dI (dTup (adCons (dC (.int 0)) (adCons (dC (.int 1)) (adCons (dC (.int 3)) (adCons (dC (.int 398)) (adCons (dC (.int 399)) adNil))))))) (dD (dCall pf_take (aCons (dV 0) (aCons (dI (dC (.int 5))) aNil)))))))
 (sSeq (sAsg 2 (dI (dLc (iRg1 (dD (dV 1))) (gN 3) dYes (dTup (adCons (dC (.str "term")) (adCons (dOp fAdd (dC (.str "t")) (dCB fStrI (aCons (dV 3) aNil))) (adCons (dTup adNil) adNil)))) ([("_law_k", 3)].map (·.2)))))
 (sRet (dI (dTup (adCons (dC (.str "term")) (adCons (dIx (dI (dTup (adCons (dC (.str "a")) (adCons (dC (.str "")) (adCons (dC (.str "b")) adNil))))) (dD (dCall pf_take (aCons (dV 0) (aCons (dI (dC (.int 3))) aNil))))) (adCons (dCB fTuple (aCons (dV 2) aNil)) adNil))))))))
abbrev N_Lvalue : List Str := ["_law_pool_here", "_law_sort"]
def t_Lvalue : DS :=
 (sSeq (sIf (dCmp cEq (dCall pf_take (aCons (dV 0) (aCons (dI (dC (.int 8))) aNil))) (dI (dC (.int 0)))) (sRet (dI (dTup (adCons (dC (.str "absent")) adNil)))) sNext)
 (sSeq (sIf (dCmp cEq (dV 1) (dI (dC (.str "integer")))) (sRet (dI (dTup (adCons (dC (.str "integer")) (adCons (dD (dCall pf_Linteger (aCons (dV 0) aNil))) adNil))))) sNext)
 (sSeq (sIf (dCmp cEq (dV 1) (dI (dC (.str "boolean")))) (sRet (dI (dTup (adCons (dC (.str "boolean")) (adCons (dB (dCmp cEq (dCall pf_take (aCons (dV 0) (aCons (dI (dC (.int 2))) aNil))) (dI (dC (.int 0))))) adNil))))) sNext)
 (sSeq (sIf (dCmp cEq (dV 1) (dI (dC (.str "text")))) (sRet (dI (dTup (adCons (dC (.str "text")) (adCons (dD (dCall pf_Ltext (aCons (dV 0) aNil))) adNil))))) sNext)
 (sRet (dCall pf_Lterm (aCons (dV 0) aNil)))))))
abbrev N_Lsize : List Str := ["_law_term_here", "_law_below"]
def t_Lsize (pf : Pf) : DS :=
 (sRet (dI (dOp fAdd (dC (.int 1)) (dCB fSum (aCons (dI (dLc (iSq (dIx (dV 0) (dC (.int 2)))) (gN 1) dYes (dD (dCall pf (aCons (dV 1) aNil))) ([("_law_below", 1)].map (·.2)))) aNil)))))
abbrev N_Lsettled : List Str := ["_law_value_here"]
def t_Lsettled : DS :=
 (sSeq (sIf (dAnd (dCmp cEq (dI (dIx (dV 0) (dC (.int 0)))) (dI (dC (.str "integer")))) (dCmp cGt (dI (dCB fAbs (aCons (dI (dIx (dV 0) (dC (.int 1)))) aNil))) (dI (dOp fPow (dC (.int 10)) (dC (.int 60)))))) (sRet (dI (dTup (adCons (dC (.str "absent")) adNil)))) sNext)
 (sSeq (sIf (dAnd (dCmp cEq (dI (dIx (dV 0) (dC (.int 0)))) (dI (dC (.str "text")))) (dCmp cGt (dI (dCB fLen (aCons (dI (dIx (dV 0) (dC (.int 1)))) aNil))) (dI (dC (.int 1000))))) (sRet (dI (dTup (adCons (dC (.str "absent")) adNil)))) sNext)
 (sSeq (sIf (dAnd (dCmp cEq (dI (dIx (dV 0) (dC (.int 0)))) (dI (dC (.str "term")))) (dCmp cGt (dCall (pf_size 30) (aCons (dV 0) aNil)) (dI (dC (.int 400))))) (sRet (dI (dTup (adCons (dC (.str "absent")) adNil)))) sNext)
 (sRet (dV 0)))))
abbrev N_Lquotient : List Str := ["_law_left", "_law_right", "_law_found"]
def t_Lquotient : DS :=
 (sSeq (sAsg 2 (dI (dC (.int 0))))
 (sSeq (sIf (dCmp cEq (dI (dB (dCmp cLt (dV 0) (dI (dC (.int 0)))))) (dI (dB (dCmp cLt (dV 1) (dI (dC (.int 0))))))) (sAsg 2 (dI (dOp fDiv (dCB fAbs (aCons (dV 0) aNil)) (dCB fAbs (aCons (dV 1) aNil))))) (sAsg 2 (dI (dUn fNeg (dOp fDiv (dCB fAbs (aCons (dV 0) aNil)) (dCB fAbs (aCons (dV 1) aNil)))))))
 (sRet (dV 2))))
abbrev N_Lparsed : List Str := ["_law_text_here", "_law_sign"]
def t_Lparsed : DS :=
 (sSeq (sIf (dOr (dCmp cEq (dV 0) (dI (dC (.str "")))) (dTru (dI (dCB fAny (aCons (dI (dLc (iSt (dD (dV 0))) (gN 1) dYes (dB (dCmp cNotIn (dV 1) (dI (dC (.str "0123456789"))))) ([("_law_sign", 1)].map (·.2)))) aNil))))) (sRet (dI (dTup (adCons (dC (.str "absent")) adNil)))) sNext)
 (sSeq (sWhile (dAnd (dCmp cGt (dI (dCB fLen (aCons (dV 0) aNil))) (dI (dC (.int 1)))) (dCmp cEq (dI (dIx (dV 0) (dC (.int 0)))) (dI (dC (.str "0")))))
 (sAsg 0 (dI (dSl (dV 0) (dPart (dC (.int 1))) dNoPart))))
 (sSeq (sIf (dCmp cGt (dI (dCB fLen (aCons (dV 0) aNil))) (dI (dC (.int 61)))) (sRet (dI (dTup (adCons (dC (.str "absent")) adNil)))) sNext)
 (sRet (dI (dTup (adCons (dC (.str "integer")) (adCons (dCB fInt (aCons (dV 0) aNil)) adNil))))))))
abbrev N_Lone : List Str := ["_law_head", "_law_value_here"]
def t_Lone : DS :=
 (sSeq (sIf (dCmp cEq (dV 0) (dI (dC (.str "not")))) (sRet (dI (dTup (adCons (dC (.str "boolean")) (adCons (dB (dNot (dTru (dI (dIx (dV 1) (dC (.int 1))))))) adNil))))) sNext)
 (sSeq (sIf (dCmp cEq (dV 0) (dI (dC (.str "negative")))) (sRet (dI (dTup (adCons (dC (.str "integer")) (adCons (dUn fNeg (dIx (dV 1) (dC (.int 1)))) adNil))))) sNext)
 (sSeq (sIf (dCmp cEq (dV 0) (dI (dC (.str "length")))) (sRet (dI (dTup (adCons (dC (.str "integer")) (adCons (dCB fLen (aCons (dI (dIx (dV 1) (dC (.int 1)))) aNil)) adNil))))) sNext)
 (sSeq (sIf (dCmp cEq (dV 0) (dI (dC (.str "shown")))) (sRet (dI (dTup (adCons (dC (.str "text")) (adCons (dCB fStrI (aCons (dI (dIx (dV 1) (dC (.int 1)))) aNil)) adNil))))) sNext)
 (sSeq (sIf (dCmp cEq (dV 0) (dI (dC (.str "parsed")))) (sRet (dCall pf_Lparsed (aCons (dI (dIx (dV 1) (dC (.int 1)))) aNil))) sNext)
 (sSeq (sIf (dCmp cEq (dV 0) (dI (dC (.str "label")))) (sRet (dI (dTup (adCons (dC (.str "text")) (adCons (dIx (dV 1) (dC (.int 1))) adNil))))) sNext)
 (sSeq (sIf (dCmp cEq (dV 0) (dI (dC (.str "size")))) (sRet (dI (dTup (adCons (dC (.str "integer")) (adCons (dCB fLen (aCons (dI (dIx (dV 1) (dC (.int 2)))) aNil)) adNil))))) sNext)
 (sRet (dI (dTup (adCons (dC (.str "term")) (adCons (dIx (dV 1) (dC (.int 1))) (adCons (dTup adNil) adNil)))))))))))))
abbrev N_Ltwo : List Str := ["_law_head", "_law_one_here", "_law_other"]
def t_Ltwo : DS :=
 (sSeq (sIf (dCmp cEq (dV 0) (dI (dC (.str "add")))) (sRet (dI (dTup (adCons (dC (.str "integer")) (adCons (dOp fAdd (dIx (dV 1) (dC (.int 1))) (dIx (dV 2) (dC (.int 1)))) adNil))))) sNext)
 (sSeq (sIf (dCmp cEq (dV 0) (dI (dC (.str "subtract")))) (sRet (dI (dTup (adCons (dC (.str "integer")) (adCons (dOp fSub (dIx (dV 1) (dC (.int 1))) (dIx (dV 2) (dC (.int 1)))) adNil))))) sNext)
 (sSeq (sIf (dCmp cEq (dV 0) (dI (dC (.str "multiply")))) (sRet (dI (dTup (adCons (dC (.str "integer")) (adCons (dOp fMul (dIx (dV 1) (dC (.int 1))) (dIx (dV 2) (dC (.int 1)))) adNil))))) sNext)
 (sSeq (sIf (dCmp cEq (dV 0) (dI (dC (.str "less")))) (sRet (dI (dTup (adCons (dC (.str "boolean")) (adCons (dB (dCmp cLt (dI (dIx (dV 1) (dC (.int 1)))) (dI (dIx (dV 2) (dC (.int 1)))))) adNil))))) sNext)
 (sSeq (sIf (dAnd (dCmp cIn (dV 0) (dI (dTup (adCons (dC (.str "quotient")) (adCons (dC (.str "remainder")) adNil))))) (dCmp cEq (dI (dIx (dV 2) (dC (.int 1)))) (dI (dC (.int 0))))) (sRet (dI (dTup (adCons (dC (.str "absent")) adNil)))) sNext)
 (sSeq (sIf (dCmp cEq (dV 0) (dI (dC (.str "quotient")))) (sRet (dI (dTup (adCons (dC (.str "integer")) (adCons (dD (dCall pf_quotient (aCons (dI (dIx (dV 1) (dC (.int 1)))) (aCons (dI (dIx (dV 2) (dC (.int 1)))) aNil)))) adNil))))) sNext)
 (sSeq (sIf (dCmp cEq (dV 0) (dI (dC (.str "remainder")))) (sRet (dI (dTup (adCons (dC (.str "integer")) (adCons (dOp fSub (dIx (dV 1) (dC (.int 1))) (dOp fMul (dIx (dV 2) (dC (.int 1))) (dD (dCall pf_quotient (aCons (dI (dIx (dV 1) (dC (.int 1)))) (aCons (dI (dIx (dV 2) (dC (.int 1)))) aNil)))))) adNil))))) sNext)
 (sSeq (sIf (dCmp cEq (dV 0) (dI (dC (.str "same")))) (sRet (dI (dTup (adCons (dC (.str "boolean")) (adCons (dB (dCmp cEq (dV 1) (dV 2))) adNil))))) sNext)
 (sSeq (sIf (dCmp cEq (dV 0) (dI (dC (.str "and")))) (sRet (dI (dTup (adCons (dC (.str "boolean")) (adCons (dD (dAndV (dI (dIx (dV 1) (dC (.int 1)))) (dI (dIx (dV 2) (dC (.int 1)))))) adNil))))) sNext)
 (sSeq (sIf (dCmp cEq (dV 0) (dI (dC (.str "or")))) (sRet (dI (dTup (adCons (dC (.str "boolean")) (adCons (dD (dOrV (dI (dIx (dV 1) (dC (.int 1)))) (dI (dIx (dV 2) (dC (.int 1)))))) adNil))))) sNext)
 (sSeq (sIf (dCmp cEq (dV 0) (dI (dC (.str "append")))) (sRet (dI (dTup (adCons (dC (.str "text")) (adCons (dOp fAdd (dIx (dV 1) (dC (.int 1))) (dIx (dV 2) (dC (.int 1)))) adNil))))) sNext)
 (sSeq (sIf (dCmp cEq (dV 0) (dI (dC (.str "with")))) (sRet (dI (dTup (adCons (dC (.str "term")) (adCons (dIx (dV 1) (dC (.int 1))) (adCons (dOp fAdd (dIx (dV 1) (dC (.int 2))) (dTup (adCons (dD (dV 2)) adNil))) adNil)))))) sNext)
 (sRet (dIfE (dChain cLe cLt (dI (dC (.int 0))) (dI (dIx (dV 2) (dC (.int 1)))) (dI (dCB fLen (aCons (dI (dIx (dV 1) (dC (.int 2)))) aNil)))) (dI (dIx (dI (dIx (dV 1) (dC (.int 2)))) (dIx (dV 2) (dC (.int 1))))) (dI (dTup (adCons (dC (.str "absent")) adNil)))))))))))))))))
abbrev N_Lworked : List Str := ["_law_head", "_law_operands"]
def t_Lworked : DS :=
 (sSeq (sIf (dCmp cIn (dI (dTup (adCons (dC (.str "absent")) adNil))) (dV 1)) (sRet (dI (dTup (adCons (dC (.str "absent")) adNil)))) sNext)
 (sSeq (sIf (dCmp cEq (dI (dCB fLen (aCons (dV 1) aNil))) (dI (dC (.int 1)))) (sRet (dCall pf_settled (aCons (dCall pf_Lone (aCons (dV 0) (aCons (dI (dIx (dV 1) (dC (.int 0)))) aNil))) aNil))) sNext)
 (sRet (dCall pf_settled (aCons (dCall pf_two (aCons (dV 0) (aCons (dI (dIx (dV 1) (dC (.int 0)))) (aCons (dI (dIx (dV 1) (dC (.int 1)))) aNil)))) aNil)))))
abbrev N_Loperation : List Str := ["_law_pool_here", "_law_rows", "_law_sort"]
def t_Loperation : DS :=
 (sSeq (sAsg 1 (dLstM (adCons (dTup (adCons (dC (.str "not")) (adCons (dC (.str "boolean")) adNil))) (adCons (dTup (adCons (dC (.str "negative")) (adCons (dC (.str "integer")) adNil))) (adCons (dTup (adCons (dC (.str "length")) (adCons (dC (.str "text")) adNil))) (adCons (dTup (adCons (dC (.str "shown")) (adCons (dC (.str "integer")) adNil))) (adCons (dTup (adCons (dC (.str "parsed")) (adCons (dC (.str "text")) adNil))) (adCons (dTup (adCons (dC (.str "label")) (adCons (dC (.str "term")) adNil))) (adCons (dTup (adCons (dC (.str "size")) (adCons (dC (.str "term")) adNil))) (adCons (dTup (adCons (dC (.str "named")) (adCons (dC (.str "text")) adNil))) (adCons (dTup (adCons (dC (.str "add")) (adCons (dC (.str "integer")) (adCons (dC (.str "integer")) adNil)))) (adCons (dTup (adCons (dC (.str "subtract")) (adCons (dC (.str "integer")) (adCons (dC (.str "integer")) adNil)))) (adCons (dTup (adCons (dC (.str "multiply")) (adCons (dC (.str "integer")) (adCons (dC (.str "integer")) adNil)))) (adCons (dTup (adCons (dC (.str "quotient")) (adCons (dC (.str "integer")) (adCons (dC (.str "integer")) adNil)))) (adCons (dTup (adCons (dC (.str "remainder")) (adCons (dC (.str "integer")) (adCons (dC (.str "integer")) adNil)))) (adCons (dTup (adCons (dC (.str "less")) (adCons (dC (.str "integer")) (adCons (dC (.str "integer")) adNil)))) (adCons (dTup (adCons (dC (.str "and")) (adCons (dC (.str "boolean")) (adCons (dC (.str "boolean")) adNil)))) (adCons (dTup (adCons (dC (.str "or")) (adCons (dC (.str "boolean")) (adCons (dC (.str "boolean")) adNil)))) (adCons (dTup (adCons (dC (.str "append")) (adCons (dC (.str "text")) (adCons (dC (.str "text")) adNil)))) (adCons (dTup (adCons (dC (.str "with")) (adCons (dC (.str "term")) (adCons (dC (.str "term")) adNil)))) (adCons (dTup (adCons (dC (.str "argument")) (adCons (dC (.str "term")) (adCons (dC (.str "integer")) adNil)))) adNil)))))))))))))))))))))
 (sSeq (sAsg 2 (dI (dIx (dI (dTup (adCons (dC (.str "integer")) (adCons (dC (.str "boolean")) (adCons (dC (.str "text")) (adCons (dC (.str "term")) adNil)))))) (dD (dCall pf_take (aCons (dV 0) (aCons (dI (dC (.int 4))) aNil)))))))
 (sSeq (sApp (dV 1) (dTup (adCons (dC (.str "same")) (adCons (dD (dV 2)) (adCons (dD (dV 2)) adNil)))))
 (sRet (dI (dIx (dV 1) (dD (dCall pf_take (aCons (dV 0) (aCons (dI (dCB fLen (aCons (dV 1) aNil))) aNil))))))))))
abbrev N_Lover : List Str := ["_law_head", "_law_values", "_law_between", "_law_found", "_law_steps", "_law_value_here", "_law_k"]
def t_Lover : DS :=
 (sSeq (sAsg 3 (dDispM [((dC (.str "sum")), (dTup (adCons (dC (.str "integer")) (adCons (dC (.int 0)) adNil)))), ((dC (.str "all")), (dTup (adCons (dC (.str "boolean")) (adCons (dC (.bl true)) adNil)))), ((dC (.str "any")), (dTup (adCons (dC (.str "boolean")) (adCons (dC (.bl false)) adNil)))), ((dC (.str "join")), (dTup (adCons (dC (.str "text")) (adCons (dC (.str "")) adNil))))]))
 (sSeq (sDPutS false (dV 3) (dC (.str "collect")) (dTup (adCons (dC (.str "term")) (adCons (dC (.str "")) (adCons (dTup adNil) adNil)))))
 (sSeq (sAsg 4 (dI (dDispD [((dC (.str "sum")), (dC (.str "add"))), ((dC (.str "all")), (dC (.str "and"))), ((dC (.str "any")), (dC (.str "or"))), ((dC (.str "collect")), (dC (.str "with"))), ((dC (.str "join")), (dC (.str "append")))])))
 (sSeq (sAsg 5 (dI (dGet false (dV 3) (dD (dV 0)))))
 (sSeq (sFor (iRg1 (dCB fLen (aCons (dV 1) aNil))) (gN 6)
 (sSeq (sIf (dAnd (dCmp cEq (dV 0) (dI (dC (.str "join")))) (dCmp cGt (dV 6) (dI (dC (.int 0))))) (sAsg 5 (dCall pf_worked (aCons (dI (dC (.str "append"))) (aCons (dI (dLst (adCons (dD (dV 5)) (adCons (dTup (adCons (dC (.str "text")) (adCons (dD (dV 2)) adNil))) adNil)))) aNil)))) sNext)
 (sAsg 5 (dCall pf_worked (aCons (dI (dGet false (dV 4) (dD (dV 0)))) (aCons (dI (dLst (adCons (dD (dV 5)) (adCons (dIx (dV 1) (dD (dV 6))) adNil)))) aNil))))))
 (sRet (dV 5)))))))
abbrev N_Lsame : List Str := ["_law_actual", "_law_due"]
def t_Lsame : DS :=
 (sSeq (sIf (dOr (dNot (dTru (dI (dCB fIsi (aCons (dV 0) (aCons (dI (dC (.ty "tuple"))) aNil)))))) (dCmp cNe (dV 0) (dV 1))) (sRet (dI (dC (.bl false)))) sNext)
 (sSeq (sIf (dCmp cEq (dI (dIx (dV 1) (dC (.int 0)))) (dI (dC (.str "boolean")))) (sRet (dI (dCB fIsi (aCons (dI (dIx (dV 0) (dC (.int 1)))) (aCons (dI (dC (.ty "bool"))) aNil))))) sNext)
 (sRet (dOrV (dI (dB (dCmp cNe (dI (dIx (dV 1) (dC (.int 0)))) (dI (dC (.str "integer")))))) (dI (dB (dNot (dTru (dI (dCB fIsi (aCons (dI (dIx (dV 0) (dC (.int 1)))) (aCons (dI (dC (.ty "bool"))) aNil))))))))))))
abbrev N_law : List Str := ["_law_script", "_law_pool_here", "_law_row", "_law_sort", "_law_operands", "_law_head", "_law_values", "_law_between", "_law_value_here", "_law_k"]
def t_law : DS :=
 (sSeq (sAsg 1 (dCall pf_pool (aCons (dV 0) aNil)))
 (sSeq (sAsg 2 (dCall pf_Loperation (aCons (dV 1) aNil)))
 (sSeq (sAsg 4 (dLcM (iSq (dSl (dV 2) (dPart (dC (.int 1))) dNoPart)) (gN 3) dYes (dD (dCall pf_Lvalue (aCons (dV 1) (aCons (dV 3) aNil)))) ([("_law_sort", 3)].map (·.2))))
 (sSeq (sIf (dAnd (dCmp cEq (dI (dIx (dV 2) (dC (.int 0)))) (dI (dC (.str "same")))) (dCmp cEq (dCall pf_take (aCons (dV 1) (aCons (dI (dC (.int 2))) aNil))) (dI (dC (.int 0))))) (sSetL (dV 4) (dC (.int 1)) (dIx (dV 4) (dC (.int 0)))) sNext)
 (sSeq (sIf (dNot (dTru (dCall pf_Lsame (aCons (dCall pf_worked (aCons (dI (dIx (dV 2) (dC (.int 0)))) (aCons (dI (dCB fList (aCons (dV 4) aNil))) aNil))) (aCons (dCall pf_worked (aCons (dI (dIx (dV 2) (dC (.int 0)))) (aCons (dI (dD (dV 4))) aNil))) aNil))))) (sRet (dI (dC (.bl false)))) sNext)
 (sSeq (sAsg 5 (dI (dIx (dI (dTup (adCons (dC (.str "sum")) (adCons (dC (.str "all")) (adCons (dC (.str "any")) (adCons (dC (.str "collect")) (adCons (dC (.str "join")) adNil))))))) (dD (dCall pf_take (aCons (dV 1) (aCons (dI (dC (.int 5))) aNil)))))))
 (sSeq (sAsg 3 (dI (dGet false (dI (dDispD [((dC (.str "sum")), (dC (.str "integer"))), ((dC (.str "all")), (dC (.str "boolean"))), ((dC (.str "any")), (dC (.str "boolean"))), ((dC (.str "collect")), (dC (.str "term"))), ((dC (.str "join")), (dC (.str "text")))])) (dD (dV 5)))))
 (sSeq (sAsg 6 (dI (dLc (iRg1 (dD (dCall pf_take (aCons (dV 1) (aCons (dI (dC (.int 7))) aNil))))) (gN 9) dYes (dD (dCall pf_Lvalue (aCons (dV 1) (aCons (dV 3) aNil)))) ([("_law_k", 9)].map (·.2)))))
 (sSeq (sAsg 7 (dI (dIx (dI (dTup (adCons (dC (.str "")) (adCons (dC (.str ", ")) (adCons (dC (.str "7")) adNil))))) (dD (dCall pf_take (aCons (dV 1) (aCons (dI (dC (.int 3))) aNil)))))))
 (sSeq (sIf (dNot (dTru (dCall pf_Lsame (aCons (dCall pf_gathered (aCons (dV 5) (aCons (dI (dCB fList (aCons (dV 6) aNil))) (aCons (dV 7) aNil)))) (aCons (dCall pf_gathered (aCons (dV 5) (aCons (dV 6) (aCons (dV 7) aNil)))) aNil))))) (sRet (dI (dC (.bl false)))) sNext)
 (sSeq (sAsg 8 (dI (dIx (dI (dTup (adCons (dTup (adCons (dC (.str "integer")) (adCons (dOp fAdd (dOp fPow (dC (.int 10)) (dC (.int 60))) (dD (dCall pf_take (aCons (dV 1) (aCons (dI (dC (.int 3))) aNil))))) adNil))) (adCons (dTup (adCons (dC (.str "text")) (adCons (dOp fMul (dC (.str "x")) (dOp fAdd (dC (.int 999)) (dD (dCall pf_take (aCons (dV 1) (aCons (dI (dC (.int 3))) aNil)))))) adNil))) adNil)))) (dD (dCall pf_take (aCons (dV 1) (aCons (dI (dC (.int 2))) aNil)))))))
 (sRet (dCall pf_Lsame (aCons (dCall pf_settled (aCons (dV 8) aNil)) (aCons (dCall pf_settled (aCons (dV 8) aNil)) aNil)))))))))))))))
end Dl.Vb
end

section
set_option maxHeartbeats 4000000
namespace Dl.Vb
open PySem PySem.Spec PyProof.Rows L2 Co
theorem hg_mem' {ts : List Tm} {t : Tm} (h : t ∈ ts) : hgT t + 1 ≤ hgTs ts := hg_mem h
theorem sum_take : ∀ (bs : List Tm) (i : Nat) (b : Tm), bs[i]? = some b → szTs (bs.take (i + 1)) = szTs (bs.take i) + szT b
  | [], i, b, h => by simp at h
  | c :: bs, 0, b, h => by
    have h : c = b := by simpa using h
    subst h
    show szT c + 0 = 0 + szT c
    omega
  | c :: bs, i + 1, b, h => by
    have := sum_take bs i b (by simpa using h)
    show szT c + szTs (bs.take (i + 1)) = (szT c + szTs (bs.take i)) + szT b
    omega
theorem hg_take : ∀ (bs : List Tm) (i : Nat) (b : Tm), bs[i]? = some b → hgTs (bs.take (i + 1)) = max (hgTs (bs.take i)) (hgT b + 1)
  | [], i, b, h => by simp at h
  | c :: bs, 0, b, h => by
    have h : c = b := by simpa using h
    subst h
    show max (hgT c + 1) 0 = max 0 (hgT c + 1)
    omega
  | c :: bs, i + 1, b, h => by
    have := hg_take bs i b (by simpa using h)
    show max (hgT c + 1) (hgTs (bs.take (i + 1))) = max (max (hgT c + 1) (hgTs (bs.take i))) (hgT b + 1)
    omega
theorem r_size {n : Nat} : ∀ ws st k ex, pf_size (n + 1) ws st k ex → t_size (pf_size n) (EnD false st.length k ex) (startD N_size ws) st := by
  intro ws st k ex h
  unfold pf_size at h
  split at h
  · obtain ⟨⟨l, bs⟩, rfl, h1, h2, hk⟩ := h
    refine ⟨fun i σ' st' => ∃ z, σ' = [some (.im (eT (.mk l bs))), some (.im (.int ((1 + szTs (bs.take i) : Nat) : Int))), z] ∧ st' = [], ⟨none, rfl, rfl⟩, ?_, ?_⟩
    · rintro i d σ' st' hd ⟨z, rfl, rfl⟩ -
      rw [eTs_eq, List.getElem?_map] at hd
      cases hb : bs[i]? with
      | none => rw [hb] at hd; cases hd
      | some c =>
        rw [hb] at hd
        cases hd
        have hm := List.mem_of_getElem? hb
        have a1 := hg_mem hm
        have a2 := sz_mem hm
        have h1 : hgTs bs < n + 1 := h1
        have h2 : 1 + szTs bs ≤ 1000000 := h2
        refine ⟨rfl, c, rfl, by omega, by omega, some (.im (eT c)), ?_, rfl⟩
        rw [sum_take _ _ _ hb]
        show [_, some (W.im (D.int (((1 + szTs (bs.take i) : Nat) : Int) + (szT c : Nat)))), _] = _
        rw [show ((1 + szTs (bs.take i) : Nat) : Int) + (szT c : Nat) = ((1 + (szTs (bs.take i) + szT c) : Nat) : Int) by omega]
    · rintro σ' st' ⟨z, rfl, rfl⟩ -
      have : (bs.take (eTs bs).length) = bs := by rw [eTs_eq, List.length_map, List.take_length]
      rw [this]
      exact hk
  · exact h.elim
theorem r_height {n : Nat} : ∀ ws st k ex, pf_height (n + 1) ws st k ex → t_height (pf_height n) (EnD false st.length k ex) (startD N_height ws) st := by
  intro ws st k ex h
  unfold pf_height at h
  split at h
  · obtain ⟨⟨l, bs⟩, rfl, h1, hk⟩ := h
    refine ⟨fun i σ' st' => ∃ z, σ' = [some (.im (eT (.mk l bs))), some (.im (.int ((hgTs (bs.take i) : Nat) - 1 : Int))), z] ∧ st' = [], ⟨none, rfl, rfl⟩, ?_, ?_⟩
    · rintro i d σ' st' hd ⟨z, rfl, rfl⟩ -
      rw [eTs_eq, List.getElem?_map] at hd
      cases hb : bs[i]? with
      | none => rw [hb] at hd; cases hd
      | some c =>
        rw [hb] at hd
        cases hd
        have hm := List.mem_of_getElem? hb
        have a1 := hg_mem hm
        have h1 : hgTs bs < n + 1 := h1
        refine ⟨rfl, c, rfl, by omega, some (.im (eT c)), ?_, rfl⟩
        rw [hg_take _ _ _ hb]
        show [_, some (W.im (D.int (max ((hgTs (bs.take i) : Nat) - 1 : Int) ((hgT c : Nat) : Int)))), _] = _
        rw [show max ((hgTs (bs.take i) : Nat) - 1 : Int) ((hgT c : Nat) : Int) = ((max (hgTs (bs.take i)) (hgT c + 1) : Nat) : Int) - 1 by omega]
    · rintro σ' st' ⟨z, rfl, rfl⟩ -
      have : (bs.take (eTs bs).length) = bs := by rw [eTs_eq, List.length_map, List.take_length]
      rw [this]
      show k (.im (.int ((hgTs bs : Nat) - 1 + 1 : Int))) []
      rw [Int.sub_add_cancel]
      exact hk
  · exact h.elim
local macro_rules | `(tactic| walk_at "s") => `(tactic| first | refine twoT ?_ | refine twoF ?_ | refine yesD rfl ?_ | refine noD (by decide) ?_)
local macro_rules | `(tactic| walk_at "ss") => `(tactic| repeat (first | refine twoT ?_ | refine twoF ?_))
theorem e60 : (10 : Nat) ^ 60 = 1000000000000000000000000000000000000000000000000000000000000 := by decide +kernel
theorem S_le {t : List Nat} {n : Nat} (h : t.length ≤ n) (h2 : n ≤ 1000000) : (S t).length ≤ sizeLine := by rw [S_len, sizeLine_eq]; omega
theorem r_settled : ∀ ws st k ex, pf_settled ws st k ex → t_settled (EnD false st.length k ex) (startD N_settled ws) st := by
  intro ws st k ex h
  unfold pf_settled at h
  split at h
  · obtain ⟨x, rfl, hb, hk⟩ := h
    have he := e60
    cases x with
    | absent => walk_at "ss"; exact hk
    | bool b => walk_at "ss"; exact hk
    | int i =>
      walk_at "s"
      refine oneD (fun e => ?_) (fun e => ?_)
      · have : setV (.int i) = .absent := if_pos (by omega)
        rw [this] at hk
        exact hk
      · have : setV (.int i) = .int i := if_neg (by omega)
        rw [this] at hk
        walk_at "ss"; exact hk
    | text t =>
      have hb : t.length ≤ 1000000 := hb
      walk_at "s"; walk_at "s"; walk_at "s"
      refine ⟨S_le hb (Nat.le_refl _), oneD (fun e => ?_) (fun e => ?_)⟩
      · rw [S_len] at e
        have : setV (.text t) = .absent := if_pos (by omega)
        rw [this] at hk
        exact hk
      · rw [S_len] at e
        have : setV (.text t) = .text t := if_neg (by omega)
        rw [this] at hk
        walk_at "ss"; exact hk
    | term t =>
      obtain ⟨h1, h2⟩ : szT t ≤ 1000000 ∧ hgT t ≤ 25 := hb
      have hv : setV (.term t) = if szT t > 400 then .absent else .term t := rfl
      obtain ⟨l, bs⟩ := t
      walk_at "s"; walk_at "s"; walk_at "s"; walk_at "s"; walk_at "s"
      refine ⟨rfl, _, rfl, by omega, h1, oneD (fun e => ?_) (fun e => ?_)⟩
      · walk_at "s"
        rw [hv, if_pos (by omega)] at hk
        exact hk
      · refine ⟨rfl, _, rfl, by omega, noD (p := (100 : Int) < ((hgT (.mk l bs) : Nat) : Int)) (by omega) ?_⟩
        rw [hv, if_neg (by omega)] at hk
        exact hk
  · exact h.elim
end Dl.Vb
end

section
set_option maxHeartbeats 4000000
namespace Dl.Vb
open PySem PySem.Spec PyProof.Rows L2 Co
local macro_rules | `(tactic| walk_at "s") => `(tactic| first | refine twoT ?_ | refine twoF ?_ | refine yesD rfl ?_ | refine noD (by decide) ?_)
local macro_rules | `(tactic| walk_at "ss") => `(tactic| repeat (first | refine twoT ?_ | refine twoF ?_))
theorem r_Lsettled : ∀ ws st k ex, pf_settled ws st k ex → t_Lsettled (EnD false st.length k ex) (startD N_Lsettled ws) st := by
  intro ws st k ex h
  unfold pf_settled at h
  split at h
  · obtain ⟨x, rfl, hb, hk⟩ := h
    have he := e60
    have l1 : ([D.str "absent"] : List D).length ≤ 1000000 := by decide
    cases x with
    | absent => walk_at "ss"; exact hk
    | bool b => walk_at "ss"; exact hk
    | int i =>
      walk_at "s"
      have e61 : (10 : Int) ^ (60 : Int).toNat = 1000000000000000000000000000000000000000000000000000000000000 := by decide +kernel
      refine ⟨⟨by decide, by decide, by decide⟩, oneD (fun e => ?_) (fun e => ?_)⟩
      · have : setV (.int i) = .absent := if_pos (by omega)
        rw [this] at hk
        exact ⟨l1, hk⟩
      · have : setV (.int i) = .int i := if_neg (by omega)
        rw [this] at hk
        walk_at "ss"; exact hk
    | text t =>
      have hb : t.length ≤ 1000000 := hb
      walk_at "s"; walk_at "s"; walk_at "s"
      refine ⟨S_le hb (Nat.le_refl _), oneD (fun e => ?_) (fun e => ?_)⟩
      · rw [S_len] at e
        have : setV (.text t) = .absent := if_pos (by omega)
        rw [this] at hk
        exact ⟨l1, hk⟩
      · rw [S_len] at e
        have : setV (.text t) = .text t := if_neg (by omega)
        rw [this] at hk
        walk_at "ss"; exact hk
    | term t =>
      obtain ⟨h1, h2⟩ : szT t ≤ 1000000 ∧ hgT t ≤ 25 := hb
      have hv : setV (.term t) = if szT t > 400 then .absent else .term t := rfl
      obtain ⟨l, bs⟩ := t
      walk_at "s"; walk_at "s"; walk_at "s"; walk_at "s"; walk_at "s"
      refine ⟨rfl, _, rfl, by omega, h1, oneD (fun e => ?_) (fun e => ?_)⟩
      · rw [hv, if_pos (by omega)] at hk
        exact ⟨l1, hk⟩
      · rw [hv, if_neg (by omega)] at hk
        exact hk
  · exact h.elim
theorem log60 {i : Int} (h : i.natAbs ≤ 10 ^ 60) : i.natAbs.log2 < 1920 := by
  by_cases z : i.natAbs = 0
  · rw [z]
    decide
  · have h2 : (10 : Nat) ^ 60 < 2 ^ 200 := by decide +kernel
    have : i.natAbs.log2 < 200 := (Nat.log2_lt z).mpr (by omega)
    omega
theorem r_of_one : ∀ ws st k ex, pf_of_one ws st k ex → t_of_one (EnD false st.length k ex) (startD N_of_one ws) st := by
  intro ws st k ex h
  unfold pf_of_one at h
  split at h
  · obtain ⟨h, x, rfl, rfl, hf, ho, hk⟩ := h
    have l2 : ∀ a b : D, ([a, b] : List D).length ≤ 1000000 := fun a b => by simp
    cases h <;> cases x <;> first | exact False.elim hf | skip
    case not_.bool b => walk_at "ss"; exact ⟨l2 _ _, hk⟩
    case negative.int i => walk_at "ss"; exact ⟨l2 _ _, hk⟩
    case length.text t =>
      walk_at "ss"
      have hk : k (.im (.tup [.str "integer", .int (t.length : Nat)])) [] := hk
      refine ⟨S_le ho (by omega), l2 _ _, ?_⟩
      rw [S_len]
      exact hk
    case shown.int i =>
      walk_at "ss"
      refine ⟨log60 ho, l2 _ _, ?_⟩
      have hk : k (.im (.tup [.str "text", .str (S (Str.ofString (toString i)).cps.toList)])) [] := hk
      rw [← S_eq] at hk
      exact hk
    case parsed.text t => walk_at "ss"; exact ⟨rfl, t, rfl, ho, hk⟩
    case label.term t =>
      obtain ⟨l, bs⟩ := t
      walk_at "ss"
      have hk : k (.im (.tup [.str "text", .str (S l.cps.toList)])) [] := hk
      rw [← S_eq] at hk
      exact ⟨l2 _ _, hk⟩
    case size.term t =>
      obtain ⟨l, bs⟩ := t
      walk_at "ss"
      refine ⟨l2 _ _, ?_⟩
      show k (.im (.tup [.str "integer", .int ((eTs bs).length : Nat)])) []
      rw [eTs_eq, List.length_map]
      exact hk
    case named.text t =>
      walk_at "ss"
      exact ⟨by simp, by simp, hk⟩
  · exact h.elim
theorem r_Lone : ∀ ws st k ex, pf_Lone ws st k ex → t_Lone (EnD false st.length k ex) (startD N_Lone ws) st := by
  intro ws st k ex h
  unfold pf_Lone at h
  split at h
  · obtain ⟨h, x, rfl, rfl, hf, ho, hk⟩ := h
    have l2 : ∀ a b : D, ([a, b] : List D).length ≤ 1000000 := fun a b => by simp
    cases h <;> cases x <;> first | exact False.elim hf | skip
    case not_.bool b => walk_at "ss"; exact ⟨l2 _ _, hk⟩
    case negative.int i => walk_at "ss"; exact ⟨l2 _ _, hk⟩
    case length.text t =>
      walk_at "ss"
      have hk : k (.im (.tup [.str "integer", .int (t.length : Nat)])) [] := hk
      refine ⟨S_le ho (by omega), l2 _ _, ?_⟩
      rw [S_len]
      exact hk
    case shown.int i =>
      walk_at "ss"
      refine ⟨log60 ho, l2 _ _, ?_⟩
      have hk : k (.im (.tup [.str "text", .str (S (Str.ofString (toString i)).cps.toList)])) [] := hk
      rw [← S_eq] at hk
      exact hk
    case parsed.text t => walk_at "ss"; exact ⟨rfl, t, rfl, ho, hk⟩
    case label.term t =>
      obtain ⟨l, bs⟩ := t
      walk_at "ss"
      have hk : k (.im (.tup [.str "text", .str (S l.cps.toList)])) [] := hk
      rw [← S_eq] at hk
      exact ⟨l2 _ _, hk⟩
    case size.term t =>
      obtain ⟨l, bs⟩ := t
      walk_at "ss"
      refine ⟨l2 _ _, ?_⟩
      show k (.im (.tup [.str "integer", .int ((eTs bs).length : Nat)])) []
      rw [eTs_eq, List.length_map]
      exact hk
    case named.text t =>
      walk_at "ss"
      exact ⟨by simp, by simp, hk⟩
  · exact h.elim
theorem abs_div {i j : Int} (h : j ≠ 0) (h2 : j.natAbs ≤ 10 ^ 60) : CDivL (i.natAbs : Int) (j.natAbs : Int) := ⟨by omega, by
  have h3 : (10 : Nat) ^ 60 < 2 ^ 250 := by decide +kernel
  have h4 : j.natAbs < 2 ^ 250 := by omega
  have h5 : ((j.natAbs : Nat) : Int) < ((2 ^ 250 : Nat) : Int) := Int.ofNat_lt.mpr h4
  exact h5⟩
theorem quo_eq {i j : Int} {b c : Bool} (hb : decide (i < 0) = b) (hc : decide (j < 0) = c) : quo i j = if (b != c) = true then -((i.natAbs : Int) / (j.natAbs : Int)) else (i.natAbs : Int) / (j.natAbs : Int) := by
  subst hb hc
  rfl
theorem r_quotient : ∀ ws st k ex, pf_quotient ws st k ex → t_quotient (EnD false st.length k ex) (startD N_quotient ws) st := by
  intro ws st k ex h
  unfold pf_quotient at h
  split at h
  · rename_i i j
    obtain ⟨h1, h2, hk⟩ := h
    refine ⟨abs_div h1 h2, ?_⟩
    show two (!decide (decide (i < 0) = decide (j < 0))) _ _
    cases hb : decide (i < 0) <;> cases hc : decide (j < 0) <;> (rw [quo_eq hb hc] at hk) <;> walk_at "ss" <;> exact hk
  · exact h.elim
theorem r_Lquotient : ∀ ws st k ex, pf_quotient ws st k ex → t_Lquotient (EnD false st.length k ex) (startD N_Lquotient ws) st := by
  intro ws st k ex h
  unfold pf_quotient at h
  split at h
  · rename_i i j
    obtain ⟨h1, h2, hk⟩ := h
    show two (decide (decide (i < 0) = decide (j < 0))) _ _
    cases hb : decide (i < 0) <;> cases hc : decide (j < 0) <;> (rw [quo_eq hb hc] at hk) <;> walk_at "ss" <;> exact ⟨abs_div h1 h2, hk⟩
  · exact h.elim
theorem mul60 {i j : Int} (h1 : i.natAbs ≤ 10 ^ 60) (h2 : j.natAbs ≤ 10 ^ 60) : CMulL i j := by
  have h3 : (10 : Nat) ^ 60 < 2 ^ 250 := by decide +kernel
  exact .inr (.inr ⟨by omega, by omega⟩)
theorem quo_le (i j : Int) : (quo i j).natAbs ≤ i.natAbs := by
  unfold quo
  have h : ((i.natAbs : Int) / (j.natAbs : Int)).natAbs ≤ i.natAbs := by
    rw [← Int.natCast_ediv, Int.natAbs_natCast]
    exact Nat.div_le_self _ _
  split
  · rw [Int.natAbs_neg]; exact h
  · exact h
theorem r_of_integers : ∀ ws st k ex, pf_of_integers ws st k ex → t_of_integers (EnD false st.length k ex) (startD N_of_integers ws) st := by
  intro ws st k ex h
  unfold pf_of_integers at h
  split at h
  · rename_i s i j
    obtain ⟨h, rfl, hi, h1, h2, hk⟩ := h
    have l2 : ∀ a b : D, ([a, b] : List D).length ≤ 1000000 := fun a b => by simp
    cases h <;> first | exact absurd hi (by decide) | skip
    case add => walk_at "ss"; exact ⟨l2 _ _, hk⟩
    case subtract => walk_at "ss"; exact ⟨l2 _ _, hk⟩
    case multiply => walk_at "ss"; exact ⟨mul60 h1 h2, l2 _ _, hk⟩
    case less => walk_at "ss"; exact ⟨l2 _ _, hk⟩
    case quotient =>
      walk_at "ss"
      have hv : twoV .quotient (.int i) (.int j) = if j = 0 then .absent else .int (quo i j) := rfl
      refine oneD (fun e => ?_) (fun e => ?_)
      · rw [hv, if_pos e] at hk; exact hk
      · rw [hv, if_neg e] at hk
        walk_at "ss"; exact ⟨rfl, e, h2, l2 _ _, hk⟩
    case remainder =>
      walk_at "ss"
      have hv : twoV .remainder (.int i) (.int j) = if j = 0 then .absent else .int (i - j * quo i j) := rfl
      refine oneD (fun e => ?_) (fun e => ?_)
      · rw [hv, if_pos e] at hk; exact hk
      · rw [hv, if_neg e] at hk
        have := quo_le i j
        walk_at "ss"; exact ⟨rfl, e, h2, mul60 h2 (by omega), l2 _ _, hk⟩
  · exact h.elim
end Dl.Vb
end

section
set_option maxHeartbeats 4000000
namespace Dl.Vb
open PySem PySem.Spec PyProof.Rows L2 Co PySem.StrLaws
local macro_rules | `(tactic| walk_at "s") => `(tactic| first | refine twoT ?_ | refine twoF ?_ | refine yesD rfl ?_ | refine noD (by decide) ?_)
local macro_rules | `(tactic| walk_at "ss") => `(tactic| repeat (first | refine twoT ?_ | refine twoF ?_))
theorem drop_while (p : Nat → Bool) : ∀ l : List Nat, l.drop (l.takeWhile p).length = l.dropWhile p
  | [] => rfl
  | c :: l => by
    by_cases h : p c = true
    · rw [List.takeWhile_cons_of_pos h, List.dropWhile_cons_of_pos h]
      exact drop_while p l
    · rw [List.takeWhile_cons_of_neg h, List.dropWhile_cons_of_neg h]
      rfl
theorem lstrip_one (l : List Nat) (c : Nat) : Txt.lstripChars (S l) ⟨#[c]⟩ = S (l.dropWhile fun x => x == c) := by
  unfold Txt.lstripChars
  rw [stripBy_eq]
  have e : (fun x => (#[c] : Array Nat).contains x) = fun x => x == c := by
    funext x
    by_cases h : x = c <;> simp [h]
  rw [S_eq (Builtin.Str.strSub _ _ _), strSub_toList]
  show S ((l.drop (l.takeWhile fun x => (#[c] : Array Nat).contains x).length).take (l.toArray.size - (l.takeWhile fun x => (#[c] : Array Nat).contains x).length)) = _
  rw [e, drop_while, List.take_of_length_le]
  have := congrArg List.length (drop_while (fun x => x == c) l)
  rw [List.length_drop] at this
  simp
  omega
theorem dropZ_eq : ∀ l : List Nat, l ≠ [] → (l.dropWhile (fun x => x == 48) = [] ∧ dropZ l = [48]) ∨ (l.dropWhile (fun x => x == 48) ≠ [] ∧ dropZ l = l.dropWhile fun x => x == 48)
  | [], h => absurd rfl h
  | [c], _ => by
    by_cases z : c = 48
    · subst z
      exact .inl ⟨rfl, rfl⟩
    · refine .inr ?_
      have e : [c].dropWhile (fun x => x == 48) = [c] := List.dropWhile_cons_of_neg (by simp [z])
      rw [e]
      refine ⟨by simp, ?_⟩
      unfold dropZ
      split
      · rename_i h
        simp at h
      · rfl
  | c :: d :: r, _ => by
    by_cases z : c = 48
    · subst z
      rw [List.dropWhile_cons_of_pos (by simp)]
      exact dropZ_eq (d :: r) (by simp)
    · refine .inr ?_
      have e : (c :: d :: r).dropWhile (fun x => x == 48) = c :: d :: r := List.dropWhile_cons_of_neg (by simp [z])
      rw [e]
      refine ⟨by simp, ?_⟩
      unfold dropZ
      split
      · rename_i h
        simp at h
        exact absurd h.1 z
      · rfl
theorem figs : ((("0123456789" : Str)).cps.toList) = [48, 49, 50, 51, 52, 53, 54, 55, 56, 57] := by decide +kernel
theorem isFig_mem (c : Nat) : decide (c ∈ ((("0123456789" : Str)).cps.toList)) = isFig c := by
  rw [figs]
  unfold isFig
  by_cases h : 48 ≤ c ∧ c ≤ 57
  · have : c = 48 ∨ c = 49 ∨ c = 50 ∨ c = 51 ∨ c = 52 ∨ c = 53 ∨ c = 54 ∨ c = 55 ∨ c = 56 ∨ c = 57 := by omega
    rcases this with rfl | rfl | rfl | rfl | rfl | rfl | rfl | rfl | rfl | rfl <;> decide
  · rw [decide_eq_false (by simp; omega)]
    symm
    simp
    omega
theorem int_fig {l : List Nat} (h : l.all isFig = true) (h1 : l ≠ []) (h2 : l.length ≤ 640) : PySem.intText? (S l) = some (numOf l) := PySem.intText_digits (x := S l) (fun c hc => by
  have := List.all_eq_true.mp h c hc
  unfold isFig at this
  simp at this
  exact this) h1 (by rw [S_len]; omega)
theorem dropZ_len : ∀ l : List Nat, (dropZ l).length ≤ l.length
  | [] => Nat.le_refl _
  | [c] => by
    unfold dropZ
    split
    · rename_i h
      simp at h
    · exact Nat.le_refl _
  | c :: d :: r => by
    by_cases z : c = 48
    · subst z
      exact Nat.le_succ_of_le (dropZ_len (d :: r))
    · unfold dropZ
      split
      · rename_i h
        simp at h
        exact absurd h.1 z
      · exact Nat.le_refl _
theorem dropZ_all : ∀ l : List Nat, l.all isFig = true → (dropZ l).all isFig = true
  | [], h => h
  | [c], h => by
    unfold dropZ
    split
    · rename_i h
      simp at h
    · exact h
  | c :: d :: r, h => by
    by_cases z : c = 48
    · subst z
      exact dropZ_all (d :: r) (by rw [List.all_cons, Bool.and_eq_true] at h; exact h.2)
    · unfold dropZ
      split
      · rename_i h2
        simp at h2
        exact absurd h2.1 z
      · exact h
theorem dropZ_ne {l : List Nat} (h : l ≠ []) : dropZ l ≠ [] := by
  rcases dropZ_eq l h with ⟨_, e⟩ | ⟨h1, e⟩
  · rw [e]; simp
  · rw [e]; exact h1
theorem empty_eq : (("" : Str)) = S [] := by decide +kernel
theorem any_not : ∀ t : List Nat, (t.any (id ∘ fun c => !isFig c)) = !t.all isFig
  | [] => rfl
  | c :: t => by
    rw [List.any_cons, List.all_cons, any_not t]
    simp
theorem l2 (a b : D) : ([a, b] : List D).length ≤ 1000000 := by simp
theorem l1 (a : D) : ([a] : List D).length ≤ 1000000 := by simp
theorem r_parsed : ∀ ws st k ex, pf_parsed ws st k ex → t_parsed (EnD false st.length k ex) (startD N_parsed ws) st := by
  intro ws st k ex h
  unfold pf_parsed at h
  split at h
  · obtain ⟨t, rfl, hl, hk⟩ := h
    refine oneD (fun e => twoT ?_) (fun e => ?_)
    · have e : t = [] := S_inj (e.trans empty_eq)
      subst e
      exact hk
    have hne : t ≠ [] := fun z => e (by rw [z, empty_eq])
    refine lc_fn (as := t) (a := fun c => .str ⟨#[c]⟩) (b := D.bl) isFig (by omega) rfl (fun c _ Q q => ?_) ?_
    · show Q (.bl (decide (c ∈ ((("0123456789" : Str)).cps.toList)))) []
      rw [isFig_mem]
      exact q
    refine ⟨t.map isFig, rfl, ?_⟩
    have ea : (t.map isFig).all id = t.all isFig := by rw [List.all_map]; rfl
    show two (!((t.map isFig).all id)) _ _
    rw [ea]
    cases hall : t.all isFig with
    | false =>
      walk_at "s"
      have : parV t = .absent := if_pos (.inr hall)
      rw [this] at hk
      exact hk
    | true =>
      walk_at "s"
      refine ⟨rfl, S_le hl (by omega), ?_⟩
      have hp : parV t = if (dropZ t).length > 61 then .absent else .int (numOf (dropZ t)) := by
        unfold parV
        rw [if_neg (by rintro (z | z); exact hne z; rw [hall] at z; cases z)]
      have hdl : (t.dropWhile fun x => x == 48).length ≤ t.length := by
        have := congrArg List.length (drop_while (fun x => x == 48) t)
        rw [List.length_drop] at this
        omega
      have e48 : (("0" : Str)) = ⟨#[48]⟩ := by decide +kernel
      rw [e48, lstrip_one]
      refine ⟨S_le (n := 1000) (by omega) (by omega), oneD (fun e => ?_) (fun e => ?_)⟩
      · rw [S_len] at e
        rcases dropZ_eq t hne with ⟨d1, d2⟩ | ⟨d1, d2⟩
        · rw [d1] at e; simp at e
        · rw [hp, d2, if_pos (by omega)] at hk
          exact hk
      · rw [S_len] at e
        refine oneD (fun e2 => ?_) (fun e2 => ?_)
        · have e2 := S_inj (e2.trans empty_eq)
          rcases dropZ_eq t hne with ⟨d1, d2⟩ | ⟨d1, d2⟩
          · rw [hp, d2] at hk
            exact ⟨l2 _ _, hk⟩
          · exact absurd e2 d1
        · rcases dropZ_eq t hne with ⟨d1, d2⟩ | ⟨d1, d2⟩
          · exact absurd (by rw [d1, empty_eq]) e2
          · have hfig : (t.dropWhile fun x => x == 48).all isFig = true := List.all_eq_true.mpr fun c hc => List.all_eq_true.mp hall c ((List.dropWhile_sublist _).mem hc)
            refine ⟨_, int_fig hfig d1 (by omega), by rw [S_len]; omega, l2 _ _, rfl, .int (numOf (t.dropWhile fun x => x == 48)), rfl, trivial, ?_⟩
            rw [hp, d2, if_neg (by omega)] at hk
            exact hk
  · exact h.elim
theorem r_Lparsed : ∀ ws st k ex, pf_Lparsed ws st k ex → t_Lparsed (EnD false st.length k ex) (startD N_Lparsed ws) st := by
  intro ws st k ex h
  unfold pf_Lparsed at h
  split at h
  · obtain ⟨t, rfl, hl, hk⟩ := h
    refine oneD (fun e => twoT ?_) (fun e => ?_)
    · have e : t = [] := S_inj (e.trans empty_eq)
      subst e
      exact ⟨l1 _, hk⟩
    have hne : t ≠ [] := fun z => e (by rw [z, empty_eq])
    refine lc_fn (as := t) (a := fun c => .str ⟨#[c]⟩) (b := D.bl) (fun c => !isFig c) (by omega) rfl (fun c _ Q q => ?_) ?_
    · show Q (.bl (!decide (c ∈ ((("0123456789" : Str)).cps.toList)))) []
      rw [isFig_mem]
      exact q
    refine ⟨t.map fun c => !isFig c, rfl, ?_⟩
    have ea : (t.map fun c => !isFig c).any id = !t.all isFig := by
      rw [List.any_map]
      exact any_not t
    show two ((t.map fun c => !isFig c).any id) _ _
    rw [ea]
    cases hall : t.all isFig with
    | false =>
      walk_at "s"
      have : parV t = .absent := if_pos (.inr hall)
      rw [this] at hk
      exact ⟨l1 _, hk⟩
    | true =>
      walk_at "s"
      have hp : parV t = if (dropZ t).length > 61 then .absent else .int (numOf (dropZ t)) := by
        unfold parV
        rw [if_neg (by rintro (z | z); exact hne z; rw [hall] at z; cases z)]
      have hdn := dropZ_len t
      refine ⟨fun m σ' st' => ∃ z l, σ' = [some (.im (.str (S l))), z] ∧ st' = [] ∧ l.length = m ∧ l ≠ [] ∧ l.length ≤ 1000 ∧ dropZ l = dropZ t, ⟨t.length, none, t, rfl, rfl, rfl, hne, hl, rfl⟩, ?_⟩
      rintro m σ' st' ⟨z, l, rfl, rfl, rfl, h1, h2, h3⟩ -
      have out : dropZ l = l → sSeq (sIf (dCmp cGt (dI (dCB fLen (aCons (dV 0) aNil))) (dI (dC (.int 61)))) (sRet (dI (dTup (adCons (dC (.str "absent")) adNil)))) sNext) (sRet (dI (dTup (adCons (dC (.str "integer")) (adCons (dCB fInt (aCons (dV 0) aNil)) adNil))))) (EnD false 0 k ex) [some (.im (.str (S l))), z] [] := fun ed => by
        have ed2 : dropZ t = l := by rw [← h3, ed]
        refine ⟨S_le h2 (by omega), oneD (fun e => ?_) (fun e => ?_)⟩
        · rw [S_len] at e
          rw [hp, ed2, if_pos (by omega)] at hk
          exact ⟨l1 _, hk⟩
        · rw [S_len] at e
          have hf := dropZ_all t hall
          rw [ed2] at hf
          rw [hp, ed2, if_neg (by omega)] at hk
          exact ⟨_, int_fig hf h1 (by omega), by rw [S_len]; omega, l2 _ _, hk⟩
      refine ⟨S_le h2 (by omega), oneD (fun e => ?_) (fun e => twoF ?_)⟩
      · rw [S_len] at e
        match l, h1, e with
        | c :: d :: r, _, _ =>
          have at0 : atI (S (c :: d :: r)).cps.toList 0 = some c := atI_nat (j := 0) rfl
          refine ⟨S_le h2 (by omega), ?_⟩
          show (match atI (S (c :: d :: r)).cps.toList 0 with
            | some c => _
            | none => False)
          rw [at0]
          refine oneD (fun e2 => ?_) (fun e2 => ?_)
          · have e0 : (("0" : Str)) = S [48] := by decide +kernel
            rw [e0] at e2
            have e3 : c = 48 := by simpa using S_inj e2
            subst e3
            refine ⟨S_le h2 (by omega), ?_⟩
            have ec : cutS (S (48 :: d :: r)) (some ((1 : Nat) : Int)) none = S (d :: r) := by
              rw [cutS_from (by simp)]
              rfl
            refine ⟨(d :: r).length, by simp, (trSl 0 [z]).headD none, d :: r, ?_, rfl, rfl, by simp, by simp at h2 ⊢; omega, h3⟩
            show [some (W.im (D.str (cutS (S (48 :: d :: r)) (some ((1 : Nat) : Int)) none))), _] = _
            rw [ec]
            rfl
          · refine out ?_
            have hc : c ≠ 48 := fun w => e2 (by rw [w]; decide +kernel)
            unfold dropZ
            split
            · rename_i h2
              simp at h2
              exact absurd h2.1 hc
            · rfl
      · rw [S_len] at e
        refine out ?_
        match l, h1, e with
        | [c], _, _ =>
          unfold dropZ
          split
          · rename_i h2
            simp at h2
          · rfl
        | c :: d :: r, _, e => exact absurd (by rw [List.length_cons, List.length_cons]; omega) e
  · exact h.elim
end Dl.Vb
end

section
set_option maxHeartbeats 4000000
namespace Dl.Vb
open PySem PySem.Spec PyProof.Rows L2 Co PySem.StrLaws
local macro_rules | `(tactic| walk_at "s") => `(tactic| first | refine twoT ?_ | refine twoF ?_ | refine yesD rfl ?_ | refine noD (by decide) ?_)
local macro_rules | `(tactic| walk_at "ss") => `(tactic| repeat (first | refine twoT ?_ | refine twoF ?_))
def hgV : Vl → Nat
  | .term t => hgT t
  | _ => 0
theorem Ok.hg {x : Vl} (h : Ok x) : hgV x ≤ 20 := by
  cases x <;> first | exact Nat.zero_le _ | exact h.2.1
mutual
theorem shp_T : ∀ (t : Tm) (n : Nat), 2 * hgT t + 2 ≤ n → shp n (eT t) = true
  | .mk l bs, n + 2, h => by
    have h : 2 * hgTs bs + 2 ≤ n + 2 := h
    show ([D.str "term", D.str l, D.tup (eTs bs)].all (shp (n + 1))) = true
    have := shp_Ts bs n (by omega)
    simp only [List.all_cons, List.all_nil, Bool.and_true]
    show (shp (n + 1) (D.str "term") && (shp (n + 1) (D.str l) && (eTs bs).all (shp n))) = true
    rw [this]
    rfl
  | .mk l bs, 0, h => absurd h (by omega)
  | .mk l bs, 1, h => absurd h (by omega)
theorem shp_Ts : ∀ (ts : List Tm) (n : Nat), 2 * hgTs ts ≤ n → (eTs ts).all (shp n) = true
  | [], n, _ => rfl
  | t :: ts, n, h => by
    have h : 2 * max (hgT t + 1) (hgTs ts) ≤ n := h
    show (shp n (eT t) && (eTs ts).all (shp n)) = true
    rw [shp_T t n (by omega), shp_Ts ts n (by omega)]
    rfl
end
theorem shp_V {x : Vl} (h : hgV x ≤ 25) : shp 60 (eV x) = true := by
  cases x with
  | term t => exact shp_T t 60 (by have : hgT t ≤ 25 := h; omega)
  | _ => rfl
theorem eqSD_V (x : Vl) (d : D) : eqSD (eV x) d = none := by
  cases x with
  | term t => cases t; rfl
  | _ => rfl
theorem cEq_of {x y : D} {k : Bool → Prop} (h : eqSD x y = none) (h1 : shp 60 x = true) (h2 : shp 60 y = true) (hk : k (eqvD x y)) : cEq x y k := by
  unfold cEq
  rw [h]
  exact ⟨h1, h2, hk⟩
theorem cNe_of {x y : D} {k : Bool → Prop} (h : eqSD x y = none) (h1 : shp 60 x = true) (h2 : shp 60 y = true) (hk : k (!eqvD x y)) : cNe x y k := by
  unfold cNe
  rw [h]
  exact ⟨h1, h2, hk⟩
theorem eqv_abs (x : Vl) : eqvD (eV x) (.tup [.str "absent"]) = isAbs x := by
  cases x with
  | term t => cases t; rfl
  | _ => rfl
theorem eT_ix1 (t : Tm) {k : D → Prop} (h : k (.str (lab t))) : atD (eT t) (.int 1) k := by cases t; exact h
theorem eT_ix2 (t : Tm) {k : D → Prop} (h : k (.tup ((subs t).map eT))) : atD (eT t) (.int 2) k := by
  cases t
  show k (.tup (eTs _))
  rw [eTs_eq]
  exact h
theorem eT_mk (t : Tm) (b : Tm) : eT (.mk (lab t) (subs t ++ [b])) = .tup [.str "term", .str (lab t), .tup ((subs t).map eT ++ [eT b])] := by
  show D.tup [_, _, .tup (eTs _)] = _
  rw [eTs_eq, List.map_append]
  rfl
theorem Fit2.int {h : H2} {x y : Vl} (hi : isI h = true) (hf : Fit2 h x y) : ∃ i j, x = .int i ∧ y = .int j := by
  cases h <;> first | exact absurd hi (by decide) | skip
  all_goals
    obtain ⟨h1, h2⟩ := hf
    cases x <;> first | exact False.elim h1 | skip
    cases y <;> first | exact False.elim h2 | skip
    exact ⟨_, _, rfl, rfl⟩
theorem len_szT (t : Tm) : (subs t).length ≤ szT t := by
  cases t
  have := len_sz ‹List Tm›
  show _ ≤ 1 + _
  exact Nat.le_trans this (by omega)
theorem atI_in {α : Type} {l : List α} {i : Int} {v : α} (h0 : ¬ i < 0) (h : l[i.toNat]? = some v) : atI l i = some v := atNat (by omega) h
theorem arg_some {t : Tm} {i : Int} (h : ¬ (i < 0 ∨ ((subs t).length : Int) ≤ i)) : ∃ b, (subs t)[i.toNat]? = some b ∧ twoV .argument (.term t) (.int i) = .term b := by
  have hi : i.toNat < (subs t).length := by omega
  have hb : (subs t)[i.toNat]? = some (subs t)[i.toNat] := List.getElem?_eq_getElem hi
  refine ⟨(subs t)[i.toNat], hb, ?_⟩
  show (if i < 0 ∨ ((subs t).length : Int) ≤ i then Vl.absent else match (subs t)[i.toNat]? with
    | some b => .term b
    | none => .absent) = _
  rw [if_neg h, hb]
theorem r_of_two : ∀ ws st k ex, pf_two ws st k ex → t_of_two (EnD false st.length k ex) (startD N_of_two ws) st := by
  intro ws st k ex h
  unfold pf_two at h
  split at h
  · obtain ⟨h, x, y, rfl, rfl, rfl, hf, hx, hy, hk⟩ := h
    by_cases hi : isI h = true
    · obtain ⟨i, j, rfl, rfl⟩ := hf.int hi
      have go : ∀ ex2, callD pf_of_integers [] [.im (.str (nm2 h)), .im (.int i), .im (.int j)] [] (fun w st => fin false 0 k w st) ex2 := fun _ => ⟨rfl, h, rfl, hi, hx, hy, hk⟩
      cases h <;> first | exact absurd hi (by decide) | skip
      all_goals
        walk_at "ss"
        exact go _
    · cases h <;> first | exact absurd rfl hi | skip
      case same =>
        walk_at "s"
        exact cEq_of (eqSD_V _ _) (shp_V (by have := hx.hg; omega)) (shp_V (by have := hy.hg; omega)) ⟨l2 _ _, hk⟩
      case and_ =>
        obtain ⟨h1, h2⟩ := hf
        cases x <;> first | exact False.elim h1 | skip
        cases y <;> first | exact False.elim h2 | skip
        rename_i a b
        walk_at "ss"
        cases a <;> walk_at "s" <;> exact ⟨l2 _ _, hk⟩
      case or_ =>
        obtain ⟨h1, h2⟩ := hf
        cases x <;> first | exact False.elim h1 | skip
        cases y <;> first | exact False.elim h2 | skip
        rename_i a b
        walk_at "ss"
        cases a <;> walk_at "s" <;> exact ⟨l2 _ _, hk⟩
      case append =>
        obtain ⟨h1, h2⟩ := hf
        cases x <;> first | exact False.elim h1 | skip
        cases y <;> first | exact False.elim h2 | skip
        rename_i a b
        have hx : a.length ≤ 1000 := hx
        have hy : b.length ≤ 1000 := hy
        walk_at "ss"
        refine ⟨by rw [S_len, S_len, sizeLine_eq]; omega, l2 _ _, ?_⟩
        rw [S_app]
        exact hk
      case with_ =>
        obtain ⟨h1, h2⟩ := hf
        cases x <;> first | exact False.elim h1 | skip
        cases y <;> first | exact False.elim h2 | skip
        rename_i a b
        have := len_szT a
        have hx : szT a ≤ 400 := hx.1
        walk_at "ss"
        refine eT_ix1 a (eT_ix2 a ⟨by simp, by simp; omega, by simp, ?_⟩)
        have hk : k (.im (eT (.mk (lab a) (subs a ++ [b])))) [] := hk
        rw [eT_mk] at hk
        exact hk
      case argument =>
        obtain ⟨h1, h2⟩ := hf
        cases x <;> first | exact False.elim h1 | skip
        cases y <;> first | exact False.elim h2 | skip
        rename_i a i
        have hv : twoV .argument (.term a) (.int i) = if i < 0 ∨ ((subs a).length : Int) ≤ i then Vl.absent else match (subs a)[i.toNat]? with
          | some b => .term b
          | none => .absent := rfl
        walk_at "ss"
        have lst : ¬ (i < 0 ∨ ((subs a).length : Int) ≤ i) → (sRet (dI (dIx (dI (dIx (dV 1) (dC (.int 2)))) (dIx (dV 2) (dC (.int 1)))))) (EnD false 0 k ex) [some (.im (.str "argument")), some (.im (eT a)), some (.im (.tup [.str "integer", .int i]))] [] := fun hn => by
          obtain ⟨b, hb, hb2⟩ := arg_some hn
          rw [hb2] at hk
          refine eT_ix2 a ?_
          show (match atI ((subs a).map eT) i with
            | some d => k (.im d) []
            | none => False)
          rw [atI_in (by omega) (show ((subs a).map eT)[i.toNat]? = some (eT b) by rw [List.getElem?_map, hb]; rfl)]
          exact hk
        refine oneD (fun e => ?_) (fun e => ?_)
        · walk_at "s"
          rw [hv, if_pos (.inl e)] at hk
          exact hk
        · refine eT_ix2 a ?_
          refine oneD (fun e2 => ?_) (fun e2 => ?_)
          · rw [List.length_map] at e2
            rw [hv, if_pos (.inr e2)] at hk
            exact hk
          · rw [List.length_map] at e2
            exact lst (by rintro (z | z) <;> contradiction)
  · exact h.elim
end Dl.Vb
end

section
set_option maxHeartbeats 4000000
namespace Dl.Vb
open PySem PySem.Spec PyProof.Rows L2 Co PySem.StrLaws
local macro_rules | `(tactic| walk_at "s") => `(tactic| first | refine twoT ?_ | refine twoF ?_ | refine yesD rfl ?_ | refine noD (by decide) ?_)
local macro_rules | `(tactic| walk_at "ss") => `(tactic| repeat (first | refine twoT ?_ | refine twoF ?_))
theorem shp_two (s t : Str) : ([D.str s, D.str t] : List D).all (shp 60) = true := rfl
theorem r_Ltwo : ∀ ws st k ex, pf_two ws st k ex → t_Ltwo (EnD false st.length k ex) (startD N_Ltwo ws) st := by
  intro ws st k ex h
  unfold pf_two at h
  split at h
  · obtain ⟨h, x, y, rfl, rfl, rfl, hf, hx, hy, hk⟩ := h
    by_cases hi : isI h = true
    · obtain ⟨i, j, rfl, rfl⟩ := hf.int hi
      have h1 : i.natAbs ≤ 10 ^ 60 := hx
      have h2 : j.natAbs ≤ 10 ^ 60 := hy
      cases h <;> first | exact absurd hi (by decide) | skip
      case add => walk_at "ss"; exact ⟨l2 _ _, hk⟩
      case subtract => walk_at "ss"; exact ⟨l2 _ _, hk⟩
      case multiply => walk_at "ss"; exact ⟨mul60 h1 h2, l2 _ _, hk⟩
      case less => walk_at "ss"; exact ⟨l2 _ _, hk⟩
      case quotient =>
        have hv : twoV .quotient (.int i) (.int j) = if j = 0 then .absent else .int (quo i j) := rfl
        walk_at "s"; walk_at "s"; walk_at "s"; walk_at "s"
        refine ⟨l2 _ _, rfl, rfl, ?_⟩
        walk_at "s"
        refine oneD (fun e => ?_) (fun e => ?_)
        · rw [hv, if_pos e] at hk
          exact ⟨l1 _, hk⟩
        · rw [hv, if_neg e] at hk
          walk_at "s"; exact ⟨rfl, e, h2, l2 _ _, hk⟩
      case remainder =>
        have hv : twoV .remainder (.int i) (.int j) = if j = 0 then .absent else .int (i - j * quo i j) := rfl
        walk_at "s"; walk_at "s"; walk_at "s"; walk_at "s"
        refine ⟨l2 _ _, rfl, rfl, ?_⟩
        walk_at "s"
        refine oneD (fun e => ?_) (fun e => ?_)
        · rw [hv, if_pos e] at hk
          exact ⟨l1 _, hk⟩
        · rw [hv, if_neg e] at hk
          have := quo_le i j
          walk_at "s"; walk_at "s"; exact ⟨rfl, e, h2, mul60 h2 (by omega), l2 _ _, hk⟩
    · cases h <;> first | exact absurd rfl hi | skip
      case same =>
        walk_at "s"; walk_at "s"; walk_at "s"; walk_at "s"
        refine ⟨l2 _ _, rfl, rfl, ?_⟩
        walk_at "ss"
        exact cEq_of (eqSD_V _ _) (shp_V (by have := hx.hg; omega)) (shp_V (by have := hy.hg; omega)) ⟨l2 _ _, hk⟩
      case and_ =>
        obtain ⟨h1, h2⟩ := hf
        cases x <;> first | exact False.elim h1 | skip
        cases y <;> first | exact False.elim h2 | skip
        rename_i a b
        walk_at "s"; walk_at "s"; walk_at "s"; walk_at "s"
        refine ⟨l2 _ _, rfl, rfl, ?_⟩
        walk_at "ss"
        cases a <;> walk_at "s" <;> exact ⟨l2 _ _, hk⟩
      case or_ =>
        obtain ⟨h1, h2⟩ := hf
        cases x <;> first | exact False.elim h1 | skip
        cases y <;> first | exact False.elim h2 | skip
        rename_i a b
        walk_at "s"; walk_at "s"; walk_at "s"; walk_at "s"
        refine ⟨l2 _ _, rfl, rfl, ?_⟩
        walk_at "ss"
        cases a <;> walk_at "s" <;> exact ⟨l2 _ _, hk⟩
      case append =>
        obtain ⟨h1, h2⟩ := hf
        cases x <;> first | exact False.elim h1 | skip
        cases y <;> first | exact False.elim h2 | skip
        rename_i a b
        have hx : a.length ≤ 1000 := hx
        have hy : b.length ≤ 1000 := hy
        walk_at "s"; walk_at "s"; walk_at "s"; walk_at "s"
        refine ⟨l2 _ _, rfl, rfl, ?_⟩
        walk_at "ss"
        refine ⟨by rw [S_len, S_len, sizeLine_eq]; omega, l2 _ _, ?_⟩
        rw [S_app]
        exact hk
      case with_ =>
        obtain ⟨h1, h2⟩ := hf
        cases x <;> first | exact False.elim h1 | skip
        cases y <;> first | exact False.elim h2 | skip
        rename_i a b
        have := len_szT a
        have hx : szT a ≤ 400 := hx.1
        walk_at "s"; walk_at "s"; walk_at "s"; walk_at "s"
        refine ⟨l2 _ _, rfl, rfl, ?_⟩
        walk_at "ss"
        refine eT_ix1 a (eT_ix2 a ⟨by simp, by simp; omega, by simp, ?_⟩)
        have hk : k (.im (eT (.mk (lab a) (subs a ++ [b])))) [] := hk
        rw [eT_mk] at hk
        exact hk
      case argument =>
        obtain ⟨h1, h2⟩ := hf
        cases x <;> first | exact False.elim h1 | skip
        cases y <;> first | exact False.elim h2 | skip
        rename_i a i
        have hv : twoV .argument (.term a) (.int i) = if i < 0 ∨ ((subs a).length : Int) ≤ i then Vl.absent else match (subs a)[i.toNat]? with
          | some b => .term b
          | none => .absent := rfl
        walk_at "s"; walk_at "s"; walk_at "s"; walk_at "s"
        refine ⟨l2 _ _, rfl, rfl, ?_⟩
        walk_at "ss"
        refine oneD (fun e => ?_) (fun e => ?_)
        · refine eT_ix2 a ?_
          refine oneD (fun e2 => ?_) (fun e2 => ?_)
          · rw [List.length_map] at e2
            obtain ⟨b, hb, hb2⟩ := arg_some (t := a) (i := i) (by rintro (z | z) <;> omega)
            rw [hb2] at hk
            refine eT_ix2 a ?_
            show (match atI ((subs a).map eT) i with
              | some d => k (.im d) []
              | none => False)
            rw [atI_in (by omega) (show ((subs a).map eT)[i.toNat]? = some (eT b) by rw [List.getElem?_map, hb]; rfl)]
            exact hk
          · rw [List.length_map] at e2
            rw [hv, if_pos (.inr (by omega))] at hk
            exact ⟨l1 _, hk⟩
        · rw [hv, if_pos (.inl (by omega))] at hk
          walk_at "s"; exact ⟨l1 _, hk⟩
  · exact h.elim
end Dl.Vb
end

section
set_option maxHeartbeats 4000000
namespace Dl.Vb
open PySem PySem.Spec PyProof.Rows L2 Co PySem.StrLaws
local macro_rules | `(tactic| walk_at "s") => `(tactic| first | refine twoT ?_ | refine twoF ?_ | refine yesD rfl ?_ | refine noD (by decide) ?_)
local macro_rules | `(tactic| walk_at "ss") => `(tactic| repeat (first | refine twoT ?_ | refine twoF ?_))
theorem szTs_app (xs : List Tm) (t : Tm) : szTs (xs ++ [t]) = szTs xs + szT t := by
  rw [szTs_eq, szTs_eq]
  simp
theorem hgTs_app : ∀ (xs : List Tm) (t : Tm), hgTs (xs ++ [t]) = max (hgTs xs) (hgT t + 1)
  | [], t => by
    show max (hgT t + 1) 0 = max 0 (hgT t + 1)
    omega
  | x :: xs, t => by
    show max (hgT x + 1) (hgTs (xs ++ [t])) = max (max (hgT x + 1) (hgTs xs)) (hgT t + 1)
    rw [hgTs_app xs t]
    omega
theorem sz_mk (a b : Tm) : szT (.mk (lab a) (subs a ++ [b])) = szT a + szT b := by
  obtain ⟨l, bs⟩ := a
  show 1 + szTs (bs ++ [b]) = 1 + szTs bs + szT b
  rw [szTs_app]
  omega
theorem hg_mk (a b : Tm) : hgT (.mk (lab a) (subs a ++ [b])) = max (hgT a) (hgT b + 1) := by
  cases a
  exact hgTs_app _ _
theorem sz_sub {a b : Tm} (h : b ∈ subs a) : szT b ≤ szT a := by
  cases a
  have := sz_mem h
  show _ ≤ 1 + szTs _
  exact Nat.le_trans this (by show szTs _ ≤ _; exact Nat.le_add_left _ _)
theorem hg_sub {a b : Tm} (h : b ∈ subs a) : hgT b ≤ hgT a := by
  cases a
  exact Nat.le_of_succ_le (hg_mem h)
theorem shown_len {i : Int} (h : i.natAbs ≤ 10 ^ 60) : (Str.ofString (toString i)).cps.toList.length ≤ 1000 := by
  have h2 : i.natAbs < 10 ^ 61 := Nat.lt_of_le_of_lt h (by decide +kernel)
  have := PySem.int_text_length_le10 (k := 61) (by decide) h2
  have e : (Str.ofString (toString i)).cps.toList.length = (Str.ofString (toString i)).length := by rw [PySem.Str.length]; simp
  rw [e, PySem.ofString_length]
  omega
theorem Big_set (v : Vl) (h : Big v) : Big (setV v) := by
  cases v with
  | int i => show Big (if _ then _ else _); split <;> trivial
  | text t => show Big (if _ then _ else _); split; trivial; exact h
  | term t => show Big (if _ then _ else _); split; trivial; exact h
  | _ => trivial
theorem Big_par (l : List Nat) : Big (parV l) := by
  unfold parV
  split
  · trivial
  · split <;> trivial
theorem Big_oneV {h : H1} {x : Vl} (hf : Fit1 h x) (hx : Ok x) : Big (oneV h x) := by
  cases h <;> cases x <;> first | exact False.elim hf | skip
  case shown.int i => exact Nat.le_trans (shown_len hx) (by decide)
  case label.term t => exact Nat.le_trans hx.2.2 (by decide)
  case parsed.text t => exact Big_par t
  case named.text t => exact ⟨by show 1 + 0 ≤ 1000000; omega, by show 0 ≤ 25; omega⟩
  all_goals trivial
theorem Big_one {h : H1} {x : Vl} (hf : Fit1 h x) (hx : Ok x) : Big (oneP h x) := by
  cases h <;> cases x <;> first | exact False.elim hf | exact Big_set _ (Big_par _) | exact Big_oneV hf hx
theorem set_idem (v : Vl) : setV (setV v) = setV v := by
  cases v with
  | int i =>
    show setV (if _ then _ else _) = if _ then _ else _
    split
    · rfl
    · rename_i h; exact if_neg h
  | text t =>
    show setV (if _ then _ else _) = if _ then _ else _
    split
    · rfl
    · rename_i h; exact if_neg h
  | term t =>
    show setV (if _ then _ else _) = if _ then _ else _
    split
    · rfl
    · rename_i h; exact if_neg h
  | _ => rfl
theorem set_one {h : H1} {x : Vl} (hf : Fit1 h x) : setV (oneP h x) = setV (oneV h x) := by
  cases h <;> cases x <;> first | exact False.elim hf | exact set_idem _ | rfl
theorem Big_two {h : H2} {x y : Vl} (hf : Fit2 h x y) (hx : Ok x) (hy : Ok y) : Big (twoV h x y) := by
  by_cases hi : isI h = true
  · obtain ⟨i, j, rfl, rfl⟩ := hf.int hi
    cases h <;> first | exact absurd hi (by decide) | skip
    case quotient => show Big (if _ then _ else _); split <;> trivial
    case remainder => show Big (if _ then _ else _); split <;> trivial
    all_goals trivial
  · cases h <;> first | exact absurd rfl hi | skip
    case same => trivial
    all_goals
      obtain ⟨h1, h2⟩ := hf
      cases x <;> first | exact False.elim h1 | skip
      cases y <;> first | exact False.elim h2 | skip
    case append.text.text a b =>
      have hx : a.length ≤ 1000 := hx
      have hy : b.length ≤ 1000 := hy
      show (a ++ b).length ≤ 1000000
      rw [List.length_append]
      omega
    case with_.term.term a b =>
      have hx1 : szT a ≤ 400 := hx.1
      have hy1 : szT b ≤ 400 := hy.1
      have hx2 : hgT a ≤ 20 := hx.2.1
      have hy2 : hgT b ≤ 20 := hy.2.1
      refine ⟨?_, ?_⟩
      · rw [sz_mk]; omega
      · rw [hg_mk]; omega
    case argument.term.int a i =>
      have hx1 : szT a ≤ 400 := hx.1
      have hx2 : hgT a ≤ 20 := hx.2.1
      by_cases z : i < 0 ∨ ((subs a).length : Int) ≤ i
      · have : twoV .argument (.term a) (.int i) = .absent := if_pos z
        rw [this]
        trivial
      · obtain ⟨b, hb, hb2⟩ := arg_some z
        rw [hb2]
        have hm := List.mem_of_getElem? hb
        have e1 := sz_sub hm
        have e2 := hg_sub hm
        exact ⟨by omega, by omega⟩
    all_goals trivial
theorem mem1 (x : Vl) : memD (.tup [.str "absent"]) [eV x] = isAbs x := by
  show (eqvD (eV x) _ || false) = _
  rw [eqv_abs, Bool.or_false]
theorem mem2 (x y : Vl) : memD (.tup [.str "absent"]) [eV x, eV y] = (isAbs x || isAbs y) := by
  show (eqvD (eV x) _ || (eqvD (eV y) _ || false)) = _
  rw [eqv_abs, eqv_abs, Bool.or_false]
theorem shp_l1 {x : Vl} (h : Ok x) : ([eV x] : List D).all (shp 60) = true := by
  show (shp 60 (eV x) && true) = true
  rw [shp_V (by have := h.hg; omega)]
  rfl
theorem shp_l2 {x y : Vl} (h : Ok x) (h' : Ok y) : ([eV x, eV y] : List D).all (shp 60) = true := by
  show (shp 60 (eV x) && (shp 60 (eV y) && true)) = true
  rw [shp_V (by have := h.hg; omega), shp_V (by have := h'.hg; omega)]
  rfl
theorem work1_abs {h : H1} {x : Vl} (e : isAbs x = true) : work1 h x = .absent := if_pos e
theorem work1_ok {h : H1} {x : Vl} (e : isAbs x = false) : work1 h x = setV (oneV h x) := if_neg (by rw [e]; decide)
theorem work2_abs {h : H2} {x y : Vl} (e : (isAbs x || isAbs y) = true) : work2 h x y = .absent := if_pos (by rw [Bool.or_eq_true] at e; exact e)
theorem work2_ok {h : H2} {x y : Vl} (e : (isAbs x || isAbs y) = false) : work2 h x y = setV (twoV h x y) := if_neg (by rw [Bool.or_eq_false_iff] at e; rw [e.1, e.2]; decide)
theorem r_worked : ∀ ws st k ex, pf_worked ws st k ex → t_worked (EnD false st.length k ex) (startD N_worked ws) st := by
  intro ws st k ex h
  unfold pf_worked at h
  split at h
  · rcases h with ⟨h, x, rfl, rfl, hf, hx, hk⟩ | ⟨h, x, y, rfl, rfl, hf, hx, hy, hk⟩
    · refine ⟨rfl, shp_l1 hx, ?_⟩
      show two (memD (.tup [.str "absent"]) [eV x]) _ _
      rw [mem1]
      cases hab : isAbs x with
      | true =>
        rw [work1_abs hab] at hk
        walk_at "s"
        exact hk
      | false =>
        rw [work1_ok hab] at hk
        walk_at "s"; walk_at "s"
        refine ⟨rfl, h, x, rfl, rfl, hf hab, hx, rfl, _, rfl, Big_one (hf hab) hx, ?_⟩
        rw [set_one (hf hab)]
        exact hk
    · refine ⟨rfl, shp_l2 hx hy, ?_⟩
      show two (memD (.tup [.str "absent"]) [eV x, eV y]) _ _
      rw [mem2]
      cases hab : (isAbs x || isAbs y) with
      | true =>
        rw [work2_abs hab] at hk
        walk_at "s"
        exact hk
      | false =>
        rw [work2_ok hab] at hk
        rw [Bool.or_eq_false_iff] at hab
        have hf := hf hab.1 hab.2
        walk_at "s"; walk_at "s"
        exact ⟨rfl, h, x, y, rfl, rfl, rfl, hf, hx, hy, rfl, _, rfl, Big_two hf hx hy, hk⟩
  · exact h.elim
theorem r_Lworked : ∀ ws st k ex, pf_worked ws st k ex → t_Lworked (EnD false st.length k ex) (startD N_Lworked ws) st := by
  intro ws st k ex h
  unfold pf_worked at h
  split at h
  · rcases h with ⟨h, x, rfl, rfl, hf, hx, hk⟩ | ⟨h, x, y, rfl, rfl, hf, hx, hy, hk⟩
    · refine ⟨l1 _, rfl, shp_l1 hx, ?_⟩
      show two (memD (.tup [.str "absent"]) [eV x]) _ _
      rw [mem1]
      cases hab : isAbs x with
      | true =>
        rw [work1_abs hab] at hk
        walk_at "s"
        exact ⟨l1 _, hk⟩
      | false =>
        rw [work1_ok hab] at hk
        walk_at "s"; walk_at "s"
        exact ⟨rfl, h, x, rfl, rfl, hf hab, hx, rfl, _, rfl, Big_oneV (hf hab) hx, hk⟩
    · refine ⟨l1 _, rfl, shp_l2 hx hy, ?_⟩
      show two (memD (.tup [.str "absent"]) [eV x, eV y]) _ _
      rw [mem2]
      cases hab : (isAbs x || isAbs y) with
      | true =>
        rw [work2_abs hab] at hk
        walk_at "s"
        exact ⟨l1 _, hk⟩
      | false =>
        rw [work2_ok hab] at hk
        rw [Bool.or_eq_false_iff] at hab
        have hf := hf hab.1 hab.2
        walk_at "s"; walk_at "s"
        exact ⟨rfl, h, x, y, rfl, rfl, rfl, hf, hx, hy, rfl, _, rfl, Big_two hf hx hy, hk⟩
  · exact h.elim
theorem Ok_set {v : Vl} (h : ∀ t, v = .term t → hgT t ≤ 20 ∧ (lab t).length ≤ 1000) : Ok (setV v) := by
  cases v with
  | int i =>
    show Ok (if _ then _ else _)
    split
    · trivial
    · rename_i z
      show i.natAbs ≤ _
      omega
  | text t =>
    show Ok (if _ then _ else _)
    split
    · trivial
    · rename_i z
      show t.length ≤ _
      omega
  | term t =>
    show Ok (if _ then _ else _)
    split
    · trivial
    · rename_i z
      exact ⟨by omega, h t rfl⟩
  | _ => trivial
theorem set_or (v : Vl) : setV v = .absent ∨ setV v = v := by
  cases v with
  | int i => show (if _ then _ else _) = _ ∨ (if _ then _ else _) = _; split; exact .inl rfl; exact .inr rfl
  | text i => show (if _ then _ else _) = _ ∨ (if _ then _ else _) = _; split; exact .inl rfl; exact .inr rfl
  | term i => show (if _ then _ else _) = _ ∨ (if _ then _ else _) = _; split; exact .inl rfl; exact .inr rfl
  | _ => exact .inr rfl
def Good (g : H3) (f : Vl) : Prop := Ok f ∧ (isAbs f = true ∨ HasS (srt3 g) f) ∧ ∀ t, f = .term t → hgT t ≤ 2
def Item (g : H3) (f : Vl) : Prop := Ok f ∧ (isAbs f = true ∨ HasS (srt3 g) f) ∧ ∀ t, f = .term t → hgT t ≤ 1
theorem abs_eq {x : Vl} (h : isAbs x = true) : x = .absent := by cases x <;> first | rfl | cases h
theorem Good.abs {g : H3} : Good g .absent := ⟨trivial, .inl rfl, fun t h => by cases h⟩
theorem Good.beg (g : H3) : Good g (beg3 g) := by
  cases g <;> refine ⟨?_, .inr trivial, fun t h => ?_⟩ <;> first | (cases h; done) | trivial | (cases h; decide) | skip
  all_goals first | exact Nat.zero_le _ | exact ⟨by decide, by decide, by decide +kernel⟩
theorem Item.fit {g : H3} {f v : Vl} (hf : Good g f) (hv : Item g v) (h1 : isAbs f = false) (h2 : isAbs v = false) : Fit2 (stp3 g) f v := by
  have a := hf.2.1.resolve_left (by rw [h1]; decide)
  have b := hv.2.1.resolve_left (by rw [h2]; decide)
  cases g <;> exact ⟨a, b⟩
theorem Good.next {g : H3} {f v : Vl} (hf : Good g f) (hv : Item g v) : Good g (work2 (stp3 g) f v) := by
  cases hab : (isAbs f || isAbs v) with
  | true => rw [work2_abs hab]; exact .abs
  | false =>
    rw [work2_ok hab]
    rw [Bool.or_eq_false_iff] at hab
    have a := hf.2.1.resolve_left (by rw [hab.1]; decide)
    have b := hv.2.1.resolve_left (by rw [hab.2]; decide)
    have key : (∀ t, twoV (stp3 g) f v = .term t → hgT t ≤ 2 ∧ (lab t).length ≤ 1000) ∧ HasS (srt3 g) (twoV (stp3 g) f v) := by
      cases g <;> cases f <;> first | exact False.elim a | skip
      all_goals cases v <;> first | exact False.elim b | skip
      case collect.term.term t u =>
        refine ⟨fun w hw => ?_, trivial⟩
        cases hw
        have h1 := hf.2.2 t rfl
        have h2 := hv.2.2 u rfl
        refine ⟨by rw [hg_mk]; omega, hf.1.2.2⟩
      all_goals exact ⟨fun t h => (by cases h), trivial⟩
    refine ⟨Ok_set fun t h => ⟨Nat.le_trans (key.1 t h).1 (by decide), (key.1 t h).2⟩, ?_, fun t h => ?_⟩
    · rcases set_or (twoV (stp3 g) f v) with e | e
      · rw [e]; exact .inl rfl
      · rw [e]; exact .inr key.2
    · rcases set_or (twoV (stp3 g) f v) with e | e
      · rw [e] at h; cases h
      · rw [e] at h; exact (key.1 t h).1
end Dl.Vb
end

section
set_option maxHeartbeats 4000000
namespace Dl.Vb
open PySem PySem.Spec PyProof.Rows L2 Co PySem.StrLaws
local macro_rules | `(tactic| walk_at "s") => `(tactic| first | refine twoT ?_ | refine twoF ?_ | refine yesD rfl ?_ | refine noD (by decide) ?_)
local macro_rules | `(tactic| walk_at "ss") => `(tactic| repeat (first | refine twoT ?_ | refine twoF ?_))
theorem l3 (a b c : D) : ([a, b, c] : List D).length ≤ 1000000 := by simp
theorem gth_take (g : H3) (btw : List Nat) : ∀ (xs : List Vl) (k i : Nat) (f x : Vl), xs[i]? = some x → gth g btw k f (xs.take (i + 1)) = nx3 g btw (k + i) (gth g btw k f (xs.take i)) x
  | [], k, i, f, x, h => by simp at h
  | y :: xs, k, 0, f, x, h => by cases h; rfl
  | y :: xs, k, i + 1, f, x, h => by
    have := gth_take g btw xs (k + 1) i (nx3 g btw k f y) x h
    rw [show k + 1 + i = k + (i + 1) by omega] at this
    exact this
theorem Item.btw {btw : List Nat} (h : btw.length ≤ 10) : Item .join (.text btw) := ⟨Nat.le_trans h (by decide), .inr trivial, fun t h => by cases h⟩
theorem Good.nx3 {g : H3} {btw : List Nat} (hb : btw.length ≤ 10) {i : Nat} {f v : Vl} (hf : Good g f) (hv : Item g v) : Good g (nx3 g btw i f v) := by
  unfold Vb.nx3
  split
  · rename_i h
    cases g <;> first | exact absurd h.1 (by decide) | exact Good.next (Good.next (g := .join) hf (Item.btw hb)) hv
  · exact hf.next hv
theorem Good.gth {g : H3} {btw : List Nat} (hb : btw.length ≤ 10) {xs : List Vl} (hx : ∀ x ∈ xs, Item g x) : ∀ (i : Nat), Good g (gth g btw 0 (beg3 g) (xs.take i))
  | 0 => .beg g
  | i + 1 => by
    cases h : xs[i]? with
    | none =>
      have h := List.getElem?_eq_none_iff.mp h
      have := Good.gth hb hx i
      rw [List.take_of_length_le h] at this
      rw [List.take_of_length_le (by omega)]
      exact this
    | some x =>
      rw [gth_take g btw xs 0 i _ x h]
      exact (Good.gth hb hx i).nx3 hb (hx x (List.mem_of_getElem? h))
theorem nx3_no {g : H3} {btw : List Nat} {i : Nat} {f v : Vl} (h : isJ g = false) : nx3 g btw i f v = work2 (stp3 g) f v := by
  unfold nx3
  rw [if_neg (by rw [h]; exact fun z => absurd z.1 (by decide))]
theorem nx3_0 {g : H3} {btw : List Nat} {f v : Vl} : nx3 g btw 0 f v = work2 (stp3 g) f v := by
  unfold nx3
  rw [if_neg (fun z => absurd z.2 (by decide))]
theorem nx3_j {btw : List Nat} {i : Nat} {f v : Vl} (h : 0 < i) : nx3 .join btw i f v = work2 .append (work2 .append f (.text btw)) v := by
  unfold nx3
  rw [if_pos ⟨rfl, h⟩]
  rfl
abbrev cSt : D := .dct [.inr "sum", .inr "all", .inr "any", .inr "join"] [.tup [.str "integer", .int 0], .tup [.str "boolean", .bl true], .tup [.str "boolean", .bl false], .tup [.str "text", .str ""]]
abbrev cSp : D := .dct [.inr "sum", .inr "all", .inr "any", .inr "collect", .inr "join"] [.str "add", .str "and", .str "or", .str "with", .str "append"]
def gat2 : DS := sAsg 4 (dIfE (dCmp cEq (dV 4) (dI (dC (.tup [.str "absent"])))) (dI (dC (.tup [.str "absent"]))) (dCall pf_worked (aCons (dI (dGet false (dV 5) (dD (dV 0)))) (aCons (dI (dLst (adCons (dD (dV 4)) (adCons (dIx (dV 1) (dD (dV 6))) adNil)))) aNil))))
def gat1 : DS := sSeq (sIf (dAnd (dCmp cEq (dV 0) (dI (dC (.str "join")))) (dCmp cGt (dV 6) (dI (dC (.int 0))))) (sAsg 4 (dCall pf_worked (aCons (dI (dC (.str "append"))) (aCons (dI (dLst (adCons (dD (dV 4)) (adCons (dTup (adCons (dC (.str "text")) (adCons (dD (dV 2)) adNil))) adNil)))) aNil)))) sNext) gat2
theorem at_val {xs : List Vl} {i : Nat} {x : Vl} (h : xs[i]? = some x) {k : D → Prop} (hk : k (eV x)) : atD (.lst (xs.map eV)) (.int (0 + (i : Int))) k := by
  show (match atI (xs.map eV) (0 + (i : Int)) with
    | some d => k d
    | none => False)
  rw [show (0 + (i : Int)) = (i : Int) by omega, atI_nat (show (xs.map eV)[i]? = some (eV x) by rw [List.getElem?_map, h]; rfl)]
  exact hk
theorem gat2_ok {g : H3} {xs : List Vl} {btw : List Nat} {i : Nat} {f x : Vl} {E : En} (hx : xs[i]? = some x) (hf : Good g f) (hv : Item g x)
    (k : E.nx [some (.im (.str (nm3 g))), some (.im (.lst (xs.map eV))), some (.im (.str (S btw))), some (.im cSt), some (.im (eV (work2 (stp3 g) f x))), some (.im cSp), some (.im (.int (0 + (i : Int))))] []) :
    gat2 E [some (.im (.str (nm3 g))), some (.im (.lst (xs.map eV))), some (.im (.str (S btw))), some (.im cSt), some (.im (eV f)), some (.im cSp), some (.im (.int (0 + (i : Int))))] [] := by
  refine cEq_of (eqSD_V _ _) (shp_V (by have := hf.1.hg; omega)) rfl ?_
  rw [eqv_abs]
  cases hab : isAbs f with
  | true =>
    rw [work2_abs (by rw [hab]; rfl)] at k
    walk_at "s"
    exact k
  | false =>
    walk_at "s"
    cases g <;> exact at_val hx ⟨l2 _ _, rfl, Or.inr ⟨_, f, x, rfl, rfl, fun a b => hv.fit hf a b, hf.1, hv.1, k⟩⟩
theorem gat1_ok {g : H3} {xs : List Vl} {btw : List Nat} (hb : btw.length ≤ 10) {i : Nat} {f x : Vl} {E : En} (hx : xs[i]? = some x) (hf : Good g f) (hv : Item g x)
    (k : E.nx [some (.im (.str (nm3 g))), some (.im (.lst (xs.map eV))), some (.im (.str (S btw))), some (.im cSt), some (.im (eV (nx3 g btw i f x))), some (.im cSp), some (.im (.int (0 + (i : Int))))] []) :
    gat1 E [some (.im (.str (nm3 g))), some (.im (.lst (xs.map eV))), some (.im (.str (S btw))), some (.im cSt), some (.im (eV f)), some (.im cSp), some (.im (.int (0 + (i : Int))))] [] := by
  by_cases hj : isJ g = true
  · cases g <;> first | exact absurd hj (by decide) | skip
    walk_at "s"
    refine oneD (fun e => ?_) (fun e => ?_)
    · rw [nx3_j (by omega)] at k
      exact ⟨l2 _ _, l2 _ _, rfl, Or.inr ⟨.append, f, .text btw, rfl, rfl, fun a b => (Item.btw hb).fit hf a b, hf.1, (Item.btw hb).1, gat2_ok (E := { E with nx := E.nx }) hx (hf.next (Item.btw hb)) hv k⟩⟩
    · have : i = 0 := by omega
      subst this
      rw [nx3_0] at k
      exact gat2_ok hx hf hv k
  · rw [nx3_no (by simpa using hj)] at k
    cases g <;> first | exact absurd rfl hj | (walk_at "s"; walk_at "s"; exact gat2_ok hx hf hv k)
theorem r_gathered : ∀ ws st k ex, pf_gathered ws st k ex → t_gathered (EnD false st.length k ex) (startD N_gathered ws) st := by
  intro ws st k ex h
  unfold pf_gathered at h
  split at h
  · obtain ⟨g, xs, btw, rfl, rfl, rfl, hb, ⟨hl, hf⟩, hk⟩ := h
    have gd := Good.gth hb hf
    have loop : sSeq (sFor (iRg1 (dCB fLen (aCons (dV 1) aNil))) (gN 6) gat1) (sRet (dV 4)) (EnD false 0 k ex) [some (.im (.str (nm3 g))), some (.im (.lst (xs.map eV))), some (.im (.str (S btw))), some (.im cSt), some (.im (eV (beg3 g))), some (.im cSp), none] [] := by
      refine ⟨by omega, by rw [List.length_map]; omega, fun i σ' st' => st' = [] ∧ ∃ z, σ' = [some (.im (.str (nm3 g))), some (.im (.lst (xs.map eV))), some (.im (.str (S btw))), some (.im cSt), some (.im (eV (gth g btw 0 (beg3 g) (xs.take i)))), some (.im cSp), z], ⟨rfl, none, rfl⟩, ?_, ?_⟩
      · rintro i d σ' st' hd ⟨rfl, z, rfl⟩ -
        obtain ⟨hi, rfl⟩ := rgD_get hd
        have hi : i < xs.length := by rw [List.length_map] at hi; omega
        obtain ⟨x, hx⟩ : ∃ x, xs[i]? = some x := ⟨_, List.getElem?_eq_getElem hi⟩
        refine gat1_ok hb hx (gd i) (hf x (List.mem_of_getElem? hx)) ⟨rfl, some (.im (.int (0 + (i : Int)))), ?_⟩
        rw [gth_take g btw xs 0 i _ x hx, Nat.zero_add]
        rfl
      · rintro σ' st' ⟨rfl, z, rfl⟩ -
        rw [rgD_len, List.length_map]
        have : gth g btw 0 (beg3 g) (xs.take (xs.length : Int).toNat) = gth g btw 0 (beg3 g) xs := by rw [List.take_of_length_le (by omega)]
        rw [this]
        exact hk
    cases g <;> exact ⟨l2 _ _, l2 _ _, l2 _ _, l2 _ _, by decide, trivial, Nat.zero_le _, l3 _ _ _, by decide, loop⟩
  · exact h.elim
abbrev cSt2 : D := .dct [.inr "sum", .inr "all", .inr "any", .inr "join", .inr "collect"] [.tup [.str "integer", .int 0], .tup [.str "boolean", .bl true], .tup [.str "boolean", .bl false], .tup [.str "text", .str ""], .tup [.str "term", .str "", .tup []]]
abbrev cStO : Ob := .dct [.inr "sum", .inr "all", .inr "any", .inr "join", .inr "collect"] [.tup [.str "integer", .int 0], .tup [.str "boolean", .bl true], .tup [.str "boolean", .bl false], .tup [.str "text", .str ""], .tup [.str "term", .str "", .tup []]]
def ovr2 : DS := sAsg 5 (dCall pf_worked (aCons (dI (dGet false (dV 4) (dD (dV 0)))) (aCons (dI (dLst (adCons (dD (dV 5)) (adCons (dIx (dV 1) (dD (dV 6))) adNil)))) aNil)))
def ovr1 : DS := sSeq (sIf (dAnd (dCmp cEq (dV 0) (dI (dC (.str "join")))) (dCmp cGt (dV 6) (dI (dC (.int 0))))) (sAsg 5 (dCall pf_worked (aCons (dI (dC (.str "append"))) (aCons (dI (dLst (adCons (dD (dV 5)) (adCons (dTup (adCons (dC (.str "text")) (adCons (dD (dV 2)) adNil))) adNil)))) aNil)))) sNext) ovr2
theorem ovr2_ok {g : H3} {xs : List Vl} {btw : List Nat} {i : Nat} {f x : Vl} {E : En} (hx : xs[i]? = some x) (hf : Good g f) (hv : Item g x)
    (k : E.nx [some (.im (.str (nm3 g))), some (.im (.lst (xs.map eV))), some (.im (.str (S btw))), some (.loc 0), some (.im cSp), some (.im (eV (work2 (stp3 g) f x))), some (.im (.int (0 + (i : Int))))] [cStO]) :
    ovr2 E [some (.im (.str (nm3 g))), some (.im (.lst (xs.map eV))), some (.im (.str (S btw))), some (.loc 0), some (.im cSp), some (.im (eV f)), some (.im (.int (0 + (i : Int))))] [cStO] := by
  cases g <;> exact at_val hx ⟨l2 _ _, rfl, Or.inr ⟨_, f, x, rfl, rfl, fun a b => hv.fit hf a b, hf.1, hv.1, k⟩⟩
theorem ovr1_ok {g : H3} {xs : List Vl} {btw : List Nat} (hb : btw.length ≤ 10) {i : Nat} {f x : Vl} {E : En} (hx : xs[i]? = some x) (hf : Good g f) (hv : Item g x)
    (k : E.nx [some (.im (.str (nm3 g))), some (.im (.lst (xs.map eV))), some (.im (.str (S btw))), some (.loc 0), some (.im cSp), some (.im (eV (nx3 g btw i f x))), some (.im (.int (0 + (i : Int))))] [cStO]) :
    ovr1 E [some (.im (.str (nm3 g))), some (.im (.lst (xs.map eV))), some (.im (.str (S btw))), some (.loc 0), some (.im cSp), some (.im (eV f)), some (.im (.int (0 + (i : Int))))] [cStO] := by
  by_cases hj : isJ g = true
  · cases g <;> first | exact absurd hj (by decide) | skip
    walk_at "s"
    refine oneD (fun e => ?_) (fun e => ?_)
    · rw [nx3_j (by omega)] at k
      exact ⟨l2 _ _, l2 _ _, rfl, Or.inr ⟨.append, f, .text btw, rfl, rfl, fun a b => (Item.btw hb).fit hf a b, hf.1, (Item.btw hb).1, ovr2_ok (E := { E with nx := E.nx }) hx (hf.next (Item.btw hb)) hv k⟩⟩
    · have : i = 0 := by omega
      subst this
      rw [nx3_0] at k
      exact ovr2_ok hx hf hv k
  · rw [nx3_no (by simpa using hj)] at k
    cases g <;> first | exact absurd rfl hj | (walk_at "s"; walk_at "s"; exact ovr2_ok hx hf hv k)
theorem r_Lover : ∀ ws st k ex, pf_gathered ws st k ex → t_Lover (EnD false st.length k ex) (startD N_Lover ws) st := by
  intro ws st k ex h
  unfold pf_gathered at h
  split at h
  · obtain ⟨g, xs, btw, rfl, rfl, rfl, hb, ⟨hl, hf⟩, hk⟩ := h
    have gd := Good.gth hb hf
    have loop : sSeq (sFor (iRg1 (dCB fLen (aCons (dV 1) aNil))) (gN 6) ovr1) (sRet (dV 5)) (EnD false 0 k ex) [some (.im (.str (nm3 g))), some (.im (.lst (xs.map eV))), some (.im (.str (S btw))), some (.loc 0), some (.im cSp), some (.im (eV (beg3 g))), none] [cStO] := by
      refine ⟨by omega, by rw [List.length_map]; omega, fun i σ' st' => st' = [cStO] ∧ ∃ z, σ' = [some (.im (.str (nm3 g))), some (.im (.lst (xs.map eV))), some (.im (.str (S btw))), some (.loc 0), some (.im cSp), some (.im (eV (gth g btw 0 (beg3 g) (xs.take i)))), z], ⟨rfl, none, rfl⟩, ?_, ?_⟩
      · rintro i d σ' st' hd ⟨rfl, z, rfl⟩ -
        obtain ⟨hi, rfl⟩ := rgD_get hd
        have hi : i < xs.length := by rw [List.length_map] at hi; omega
        obtain ⟨x, hx⟩ : ∃ x, xs[i]? = some x := ⟨_, List.getElem?_eq_getElem hi⟩
        refine ovr1_ok hb hx (gd i) (hf x (List.mem_of_getElem? hx)) ⟨rfl, some (.im (.int (0 + (i : Int)))), ?_⟩
        rw [gth_take g btw xs 0 i _ x hx, Nat.zero_add]
        rfl
      · rintro σ' st' ⟨rfl, z, rfl⟩ -
        rw [rgD_len, List.length_map]
        have : gth g btw 0 (beg3 g) (xs.take (xs.length : Int).toNat) = gth g btw 0 (beg3 g) xs := by rw [List.take_of_length_le (by omega)]
        rw [this]
        exact hk
    cases g <;> exact ⟨l2 _ _, l2 _ _, l2 _ _, l2 _ _, by decide, Nat.zero_le _, l3 _ _ _, by decide, by decide, loop⟩
  · exact h.elim
end Dl.Vb
end

section
set_option maxHeartbeats 4000000
namespace Dl.Vb
open PySem PySem.Spec PyProof.Rows L2 Co PySem.StrLaws
local macro_rules | `(tactic| walk_at "s") => `(tactic| first | refine twoT ?_ | refine twoF ?_ | refine yesD rfl ?_ | refine noD (by decide) ?_)
local macro_rules | `(tactic| walk_at "ss") => `(tactic| repeat (first | refine twoT ?_ | refine twoF ?_))
theorem idx1 : ∀ (r : Sto) (n0 : Nat) (st2 : Sto) (i : Nat), 0 < i → backO [0] n0 st2 i r = r
  | [], _, _, _, _ => rfl
  | o :: r, n0, st2, i, h => by
    have e : idx i [0] = none := by
      unfold idx
      rw [if_neg (by omega)]
      rfl
    show (match idx i [0] with
      | some j => _
      | none => o) :: backO [0] n0 st2 (i + 1) r = o :: r
    rw [e, idx1 r n0 st2 (i + 1) (by omega)]
theorem back0 (r : Sto) : back [0] (.pool :: r) [.pool] = .pool :: r := by
  show (backO [0] _ [.pool] 0 (.pool :: r)) ++ [] = _
  rw [List.append_nil]
  show _ :: backO [0] _ [.pool] 1 r = _
  rw [idx1 r _ _ 1 (by decide)]
  rfl
theorem call_take {m : Int} {r : Sto} {k : W → Sto → Prop} {ex : DX} (h0 : 0 < m) (h1 : m < 1000) (h : ∀ i : Int, 0 ≤ i → i < m → k (.im (.int i)) (.pool :: r)) : callD pf_take [0] [.loc 0, .im (.int m)] (.pool :: r) k ex := by
  have hb : (1000 : Int) < 2 ^ 250 := by decide +kernel
  refine ⟨rfl, h0, by omega, fun i hi hj => ?_⟩
  show k (.im (.int i)) (back [0] (.pool :: r) [.pool])
  rw [back0]
  exact h i hi hj
theorem all_map {α : Type} {f : α → D} {P : α → Prop} : ∀ {ys : List D}, (∀ y ∈ ys, ∃ x, y = f x ∧ P x) → ∃ xs : List α, ys = xs.map f ∧ ∀ x ∈ xs, P x
  | [], _ => ⟨[], rfl, by simp⟩
  | y :: ys, h => by
    obtain ⟨x, rfl, hx⟩ := h y (by simp)
    obtain ⟨xs, rfl, hxs⟩ := all_map (f := f) (P := P) (ys := ys) fun z hz => h z (by simp [hz])
    exact ⟨x :: xs, rfl, by simpa using ⟨hx, hxs⟩⟩
theorem p60 : CPow 10 60 := ⟨by decide, by decide, by decide⟩
theorem p30 : CPow 10 30 := ⟨by decide, by decide, by decide⟩
theorem e60i : (10 : Int) ^ (60 : Int).toNat = 1000000000000000000000000000000000000000000000000000000000000 := by decide +kernel
theorem e30i : (10 : Int) ^ (30 : Int).toNat = 1000000000000000000000000000000 := by decide +kernel
theorem r_Linteger : ∀ ws st k ex, pf_Linteger ws st k ex → t_Linteger (EnD false st.length k ex) (startD N_Linteger ws) st := by
  intro ws st k ex h
  unfold pf_Linteger at h
  split at h
  · have he := e60
    have he2 := e30i
    refine ⟨rfl, by decide, by decide +kernel, fun r h0 h1 => ?_⟩
    refine oneD (fun e => ?_) (fun e => ?_)
    · refine ⟨p60, p60, p60, by show 4 ≤ 1000000; omega, rfl, by decide, by decide +kernel, fun r h0 h1 => ?_⟩
      rcases (by omega : r = 0 ∨ r = 1 ∨ r = 2 ∨ r = 3) with rfl | rfl | rfl | rfl
      · exact h _ (by rw [e60i]; omega)
      · exact h _ (by rw [e60i]; omega)
      · exact h _ (by rw [e60i]; omega)
      · exact h _ (by omega)
    · refine oneD (fun e => ?_) (fun e => ?_)
      · refine ⟨p30, rfl, by rw [e30i]; omega, by rw [e30i]; decide +kernel, fun r h0 h1 => ⟨l2 _ _, rfl, by decide, by decide +kernel, fun r2 h2 h3 => ?_⟩⟩
        rw [e30i] at h1
        rcases (by omega : r2 = 0 ∨ r2 = 1) with rfl | rfl
        · exact ⟨.inr (.inl (by decide)), h ((r + 1) * 1) (by omega)⟩
        · exact ⟨.inr (.inl (by decide)), h ((r + 1) * -1) (by omega)⟩
      · exact ⟨rfl, by decide, by decide +kernel, fun r h0 h1 => h (r - 20) (by omega)⟩
  · exact h.elim
theorem lit_len (s : Str) (n : Nat) (h : s.cps.toList.length = n) : s.length = n := by rw [← h]; simp [PySem.Str.length]
theorem one_of {s : Str} {j : Int} (hs : s.length ≤ sizeLine) (h0 : 0 ≤ j) (h1 : j < (s.cps.toList.length : Int)) {k : D → Prop} (hk : ∀ c : Nat, k (.str ⟨#[c]⟩)) : atD (.str s) (.int j) k := by
  have hi : j.toNat < s.cps.toList.length := by omega
  refine ⟨hs, ?_⟩
  rw [atNat h0 (List.getElem?_eq_getElem hi)]
  exact hk _
theorem flat_one : ∀ cs : List Nat, (cs.map fun c => [c]).flatten = cs
  | [] => rfl
  | c :: cs => by
    show c :: (cs.map fun c => [c]).flatten = c :: cs
    rw [flat_one cs]
theorem sum_one : ∀ cs : List Nat, ((((cs.map fun c => [c]).map S).map (·.length))).sum = cs.length
  | [] => rfl
  | c :: cs => by
    rw [List.map_cons, List.map_cons, List.map_cons, List.sum_cons, sum_one cs]
    show 1 + cs.length = cs.length + 1
    omega
theorem r_Ltext : ∀ ws st k ex, pf_Ltext ws st k ex → t_Ltext (EnD false st.length k ex) (startD N_Ltext ws) st := by
  intro ws st k ex h
  unfold pf_Ltext at h
  split at h
  · refine ⟨by show 6 ≤ 1000000; omega, rfl, by decide, by decide +kernel, fun r h0 h1 => ?_⟩
    have key : ∀ n : Nat, n ≤ 1000 → (sSeq (sAsg 3 (dI (dBM "str" mJoin (dI (dC (.str ""))) (aCons (dI (dLc (iRg1 (dCB fMin (aCons (dV 2) (aCons (dI (dC (.int 5))) aNil)))) (gN 4) dYes (dIx (dV 1) (dD (dCall pf_take (aCons (dV 0) (aCons (dI (dIx (dI (dTup (adCons (dC (.int 10)) (adCons (dC (.int 15)) adNil)))) (dOp fDiv (dD (dV 4)) (dC (.int 3))))) aNil))))) ([("_law_k", 4)].map (·.2)))) aNil))))
 (sRet (dI (dOp fAdd (dD (dV 3)) (dOp fMul (dC (.str "7")) (dOp fSub (dD (dV 2)) (dCB fLen (aCons (dV 3) aNil)))))))) (EnD false 1 k ex) [some (.loc 0), some (.im (.str "0123456789ab-+ ")), some (.im (.int (n : Int))), none, none] [.pool] := fun n hn => by
      refine ⟨rfl, by omega, by omega, lc_all (fun _ y => ∃ c : Nat, y = .str ⟨#[c]⟩) (by rw [rgD_len]; omega) rfl (fun i d hd Q q => ?_) fun ys h1 h2 => ?_⟩
      · obtain ⟨hi, rfl⟩ := rgD_get hd
        have hi : i < 5 := by omega
        refine ⟨l2 _ _, ⟨by decide, by decide +kernel⟩, ?_⟩
        have e15 : ((("0123456789ab-+ " : Str)).cps.toList.length : Int) = 15 := by decide +kernel
        rcases (by omega : i = 0 ∨ i = 1 ∨ i = 2 ∨ i = 3 ∨ i = 4) with rfl | rfl | rfl | rfl | rfl
        · exact call_take (m := 10) (by decide) (by decide) fun r h0 h1 => one_of (by decide +kernel) h0 (by omega) fun c => q _ ⟨c, rfl⟩
        · exact call_take (m := 10) (by decide) (by decide) fun r h0 h1 => one_of (by decide +kernel) h0 (by omega) fun c => q _ ⟨c, rfl⟩
        · exact call_take (m := 10) (by decide) (by decide) fun r h0 h1 => one_of (by decide +kernel) h0 (by omega) fun c => q _ ⟨c, rfl⟩
        · exact call_take (m := 15) (by decide) (by decide) fun r h0 h1 => one_of (by decide +kernel) h0 (by omega) fun c => q _ ⟨c, rfl⟩
        · exact call_take (m := 15) (by decide) (by decide) fun r h0 h1 => one_of (by decide +kernel) h0 (by omega) fun c => q _ ⟨c, rfl⟩
      · obtain ⟨cs, rfl, -⟩ := all_map (f := fun c : Nat => D.str ⟨#[c]⟩) (P := fun _ => True) (ys := ys) fun y hy => by
          obtain ⟨i, hi⟩ := List.mem_iff_getElem?.mp hy
          obtain ⟨c, hc⟩ := h2 i y hi
          exact ⟨c, hc, trivial⟩
        rw [rgD_len, List.length_map] at h1
        have hj : Txt.join "" ((cs.map fun c => [c]).map S) = S cs := by
          rw [empty_eq, joinT]
          congr 1
          exact flat_one cs
        have hl : (S cs).length = cs.length := S_len _
        refine ⟨(cs.map fun c => [c]).map S, by rw [List.map_map, List.map_map]; rfl, ?_, ?_⟩
        · rw [sum_one, List.length_map, List.length_map]
          show cs.length + cs.length * 0 ≤ _
          omega
        have h3 : cs.length ≤ 5 ∧ cs.length ≤ n := by omega
        have go : ∀ z : Str, z = S cs → sRet (dI (dOp fAdd (dD (dV 3)) (dOp fMul (dC (.str "7")) (dOp fSub (dD (dV 2)) (dCB fLen (aCons (dV 3) aNil)))))) (EnD false 1 k ex) [some (.loc 0), some (.im (.str "0123456789ab-+ ")), some (.im (.int (n : Int))), some (.im (.str z)), none] [.pool] := by
          rintro z rfl
          have e7 : ((("7" : Str)).length : Int) = 1 := by decide +kernel
          have e7b : ((("7" : Str)).cps.toList).length = 1 := by decide +kernel
          have hz : (S (repL (("7" : Str)).cps.toList ((n : Int) - ((S cs).length : Nat)))).length = n - cs.length := by
            rw [S_len, repL_len, e7b, hl]
            omega
          refine ⟨S_le (n := 1000) (by omega) (by omega), ?_⟩
          refine ⟨by rw [e7, hl]; omega, by rw [hl]; omega, by rw [hl]; omega, ?_⟩
          refine ⟨by rw [hz, hl, sizeLine_eq]; omega, ?_⟩
          rw [S_app]
          refine h _ ?_
          rw [List.length_append, repL_len, e7b, hl]
          omega
        exact go _ hj
    rcases (by omega : r = 0 ∨ r = 1 ∨ r = 2 ∨ r = 3 ∨ r = 4 ∨ r = 5) with rfl | rfl | rfl | rfl | rfl | rfl
    · exact key 0 (by decide)
    · exact key 1 (by decide)
    · exact key 2 (by decide)
    · exact key 5 (by decide)
    · exact key 499 (by decide)
    · exact key 999 (by decide)
  · exact h.elim
end Dl.Vb
end

section
set_option maxHeartbeats 4000000
namespace Dl.Vb
open PySem PySem.Spec PyProof.Rows L2 Co PySem.StrLaws
local macro_rules | `(tactic| walk_at "s") => `(tactic| first | refine twoT ?_ | refine twoF ?_ | refine yesD rfl ?_ | refine noD (by decide) ?_)
local macro_rules | `(tactic| walk_at "ss") => `(tactic| repeat (first | refine twoT ?_ | refine twoF ?_))
theorem sz_leaf : ∀ ls : List Str, szTs (ls.map fun l => Tm.mk l []) = ls.length
  | [] => rfl
  | l :: ls => by
    show (1 + 0) + szTs (ls.map fun l => Tm.mk l []) = ls.length + 1
    rw [sz_leaf ls]
    omega
theorem hg_leaf : ∀ ls : List Str, hgTs (ls.map fun l => Tm.mk l []) ≤ 1
  | [] => Nat.zero_le _
  | l :: ls => by
    show max (0 + 1) (hgTs (ls.map fun l => Tm.mk l [])) ≤ 1
    have := hg_leaf ls
    omega
theorem r_Lterm : ∀ ws st k ex, pf_Lterm ws st k ex → t_Lterm (EnD false st.length k ex) (startD N_Lterm ws) st := by
  intro ws st k ex h
  unfold pf_Lterm at h
  split at h
  · refine ⟨by show 5 ≤ 1000000; omega, rfl, by decide, by decide +kernel, fun r h0 h1 => ?_⟩
    have key : ∀ n : Nat, n ≤ 399 → (sSeq (sAsg 2 (dI (dLc (iRg1 (dD (dV 1))) (gN 3) dYes (dTup (adCons (dC (.str "term")) (adCons (dOp fAdd (dC (.str "t")) (dCB fStrI (aCons (dV 3) aNil))) (adCons (dTup adNil) adNil)))) ([("_law_k", 3)].map (·.2)))))
 (sRet (dI (dTup (adCons (dC (.str "term")) (adCons (dIx (dI (dTup (adCons (dC (.str "a")) (adCons (dC (.str "")) (adCons (dC (.str "b")) adNil))))) (dD (dCall pf_take (aCons (dV 0) (aCons (dI (dC (.int 3))) aNil))))) (adCons (dCB fTuple (aCons (dV 2) aNil)) adNil))))))) (EnD false 1 k ex) [some (.loc 0), some (.im (.int (n : Int))), none, none] [.pool] := fun n hn => by
      refine ⟨by omega, by omega, lc_all (fun _ y => ∃ l : Str, y = eT (.mk l [])) (by rw [rgD_len]; omega) rfl (fun i d hd Q q => ?_) fun ys h1 h2 => ?_⟩
      · obtain ⟨hi, rfl⟩ := rgD_get hd
        have hi : i < 399 := by omega
        have hs : (0 + (i : Int)).natAbs ≤ 10 ^ 60 := by
          have := e60
          omega
        have hl : (Str.ofString (toString (0 + (i : Int)))).length ≤ 1000 := by
          have := shown_len hs
          rwa [show (Str.ofString (toString (0 + (i : Int)))).cps.toList.length = (Str.ofString (toString (0 + (i : Int)))).length by rw [PySem.Str.length]; simp] at this
        have ht : (("t" : Str)).length = 1 := by decide +kernel
        exact ⟨log60 hs, by rw [ht, sizeLine_eq]; omega, Nat.zero_le _, l3 _ _ _, q _ ⟨_, rfl⟩⟩
      · obtain ⟨ls, rfl, -⟩ := all_map (f := fun l : Str => eT (.mk l [])) (P := fun _ => True) (ys := ys) fun y hy => by
          obtain ⟨i, hi⟩ := List.mem_iff_getElem?.mp hy
          obtain ⟨c, hc⟩ := h2 i y hi
          exact ⟨c, hc, trivial⟩
        rw [rgD_len, List.length_map] at h1
        have hl : ls.length ≤ 399 := by omega
        have es : ls.map (fun l => eT (.mk l [])) = eTs (ls.map fun l => Tm.mk l []) := by
          rw [eTs_eq, List.map_map]
          rfl
        rw [es]
        have fin : ∀ l : Str, l.length ≤ 1000 → k (.im (eT (.mk l (ls.map fun l => Tm.mk l [])))) [.pool] := fun l hl2 => h _ (by
          show 1 + szTs _ ≤ 400
          rw [sz_leaf]
          omega) (hg_leaf ls) hl2
        refine ⟨l3 _ _ _, rfl, by decide, by decide +kernel, fun r h0 h1 => ?_⟩
        rcases (by omega : r = 0 ∨ r = 1 ∨ r = 2) with rfl | rfl | rfl
        · exact ⟨l3 _ _ _, fin "a" (by decide +kernel)⟩
        · exact ⟨l3 _ _ _, fin "" (by decide +kernel)⟩
        · exact ⟨l3 _ _ _, fin "b" (by decide +kernel)⟩
    rcases (by omega : r = 0 ∨ r = 1 ∨ r = 2 ∨ r = 3 ∨ r = 4) with rfl | rfl | rfl | rfl | rfl
    · exact key 0 (by decide)
    · exact key 1 (by decide)
    · exact key 3 (by decide)
    · exact key 398 (by decide)
    · exact key 399 (by decide)
  · exact h.elim
theorem r_Lvalue : ∀ ws st k ex, pf_Lvalue ws st k ex → t_Lvalue (EnD false st.length k ex) (startD N_Lvalue ws) st := by
  intro ws st k ex h
  unfold pf_Lvalue at h
  split at h
  · obtain ⟨c, rfl, hk⟩ := h
    refine ⟨rfl, by decide, by decide +kernel, fun r h0 h1 => ?_⟩
    refine oneD (fun e => ?_) (fun e => ?_)
    · exact ⟨l1 _, hk .absent ⟨trivial, fun t h => by cases h⟩ (.inl rfl)⟩
    · cases c with
      | int => walk_at "s"; exact ⟨rfl, fun i hi => ⟨l2 _ _, hk (.int i) ⟨hi, fun t h => by cases h⟩ (.inr trivial)⟩⟩
      | bool =>
        walk_at "s"; walk_at "s"
        exact ⟨rfl, by decide, by decide +kernel, fun r h0 h1 => ⟨l2 _ _, hk (.bool (decide (r = 0))) ⟨trivial, fun t h => by cases h⟩ (.inr trivial)⟩⟩
      | text => walk_at "s"; walk_at "s"; walk_at "s"; exact ⟨rfl, fun t ht => ⟨l2 _ _, hk (.text t) ⟨ht, fun t h => by cases h⟩ (.inr trivial)⟩⟩
      | term => walk_at "s"; walk_at "s"; walk_at "s"; exact ⟨rfl, fun t h1 h2 h3 => hk (.term t) ⟨⟨h1, Nat.le_trans h2 (by decide), h3⟩, fun u hu => by cases hu; exact h2⟩ (.inr trivial)⟩
  · exact h.elim
theorem r_Lsame : ∀ ws st k ex, pf_Lsame ws st k ex → t_Lsame (EnD false st.length k ex) (startD N_Lsame ws) st := by
  intro ws st k ex h
  unfold pf_Lsame at h
  split at h
  · obtain ⟨x, rfl, rfl, hx, hk⟩ := h
    have hg : hgV x ≤ 25 := by
      cases x with
      | term t => exact hx t rfl
      | _ => exact Nat.zero_le _
    have key : (sSeq (sIf (dCmp cEq (dI (dIx (dV 1) (dC (.int 0)))) (dI (dC (.str "boolean")))) (sRet (dI (dCB fIsi (aCons (dI (dIx (dV 0) (dC (.int 1)))) (aCons (dI (dC (.ty "bool"))) aNil))))) sNext)
 (sRet (dOrV (dI (dB (dCmp cNe (dI (dIx (dV 1) (dC (.int 0)))) (dI (dC (.str "integer")))))) (dI (dB (dNot (dTru (dI (dCB fIsi (aCons (dI (dIx (dV 0) (dC (.int 1)))) (aCons (dI (dC (.ty "bool"))) aNil)))))))))) ) (EnD false 0 k ex) [some (.im (eV x)), some (.im (eV x))] [] := by
      cases x with
      | absent => walk_at "ss"; exact hk
      | int i => walk_at "ss"; exact hk
      | bool b => walk_at "ss"; exact hk
      | text t => walk_at "ss"; exact hk
      | term t => obtain ⟨l, bs⟩ := t; walk_at "ss"; exact hk
    have e : (!eqvD (eV x) (eV x)) = false := by rw [eqvD_refl _ _ (shp_V hg)]; rfl
    have go : cNe (eV x) (eV x) fun b => two b (sRet (dI (dC (.bl false))) (EnD false 0 k ex) [some (.im (eV x)), some (.im (eV x))] []) ((sSeq (sIf (dCmp cEq (dI (dIx (dV 1) (dC (.int 0)))) (dI (dC (.str "boolean")))) (sRet (dI (dCB fIsi (aCons (dI (dIx (dV 0) (dC (.int 1)))) (aCons (dI (dC (.ty "bool"))) aNil))))) sNext)
 (sRet (dOrV (dI (dB (dCmp cNe (dI (dIx (dV 1) (dC (.int 0)))) (dI (dC (.str "integer")))))) (dI (dB (dNot (dTru (dI (dCB fIsi (aCons (dI (dIx (dV 0) (dC (.int 1)))) (aCons (dI (dC (.ty "bool"))) aNil)))))))))) ) (EnD false 0 k ex) [some (.im (eV x)), some (.im (eV x))] []) := by
      refine cNe_of (eqSD_V _ _) (shp_V hg) (shp_V hg) ?_
      rw [e]
      exact twoF key
    cases x with
    | term t => obtain ⟨l, bs⟩ := t; walk_at "s"; exact go
    | _ => walk_at "s"; exact go
  · exact h.elim
end Dl.Vb
end

section
set_option maxHeartbeats 4000000
namespace Dl.Vb
open PySem PySem.Spec PyProof.Rows L2 Co PySem.StrLaws
local macro_rules | `(tactic| walk_at "s") => `(tactic| first | refine twoT ?_ | refine twoF ?_ | refine yesD rfl ?_ | refine noD (by decide) ?_)
local macro_rules | `(tactic| walk_at "ss") => `(tactic| repeat (first | refine twoT ?_ | refine twoF ?_))
def rowL : List D := [.tup [.str "not", .str "boolean"], .tup [.str "negative", .str "integer"], .tup [.str "length", .str "text"], .tup [.str "shown", .str "integer"], .tup [.str "parsed", .str "text"], .tup [.str "label", .str "term"], .tup [.str "size", .str "term"], .tup [.str "named", .str "text"], .tup [.str "add", .str "integer", .str "integer"], .tup [.str "subtract", .str "integer", .str "integer"], .tup [.str "multiply", .str "integer", .str "integer"], .tup [.str "quotient", .str "integer", .str "integer"], .tup [.str "remainder", .str "integer", .str "integer"], .tup [.str "less", .str "integer", .str "integer"], .tup [.str "and", .str "boolean", .str "boolean"], .tup [.str "or", .str "boolean", .str "boolean"], .tup [.str "append", .str "text", .str "text"], .tup [.str "with", .str "term", .str "term"], .tup [.str "argument", .str "term", .str "integer"]]
def rowS (c : Srt) : List D := rowL ++ [.tup [.str "same", .str (nmS c), .str (nmS c)]]
def opAt (c : Srt) : Nat → Op
  | 0 => .one .not_ | 1 => .one .negative | 2 => .one .length | 3 => .one .shown | 4 => .one .parsed | 5 => .one .label | 6 => .one .size | 7 => .one .named
  | 8 => .two .add .int .int | 9 => .two .subtract .int .int | 10 => .two .multiply .int .int | 11 => .two .quotient .int .int | 12 => .two .remainder .int .int | 13 => .two .less .int .int
  | 14 => .two .and_ .bool .bool | 15 => .two .or_ .bool .bool | 16 => .two .append .text .text | 17 => .two .with_ .term .term | 18 => .two .argument .term .int | _ => .two .same c c
theorem opAt_ok (c : Srt) (i : Nat) : OpOk (opAt c i) := by
  unfold opAt
  split <;> first | trivial | exact ⟨rfl, rfl⟩ | rfl
theorem rowS_eq (c : Srt) : rowS c = (List.range 20).map fun i => eOp (opAt c i) := rfl
theorem rowS_at (c : Srt) {r : Int} (h0 : 0 ≤ r) (h1 : r < 20) {k : D → Prop} (hk : ∀ o, OpOk o → k (eOp o)) : atD (.lst (rowS c)) (.int r) k := by
  rw [rowS_eq]
  show (match atI ((List.range 20).map fun i => eOp (opAt c i)) r with
    | some d => k d
    | none => False)
  rw [atNat h0 (show ((List.range 20).map fun i => eOp (opAt c i))[r.toNat]? = some (eOp (opAt c r.toNat)) by
    rw [List.getElem?_map, List.getElem?_range (by omega)]; rfl)]
  exact hk _ (opAt_ok c _)
theorem r_Loperation : ∀ ws st k ex, pf_Loperation ws st k ex → t_Loperation (EnD false st.length k ex) (startD N_Loperation ws) st := by
  intro ws st k ex h
  unfold pf_Loperation at h
  split at h
  · have key2 : ∀ c : Srt, (sRet (dI (dIx (dV 1) (dD (dCall pf_take (aCons (dV 0) (aCons (dI (dCB fLen (aCons (dV 1) aNil))) aNil))))))) (EnD false 1 k ex) [some (.loc 0), some (.loc 1), some (.im (.str (nmS c)))] [.pool, .lst (rowS c)] := fun c => by
      refine ⟨rfl, (by decide : (0 : Int) < 20), (by decide +kernel : (20 : Int) < 2 ^ 250), fun r h0 h1 => ?_⟩
      have h1 : r < 20 := h1
      show atD (.lst (rowS c)) (.int r) _
      exact rowS_at c h0 h1 h
    have key : ∀ c : Srt, (sSeq (sApp (dV 1) (dTup (adCons (dC (.str "same")) (adCons (dD (dV 2)) (adCons (dD (dV 2)) adNil)))))
 (sRet (dI (dIx (dV 1) (dD (dCall pf_take (aCons (dV 0) (aCons (dI (dCB fLen (aCons (dV 1) aNil))) aNil)))))))) (EnD false 1 k ex) [some (.loc 0), some (.loc 1), some (.im (.str (nmS c)))] [.pool, .lst rowL] := fun c => by
      exact ⟨⟨_, rfl⟩, l3 _ _ _, by decide, key2 c⟩
    have key0 : (sSeq (sAsg 2 (dI (dIx (dI (dTup (adCons (dC (.str "integer")) (adCons (dC (.str "boolean")) (adCons (dC (.str "text")) (adCons (dC (.str "term")) adNil)))))) (dD (dCall pf_take (aCons (dV 0) (aCons (dI (dC (.int 4))) aNil)))))))
 (sSeq (sApp (dV 1) (dTup (adCons (dC (.str "same")) (adCons (dD (dV 2)) (adCons (dD (dV 2)) adNil)))))
 (sRet (dI (dIx (dV 1) (dD (dCall pf_take (aCons (dV 0) (aCons (dI (dCB fLen (aCons (dV 1) aNil))) aNil))))))))) (EnD false 1 k ex) [some (.loc 0), some (.loc 1), none] [.pool, .lst rowL] := by
      refine ⟨by show 4 ≤ 1000000; omega, rfl, by decide, by decide +kernel, fun r h0 h1 => ?_⟩
      rcases (by omega : r = 0 ∨ r = 1 ∨ r = 2 ∨ r = 3) with rfl | rfl | rfl | rfl
      · exact key .int
      · exact key .bool
      · exact key .text
      · exact key .term
    exact ⟨l2 _ _, l2 _ _, l2 _ _, l2 _ _, l2 _ _, l2 _ _, l2 _ _, l2 _ _, l3 _ _ _, l3 _ _ _, l3 _ _ _, l3 _ _ _, l3 _ _ _, l3 _ _ _, l3 _ _ _, l3 _ _ _, l3 _ _ _, l3 _ _ _, l3 _ _ _, by show 19 ≤ 1000000; omega, key0⟩
  · exact h.elim
end Dl.Vb
end

section
set_option maxHeartbeats 4000000
namespace Dl.Vb
open PySem PySem.Spec PyProof.Rows L2 Co PySem.StrLaws
local macro_rules | `(tactic| walk_at "s") => `(tactic| first | refine twoT ?_ | refine twoF ?_ | refine yesD rfl ?_ | refine noD (by decide) ?_)
local macro_rules | `(tactic| walk_at "ss") => `(tactic| repeat (first | refine twoT ?_ | refine twoF ?_))
theorem call_value {c : Srt} {r : Sto} {k : W → Sto → Prop} {ex : DX} (h : ∀ x, Drw x → (isAbs x = true ∨ HasS c x) → k (.im (eV x)) (.pool :: r)) : callD pf_Lvalue [0] [.loc 0, .im (.str (nmS c))] (.pool :: r) k ex := by
  refine ⟨rfl, c, rfl, fun x hx hs => ?_⟩
  show k (.im (eV x)) (back [0] (.pool :: r) [.pool])
  rw [back0]
  exact h x hx hs
theorem call_settled {x : Vl} {st : Sto} {k : W → Sto → Prop} {ex : DX} (hx : Big x) (h : k (.im (eV (setV x))) st) : callD pf_settled [] [.im (eV x)] st k ex := ⟨rfl, x, rfl, hx, h⟩
theorem call_same {x : Vl} {st : Sto} {k : W → Sto → Prop} {ex : DX} (hx : ∀ t, x = .term t → hgT t ≤ 25) (h : k (.im (.bl true)) st) : callD pf_Lsame [] [.im (eV x), .im (eV x)] st k ex := ⟨rfl, x, rfl, rfl, hx, h⟩
theorem call_gath {g : H3} {xs : List Vl} {btw : List Nat} (hl : xs.length ≤ 6) (hx : ∀ x ∈ xs, Item g x) (hb : btw.length ≤ 10) {st : Sto} {k : W → Sto → Prop} {ex : DX} (h : k (.im (eV (gth g btw 0 (beg3 g) xs))) st) : callD pf_gathered [] [.im (.str (nm3 g)), .im (.lst (xs.map eV)), .im (.str (S btw))] st k ex := ⟨rfl, g, xs, btw, rfl, rfl, rfl, hb, ⟨hl, hx⟩, h⟩
def st3 : DS :=
 (sSeq (sAsg 8 (dI (dIx (dI (dTup (adCons (dTup (adCons (dC (.str "integer")) (adCons (dOp fAdd (dOp fPow (dC (.int 10)) (dC (.int 60))) (dD (dCall pf_take (aCons (dV 1) (aCons (dI (dC (.int 3))) aNil))))) adNil))) (adCons (dTup (adCons (dC (.str "text")) (adCons (dOp fMul (dC (.str "x")) (dOp fAdd (dC (.int 999)) (dD (dCall pf_take (aCons (dV 1) (aCons (dI (dC (.int 3))) aNil)))))) adNil))) adNil)))) (dD (dCall pf_take (aCons (dV 1) (aCons (dI (dC (.int 2))) aNil)))))))
 (sRet (dCall pf_Lsame (aCons (dCall pf_settled (aCons (dV 8) aNil)) (aCons (dCall pf_settled (aCons (dV 8) aNil)) aNil)))))
def st2b : DS :=
 (sSeq (sIf (dNot (dTru (dCall pf_Lsame (aCons (dCall pf_gathered (aCons (dV 5) (aCons (dI (dCB fList (aCons (dV 6) aNil))) (aCons (dV 7) aNil)))) (aCons (dCall pf_gathered (aCons (dV 5) (aCons (dV 6) (aCons (dV 7) aNil)))) aNil))))) (sRet (dI (dC (.bl false)))) sNext) st3)
def st2a : DS :=
 (sSeq (sAsg 7 (dI (dIx (dI (dTup (adCons (dC (.str "")) (adCons (dC (.str ", ")) (adCons (dC (.str "7")) adNil))))) (dD (dCall pf_take (aCons (dV 1) (aCons (dI (dC (.int 3))) aNil)))))))
 st2b)
def st2 : DS :=
 (sSeq (sAsg 6 (dI (dLc (iRg1 (dD (dCall pf_take (aCons (dV 1) (aCons (dI (dC (.int 7))) aNil))))) (gN 9) dYes (dD (dCall pf_Lvalue (aCons (dV 1) (aCons (dV 3) aNil)))) ([("_law_k", 9)].map (·.2)))))
 st2a)
def st1 : DS :=
 (sSeq (sAsg 5 (dI (dIx (dI (dTup (adCons (dC (.str "sum")) (adCons (dC (.str "all")) (adCons (dC (.str "any")) (adCons (dC (.str "collect")) (adCons (dC (.str "join")) adNil))))))) (dD (dCall pf_take (aCons (dV 1) (aCons (dI (dC (.int 5))) aNil)))))))
 (sSeq (sAsg 3 (dI (dGet false (dI (dDispD [((dC (.str "sum")), (dC (.str "integer"))), ((dC (.str "all")), (dC (.str "boolean"))), ((dC (.str "any")), (dC (.str "boolean"))), ((dC (.str "collect")), (dC (.str "term"))), ((dC (.str "join")), (dC (.str "text")))])) (dD (dV 5)))))
 st2))
section
variable {k : W → Sto → Prop} {ex : DX} (hk : k (.im (.bl true)) []) {w0 w2 w3 w4 : Option W} {dz : D}
include hk
theorem st3_ok {w5 w6 w7 w8 w9 : Option W} : st3 (EnD false 0 k ex) [w0, some (.loc 0), w2, w3, w4, w5, w6, w7, w8, w9] [.pool, .fz dz] := by
  have he := e60
  have last : ∀ x : Vl, Big x → sRet (dCall pf_Lsame (aCons (dCall pf_settled (aCons (dV 8) aNil)) (aCons (dCall pf_settled (aCons (dV 8) aNil)) aNil))) (EnD false 0 k ex) [w0, some (.loc 0), w2, w3, w4, w5, w6, w7, some (.im (eV x)), w9] [.pool, .fz dz] := fun x hx => by
    refine call_settled hx (call_settled hx (call_same (fun t ht => ?_) hk))
    rcases set_or x with e | e
    · rw [e] at ht; cases ht
    · rw [e] at ht; subst ht; exact hx.2
  refine ⟨p60, ?_⟩
  refine call_take (by decide) (by decide) fun r h0 h1 => ⟨l2 _ _, ?_⟩
  refine call_take (by decide) (by decide) fun r2 h2 h3 => ?_
  have ex1 : (("x" : Str)).length = 1 := by decide +kernel
  have ex2 : (("x" : Str)).cps.toList.length = 1 := by decide +kernel
  refine ⟨by rw [ex1]; omega, by omega, by omega, l2 _ _, l2 _ _, ?_⟩
  refine call_take (by decide) (by decide) fun r4 h4 h5 => ?_
  rcases (by omega : r4 = 0 ∨ r4 = 1) with rfl | rfl
  · exact last (.int _) trivial
  · exact last (.text _) (by
      show _ ≤ 1000000
      rw [repL_len, ex2]
      omega)
theorem st2b_ok {g : H3} {xs : List Vl} {btw : List Nat} (hl : xs.length ≤ 6) (hx : ∀ x ∈ xs, Item g x) (hb : btw.length ≤ 10) {w8 w9 : Option W} : st2b (EnD false 0 k ex) [w0, some (.loc 0), w2, w3, w4, some (.im (.str (nm3 g))), some (.im (.lst (xs.map eV))), some (.im (.str (S btw))), w8, w9] [.pool, .fz dz] := by
  have gd := Good.gth hb hx xs.length
  rw [List.take_length] at gd
  refine call_gath hl hx hb (call_gath hl hx hb (call_same (fun t ht => ?_) ?_))
  · exact Nat.le_trans (gd.2.2 t ht) (by decide)
  · walk_at "s"
    exact st3_ok hk
theorem st2a_ok {g : H3} {xs : List Vl} (hl : xs.length ≤ 6) (hx : ∀ x ∈ xs, Item g x) {w7 w8 w9 : Option W} : st2a (EnD false 0 k ex) [w0, some (.loc 0), w2, w3, w4, some (.im (.str (nm3 g))), some (.im (.lst (xs.map eV))), w7, w8, w9] [.pool, .fz dz] := by
  have e1 : (("" : Str)) = S [] := empty_eq
  have e2 : ((", " : Str)) = S [44, 32] := by decide +kernel
  have e3 : (("7" : Str)) = S [55] := by decide +kernel
  refine ⟨l3 _ _ _, ?_⟩
  refine call_take (by decide) (by decide) fun r h0 h1 => ?_
  rw [e1, e2, e3]
  rcases (by omega : r = 0 ∨ r = 1 ∨ r = 2) with rfl | rfl | rfl
  · exact st2b_ok hk hl hx (btw := []) (by decide)
  · exact st2b_ok hk hl hx (btw := [44, 32]) (by decide)
  · exact st2b_ok hk hl hx (btw := [55]) (by decide)
theorem st2_ok {g : H3} {w6 w7 w8 w9 : Option W} : st2 (EnD false 0 k ex) [w0, some (.loc 0), w2, some (.im (.str (nmS (srt3 g)))), w4, some (.im (.str (nm3 g))), w6, w7, w8, w9] [.pool, .fz dz] := by
  refine call_take (by decide) (by decide) fun r h0 h1 => ⟨by omega, by omega, lc_all (fun _ y => ∃ x, y = eV x ∧ Item g x) (by rw [rgD_len]; omega) rfl (fun i d hd Q q => ?_) fun ys h1 h2 => ?_⟩
  · exact call_value fun x hx hs => q _ ⟨x, rfl, hx.1, hs, hx.2⟩
  · obtain ⟨xs, rfl, hx⟩ := all_map (f := eV) (P := Item g) (ys := ys) fun y hy => by
      obtain ⟨i, hi⟩ := List.mem_iff_getElem?.mp hy
      exact h2 i y hi
    rw [rgD_len, List.length_map] at h1
    exact st2a_ok hk (by omega) hx
theorem st1_ok {w5 w6 w7 w8 w9 : Option W} : st1 (EnD false 0 k ex) [w0, some (.loc 0), w2, w3, w4, w5, w6, w7, w8, w9] [.pool, .fz dz] := by
  refine ⟨by show 5 ≤ 1000000; omega, ?_⟩
  refine call_take (by decide) (by decide) fun r h0 h1 => ?_
  rcases (by omega : r = 0 ∨ r = 1 ∨ r = 2 ∨ r = 3 ∨ r = 4) with rfl | rfl | rfl | rfl | rfl
  · exact ⟨by decide, st2_ok (g := .sum) hk⟩
  · exact ⟨by decide, st2_ok (g := .all) hk⟩
  · exact ⟨by decide, st2_ok (g := .any) hk⟩
  · exact ⟨by decide, st2_ok (g := .collect) hk⟩
  · exact ⟨by decide, st2_ok (g := .join) hk⟩
end
end Dl.Vb
end

section
set_option maxHeartbeats 4000000
namespace Dl.Vb
open PySem PySem.Spec PyProof.Rows L2 Co PySem.StrLaws
local macro_rules | `(tactic| walk_at "s") => `(tactic| first | refine twoT ?_ | refine twoF ?_ | refine yesD rfl ?_ | refine noD (by decide) ?_)
local macro_rules | `(tactic| walk_at "ss") => `(tactic| repeat (first | refine twoT ?_ | refine twoF ?_))
def WOk (s : Str) (ds : List D) (v : Vl) : Prop := (∃ h x, s = nm1 h ∧ ds = [eV x] ∧ (isAbs x = false → Fit1 h x) ∧ Ok x ∧ v = work1 h x) ∨
  ∃ h x y, s = nm2 h ∧ ds = [eV x, eV y] ∧ (isAbs x = false → isAbs y = false → Fit2 h x y) ∧ Ok x ∧ Ok y ∧ v = work2 h x y
theorem WOk.big {s : Str} {ds : List D} {v : Vl} (w : WOk s ds v) : Big v := by
  rcases w with ⟨h, x, _, _, hf, hx, rfl⟩ | ⟨h, x, y, _, _, hf, hx, hy, rfl⟩
  · cases hab : isAbs x with
    | true => rw [work1_abs hab]; trivial
    | false => rw [work1_ok hab]; exact Big_set _ (Big_oneV (hf hab) hx)
  · cases hab : (isAbs x || isAbs y) with
    | true => rw [work2_abs hab]; trivial
    | false =>
      rw [work2_ok hab]
      rw [Bool.or_eq_false_iff] at hab
      exact Big_set _ (Big_two (hf hab.1 hab.2) hx hy)
theorem call_worked {s : Str} {ds : List D} {v : Vl} (w : WOk s ds v) {st : Sto} {k : W → Sto → Prop} {ex : DX} (hk : k (.im (eV v)) st) : callD pf_worked [] [.im (.str s), .im (.lst ds)] st k ex := by
  rcases w with ⟨h, x, rfl, rfl, hf, hx, rfl⟩ | ⟨h, x, y, rfl, rfl, hf, hx, hy, rfl⟩
  · exact ⟨rfl, Or.inl ⟨h, x, rfl, rfl, hf, hx, hk⟩⟩
  · exact ⟨rfl, Or.inr ⟨h, x, y, rfl, rfl, hf, hx, hy, hk⟩⟩
theorem call_op {k : W → Sto → Prop} {ex : DX} (h : ∀ o, OpOk o → k (.im (eOp o)) [.pool]) : callD pf_Loperation [0] [.loc 0] [.pool] k ex := ⟨rfl, h⟩
theorem call_pool {ns : List Int} {k : W → Sto → Prop} {ex : DX} (h0 : ns.length ≤ 63) (h : k (.loc 0) [.pool]) : callD pf_pool [] [.im (.scr ns)] [] k ex := ⟨rfl, h0, h⟩
def md2 : DS :=
 (sSeq (sIf (dNot (dTru (dCall pf_Lsame (aCons (dCall pf_worked (aCons (dI (dIx (dV 2) (dC (.int 0)))) (aCons (dI (dCB fList (aCons (dV 4) aNil))) aNil))) (aCons (dCall pf_worked (aCons (dI (dIx (dV 2) (dC (.int 0)))) (aCons (dI (dD (dV 4))) aNil))) aNil))))) (sRet (dI (dC (.bl false)))) sNext) st1)
def md1 : DS :=
 (sSeq (sIf (dAnd (dCmp cEq (dI (dIx (dV 2) (dC (.int 0)))) (dI (dC (.str "same")))) (dCmp cEq (dCall pf_take (aCons (dV 1) (aCons (dI (dC (.int 2))) aNil))) (dI (dC (.int 0))))) (sSetL (dV 4) (dC (.int 1)) (dIx (dV 4) (dC (.int 0)))) sNext) md2)
def md0 : DS :=
 (sSeq (sAsg 4 (dLcM (iSq (dSl (dV 2) (dPart (dC (.int 1))) dNoPart)) (gN 3) dYes (dD (dCall pf_Lvalue (aCons (dV 1) (aCons (dV 3) aNil)))) ([("_law_sort", 3)].map (·.2)))) md1)
section
variable {k : W → Sto → Prop} {ex : DX} (hk : k (.im (.bl true)) []) {w0 w3 : Option W}
include hk
theorem md2_one {s a : Str} {ds : List D} {v : Vl} (w : WOk s ds v) : md2 (EnD false 0 k ex) [w0, some (.loc 0), some (.im (.tup [.str s, .str a])), w3, some (.loc 1), none, none, none, none, none] [.pool, .lst ds] := by
  refine call_worked w ?_
  refine call_worked w ?_
  refine call_same (fun t ht => ?_) ?_
  · subst ht; exact w.big.2
  · walk_at "s"
    exact st1_ok hk
theorem md2_two {s a b : Str} {ds : List D} {v : Vl} (w : WOk s ds v) : md2 (EnD false 0 k ex) [w0, some (.loc 0), some (.im (.tup [.str s, .str a, .str b])), w3, some (.loc 1), none, none, none, none, none] [.pool, .lst ds] := by
  refine call_worked w ?_
  refine call_worked w ?_
  refine call_same (fun t ht => ?_) ?_
  · subst ht; exact w.big.2
  · walk_at "s"
    exact st1_ok hk
theorem md1_one {h : H1} {x : Vl} (hf : isAbs x = false → Fit1 h x) (hx : Ok x) : md1 (EnD false 0 k ex) [w0, some (.loc 0), some (.im (eOp (.one h))), w3, some (.loc 1), none, none, none, none, none] [.pool, .lst [eV x]] := by
  have w := md2_one hk (ex := ex) (w0 := w0) (w3 := w3) (a := nmS (srt1 h)) (.inl ⟨h, x, rfl, rfl, hf, hx, rfl⟩ : WOk (nm1 h) [eV x] (work1 h x))
  cases h <;> (walk_at "s"; walk_at "s"; exact w)
theorem md1_two {h : H2} {a b : Srt} {x y : Vl} (hf : OpOk (.two h a b)) (hx : Ok x) (hy : Ok y) (sx : isAbs x = true ∨ HasS a x) (sy : isAbs y = true ∨ HasS b y) : md1 (EnD false 0 k ex) [w0, some (.loc 0), some (.im (eOp (.two h a b))), w3, some (.loc 1), none, none, none, none, none] [.pool, .lst [eV x, eV y]] := by
  by_cases hs : h = .same
  · subst hs
    walk_at "s"
    refine call_take (by decide) (by decide) fun r h0 h1 => ?_
    refine oneD (fun e => ?_) (fun e => ?_)
    · exact md2_two hk (ex := ex) (a := nmS a) (b := nmS b) (.inr ⟨.same, x, x, rfl, rfl, fun _ _ => trivial, hx, hx, rfl⟩ : WOk (nm2 .same) [eV x, eV x] (work2 .same x x))
    · exact md2_two hk (ex := ex) (a := nmS a) (b := nmS b) (.inr ⟨.same, x, y, rfl, rfl, fun _ _ => trivial, hx, hy, rfl⟩ : WOk (nm2 .same) [eV x, eV y] (work2 .same x y))
  · have fit : isAbs x = false → isAbs y = false → Fit2 h x y := fun h1 h2 => by
      have c1 := sx.resolve_left (by rw [h1]; decide)
      have c2 := sy.resolve_left (by rw [h2]; decide)
      cases h <;> first | exact absurd rfl hs | (obtain ⟨rfl, rfl⟩ := hf; exact ⟨c1, c2⟩)
    have w := md2_two hk (ex := ex) (w0 := w0) (w3 := w3) (a := nmS a) (b := nmS b) (.inr ⟨h, x, y, rfl, rfl, fit, hx, hy, rfl⟩ : WOk (nm2 h) [eV x, eV y] (work2 h x y))
    cases h <;> first | exact absurd rfl hs | (walk_at "s"; walk_at "s"; exact w)
theorem md0_ok {o : Op} (ho : OpOk o) : md0 (EnD false 0 k ex) [w0, some (.loc 0), some (.im (eOp o)), none, none, none, none, none, none, none] [.pool] := by
  cases o with
  | one h =>
    refine lc_all (ds := [.str (nmS (srt1 h))]) (fun _ y => ∃ x, y = eV x ∧ Drw x ∧ (isAbs x = true ∨ HasS (srt1 h) x)) (l1 _) rfl (fun i d hd Q q => ?_) fun ys h1 h2 => ?_
    · match i, hd with
      | 0, hd =>
        cases hd
        exact call_value fun x hx hs => q _ ⟨x, rfl, hx, hs⟩
    · match ys, h1, h2 with
      | [y], _, h2 =>
        obtain ⟨x, rfl, hx, hs⟩ := h2 0 _ rfl
        exact md1_one hk (fun e => hs.resolve_left (by rw [e]; decide)) hx.1
  | two h a b =>
    refine lc_all (ds := [.str (nmS a), .str (nmS b)]) (fun i y => ∃ x, y = eV x ∧ Drw x ∧ (isAbs x = true ∨ HasS (if i = 0 then a else b) x)) (l2 _ _) rfl (fun i d hd Q q => ?_) fun ys h1 h2 => ?_
    · match i, hd with
      | 0, hd =>
        cases hd
        exact call_value fun x hx hs => q _ ⟨x, rfl, hx, hs⟩
      | 1, hd =>
        cases hd
        exact call_value fun x hx hs => q _ ⟨x, rfl, hx, hs⟩
    · match ys, h1, h2 with
      | [y, z], _, h2 =>
        obtain ⟨x, rfl, hx, hs⟩ := h2 0 _ rfl
        obtain ⟨x2, rfl, hx2, hs2⟩ := h2 1 _ rfl
        exact md1_two hk ho hx.1 hx2.1 hs hs2
end
theorem r_law : ∀ ws st k ex, pf_law ws st k ex → t_law (EnD false st.length k ex) (startD N_law ws) st := by
  intro ws st k ex h
  unfold pf_law at h
  split at h
  · obtain ⟨h0, hk⟩ := h
    exact call_pool h0 (call_op fun o ho => md0_ok hk ho)
  · exact h.elim
end Dl.Vb
end

section
set_option maxHeartbeats 4000000
namespace Dl.Vb
open PySem PySem.Spec PyProof.Rows L2 Co PySem.StrLaws
theorem sum_sz : ∀ bs : List Tm, (bs.map fun t => (szT t : Int)).sum = (szTs bs : Nat)
  | [] => rfl
  | t :: bs => by
    rw [List.map_cons, List.sum_cons, sum_sz bs]
    show _ = ((szT t + szTs bs : Nat) : Int)
    omega
theorem r_Lsize {n : Nat} : ∀ ws st k ex, pf_size (n + 1) ws st k ex → t_Lsize (pf_size n) (EnD false st.length k ex) (startD N_Lsize ws) st := by
  intro ws st k ex h
  unfold pf_size at h
  split at h
  · obtain ⟨⟨l, bs⟩, rfl, h1, h2, hk⟩ := h
    have h1 : hgTs bs < n + 1 := h1
    have h2 : 1 + szTs bs ≤ 1000000 := h2
    have hl := len_sz bs
    have go : lcB (eTs bs) (gN 1) dYes (dD (dCall (pf_size n) (aCons (dV 1) aNil))) ([("_law_below", 1)].map (·.2)) [some (.im (eT (.mk l bs))), none] [] fun ys st' => dCB fSum (fun _ st k _ => k [.im (.lst ys)] st) [some (.im (eT (.mk l bs))), none] st' (fun y st2 => fAdd (.int 1) y fun d => fin false 0 k (.im d) st2) ex := by
      rw [eTs_eq]
      refine lc_fn (as := bs) (a := eT) (b := D.int) (fun t => (szT t : Int)) (by omega) rfl (fun t ht Q q => ?_) ?_
      · have := hg_mem ht
        have := sz_mem ht
        exact ⟨rfl, t, rfl, by omega, by omega, q⟩
      · refine ⟨_, rfl, ?_⟩
        rw [sum_sz]
        have hk : k (.im (.int ((1 + szTs bs : Nat) : Int))) [] := hk
        rw [Int.natCast_add] at hk
        exact hk
    exact go
  · exact h.elim
end Dl.Vb
end

section
set_option maxHeartbeats 0
namespace Co.VbF
open PySem PySem.Spec PyProof.Rows L2 Co
def top (i : Nat) : Stmt := PySem.Challenge.pw_tongues_k45_values.main.body.getD i (.Pass ⟨0, 0, 0, 0⟩)
abbrev s_size : Stmt := top 5
def df_size : He.DefD := ⟨("size", none), "size", "size", defArgs s_size, defBody s_size, defScope s_size, [], []⟩
abbrev s_height : Stmt := top 6
def df_height : He.DefD := ⟨("height", none), "height", "height", defArgs s_height, defBody s_height, defScope s_height, [], []⟩
abbrev s_settled : Stmt := top 7
def df_settled : He.DefD := ⟨("settled", none), "settled", "settled", defArgs s_settled, defBody s_settled, defScope s_settled, [], []⟩
abbrev s_parsed : Stmt := top 8
def df_parsed : He.DefD := ⟨("parsed", none), "parsed", "parsed", defArgs s_parsed, defBody s_parsed, defScope s_parsed, [], []⟩
abbrev s_of_one : Stmt := top 9
def df_of_one : He.DefD := ⟨("of_one", none), "of_one", "of_one", defArgs s_of_one, defBody s_of_one, defScope s_of_one, [], []⟩
abbrev s_quotient : Stmt := top 10
def df_quotient : He.DefD := ⟨("quotient", none), "quotient", "quotient", defArgs s_quotient, defBody s_quotient, defScope s_quotient, [], []⟩
abbrev s_of_integers : Stmt := top 11
def df_of_integers : He.DefD := ⟨("of_integers", none), "of_integers", "of_integers", defArgs s_of_integers, defBody s_of_integers, defScope s_of_integers, [], []⟩
abbrev s_of_two : Stmt := top 12
def df_of_two : He.DefD := ⟨("of_two", none), "of_two", "of_two", defArgs s_of_two, defBody s_of_two, defScope s_of_two, [], []⟩
abbrev s_worked : Stmt := top 13
def df_worked : He.DefD := ⟨("worked", none), "worked", "worked", defArgs s_worked, defBody s_worked, defScope s_worked, [], []⟩
abbrev s_gathered : Stmt := top 14
def df_gathered : He.DefD := ⟨("gathered", none), "gathered", "gathered", defArgs s_gathered, defBody s_gathered, defScope s_gathered, [], []⟩
abbrev s_Lpool : Stmt := top 16
abbrev N_Lpool : List Str := ["_law_script", "_law_cell"]
theorem sc_Lpool : FnScope N_Lpool ["_law_script"] (defScope s_Lpool) := ⟨rfl, rfl, rfl, by decide +kernel, rfl, by decide +kernel, by decide +kernel⟩
def df_Lpool : He.DefD := ⟨("_law_pool", none), "_law_pool", "_law_pool", defArgs s_Lpool, defBody s_Lpool, defScope s_Lpool, [], []⟩
abbrev s_Ltake : Stmt := top 17
abbrev N_Ltake : List Str := ["_law_pool_here", "_law_many", "_law_digit", "_law_cell", "_law_mixed"]
theorem sc_Ltake : FnScope N_Ltake ["_law_pool_here", "_law_many"] (defScope s_Ltake) := ⟨rfl, rfl, rfl, by decide +kernel, rfl, by decide +kernel, by decide +kernel⟩
def df_Ltake : He.DefD := ⟨("_law_take", none), "_law_take", "_law_take", defArgs s_Ltake, defBody s_Ltake, defScope s_Ltake, [], []⟩
abbrev s_Linteger : Stmt := top 18
def df_Linteger : He.DefD := ⟨("_law_integer", none), "_law_integer", "_law_integer", defArgs s_Linteger, defBody s_Linteger, defScope s_Linteger, [], []⟩
abbrev s_Ltext : Stmt := top 19
def df_Ltext : He.DefD := ⟨("_law_text", none), "_law_text", "_law_text", defArgs s_Ltext, defBody s_Ltext, defScope s_Ltext, [], []⟩
abbrev s_Lterm : Stmt := top 20
def df_Lterm : He.DefD := ⟨("_law_term", none), "_law_term", "_law_term", defArgs s_Lterm, defBody s_Lterm, defScope s_Lterm, [], []⟩
abbrev s_Lvalue : Stmt := top 21
def df_Lvalue : He.DefD := ⟨("_law_value", none), "_law_value", "_law_value", defArgs s_Lvalue, defBody s_Lvalue, defScope s_Lvalue, [], []⟩
abbrev s_Lsize : Stmt := top 22
def df_Lsize : He.DefD := ⟨("_law_size", none), "_law_size", "_law_size", defArgs s_Lsize, defBody s_Lsize, defScope s_Lsize, [], []⟩
abbrev s_Lsettled : Stmt := top 23
def df_Lsettled : He.DefD := ⟨("_law_settled", none), "_law_settled", "_law_settled", defArgs s_Lsettled, defBody s_Lsettled, defScope s_Lsettled, [], []⟩
abbrev s_Lquotient : Stmt := top 24
def df_Lquotient : He.DefD := ⟨("_law_quotient", none), "_law_quotient", "_law_quotient", defArgs s_Lquotient, defBody s_Lquotient, defScope s_Lquotient, [], []⟩
abbrev s_Lparsed : Stmt := top 25
def df_Lparsed : He.DefD := ⟨("_law_parsed", none), "_law_parsed", "_law_parsed", defArgs s_Lparsed, defBody s_Lparsed, defScope s_Lparsed, [], []⟩
abbrev s_Lone : Stmt := top 26
def df_Lone : He.DefD := ⟨("_law_one", none), "_law_one", "_law_one", defArgs s_Lone, defBody s_Lone, defScope s_Lone, [], []⟩
abbrev s_Ltwo : Stmt := top 27
def df_Ltwo : He.DefD := ⟨("_law_two", none), "_law_two", "_law_two", defArgs s_Ltwo, defBody s_Ltwo, defScope s_Ltwo, [], []⟩
abbrev s_Lworked : Stmt := top 28
def df_Lworked : He.DefD := ⟨("_law_worked", none), "_law_worked", "_law_worked", defArgs s_Lworked, defBody s_Lworked, defScope s_Lworked, [], []⟩
abbrev s_Loperation : Stmt := top 29
def df_Loperation : He.DefD := ⟨("_law_operation", none), "_law_operation", "_law_operation", defArgs s_Loperation, defBody s_Loperation, defScope s_Loperation, [], []⟩
abbrev s_Lover : Stmt := top 30
def df_Lover : He.DefD := ⟨("_law_over", none), "_law_over", "_law_over", defArgs s_Lover, defBody s_Lover, defScope s_Lover, [], []⟩
abbrev s_Lsame : Stmt := top 31
def df_Lsame : He.DefD := ⟨("_law_same", none), "_law_same", "_law_same", defArgs s_Lsame, defBody s_Lsame, defScope s_Lsame, [], []⟩
abbrev s_law : Stmt := top 32
def df_law : He.DefD := ⟨("law", none), "law", "law", defArgs s_law, defBody s_law, defScope s_law, [], []⟩
def fn : List He.DefD := [df_size, df_height, df_settled, df_parsed, df_of_one, df_quotient, df_of_integers, df_of_two, df_worked, df_gathered, df_Lpool, df_Ltake, df_Linteger, df_Ltext, df_Lterm, df_Lvalue, df_Lsize, df_Lsettled, df_Lquotient, df_Lparsed, df_Lone, df_Ltwo, df_Lworked, df_Loperation, df_Lover, df_Lsame, df_law]
def xs : List Ex := [.tup "ABSENT" [.str "absent"]]
def exB (K : PySem.W.Frag) : Bool := xs.all fun e => e.ok K
def fa : List He.Fa := [.glo "size", .glo "height", .free "max", .free "abs", .int "GREATEST" (1000000000000000000000000000000000000000000000000000000000000), .glo "ABSENT", .free "len", .int "MOST_TEXT" (1000), .int "MOST_TERMS" (400), .free "all", .free "int", .glo "settled", .free "str", .glo "parsed", .glo "quotient", .glo "of_integers", .glo "of_one", .glo "of_two", .free "range", .glo "worked", .glo "_law_take", .free "min", .free "tuple", .glo "_law_integer", .glo "_law_text", .glo "_law_term", .glo "_law_size", .free "sum", .free "any", .glo "_law_parsed", .glo "_law_quotient", .glo "_law_one", .glo "_law_settled", .glo "_law_two", .glo "_law_worked", .free "isinstance", .free "bool", .glo "_law_pool", .glo "_law_operation", .glo "_law_value", .free "list", .glo "_law_same", .glo "_law_over", .glo "gathered", .glo "law"]
section
variable {P : Program} {w : World} {K : PySem.W.Frag} {mg : Str → Option Value} {base : Heap}
theorem ok_Lpool (T : Fy fa fn xs K mg) : Def P w K mg base 1 (He.ga K "_law_pool") ["_law_script"] (sp_pool K) := by
  obtain ⟨fd, F⟩ := T.c.def_ 10 (d := df_Lpool) rfl
  refine Def.of (k := 0) (N := N_Lpool) F sc_Lpool (fun _ _ _ _ _ _ us hl => match us, hl with | [_], _ => rfl) (fun vs H Q E h => by unfold sp_pool at h; split at h <;> first | rfl | exact h.elim) (fun cdv A outer s H vs Q E hr h => ⟨_, ?_, r_Lpool h⟩)
  exact (pss_one (ps_ret (pe_lst (pa_cons (e_lc (own := [("_law_cell", 1)]) (g := (gName 1)) rfl sc_Lpool.nd (pi_list (va 0)) (blkOk_by (own := [("_law_cell", 1)]) (N := N_Lpool) (sc := defScope s_Lpool) (by decide +kernel)) (fun _ _ _ _ _ => (pg_name (i := 1) sc_Lpool.nd rfl (Or.inl rfl))) (fun _ _ _ _ _ => pts_nil) (fun _ _ _ _ _ => (e_if (t_cmp o_ge (va 1) pe_int (nomark _)) (pe_op o_mul pe_int (va 1)) (pe_op o_sub (pe_op o_mul (pe_un u_neg pe_int) (va 1)) pe_int)))) (pa_cons pe_int (pa_cons pe_int (pa_cons pe_int pa_nil)))))))
theorem ok_Ltake (n : Nat) (T : Fy fa fn xs K mg) (D_Ltake : Def P w K mg base n (He.ga K "_law_take") ["_law_pool_here", "_law_many"] (sp_take n)) : Def P w K mg base (n + 1) (He.ga K "_law_take") ["_law_pool_here", "_law_many"] (sp_take (n + 1)) := by
  obtain ⟨fd, F⟩ := T.c.def_ 11 (d := df_Ltake) rfl
  refine Def.of (k := n) (N := N_Ltake) F sc_Ltake (fun _ _ _ _ _ _ us hl => match us, hl with | [_, _], _ => rfl) (fun vs H Q E h => by unfold sp_take at h; split at h <;> first | rfl | exact h.elim) (fun cdv A outer s H vs Q E hr h => ⟨_, ?_, r_Ltake (K := K) h⟩)
  exact (pss_cons (s_if (t_cmp o_gt (pe_ix ix_list (va 0) pe_int (fun _ _ => rfl)) pe_int (nomark _)) (pss_cons (ps_set (i := 2) sc_Ltake.nd rfl (Or.inl rfl) (pe_op o_mod (pe_callTy c_int (by rfl) (T.free 10) (by decide +kernel) (pa_cons (pe_ix ix_list (va 0) pe_int (fun _ _ => rfl)) pa_nil)) (va 1)))
 (pss_cons (ps_asg (pe_op o_div (pe_ix ix_list (va 0) pe_int (fun _ _ => rfl)) (va 1)) (pg_sub (va 0) pe_int set_list))
 (pss_one (ps_ret (va 2))))) pss_nil)
 (pss_cons (ps_set (i := 3) sc_Ltake.nd rfl (Or.inl rfl) pe_int)
 (pss_cons (s_if (t_cmp o_lt (pe_ix ix_list (va 0) pe_int (fun _ _ => rfl)) (pe_callB c_lenA (by rfl) (T.free 6) PySem.boot_len (pa_cons (pe_ix ix_list (va 0) pe_int (fun _ _ => rfl)) pa_nil)) (nomark _)) (pss_one (ps_set (i := 3) sc_Ltake.nd rfl (Or.inl rfl) (pe_ix ix_seq (pe_ix ix_list (va 0) pe_int (fun _ _ => rfl)) (pe_ix ix_list (va 0) pe_int (fun _ _ => rfl)) (fun _ _ => rfl)))) pss_nil)
 (pss_cons (ps_asg (pe_op o_add (pe_ix ix_list (va 0) pe_int (fun _ _ => rfl)) pe_int) (pg_sub (va 0) pe_int set_list))
 (pss_cons (s_if (t_cmp o_ge (va 3) (pe_op o_pow pe_int pe_int) (nomark _)) (pss_cons (ps_asg (pe_op o_div (va 3) pe_int) (pg_sub (va 0) pe_int set_list))
 (pss_one (ps_ret (e_call D_Ltake hr rfl (T.glo 20) passL (pa_cons (va 0) (pa_cons (va 1) pa_nil)))))) pss_nil)
 (pss_cons (ps_asg (pe_op o_mod (pe_callTy c_int (by rfl) (T.free 10) (by decide +kernel) (pa_cons (pe_op o_add (pe_op o_add (pe_op o_mul (pe_ix ix_list (va 0) pe_int (fun _ _ => rfl)) pe_int) (pe_op o_mul (va 3) pe_int)) (pe_op o_mul (pe_ix ix_list (va 0) pe_int (fun _ _ => rfl)) pe_int)) pa_nil)) pe_int) (pg_sub (va 0) pe_int set_list))
 (pss_cons (ps_set (i := 4) sc_Ltake.nd rfl (Or.inl rfl) (pe_op o_mod (pe_callTy c_int (by rfl) (T.free 10) (by decide +kernel) (pa_cons (pe_op o_add (pe_op o_add (pe_op o_mul (pe_ix ix_list (va 0) pe_int (fun _ _ => rfl)) (pe_ix ix_list (va 0) pe_int (fun _ _ => rfl))) (pe_op o_mul (pe_ix ix_list (va 0) pe_int (fun _ _ => rfl)) pe_int)) pe_int) pa_nil)) pe_int))
 (pss_one (ps_ret (pe_op o_mod (pe_callTy c_int (by rfl) (T.free 10) (by decide +kernel) (pa_cons (pe_op o_div (va 4) pe_int) pa_nil)) (va 1)))))))))))
theorem no_Ltake (T : Fy fa fn xs K mg) : Def P w K mg base 0 (He.ga K "_law_take") ["_law_pool_here", "_law_many"] (fun _ _ _ _ => False) := by
  obtain ⟨fd, F⟩ := T.c.def_ 11 (d := df_Ltake) rfl
  exact Def.zero F (fun _ _ _ _ _ _ us hl => match us, hl with | [_, _], _ => rfl)
end
end Co.VbF
namespace Dl.Vb
open PySem PySem.Spec PyProof.Rows L2 Co Co.VbF
section
variable {P : Program} {w : World} {K : PySem.W.Frag} {mg : Str → Option Value} {base : Heap}
theorem sc_size : FnScope N_size ["value"] (defScope s_size) := ⟨rfl, rfl, rfl, by decide +kernel, rfl, by decide +kernel, by decide +kernel⟩
theorem ok_size (n : Nat) (T : Fy fa fn xs K mg) (D_size : Def P w K mg base n (He.ga K "size") ["value"] (spD ⟨K, true⟩ (pf_size n))) : Def P w K mg base (n + 1) (He.ga K "size") ["value"] (spD ⟨K, true⟩ (pf_size (n + 1))) := by
  obtain ⟨fd, F⟩ := T.c.def_ 0 (d := df_size) rfl
  refine Def.of (k := n) (N := N_size) F sc_size (fun _ _ _ _ _ _ us hl => match us, hl with | [_], _ => rfl) (spD_len fun ws st k ex h => by unfold pf_size at h; split at h <;> first | rfl | exact h.elim) (fun cdv A outer s H vs Q E hr h => ⟨lS (XN (cxOf (L2.CX P w) P w K mg base N_size df_size.qual df_size.scope (He.ga K "size") cdv A outer s H E) true) (fun cls d _ H => E cls d H) (t_size (pf_size n)), ?_, body_ok (kp := false) (Nm := N_size) r_size h⟩)
  exact (ss_cons (s_asg (ps_set (i := 1) sc_size.nd rfl (Or.inl rfl) (e_I (e_con pe_int (fun _ => rfl)))))
 (ss_cons (s_for (vs := [2]) (gV := (gName 2)) (gok_name (by decide)) (passes_of rfl) rfl (i_sq (e_ix (e_var 0) (e_con pe_int (fun _ => rfl)))) (pg_name (i := 2) sc_size.nd rfl (Or.inl rfl))
 (ss_one (s_augadd (i := 1) sc_size.nd rfl (Or.inl rfl) (e_D (e_call D_size hr rfl (T.glo 0) (fun σ => passAt (takes_of rfl rfl rfl rfl) σ) (a_cons (e_var 2) a_nil))))))
 (ss_one (s_ret (e_var 1)))))
theorem no_size (T : Fy fa fn xs K mg) : Def P w K mg base 0 (He.ga K "size") ["value"] (spD ⟨K, true⟩ (pf_size 0)) := by
  obtain ⟨fd, F⟩ := T.c.def_ 0 (d := df_size) rfl
  exact (Def.zero F (fun _ _ _ _ _ _ us hl => match us, hl with | [_], _ => rfl)).imp fun vs H Q E h => by
    obtain ⟨M, ρ, ws, st, k, ex, r, rw, hf, _⟩ := h
    exact ((fun ws st k ex hf => by unfold pf_size at hf; split at hf; (obtain ⟨_, _, h, _⟩ := hf; omega); exact hf) : ∀ ws st k ex, ¬ pf_size 0 ws st k ex) _ _ _ _ hf
theorem all_size (T : Fy fa fn xs K mg) : ∀ n : Nat, Def P w K mg base n (He.ga K "size") ["value"] (spD ⟨K, true⟩ (pf_size n))
  | 0 => no_size T
  | n + 1 => ok_size n T (all_size T n)
theorem sc_height : FnScope N_height ["value"] (defScope s_height) := ⟨rfl, rfl, rfl, by decide +kernel, rfl, by decide +kernel, by decide +kernel⟩
theorem ok_height (n : Nat) (T : Fy fa fn xs K mg) (D_height : Def P w K mg base n (He.ga K "height") ["value"] (spD ⟨K, true⟩ (pf_height n))) : Def P w K mg base (n + 1) (He.ga K "height") ["value"] (spD ⟨K, true⟩ (pf_height (n + 1))) := by
  obtain ⟨fd, F⟩ := T.c.def_ 1 (d := df_height) rfl
  refine Def.of (k := n) (N := N_height) F sc_height (fun _ _ _ _ _ _ us hl => match us, hl with | [_], _ => rfl) (spD_len fun ws st k ex h => by unfold pf_height at h; split at h <;> first | rfl | exact h.elim) (fun cdv A outer s H vs Q E hr h => ⟨lS (XN (cxOf (L2.CX P w) P w K mg base N_height df_height.qual df_height.scope (He.ga K "height") cdv A outer s H E) true) (fun cls d _ H => E cls d H) (t_height (pf_height n)), ?_, body_ok (kp := false) (Nm := N_height) r_height h⟩)
  exact (ss_cons (s_asg (ps_set (i := 1) sc_height.nd rfl (Or.inl rfl) (e_I (e_un u_neg ok_neg (e_con pe_int (fun _ => rfl))))))
 (ss_cons (s_for (vs := [2]) (gV := (gName 2)) (gok_name (by decide)) (passes_of rfl) rfl (i_sq (e_ix (e_var 0) (e_con pe_int (fun _ => rfl)))) (pg_name (i := 2) sc_height.nd rfl (Or.inl rfl))
 (ss_one (s_asg (ps_set (i := 1) sc_height.nd rfl (Or.inl rfl) (e_I (e_cb (c_max2 rfl) ok_max (by rfl) (T.free 2) (by decide +kernel) (a_cons (e_var 1) (a_cons (e_call D_height hr rfl (T.glo 1) (fun σ => passAt (takes_of rfl rfl rfl rfl) σ) (a_cons (e_var 2) a_nil)) a_nil))))))))
 (ss_one (s_ret (e_I (e_op o_add' ok_add (e_D (e_var 1)) (e_con pe_int (fun _ => rfl))))))))
theorem no_height (T : Fy fa fn xs K mg) : Def P w K mg base 0 (He.ga K "height") ["value"] (spD ⟨K, true⟩ (pf_height 0)) := by
  obtain ⟨fd, F⟩ := T.c.def_ 1 (d := df_height) rfl
  exact (Def.zero F (fun _ _ _ _ _ _ us hl => match us, hl with | [_], _ => rfl)).imp fun vs H Q E h => by
    obtain ⟨M, ρ, ws, st, k, ex, r, rw, hf, _⟩ := h
    exact ((fun ws st k ex hf => by unfold pf_height at hf; split at hf; (obtain ⟨_, _, h, _⟩ := hf; omega); exact hf) : ∀ ws st k ex, ¬ pf_height 0 ws st k ex) _ _ _ _ hf
theorem all_height (T : Fy fa fn xs K mg) : ∀ n : Nat, Def P w K mg base n (He.ga K "height") ["value"] (spD ⟨K, true⟩ (pf_height n))
  | 0 => no_height T
  | n + 1 => ok_height n T (all_height T n)
theorem sc_settled : FnScope N_settled ["value"] (defScope s_settled) := ⟨rfl, rfl, rfl, by decide +kernel, rfl, by decide +kernel, by decide +kernel⟩
theorem ok_settled (T : Fy fa fn xs K mg) (D_size : Def P w K mg base 30 (He.ga K "size") ["value"] (spD ⟨K, true⟩ (pf_size 30))) (D_height : Def P w K mg base 30 (He.ga K "height") ["value"] (spD ⟨K, true⟩ (pf_height 30))) : Def P w K mg base 31 (He.ga K "settled") ["value"] (spD ⟨K, true⟩ pf_settled) := by
  obtain ⟨fd, F⟩ := T.c.def_ 2 (d := df_settled) rfl
  refine Def.of (k := 30) (N := N_settled) F sc_settled (fun _ _ _ _ _ _ us hl => match us, hl with | [_], _ => rfl) (spD_len fun ws st k ex h => by unfold pf_settled at h; split at h <;> first | rfl | exact h.elim) (fun cdv A outer s H vs Q E hr h => ⟨lS (XN (cxOf (L2.CX P w) P w K mg base N_settled df_settled.qual df_settled.scope (He.ga K "settled") cdv A outer s H E) true) (fun cls d _ H => E cls d H) (t_settled), ?_, body_ok (kp := false) (Nm := N_settled) r_settled h⟩)
  exact (ss_cons (s_if (PW.pt (w_and (t_cmpD (o_eq' hr.units) ok_eq (e_I (e_ix (e_var 0) (e_con pe_int (fun _ => rfl)))) (e_I (e_con pe_str (fun _ => rfl))) (nomark _)) (w_and1 (t_cmpD o_gt ok_gt (e_I (e_cb c_abs ok_abs (by rfl) (T.free 3) (by decide +kernel) (a_cons (e_I (e_ix (e_var 0) (e_con pe_int (fun _ => rfl)))) a_nil))) (e_I (e_con (e_gint rfl (T.intg 4)) (fun _ => rfl))) (nomark _))))) (ss_one (s_ret (e_I (e_con (pe_glob (v := .ref (He.ga K "ABSENT")) rfl (T.glo 5) rfl) (fun M => ⟨_, _, rfl, .inr ⟨rfl, ex_tup (T.more 0) M⟩, ⟨_, _, rfl, rfl, rfl⟩⟩))))) ss_nil)
 (ss_cons (s_if (PW.pt (w_and (t_cmpD (o_eq' hr.units) ok_eq (e_I (e_ix (e_var 0) (e_con pe_int (fun _ => rfl)))) (e_I (e_con pe_str (fun _ => rfl))) (nomark _)) (w_and1 (t_cmpD o_gt ok_gt (e_I (e_cb c_lenW ok_len (by rfl) (T.free 6) PySem.boot_len (a_cons (e_I (e_ix (e_var 0) (e_con pe_int (fun _ => rfl)))) a_nil))) (e_I (e_con (e_gint rfl (T.intg 7)) (fun _ => rfl))) (nomark _))))) (ss_one (s_ret (e_I (e_con (pe_glob (v := .ref (He.ga K "ABSENT")) rfl (T.glo 5) rfl) (fun M => ⟨_, _, rfl, .inr ⟨rfl, ex_tup (T.more 0) M⟩, ⟨_, _, rfl, rfl, rfl⟩⟩))))) ss_nil)
 (ss_cons (s_if (PW.pt (w_and (t_cmpD (o_eq' hr.units) ok_eq (e_I (e_ix (e_var 0) (e_con pe_int (fun _ => rfl)))) (e_I (e_con pe_str (fun _ => rfl))) (nomark _)) (w_and1 (PW.pt (w_or (t_cmpD o_gt ok_gt (e_call D_size (hr.mono (by decide)) rfl (T.glo 0) (fun σ => passAt (takes_of rfl rfl rfl rfl) σ) (a_cons (e_var 0) a_nil)) (e_I (e_con (e_gint rfl (T.intg 8)) (fun _ => rfl))) (nomark _)) (w_or1 (t_cmpD o_gt ok_gt (e_call D_height (hr.mono (by decide)) rfl (T.glo 1) (fun σ => passAt (takes_of rfl rfl rfl rfl) σ) (a_cons (e_var 0) a_nil)) (e_I (e_con pe_int (fun _ => rfl))) (nomark _)))))))) (ss_one (s_ret (e_I (e_con (pe_glob (v := .ref (He.ga K "ABSENT")) rfl (T.glo 5) rfl) (fun M => ⟨_, _, rfl, .inr ⟨rfl, ex_tup (T.more 0) M⟩, ⟨_, _, rfl, rfl, rfl⟩⟩))))) ss_nil)
 (ss_one (s_ret (e_var 0))))))
theorem sc_parsed : FnScope N_parsed ["text"] (defScope s_parsed) := ⟨rfl, rfl, rfl, by decide +kernel, rfl, by decide +kernel, by decide +kernel⟩
theorem ok_parsed (T : Fy fa fn xs K mg) (D_settled : Def P w K mg base 31 (He.ga K "settled") ["value"] (spD ⟨K, true⟩ pf_settled)) : Def P w K mg base 32 (He.ga K "parsed") ["text"] (spD ⟨K, true⟩ pf_parsed) := by
  obtain ⟨fd, F⟩ := T.c.def_ 3 (d := df_parsed) rfl
  refine Def.of (k := 31) (N := N_parsed) F sc_parsed (fun _ _ _ _ _ _ us hl => match us, hl with | [_], _ => rfl) (spD_len fun ws st k ex h => by unfold pf_parsed at h; split at h <;> first | rfl | exact h.elim) (fun cdv A outer s H vs Q E hr h => ⟨lS (XN (cxOf (L2.CX P w) P w K mg base N_parsed df_parsed.qual df_parsed.scope (He.ga K "parsed") cdv A outer s H E) true) (fun cls d _ H => E cls d H) (t_parsed), ?_, body_ok (kp := false) (Nm := N_parsed) r_parsed h⟩)
  exact (ss_cons (s_if (PW.pt (w_or (t_cmpD (o_eq' hr.units) ok_eq (e_var 0) (e_I (e_con pe_str (fun _ => rfl))) (nomark _)) (w_or1 (t_not (t_tru (e_I (e_cb (cr_all rfl) ok_all (by rfl) (T.free 9) (by decide +kernel) (a_cons (e_I (e_lcD (own := [("sign", 1)]) (g := (gN 1)) (gV := (gName 1)) (gok_name (by decide)) rfl sc_parsed.nd (i_st (e_D (e_var 0))) (blkOk_by (own := [("sign", 1)]) (N := N_parsed) (sc := defScope s_parsed) (by decide +kernel)) (fun _ _ _ _ _ => (pg_name (i := 1) sc_parsed.nd rfl (Or.inl rfl))) (fun _ _ _ _ _ => ts_nil) (fun _ _ _ _ _ => (e_cmpD (o_in hr.units65) ok_in (e_var 1) (e_I (e_con pe_str (fun _ => rfl))) (by rfl))))) a_nil)))))))) (ss_one (s_ret (e_I (e_con (pe_glob (v := .ref (He.ga K "ABSENT")) rfl (T.glo 5) rfl) (fun M => ⟨_, _, rfl, .inr ⟨rfl, ex_tup (T.more 0) M⟩, ⟨_, _, rfl, rfl, rfl⟩⟩))))) ss_nil)
 (ss_cons (s_asg (ps_set (i := 0) sc_parsed.nd rfl (Or.inl rfl) (e_I (e_m1 PySem.F.slot_str_lstrip PySem.F.type_str_lstrip m_lstrip ok_lstrip (e_var 0) (e_I (e_con pe_str (fun _ => rfl)))))))
 (ss_cons (s_if (t_cmpD o_gt ok_gt (e_I (e_cb c_lenW ok_len (by rfl) (T.free 6) PySem.boot_len (a_cons (e_var 0) a_nil))) (e_I (e_con pe_int (fun _ => rfl))) (nomark _)) (ss_one (s_ret (e_I (e_con (pe_glob (v := .ref (He.ga K "ABSENT")) rfl (T.glo 5) rfl) (fun M => ⟨_, _, rfl, .inr ⟨rfl, ex_tup (T.more 0) M⟩, ⟨_, _, rfl, rfl, rfl⟩⟩))))) ss_nil)
 (ss_cons (s_if (t_cmpD (o_eq' hr.units) ok_eq (e_var 0) (e_I (e_con pe_str (fun _ => rfl))) (nomark _)) (ss_one (s_ret (e_I (e_tup (ad_cons (e_con pe_str (fun _ => rfl)) (ad_cons (e_con pe_int (fun _ => rfl)) ad_nil)))))) ss_nil)
 (ss_one (s_ret (e_call D_settled (hr.mono (by decide)) rfl (T.glo 11) (fun σ => passAt (takes_of rfl rfl rfl rfl) σ) (a_cons (e_I (e_tup (ad_cons (e_con pe_str (fun _ => rfl)) (ad_cons (e_cty c_intA ok_int (by rfl) (T.free 10) (by decide +kernel) (a_cons (e_var 0) a_nil)) ad_nil)))) a_nil))))))))
theorem sc_of_one : FnScope N_of_one ["head", "value"] (defScope s_of_one) := ⟨rfl, rfl, rfl, by decide +kernel, rfl, by decide +kernel, by decide +kernel⟩
theorem ok_of_one (T : Fy fa fn xs K mg) (D_parsed : Def P w K mg base 32 (He.ga K "parsed") ["text"] (spD ⟨K, true⟩ pf_parsed)) : Def P w K mg base 33 (He.ga K "of_one") ["head", "value"] (spD ⟨K, true⟩ pf_of_one) := by
  obtain ⟨fd, F⟩ := T.c.def_ 4 (d := df_of_one) rfl
  refine Def.of (k := 32) (N := N_of_one) F sc_of_one (fun _ _ _ _ _ _ us hl => match us, hl with | [_, _], _ => rfl) (spD_len fun ws st k ex h => by unfold pf_of_one at h; split at h <;> first | rfl | exact h.elim) (fun cdv A outer s H vs Q E hr h => ⟨lS (XN (cxOf (L2.CX P w) P w K mg base N_of_one df_of_one.qual df_of_one.scope (He.ga K "of_one") cdv A outer s H E) true) (fun cls d _ H => E cls d H) (t_of_one), ?_, body_ok (kp := false) (Nm := N_of_one) r_of_one h⟩)
  exact (ss_cons (s_if (t_cmpD (o_eq' hr.units) ok_eq (e_var 0) (e_I (e_con pe_str (fun _ => rfl))) (nomark _)) (ss_one (s_ret (e_I (e_tup (ad_cons (e_con pe_str (fun _ => rfl)) (ad_cons (e_notW (e_I (e_ix (e_var 1) (e_con pe_int (fun _ => rfl))))) ad_nil)))))) ss_nil)
 (ss_cons (s_if (t_cmpD (o_eq' hr.units) ok_eq (e_var 0) (e_I (e_con pe_str (fun _ => rfl))) (nomark _)) (ss_one (s_ret (e_I (e_tup (ad_cons (e_con pe_str (fun _ => rfl)) (ad_cons (e_un u_neg ok_neg (e_ix (e_var 1) (e_con pe_int (fun _ => rfl)))) ad_nil)))))) ss_nil)
 (ss_cons (s_if (t_cmpD (o_eq' hr.units) ok_eq (e_var 0) (e_I (e_con pe_str (fun _ => rfl))) (nomark _)) (ss_one (s_ret (e_I (e_tup (ad_cons (e_con pe_str (fun _ => rfl)) (ad_cons (e_cb c_lenW ok_len (by rfl) (T.free 6) PySem.boot_len (a_cons (e_I (e_ix (e_var 1) (e_con pe_int (fun _ => rfl)))) a_nil)) ad_nil)))))) ss_nil)
 (ss_cons (s_if (t_cmpD (o_eq' hr.units) ok_eq (e_var 0) (e_I (e_con pe_str (fun _ => rfl))) (nomark _)) (ss_one (s_ret (e_I (e_tup (ad_cons (e_con pe_str (fun _ => rfl)) (ad_cons (e_cty c_strI ok_strI (by rfl) (T.free 12) (by decide +kernel) (a_cons (e_I (e_ix (e_var 1) (e_con pe_int (fun _ => rfl)))) a_nil)) ad_nil)))))) ss_nil)
 (ss_cons (s_if (t_cmpD (o_eq' hr.units) ok_eq (e_var 0) (e_I (e_con pe_str (fun _ => rfl))) (nomark _)) (ss_one (s_ret (e_call D_parsed (hr.mono (by decide)) rfl (T.glo 13) (fun σ => passAt (takes_of rfl rfl rfl rfl) σ) (a_cons (e_I (e_ix (e_var 1) (e_con pe_int (fun _ => rfl)))) a_nil)))) ss_nil)
 (ss_cons (s_if (t_cmpD (o_eq' hr.units) ok_eq (e_var 0) (e_I (e_con pe_str (fun _ => rfl))) (nomark _)) (ss_one (s_ret (e_I (e_tup (ad_cons (e_con pe_str (fun _ => rfl)) (ad_cons (e_ix (e_var 1) (e_con pe_int (fun _ => rfl))) ad_nil)))))) ss_nil)
 (ss_cons (s_if (t_cmpD (o_eq' hr.units) ok_eq (e_var 0) (e_I (e_con pe_str (fun _ => rfl))) (nomark _)) (ss_one (s_ret (e_I (e_tup (ad_cons (e_con pe_str (fun _ => rfl)) (ad_cons (e_cb c_lenW ok_len (by rfl) (T.free 6) PySem.boot_len (a_cons (e_I (e_ix (e_var 1) (e_con pe_int (fun _ => rfl)))) a_nil)) ad_nil)))))) ss_nil)
 (ss_one (s_ret (e_I (e_tup (ad_cons (e_con pe_str (fun _ => rfl)) (ad_cons (e_ix (e_var 1) (e_con pe_int (fun _ => rfl))) (ad_cons (e_tup ad_nil) ad_nil))))))))))))))
theorem sc_quotient : FnScope N_quotient ["left", "right"] (defScope s_quotient) := ⟨rfl, rfl, rfl, by decide +kernel, rfl, by decide +kernel, by decide +kernel⟩
theorem ok_quotient (T : Fy fa fn xs K mg) : Def P w K mg base 1 (He.ga K "quotient") ["left", "right"] (spD ⟨K, true⟩ pf_quotient) := by
  obtain ⟨fd, F⟩ := T.c.def_ 5 (d := df_quotient) rfl
  refine Def.of (k := 0) (N := N_quotient) F sc_quotient (fun _ _ _ _ _ _ us hl => match us, hl with | [_, _], _ => rfl) (spD_len fun ws st k ex h => by unfold pf_quotient at h; split at h <;> first | rfl | exact h.elim) (fun cdv A outer s H vs Q E hr h => ⟨lS (XN (cxOf (L2.CX P w) P w K mg base N_quotient df_quotient.qual df_quotient.scope (He.ga K "quotient") cdv A outer s H E) true) (fun cls d _ H => E cls d H) (t_quotient), ?_, body_ok (kp := false) (Nm := N_quotient) r_quotient h⟩)
  exact (ss_cons (s_asg (ps_set (i := 2) sc_quotient.nd rfl (Or.inl rfl) (e_I (e_op o_div ok_div (e_cb c_abs ok_abs (by rfl) (T.free 3) (by decide +kernel) (a_cons (e_var 0) a_nil)) (e_cb c_abs ok_abs (by rfl) (T.free 3) (by decide +kernel) (a_cons (e_var 1) a_nil))))))
 (ss_cons (s_if (t_cmpD (o_ne' hr.units) ok_ne (e_I (e_cmpD o_lt' ok_lt (e_var 0) (e_I (e_con pe_int (fun _ => rfl))) (nomark _))) (e_I (e_cmpD o_lt' ok_lt (e_var 1) (e_I (e_con pe_int (fun _ => rfl))) (nomark _))) (nomark _)) (ss_one (s_ret (e_I (e_un u_neg ok_neg (e_D (e_var 2)))))) ss_nil)
 (ss_one (s_ret (e_var 2)))))
theorem sc_of_integers : FnScope N_of_integers ["head", "left", "right"] (defScope s_of_integers) := ⟨rfl, rfl, rfl, by decide +kernel, rfl, by decide +kernel, by decide +kernel⟩
theorem ok_of_integers (T : Fy fa fn xs K mg) (D_quotient : Def P w K mg base 1 (He.ga K "quotient") ["left", "right"] (spD ⟨K, true⟩ pf_quotient)) : Def P w K mg base 2 (He.ga K "of_integers") ["head", "left", "right"] (spD ⟨K, true⟩ pf_of_integers) := by
  obtain ⟨fd, F⟩ := T.c.def_ 6 (d := df_of_integers) rfl
  refine Def.of (k := 1) (N := N_of_integers) F sc_of_integers (fun _ _ _ _ _ _ us hl => match us, hl with | [_, _, _], _ => rfl) (spD_len fun ws st k ex h => by unfold pf_of_integers at h; split at h <;> first | rfl | exact h.elim) (fun cdv A outer s H vs Q E hr h => ⟨lS (XN (cxOf (L2.CX P w) P w K mg base N_of_integers df_of_integers.qual df_of_integers.scope (He.ga K "of_integers") cdv A outer s H E) true) (fun cls d _ H => E cls d H) (t_of_integers), ?_, body_ok (kp := false) (Nm := N_of_integers) r_of_integers h⟩)
  exact (ss_cons (s_if (t_cmpD (o_eq' hr.units) ok_eq (e_var 0) (e_I (e_con pe_str (fun _ => rfl))) (nomark _)) (ss_one (s_ret (e_I (e_tup (ad_cons (e_con pe_str (fun _ => rfl)) (ad_cons (e_op o_add' ok_add (e_D (e_var 1)) (e_D (e_var 2))) ad_nil)))))) ss_nil)
 (ss_cons (s_if (t_cmpD (o_eq' hr.units) ok_eq (e_var 0) (e_I (e_con pe_str (fun _ => rfl))) (nomark _)) (ss_one (s_ret (e_I (e_tup (ad_cons (e_con pe_str (fun _ => rfl)) (ad_cons (e_op o_sub ok_sub (e_D (e_var 1)) (e_D (e_var 2))) ad_nil)))))) ss_nil)
 (ss_cons (s_if (t_cmpD (o_eq' hr.units) ok_eq (e_var 0) (e_I (e_con pe_str (fun _ => rfl))) (nomark _)) (ss_one (s_ret (e_I (e_tup (ad_cons (e_con pe_str (fun _ => rfl)) (ad_cons (e_op o_mul' ok_mul (e_D (e_var 1)) (e_D (e_var 2))) ad_nil)))))) ss_nil)
 (ss_cons (s_if (t_cmpD (o_eq' hr.units) ok_eq (e_var 0) (e_I (e_con pe_str (fun _ => rfl))) (nomark _)) (ss_one (s_ret (e_I (e_tup (ad_cons (e_con pe_str (fun _ => rfl)) (ad_cons (e_cmpD o_lt' ok_lt (e_var 1) (e_var 2) (nomark _)) ad_nil)))))) ss_nil)
 (ss_cons (s_if (t_cmpD (o_eq' hr.units) ok_eq (e_var 2) (e_I (e_con pe_int (fun _ => rfl))) (nomark _)) (ss_one (s_ret (e_I (e_con (pe_glob (v := .ref (He.ga K "ABSENT")) rfl (T.glo 5) rfl) (fun M => ⟨_, _, rfl, .inr ⟨rfl, ex_tup (T.more 0) M⟩, ⟨_, _, rfl, rfl, rfl⟩⟩))))) ss_nil)
 (ss_cons (s_if (t_cmpD (o_eq' hr.units) ok_eq (e_var 0) (e_I (e_con pe_str (fun _ => rfl))) (nomark _)) (ss_one (s_ret (e_I (e_tup (ad_cons (e_con pe_str (fun _ => rfl)) (ad_cons (e_D (e_call D_quotient (hr.mono (by decide)) rfl (T.glo 14) (fun σ => passAt (takes_of rfl rfl rfl rfl) σ) (a_cons (e_var 1) (a_cons (e_var 2) a_nil)))) ad_nil)))))) ss_nil)
 (ss_one (s_ret (e_I (e_tup (ad_cons (e_con pe_str (fun _ => rfl)) (ad_cons (e_op o_sub ok_sub (e_D (e_var 1)) (e_op o_mul' ok_mul (e_D (e_var 2)) (e_D (e_call D_quotient (hr.mono (by decide)) rfl (T.glo 14) (fun σ => passAt (takes_of rfl rfl rfl rfl) σ) (a_cons (e_var 1) (a_cons (e_var 2) a_nil)))))) ad_nil))))))))))))
theorem sc_of_two : FnScope N_of_two ["head", "one", "other"] (defScope s_of_two) := ⟨rfl, rfl, rfl, by decide +kernel, rfl, by decide +kernel, by decide +kernel⟩
theorem ok_of_two (T : Fy fa fn xs K mg) (D_of_integers : Def P w K mg base 2 (He.ga K "of_integers") ["head", "left", "right"] (spD ⟨K, true⟩ pf_of_integers)) : Def P w K mg base 3 (He.ga K "of_two") ["head", "one", "other"] (spD ⟨K, true⟩ pf_two) := by
  obtain ⟨fd, F⟩ := T.c.def_ 7 (d := df_of_two) rfl
  refine Def.of (k := 2) (N := N_of_two) F sc_of_two (fun _ _ _ _ _ _ us hl => match us, hl with | [_, _, _], _ => rfl) (spD_len fun ws st k ex h => by unfold pf_two at h; split at h <;> first | rfl | exact h.elim) (fun cdv A outer s H vs Q E hr h => ⟨lS (XN (cxOf (L2.CX P w) P w K mg base N_of_two df_of_two.qual df_of_two.scope (He.ga K "of_two") cdv A outer s H E) true) (fun cls d _ H => E cls d H) (t_of_two), ?_, body_ok (kp := false) (Nm := N_of_two) r_of_two h⟩)
  exact (ss_cons (s_if (t_cmpD (o_eq' hr.units) ok_eq (e_var 0) (e_I (e_con pe_str (fun _ => rfl))) (nomark _)) (ss_one (s_ret (e_I (e_tup (ad_cons (e_con pe_str (fun _ => rfl)) (ad_cons (e_cmpD (o_eq' hr.units) ok_eq (e_var 1) (e_var 2) (nomark _)) ad_nil)))))) ss_nil)
 (ss_cons (s_if (t_cmpD (o_eq' hr.units) ok_eq (e_var 0) (e_I (e_con pe_str (fun _ => rfl))) (nomark _)) (ss_one (s_ret (e_I (e_tup (ad_cons (e_con pe_str (fun _ => rfl)) (ad_cons (e_D (e_andV (e_I (e_ix (e_var 1) (e_con pe_int (fun _ => rfl)))) (e_and1 (e_I (e_ix (e_var 2) (e_con pe_int (fun _ => rfl))))))) ad_nil)))))) ss_nil)
 (ss_cons (s_if (t_cmpD (o_eq' hr.units) ok_eq (e_var 0) (e_I (e_con pe_str (fun _ => rfl))) (nomark _)) (ss_one (s_ret (e_I (e_tup (ad_cons (e_con pe_str (fun _ => rfl)) (ad_cons (e_D (e_orV (e_I (e_ix (e_var 1) (e_con pe_int (fun _ => rfl)))) (e_or1 (e_I (e_ix (e_var 2) (e_con pe_int (fun _ => rfl))))))) ad_nil)))))) ss_nil)
 (ss_cons (s_if (t_cmpD (o_eq' hr.units) ok_eq (e_var 0) (e_I (e_con pe_str (fun _ => rfl))) (nomark _)) (ss_one (s_ret (e_I (e_tup (ad_cons (e_con pe_str (fun _ => rfl)) (ad_cons (e_op o_add' ok_add (e_ix (e_var 1) (e_con pe_int (fun _ => rfl))) (e_ix (e_var 2) (e_con pe_int (fun _ => rfl)))) ad_nil)))))) ss_nil)
 (ss_cons (s_if (t_cmpD (o_eq' hr.units) ok_eq (e_var 0) (e_I (e_con pe_str (fun _ => rfl))) (nomark _)) (ss_one (s_ret (e_I (e_tup (ad_cons (e_con pe_str (fun _ => rfl)) (ad_cons (e_ix (e_var 1) (e_con pe_int (fun _ => rfl))) (ad_cons (e_op o_add' ok_add (e_ix (e_var 1) (e_con pe_int (fun _ => rfl))) (e_tup (ad_cons (e_D (e_var 2)) ad_nil))) ad_nil))))))) ss_nil)
 (ss_cons (s_if (t_cmpD (o_eq' hr.units) ok_eq (e_var 0) (e_I (e_con pe_str (fun _ => rfl))) (nomark _)) (ss_cons (s_if (PW.pt (w_or (t_cmpD o_lt' ok_lt (e_I (e_ix (e_var 2) (e_con pe_int (fun _ => rfl)))) (e_I (e_con pe_int (fun _ => rfl))) (nomark _)) (w_or1 (t_cmpD o_ge ok_ge (e_I (e_ix (e_var 2) (e_con pe_int (fun _ => rfl)))) (e_I (e_cb c_lenW ok_len (by rfl) (T.free 6) PySem.boot_len (a_cons (e_I (e_ix (e_var 1) (e_con pe_int (fun _ => rfl)))) a_nil))) (nomark _))))) (ss_one (s_ret (e_I (e_con (pe_glob (v := .ref (He.ga K "ABSENT")) rfl (T.glo 5) rfl) (fun M => ⟨_, _, rfl, .inr ⟨rfl, ex_tup (T.more 0) M⟩, ⟨_, _, rfl, rfl, rfl⟩⟩))))) ss_nil)
 (ss_one (s_ret (e_I (e_ix (e_I (e_ix (e_var 1) (e_con pe_int (fun _ => rfl)))) (e_ix (e_var 2) (e_con pe_int (fun _ => rfl)))))))) ss_nil)
 (ss_one (s_ret (e_call D_of_integers (hr.mono (by decide)) rfl (T.glo 15) (fun σ => passAt (takes_of rfl rfl rfl rfl) σ) (a_cons (e_var 0) (a_cons (e_I (e_ix (e_var 1) (e_con pe_int (fun _ => rfl)))) (a_cons (e_I (e_ix (e_var 2) (e_con pe_int (fun _ => rfl)))) a_nil))))))))))))
theorem sc_worked : FnScope N_worked ["head", "operands"] (defScope s_worked) := ⟨rfl, rfl, rfl, by decide +kernel, rfl, by decide +kernel, by decide +kernel⟩
theorem ok_worked (T : Fy fa fn xs K mg) (D_settled : Def P w K mg base 31 (He.ga K "settled") ["value"] (spD ⟨K, true⟩ pf_settled)) (D_of_one : Def P w K mg base 33 (He.ga K "of_one") ["head", "value"] (spD ⟨K, true⟩ pf_of_one)) (D_of_two : Def P w K mg base 3 (He.ga K "of_two") ["head", "one", "other"] (spD ⟨K, true⟩ pf_two)) : Def P w K mg base 34 (He.ga K "worked") ["head", "operands"] (spD ⟨K, true⟩ pf_worked) := by
  obtain ⟨fd, F⟩ := T.c.def_ 8 (d := df_worked) rfl
  refine Def.of (k := 33) (N := N_worked) F sc_worked (fun _ _ _ _ _ _ us hl => match us, hl with | [_, _], _ => rfl) (spD_len fun ws st k ex h => by unfold pf_worked at h; split at h <;> first | rfl | exact h.elim) (fun cdv A outer s H vs Q E hr h => ⟨lS (XN (cxOf (L2.CX P w) P w K mg base N_worked df_worked.qual df_worked.scope (He.ga K "worked") cdv A outer s H E) true) (fun cls d _ H => E cls d H) (t_worked), ?_, body_ok (kp := false) (Nm := N_worked) r_worked h⟩)
  exact (ss_cons (s_if (t_cmpD (o_in hr.units65) ok_in (e_I (e_con (pe_glob (v := .ref (He.ga K "ABSENT")) rfl (T.glo 5) rfl) (fun M => ⟨_, _, rfl, .inr ⟨rfl, ex_tup (T.more 0) M⟩, ⟨_, _, rfl, rfl, rfl⟩⟩))) (e_var 1) (by rfl)) (ss_one (s_ret (e_I (e_con (pe_glob (v := .ref (He.ga K "ABSENT")) rfl (T.glo 5) rfl) (fun M => ⟨_, _, rfl, .inr ⟨rfl, ex_tup (T.more 0) M⟩, ⟨_, _, rfl, rfl, rfl⟩⟩))))) ss_nil)
 (ss_cons (s_if (t_cmpD (o_eq' hr.units) ok_eq (e_I (e_cb c_lenW ok_len (by rfl) (T.free 6) PySem.boot_len (a_cons (e_var 1) a_nil))) (e_I (e_con pe_int (fun _ => rfl))) (nomark _)) (ss_one (s_ret (e_call D_settled (hr.mono (by decide)) rfl (T.glo 11) (fun σ => passAt (takes_of rfl rfl rfl rfl) σ) (a_cons (e_call D_of_one (hr.mono (by decide)) rfl (T.glo 16) (fun σ => passAt (takes_of rfl rfl rfl rfl) σ) (a_cons (e_var 0) (a_cons (e_I (e_ix (e_var 1) (e_con pe_int (fun _ => rfl)))) a_nil))) a_nil)))) ss_nil)
 (ss_one (s_ret (e_call D_settled (hr.mono (by decide)) rfl (T.glo 11) (fun σ => passAt (takes_of rfl rfl rfl rfl) σ) (a_cons (e_call D_of_two (hr.mono (by decide)) rfl (T.glo 17) (fun σ => passAt (takes_of rfl rfl rfl rfl) σ) (a_cons (e_var 0) (a_cons (e_I (e_ix (e_var 1) (e_con pe_int (fun _ => rfl)))) (a_cons (e_I (e_ix (e_var 1) (e_con pe_int (fun _ => rfl)))) a_nil)))) a_nil))))))
theorem sc_gathered : FnScope N_gathered ["head", "values", "between"] (defScope s_gathered) := ⟨rfl, rfl, rfl, by decide +kernel, rfl, by decide +kernel, by decide +kernel⟩
theorem ok_gathered (T : Fy fa fn xs K mg) (D_worked : Def P w K mg base 34 (He.ga K "worked") ["head", "operands"] (spD ⟨K, true⟩ pf_worked)) : Def P w K mg base 35 (He.ga K "gathered") ["head", "values", "between"] (spD ⟨K, true⟩ pf_gathered) := by
  obtain ⟨fd, F⟩ := T.c.def_ 9 (d := df_gathered) rfl
  refine Def.of (k := 34) (N := N_gathered) F sc_gathered (fun _ _ _ _ _ _ us hl => match us, hl with | [_, _, _], _ => rfl) (spD_len fun ws st k ex h => by unfold pf_gathered at h; split at h <;> first | rfl | exact h.elim) (fun cdv A outer s H vs Q E hr h => ⟨lS (XN (cxOf (L2.CX P w) P w K mg base N_gathered df_gathered.qual df_gathered.scope (He.ga K "gathered") cdv A outer s H E) true) (fun cls d _ H => E cls d H) (t_gathered), ?_, body_ok (kp := false) (Nm := N_gathered) r_gathered h⟩)
  exact (ss_cons (s_asg (ps_set (i := 3) sc_gathered.nd rfl (Or.inl rfl) (e_I (e_dispD (dp_cons (e_con pe_str (fun _ => rfl)) (e_tup (ad_cons (e_con pe_str (fun _ => rfl)) (ad_cons (e_con pe_int (fun _ => rfl)) ad_nil))) (dp_cons (e_con pe_str (fun _ => rfl)) (e_tup (ad_cons (e_con pe_str (fun _ => rfl)) (ad_cons (e_con pe_bl (fun _ => rfl)) ad_nil))) (dp_cons (e_con pe_str (fun _ => rfl)) (e_tup (ad_cons (e_con pe_str (fun _ => rfl)) (ad_cons (e_con pe_bl (fun _ => rfl)) ad_nil))) (dp_cons (e_con pe_str (fun _ => rfl)) (e_tup (ad_cons (e_con pe_str (fun _ => rfl)) (ad_cons (e_con pe_str (fun _ => rfl)) ad_nil))) dp_nil)))) (by rfl) (by rfl) (fun z => by cases z) (by decide)))))
 (ss_cons (s_asg (ps_set (i := 4) sc_gathered.nd rfl (Or.inl rfl) (e_I (e_get2 (hu_of hr) (fun z => nomatch z) (e_var 3) (e_D (e_var 0)) (e_tup (ad_cons (e_con pe_str (fun _ => rfl)) (ad_cons (e_con pe_str (fun _ => rfl)) (ad_cons (e_tup ad_nil) ad_nil)))) (by first | exact ⟨rfl, rfl, rfl⟩ | constructor <;> rfl)))))
 (ss_cons (s_asg (ps_set (i := 5) sc_gathered.nd rfl (Or.inl rfl) (e_I (e_dispD (dp_cons (e_con pe_str (fun _ => rfl)) (e_con pe_str (fun _ => rfl)) (dp_cons (e_con pe_str (fun _ => rfl)) (e_con pe_str (fun _ => rfl)) (dp_cons (e_con pe_str (fun _ => rfl)) (e_con pe_str (fun _ => rfl)) (dp_cons (e_con pe_str (fun _ => rfl)) (e_con pe_str (fun _ => rfl)) (dp_cons (e_con pe_str (fun _ => rfl)) (e_con pe_str (fun _ => rfl)) dp_nil))))) (by rfl) (by rfl) (fun z => by cases z) (by decide)))))
 (ss_cons (s_for (vs := [6]) (gV := (gName 6)) (gok_name (by decide)) (passes_of rfl) rfl (i_rg1 rfl (T.free 18) (pa_cons (e_cb c_lenW ok_len (by rfl) (T.free 6) PySem.boot_len (a_cons (e_var 1) a_nil)) pa_nil)) (pg_name (i := 6) sc_gathered.nd rfl (Or.inl rfl))
 (ss_cons (s_if (PW.pt (w_and (t_cmpD (o_eq' hr.units) ok_eq (e_var 0) (e_I (e_con pe_str (fun _ => rfl))) (nomark _)) (w_and1 (t_cmpD o_gt ok_gt (e_var 6) (e_I (e_con pe_int (fun _ => rfl))) (nomark _))))) (ss_one (s_asg (ps_set (i := 4) sc_gathered.nd rfl (Or.inl rfl) (e_call D_worked (hr.mono (by decide)) rfl (T.glo 19) (fun σ => passAt (takes_of rfl rfl rfl rfl) σ) (a_cons (e_I (e_con pe_str (fun _ => rfl))) (a_cons (e_I (e_lst (ad_cons (e_D (e_var 4)) (ad_cons (e_tup (ad_cons (e_con pe_str (fun _ => rfl)) (ad_cons (e_D (e_var 2)) ad_nil))) ad_nil)))) a_nil)))))) ss_nil)
 (ss_one (s_asg (ps_set (i := 4) sc_gathered.nd rfl (Or.inl rfl) (e_ifW (t_cmpD (o_eq' hr.units) ok_eq (e_var 4) (e_I (e_con (pe_glob (v := .ref (He.ga K "ABSENT")) rfl (T.glo 5) rfl) (fun M => ⟨_, _, rfl, .inr ⟨rfl, ex_tup (T.more 0) M⟩, ⟨_, _, rfl, rfl, rfl⟩⟩))) (nomark _)) (e_I (e_con (pe_glob (v := .ref (He.ga K "ABSENT")) rfl (T.glo 5) rfl) (fun M => ⟨_, _, rfl, .inr ⟨rfl, ex_tup (T.more 0) M⟩, ⟨_, _, rfl, rfl, rfl⟩⟩))) (e_call D_worked (hr.mono (by decide)) rfl (T.glo 19) (fun σ => passAt (takes_of rfl rfl rfl rfl) σ) (a_cons (e_I (e_get (hu_of hr) (fun z => nomatch z) (e_var 5) (e_D (e_var 0)))) (a_cons (e_I (e_lst (ad_cons (e_D (e_var 4)) (ad_cons (e_ix (e_var 1) (e_D (e_var 6))) ad_nil)))) a_nil)))))))))
 (ss_one (s_ret (e_var 4)))))))
theorem sc_Linteger : FnScope N_Linteger ["_law_pool_here"] (defScope s_Linteger) := ⟨rfl, rfl, rfl, by decide +kernel, rfl, by decide +kernel, by decide +kernel⟩
theorem ok_Linteger (T : Fy fa fn xs K mg) (D_Ltake : Def P w K mg base 2 (He.ga K "_law_take") ["_law_pool_here", "_law_many"] (spD ⟨K, true⟩ pf_take)) : Def P w K mg base 3 (He.ga K "_law_integer") ["_law_pool_here"] (spD ⟨K, true⟩ pf_Linteger) := by
  obtain ⟨fd, F⟩ := T.c.def_ 12 (d := df_Linteger) rfl
  refine Def.of (k := 2) (N := N_Linteger) F sc_Linteger (fun _ _ _ _ _ _ us hl => match us, hl with | [_], _ => rfl) (spD_len fun ws st k ex h => by unfold pf_Linteger at h; split at h <;> first | rfl | exact h.elim) (fun cdv A outer s H vs Q E hr h => ⟨lS (XN (cxOf (L2.CX P w) P w K mg base N_Linteger df_Linteger.qual df_Linteger.scope (He.ga K "_law_integer") cdv A outer s H E) true) (fun cls d _ H => E cls d H) (t_Linteger), ?_, body_ok (kp := false) (Nm := N_Linteger) r_Linteger h⟩)
  exact (ss_cons (s_asg (ps_set (i := 1) sc_Linteger.nd rfl (Or.inl rfl) (e_call D_Ltake (hr.mono (by decide)) rfl (T.glo 20) (fun σ => passAt (takes_of rfl rfl rfl rfl) σ) (a_cons (e_var 0) (a_cons (e_I (e_con pe_int (fun _ => rfl))) a_nil)))))
 (ss_cons (s_if (t_cmpD (o_eq' hr.units) ok_eq (e_var 1) (e_I (e_con pe_int (fun _ => rfl))) (nomark _)) (ss_one (s_ret (e_I (e_ix (e_I (e_tup (ad_cons (e_op o_pow ok_pow (e_con pe_int (fun _ => rfl)) (e_con pe_int (fun _ => rfl))) (ad_cons (e_un u_neg ok_neg (e_op o_pow ok_pow (e_con pe_int (fun _ => rfl)) (e_con pe_int (fun _ => rfl)))) (ad_cons (e_op o_sub ok_sub (e_op o_pow ok_pow (e_con pe_int (fun _ => rfl)) (e_con pe_int (fun _ => rfl))) (e_con pe_int (fun _ => rfl))) (ad_cons (e_con pe_int (fun _ => rfl)) ad_nil)))))) (e_D (e_call D_Ltake (hr.mono (by decide)) rfl (T.glo 20) (fun σ => passAt (takes_of rfl rfl rfl rfl) σ) (a_cons (e_var 0) (a_cons (e_I (e_con pe_int (fun _ => rfl))) a_nil)))))))) ss_nil)
 (ss_cons (s_if (t_cmpD (o_eq' hr.units) ok_eq (e_var 1) (e_I (e_con pe_int (fun _ => rfl))) (nomark _)) (ss_one (s_ret (e_I (e_op o_mul' ok_mul (e_op o_add' ok_add (e_D (e_call D_Ltake (hr.mono (by decide)) rfl (T.glo 20) (fun σ => passAt (takes_of rfl rfl rfl rfl) σ) (a_cons (e_var 0) (a_cons (e_I (e_op o_pow ok_pow (e_con pe_int (fun _ => rfl)) (e_con pe_int (fun _ => rfl)))) a_nil)))) (e_con pe_int (fun _ => rfl))) (e_ix (e_I (e_tup (ad_cons (e_con pe_int (fun _ => rfl)) (ad_cons (e_un u_neg ok_neg (e_con pe_int (fun _ => rfl))) ad_nil)))) (e_D (e_call D_Ltake (hr.mono (by decide)) rfl (T.glo 20) (fun σ => passAt (takes_of rfl rfl rfl rfl) σ) (a_cons (e_var 0) (a_cons (e_I (e_con pe_int (fun _ => rfl))) a_nil))))))))) ss_nil)
 (ss_one (s_ret (e_I (e_op o_sub ok_sub (e_D (e_call D_Ltake (hr.mono (by decide)) rfl (T.glo 20) (fun σ => passAt (takes_of rfl rfl rfl rfl) σ) (a_cons (e_var 0) (a_cons (e_I (e_con pe_int (fun _ => rfl))) a_nil)))) (e_con pe_int (fun _ => rfl)))))))))
theorem sc_Ltext : FnScope N_Ltext ["_law_pool_here"] (defScope s_Ltext) := ⟨rfl, rfl, rfl, by decide +kernel, rfl, by decide +kernel, by decide +kernel⟩
theorem ok_Ltext (T : Fy fa fn xs K mg) (D_Ltake : Def P w K mg base 2 (He.ga K "_law_take") ["_law_pool_here", "_law_many"] (spD ⟨K, true⟩ pf_take)) : Def P w K mg base 3 (He.ga K "_law_text") ["_law_pool_here"] (spD ⟨K, true⟩ pf_Ltext) := by
  obtain ⟨fd, F⟩ := T.c.def_ 13 (d := df_Ltext) rfl
  refine Def.of (k := 2) (N := N_Ltext) F sc_Ltext (fun _ _ _ _ _ _ us hl => match us, hl with | [_], _ => rfl) (spD_len fun ws st k ex h => by unfold pf_Ltext at h; split at h <;> first | rfl | exact h.elim) (fun cdv A outer s H vs Q E hr h => ⟨lS (XN (cxOf (L2.CX P w) P w K mg base N_Ltext df_Ltext.qual df_Ltext.scope (He.ga K "_law_text") cdv A outer s H E) true) (fun cls d _ H => E cls d H) (t_Ltext), ?_, body_ok (kp := false) (Nm := N_Ltext) r_Ltext h⟩)
  exact (ss_cons (s_asg (ps_set (i := 1) sc_Ltext.nd rfl (Or.inr rfl) (e_I (e_con pe_str (fun _ => rfl)))))
 (ss_cons (s_asg (ps_set (i := 2) sc_Ltext.nd rfl (Or.inl rfl) (e_I (e_ix (e_I (e_tup (ad_cons (e_con pe_int (fun _ => rfl)) (ad_cons (e_con pe_int (fun _ => rfl)) (ad_cons (e_con pe_int (fun _ => rfl)) (ad_cons (e_con pe_int (fun _ => rfl)) (ad_cons (e_con pe_int (fun _ => rfl)) (ad_cons (e_con pe_int (fun _ => rfl)) ad_nil)))))))) (e_D (e_call D_Ltake (hr.mono (by decide)) rfl (T.glo 20) (fun σ => passAt (takes_of rfl rfl rfl rfl) σ) (a_cons (e_var 0) (a_cons (e_I (e_con pe_int (fun _ => rfl))) a_nil))))))))
 (ss_cons (s_asg (ps_set (i := 3) sc_Ltext.nd rfl (Or.inl rfl) (e_I (e_m1 PySem.F.slot_str_join PySem.F.type_str_join m_join ok_join (e_I (e_con pe_str (fun _ => rfl))) (e_I (e_lcD (own := [("_law_k", 4)]) (g := (gN 4)) (gV := (gName 4)) (gok_name (by decide)) rfl sc_Ltext.nd (i_rg1 rfl (T.free 18) (pa_cons (e_cb (c_min2 rfl) ok_min (by rfl) (T.free 21) (by decide +kernel) (a_cons (e_var 2) (a_cons (e_I (e_con pe_int (fun _ => rfl))) a_nil))) pa_nil)) (blkOk_by (own := [("_law_k", 4)]) (N := N_Ltext) (sc := defScope s_Ltext) (by decide +kernel)) (fun _ _ _ _ _ => (pg_name (i := 4) sc_Ltext.nd rfl (Or.inl rfl))) (fun _ _ _ _ _ => ts_nil) (fun _ _ _ _ _ => (e_ix (e_var 1) (e_D (e_call D_Ltake (hr.mono (by decide)) rfl (T.glo 20) (fun _ => pass_none (fun _ _ _ _ h => h)) (a_cons (e_var 0) (a_cons (e_I (e_ix (e_I (e_tup (ad_cons (e_con pe_int (fun _ => rfl)) (ad_cons (e_con pe_int (fun _ => rfl)) ad_nil)))) (e_op o_div ok_div (e_D (e_var 4)) (e_con pe_int (fun _ => rfl))))) a_nil))))))))))))
 (ss_one (s_ret (e_I (e_op o_add' ok_add (e_D (e_var 3)) (e_op o_mul' ok_mul (e_con pe_str (fun _ => rfl)) (e_op o_sub ok_sub (e_D (e_var 2)) (e_cb c_lenW ok_len (by rfl) (T.free 6) PySem.boot_len (a_cons (e_var 3) a_nil)))))))))))
theorem sc_Lterm : FnScope N_Lterm ["_law_pool_here"] (defScope s_Lterm) := ⟨rfl, rfl, rfl, by decide +kernel, rfl, by decide +kernel, by decide +kernel⟩
theorem ok_Lterm (T : Fy fa fn xs K mg) (D_Ltake : Def P w K mg base 2 (He.ga K "_law_take") ["_law_pool_here", "_law_many"] (spD ⟨K, true⟩ pf_take)) : Def P w K mg base 3 (He.ga K "_law_term") ["_law_pool_here"] (spD ⟨K, true⟩ pf_Lterm) := by
  obtain ⟨fd, F⟩ := T.c.def_ 14 (d := df_Lterm) rfl
  refine Def.of (k := 2) (N := N_Lterm) F sc_Lterm (fun _ _ _ _ _ _ us hl => match us, hl with | [_], _ => rfl) (spD_len fun ws st k ex h => by unfold pf_Lterm at h; split at h <;> first | rfl | exact h.elim) (fun cdv A outer s H vs Q E hr h => ⟨lS (XN (cxOf (L2.CX P w) P w K mg base N_Lterm df_Lterm.qual df_Lterm.scope (He.ga K "_law_term") cdv A outer s H E) true) (fun cls d _ H => E cls d H) (t_Lterm), ?_, body_ok (kp := false) (Nm := N_Lterm) r_Lterm h⟩)
  exact (ss_cons (s_asg (ps_set (i := 1) sc_Lterm.nd rfl (Or.inl rfl) (e_I (e_ix (e_I (e_tup (ad_cons (e_con pe_int (fun _ => rfl)) (ad_cons (e_con pe_int (fun _ => rfl)) (ad_cons (e_con pe_int (fun _ => rfl)) (ad_cons (e_con pe_int (fun _ => rfl)) (ad_cons (e_con pe_int (fun _ => rfl)) ad_nil))))))) (e_D (e_call D_Ltake (hr.mono (by decide)) rfl (T.glo 20) (fun σ => passAt (takes_of rfl rfl rfl rfl) σ) (a_cons (e_var 0) (a_cons (e_I (e_con pe_int (fun _ => rfl))) a_nil))))))))
 (ss_cons (s_setLcD (i := 2) (own := [("_law_k", 3)]) (g := (gN 3)) (gV := (gName 3)) (gok_name (by decide)) rfl sc_Lterm.nd rfl rfl (sw_true rfl rfl rfl (by decide +kernel)) (i_rg1 rfl (T.free 18) (pa_cons (e_D (e_var 1)) pa_nil)) (blkOk_by (own := [("_law_k", 3)]) (N := N_Lterm) (sc := defScope s_Lterm) (by decide +kernel)) (fun _ _ _ _ _ => (pg_name (i := 3) sc_Lterm.nd rfl (Or.inl rfl))) (fun _ _ _ _ _ => ts_nil) (fun _ _ _ _ _ => (e_tup (ad_cons (e_con pe_str (fun _ => rfl)) (ad_cons (e_op o_add' ok_add (e_con pe_str (fun _ => rfl)) (e_cty c_strI ok_strI (by rfl) (T.free 12) (by decide +kernel) (a_cons (e_var 3) a_nil))) (ad_cons (e_tup ad_nil) ad_nil))))))
 (ss_one (s_ret (e_I (e_tup (ad_cons (e_con pe_str (fun _ => rfl)) (ad_cons (e_ix (e_I (e_tup (ad_cons (e_con pe_str (fun _ => rfl)) (ad_cons (e_con pe_str (fun _ => rfl)) (ad_cons (e_con pe_str (fun _ => rfl)) ad_nil))))) (e_D (e_call D_Ltake (hr.mono (by decide)) rfl (T.glo 20) (fun σ => passAt (takes_of rfl rfl rfl rfl) σ) (a_cons (e_var 0) (a_cons (e_I (e_con pe_int (fun _ => rfl))) a_nil))))) (ad_cons (e_cty call_tuple_of ok_tuple (by rfl) (T.free 22) (by decide +kernel) (a_cons (e_var 2) a_nil)) ad_nil)))))))))
theorem sc_Lvalue : FnScope N_Lvalue ["_law_pool_here", "_law_sort"] (defScope s_Lvalue) := ⟨rfl, rfl, rfl, by decide +kernel, rfl, by decide +kernel, by decide +kernel⟩
theorem ok_Lvalue (T : Fy fa fn xs K mg) (D_Ltake : Def P w K mg base 2 (He.ga K "_law_take") ["_law_pool_here", "_law_many"] (spD ⟨K, true⟩ pf_take)) (D_Linteger : Def P w K mg base 3 (He.ga K "_law_integer") ["_law_pool_here"] (spD ⟨K, true⟩ pf_Linteger)) (D_Ltext : Def P w K mg base 3 (He.ga K "_law_text") ["_law_pool_here"] (spD ⟨K, true⟩ pf_Ltext)) (D_Lterm : Def P w K mg base 3 (He.ga K "_law_term") ["_law_pool_here"] (spD ⟨K, true⟩ pf_Lterm)) : Def P w K mg base 4 (He.ga K "_law_value") ["_law_pool_here", "_law_sort"] (spD ⟨K, true⟩ pf_Lvalue) := by
  obtain ⟨fd, F⟩ := T.c.def_ 15 (d := df_Lvalue) rfl
  refine Def.of (k := 3) (N := N_Lvalue) F sc_Lvalue (fun _ _ _ _ _ _ us hl => match us, hl with | [_, _], _ => rfl) (spD_len fun ws st k ex h => by unfold pf_Lvalue at h; split at h <;> first | rfl | exact h.elim) (fun cdv A outer s H vs Q E hr h => ⟨lS (XN (cxOf (L2.CX P w) P w K mg base N_Lvalue df_Lvalue.qual df_Lvalue.scope (He.ga K "_law_value") cdv A outer s H E) true) (fun cls d _ H => E cls d H) (t_Lvalue), ?_, body_ok (kp := false) (Nm := N_Lvalue) r_Lvalue h⟩)
  exact (ss_cons (s_if (t_cmpD (o_eq' hr.units) ok_eq (e_call D_Ltake (hr.mono (by decide)) rfl (T.glo 20) (fun σ => passAt (takes_of rfl rfl rfl rfl) σ) (a_cons (e_var 0) (a_cons (e_I (e_con pe_int (fun _ => rfl))) a_nil))) (e_I (e_con pe_int (fun _ => rfl))) (nomark _)) (ss_one (s_ret (e_I (e_tup (ad_cons (e_con pe_str (fun _ => rfl)) ad_nil))))) ss_nil)
 (ss_cons (s_if (t_cmpD (o_eq' hr.units) ok_eq (e_var 1) (e_I (e_con pe_str (fun _ => rfl))) (nomark _)) (ss_one (s_ret (e_I (e_tup (ad_cons (e_con pe_str (fun _ => rfl)) (ad_cons (e_D (e_call D_Linteger (hr.mono (by decide)) rfl (T.glo 23) (fun σ => passAt (takes_of rfl rfl rfl rfl) σ) (a_cons (e_var 0) a_nil))) ad_nil)))))) ss_nil)
 (ss_cons (s_if (t_cmpD (o_eq' hr.units) ok_eq (e_var 1) (e_I (e_con pe_str (fun _ => rfl))) (nomark _)) (ss_one (s_ret (e_I (e_tup (ad_cons (e_con pe_str (fun _ => rfl)) (ad_cons (e_cmpD (o_eq' hr.units) ok_eq (e_call D_Ltake (hr.mono (by decide)) rfl (T.glo 20) (fun σ => passAt (takes_of rfl rfl rfl rfl) σ) (a_cons (e_var 0) (a_cons (e_I (e_con pe_int (fun _ => rfl))) a_nil))) (e_I (e_con pe_int (fun _ => rfl))) (nomark _)) ad_nil)))))) ss_nil)
 (ss_cons (s_if (t_cmpD (o_eq' hr.units) ok_eq (e_var 1) (e_I (e_con pe_str (fun _ => rfl))) (nomark _)) (ss_one (s_ret (e_I (e_tup (ad_cons (e_con pe_str (fun _ => rfl)) (ad_cons (e_D (e_call D_Ltext (hr.mono (by decide)) rfl (T.glo 24) (fun σ => passAt (takes_of rfl rfl rfl rfl) σ) (a_cons (e_var 0) a_nil))) ad_nil)))))) ss_nil)
 (ss_one (s_ret (e_call D_Lterm (hr.mono (by decide)) rfl (T.glo 25) (fun σ => passAt (takes_of rfl rfl rfl rfl) σ) (a_cons (e_var 0) a_nil))))))))
theorem sc_Lsize : FnScope N_Lsize ["_law_term_here"] (defScope s_Lsize) := ⟨rfl, rfl, rfl, by decide +kernel, rfl, by decide +kernel, by decide +kernel⟩
theorem ok_Lsize (n : Nat) (T : Fy fa fn xs K mg) (D_Lsize : Def P w K mg base n (He.ga K "_law_size") ["_law_term_here"] (spD ⟨K, true⟩ (pf_size n))) : Def P w K mg base (n + 1) (He.ga K "_law_size") ["_law_term_here"] (spD ⟨K, true⟩ (pf_size (n + 1))) := by
  obtain ⟨fd, F⟩ := T.c.def_ 16 (d := df_Lsize) rfl
  refine Def.of (k := n) (N := N_Lsize) F sc_Lsize (fun _ _ _ _ _ _ us hl => match us, hl with | [_], _ => rfl) (spD_len fun ws st k ex h => by unfold pf_size at h; split at h <;> first | rfl | exact h.elim) (fun cdv A outer s H vs Q E hr h => ⟨lS (XN (cxOf (L2.CX P w) P w K mg base N_Lsize df_Lsize.qual df_Lsize.scope (He.ga K "_law_size") cdv A outer s H E) true) (fun cls d _ H => E cls d H) (t_Lsize (pf_size n)), ?_, body_ok (kp := false) (Nm := N_Lsize) r_Lsize h⟩)
  exact (ss_one (s_ret (e_I (e_op o_add' ok_add (e_con pe_int (fun _ => rfl)) (e_cb (cr_sum rfl) ok_sum (by rfl) (T.free 27) (by decide +kernel) (a_cons (e_I (e_lcD (own := [("_law_below", 1)]) (g := (gN 1)) (gV := (gName 1)) (gok_name (by decide)) rfl sc_Lsize.nd (i_sq (e_ix (e_var 0) (e_con pe_int (fun _ => rfl)))) (blkOk_by (own := [("_law_below", 1)]) (N := N_Lsize) (sc := defScope s_Lsize) (by decide +kernel)) (fun _ _ _ _ _ => (pg_name (i := 1) sc_Lsize.nd rfl (Or.inl rfl))) (fun _ _ _ _ _ => ts_nil) (fun _ _ _ _ _ => (e_D (e_call D_Lsize hr rfl (T.glo 26) (fun _ => pass_none (fun _ _ _ _ h => h)) (a_cons (e_var 1) a_nil)))))) a_nil))))))
theorem no_Lsize (T : Fy fa fn xs K mg) : Def P w K mg base 0 (He.ga K "_law_size") ["_law_term_here"] (spD ⟨K, true⟩ (pf_size 0)) := by
  obtain ⟨fd, F⟩ := T.c.def_ 16 (d := df_Lsize) rfl
  exact (Def.zero F (fun _ _ _ _ _ _ us hl => match us, hl with | [_], _ => rfl)).imp fun vs H Q E h => by
    obtain ⟨M, ρ, ws, st, k, ex, r, rw, hf, _⟩ := h
    exact ((fun ws st k ex hf => by unfold pf_size at hf; split at hf; (obtain ⟨_, _, h, _⟩ := hf; omega); exact hf) : ∀ ws st k ex, ¬ pf_size 0 ws st k ex) _ _ _ _ hf
theorem all_Lsize (T : Fy fa fn xs K mg) : ∀ n : Nat, Def P w K mg base n (He.ga K "_law_size") ["_law_term_here"] (spD ⟨K, true⟩ (pf_size n))
  | 0 => no_Lsize T
  | n + 1 => ok_Lsize n T (all_Lsize T n)
theorem sc_Lsettled : FnScope N_Lsettled ["_law_value_here"] (defScope s_Lsettled) := ⟨rfl, rfl, rfl, by decide +kernel, rfl, by decide +kernel, by decide +kernel⟩
theorem ok_Lsettled (T : Fy fa fn xs K mg) (D_Lsize : Def P w K mg base 30 (He.ga K "_law_size") ["_law_term_here"] (spD ⟨K, true⟩ (pf_size 30))) : Def P w K mg base 31 (He.ga K "_law_settled") ["_law_value_here"] (spD ⟨K, true⟩ pf_settled) := by
  obtain ⟨fd, F⟩ := T.c.def_ 17 (d := df_Lsettled) rfl
  refine Def.of (k := 30) (N := N_Lsettled) F sc_Lsettled (fun _ _ _ _ _ _ us hl => match us, hl with | [_], _ => rfl) (spD_len fun ws st k ex h => by unfold pf_settled at h; split at h <;> first | rfl | exact h.elim) (fun cdv A outer s H vs Q E hr h => ⟨lS (XN (cxOf (L2.CX P w) P w K mg base N_Lsettled df_Lsettled.qual df_Lsettled.scope (He.ga K "_law_settled") cdv A outer s H E) true) (fun cls d _ H => E cls d H) (t_Lsettled), ?_, body_ok (kp := false) (Nm := N_Lsettled) r_Lsettled h⟩)
  exact (ss_cons (s_if (PW.pt (w_and (t_cmpD (o_eq' hr.units) ok_eq (e_I (e_ix (e_var 0) (e_con pe_int (fun _ => rfl)))) (e_I (e_con pe_str (fun _ => rfl))) (nomark _)) (w_and1 (t_cmpD o_gt ok_gt (e_I (e_cb c_abs ok_abs (by rfl) (T.free 3) (by decide +kernel) (a_cons (e_I (e_ix (e_var 0) (e_con pe_int (fun _ => rfl)))) a_nil))) (e_I (e_op o_pow ok_pow (e_con pe_int (fun _ => rfl)) (e_con pe_int (fun _ => rfl)))) (nomark _))))) (ss_one (s_ret (e_I (e_tup (ad_cons (e_con pe_str (fun _ => rfl)) ad_nil))))) ss_nil)
 (ss_cons (s_if (PW.pt (w_and (t_cmpD (o_eq' hr.units) ok_eq (e_I (e_ix (e_var 0) (e_con pe_int (fun _ => rfl)))) (e_I (e_con pe_str (fun _ => rfl))) (nomark _)) (w_and1 (t_cmpD o_gt ok_gt (e_I (e_cb c_lenW ok_len (by rfl) (T.free 6) PySem.boot_len (a_cons (e_I (e_ix (e_var 0) (e_con pe_int (fun _ => rfl)))) a_nil))) (e_I (e_con pe_int (fun _ => rfl))) (nomark _))))) (ss_one (s_ret (e_I (e_tup (ad_cons (e_con pe_str (fun _ => rfl)) ad_nil))))) ss_nil)
 (ss_cons (s_if (PW.pt (w_and (t_cmpD (o_eq' hr.units) ok_eq (e_I (e_ix (e_var 0) (e_con pe_int (fun _ => rfl)))) (e_I (e_con pe_str (fun _ => rfl))) (nomark _)) (w_and1 (t_cmpD o_gt ok_gt (e_call D_Lsize (hr.mono (by decide)) rfl (T.glo 26) (fun σ => passAt (takes_of rfl rfl rfl rfl) σ) (a_cons (e_var 0) a_nil)) (e_I (e_con pe_int (fun _ => rfl))) (nomark _))))) (ss_one (s_ret (e_I (e_tup (ad_cons (e_con pe_str (fun _ => rfl)) ad_nil))))) ss_nil)
 (ss_one (s_ret (e_var 0))))))
theorem sc_Lquotient : FnScope N_Lquotient ["_law_left", "_law_right"] (defScope s_Lquotient) := ⟨rfl, rfl, rfl, by decide +kernel, rfl, by decide +kernel, by decide +kernel⟩
theorem ok_Lquotient (T : Fy fa fn xs K mg) : Def P w K mg base 1 (He.ga K "_law_quotient") ["_law_left", "_law_right"] (spD ⟨K, true⟩ pf_quotient) := by
  obtain ⟨fd, F⟩ := T.c.def_ 18 (d := df_Lquotient) rfl
  refine Def.of (k := 0) (N := N_Lquotient) F sc_Lquotient (fun _ _ _ _ _ _ us hl => match us, hl with | [_, _], _ => rfl) (spD_len fun ws st k ex h => by unfold pf_quotient at h; split at h <;> first | rfl | exact h.elim) (fun cdv A outer s H vs Q E hr h => ⟨lS (XN (cxOf (L2.CX P w) P w K mg base N_Lquotient df_Lquotient.qual df_Lquotient.scope (He.ga K "_law_quotient") cdv A outer s H E) true) (fun cls d _ H => E cls d H) (t_Lquotient), ?_, body_ok (kp := false) (Nm := N_Lquotient) r_Lquotient h⟩)
  exact (ss_cons (s_asg (ps_set (i := 2) sc_Lquotient.nd rfl (Or.inl rfl) (e_I (e_con pe_int (fun _ => rfl)))))
 (ss_cons (s_if (t_cmpD (o_eq' hr.units) ok_eq (e_I (e_cmpD o_lt' ok_lt (e_var 0) (e_I (e_con pe_int (fun _ => rfl))) (nomark _))) (e_I (e_cmpD o_lt' ok_lt (e_var 1) (e_I (e_con pe_int (fun _ => rfl))) (nomark _))) (nomark _)) (ss_one (s_asg (ps_set (i := 2) sc_Lquotient.nd rfl (Or.inl rfl) (e_I (e_op o_div ok_div (e_cb c_abs ok_abs (by rfl) (T.free 3) (by decide +kernel) (a_cons (e_var 0) a_nil)) (e_cb c_abs ok_abs (by rfl) (T.free 3) (by decide +kernel) (a_cons (e_var 1) a_nil))))))) (ss_one (s_asg (ps_set (i := 2) sc_Lquotient.nd rfl (Or.inl rfl) (e_I (e_un u_neg ok_neg (e_op o_div ok_div (e_cb c_abs ok_abs (by rfl) (T.free 3) (by decide +kernel) (a_cons (e_var 0) a_nil)) (e_cb c_abs ok_abs (by rfl) (T.free 3) (by decide +kernel) (a_cons (e_var 1) a_nil)))))))))
 (ss_one (s_ret (e_var 2)))))
theorem sc_Lparsed : FnScope N_Lparsed ["_law_text_here"] (defScope s_Lparsed) := ⟨rfl, rfl, rfl, by decide +kernel, rfl, by decide +kernel, by decide +kernel⟩
theorem ok_Lparsed (T : Fy fa fn xs K mg) : Def P w K mg base 1 (He.ga K "_law_parsed") ["_law_text_here"] (spD ⟨K, true⟩ pf_Lparsed) := by
  obtain ⟨fd, F⟩ := T.c.def_ 19 (d := df_Lparsed) rfl
  refine Def.of (k := 0) (N := N_Lparsed) F sc_Lparsed (fun _ _ _ _ _ _ us hl => match us, hl with | [_], _ => rfl) (spD_len fun ws st k ex h => by unfold pf_Lparsed at h; split at h <;> first | rfl | exact h.elim) (fun cdv A outer s H vs Q E hr h => ⟨lS (XN (cxOf (L2.CX P w) P w K mg base N_Lparsed df_Lparsed.qual df_Lparsed.scope (He.ga K "_law_parsed") cdv A outer s H E) true) (fun cls d _ H => E cls d H) (t_Lparsed), ?_, body_ok (kp := false) (Nm := N_Lparsed) r_Lparsed h⟩)
  exact (ss_cons (s_if (PW.pt (w_or (t_cmpD (o_eq' hr.units) ok_eq (e_var 0) (e_I (e_con pe_str (fun _ => rfl))) (nomark _)) (w_or1 (t_tru (e_I (e_cb (cr_any rfl) ok_any (by rfl) (T.free 28) (by decide +kernel) (a_cons (e_I (e_lcD (own := [("_law_sign", 1)]) (g := (gN 1)) (gV := (gName 1)) (gok_name (by decide)) rfl sc_Lparsed.nd (i_st (e_D (e_var 0))) (blkOk_by (own := [("_law_sign", 1)]) (N := N_Lparsed) (sc := defScope s_Lparsed) (by decide +kernel)) (fun _ _ _ _ _ => (pg_name (i := 1) sc_Lparsed.nd rfl (Or.inl rfl))) (fun _ _ _ _ _ => ts_nil) (fun _ _ _ _ _ => (e_cmpD (o_notIn hr.units65) ok_notIn (e_var 1) (e_I (e_con pe_str (fun _ => rfl))) (by rfl))))) a_nil))))))) (ss_one (s_ret (e_I (e_tup (ad_cons (e_con pe_str (fun _ => rfl)) ad_nil))))) ss_nil)
 (ss_cons (s_while (passes_of rfl) (PW.pt (w_and (t_cmpD o_gt ok_gt (e_I (e_cb c_lenW ok_len (by rfl) (T.free 6) PySem.boot_len (a_cons (e_var 0) a_nil))) (e_I (e_con pe_int (fun _ => rfl))) (nomark _)) (w_and1 (t_cmpD (o_eq' hr.units) ok_eq (e_I (e_ix (e_var 0) (e_con pe_int (fun _ => rfl)))) (e_I (e_con pe_str (fun _ => rfl))) (nomark _)))))
 (ss_one (s_asg (ps_set (i := 0) sc_Lparsed.nd rfl (Or.inl rfl) (e_I (e_sl (e_var 0) (o_some (e_con pe_int (fun _ => rfl))) o_none))))))
 (ss_cons (s_if (t_cmpD o_gt ok_gt (e_I (e_cb c_lenW ok_len (by rfl) (T.free 6) PySem.boot_len (a_cons (e_var 0) a_nil))) (e_I (e_con pe_int (fun _ => rfl))) (nomark _)) (ss_one (s_ret (e_I (e_tup (ad_cons (e_con pe_str (fun _ => rfl)) ad_nil))))) ss_nil)
 (ss_one (s_ret (e_I (e_tup (ad_cons (e_con pe_str (fun _ => rfl)) (ad_cons (e_cty c_intA ok_int (by rfl) (T.free 10) (by decide +kernel) (a_cons (e_var 0) a_nil)) ad_nil)))))))))
theorem sc_Lone : FnScope N_Lone ["_law_head", "_law_value_here"] (defScope s_Lone) := ⟨rfl, rfl, rfl, by decide +kernel, rfl, by decide +kernel, by decide +kernel⟩
theorem ok_Lone (T : Fy fa fn xs K mg) (D_Lparsed : Def P w K mg base 1 (He.ga K "_law_parsed") ["_law_text_here"] (spD ⟨K, true⟩ pf_Lparsed)) : Def P w K mg base 2 (He.ga K "_law_one") ["_law_head", "_law_value_here"] (spD ⟨K, true⟩ pf_Lone) := by
  obtain ⟨fd, F⟩ := T.c.def_ 20 (d := df_Lone) rfl
  refine Def.of (k := 1) (N := N_Lone) F sc_Lone (fun _ _ _ _ _ _ us hl => match us, hl with | [_, _], _ => rfl) (spD_len fun ws st k ex h => by unfold pf_Lone at h; split at h <;> first | rfl | exact h.elim) (fun cdv A outer s H vs Q E hr h => ⟨lS (XN (cxOf (L2.CX P w) P w K mg base N_Lone df_Lone.qual df_Lone.scope (He.ga K "_law_one") cdv A outer s H E) true) (fun cls d _ H => E cls d H) (t_Lone), ?_, body_ok (kp := false) (Nm := N_Lone) r_Lone h⟩)
  exact (ss_cons (s_if (t_cmpD (o_eq' hr.units) ok_eq (e_var 0) (e_I (e_con pe_str (fun _ => rfl))) (nomark _)) (ss_one (s_ret (e_I (e_tup (ad_cons (e_con pe_str (fun _ => rfl)) (ad_cons (e_notW (e_I (e_ix (e_var 1) (e_con pe_int (fun _ => rfl))))) ad_nil)))))) ss_nil)
 (ss_cons (s_if (t_cmpD (o_eq' hr.units) ok_eq (e_var 0) (e_I (e_con pe_str (fun _ => rfl))) (nomark _)) (ss_one (s_ret (e_I (e_tup (ad_cons (e_con pe_str (fun _ => rfl)) (ad_cons (e_un u_neg ok_neg (e_ix (e_var 1) (e_con pe_int (fun _ => rfl)))) ad_nil)))))) ss_nil)
 (ss_cons (s_if (t_cmpD (o_eq' hr.units) ok_eq (e_var 0) (e_I (e_con pe_str (fun _ => rfl))) (nomark _)) (ss_one (s_ret (e_I (e_tup (ad_cons (e_con pe_str (fun _ => rfl)) (ad_cons (e_cb c_lenW ok_len (by rfl) (T.free 6) PySem.boot_len (a_cons (e_I (e_ix (e_var 1) (e_con pe_int (fun _ => rfl)))) a_nil)) ad_nil)))))) ss_nil)
 (ss_cons (s_if (t_cmpD (o_eq' hr.units) ok_eq (e_var 0) (e_I (e_con pe_str (fun _ => rfl))) (nomark _)) (ss_one (s_ret (e_I (e_tup (ad_cons (e_con pe_str (fun _ => rfl)) (ad_cons (e_cty c_strI ok_strI (by rfl) (T.free 12) (by decide +kernel) (a_cons (e_I (e_ix (e_var 1) (e_con pe_int (fun _ => rfl)))) a_nil)) ad_nil)))))) ss_nil)
 (ss_cons (s_if (t_cmpD (o_eq' hr.units) ok_eq (e_var 0) (e_I (e_con pe_str (fun _ => rfl))) (nomark _)) (ss_one (s_ret (e_call D_Lparsed (hr.mono (by decide)) rfl (T.glo 29) (fun σ => passAt (takes_of rfl rfl rfl rfl) σ) (a_cons (e_I (e_ix (e_var 1) (e_con pe_int (fun _ => rfl)))) a_nil)))) ss_nil)
 (ss_cons (s_if (t_cmpD (o_eq' hr.units) ok_eq (e_var 0) (e_I (e_con pe_str (fun _ => rfl))) (nomark _)) (ss_one (s_ret (e_I (e_tup (ad_cons (e_con pe_str (fun _ => rfl)) (ad_cons (e_ix (e_var 1) (e_con pe_int (fun _ => rfl))) ad_nil)))))) ss_nil)
 (ss_cons (s_if (t_cmpD (o_eq' hr.units) ok_eq (e_var 0) (e_I (e_con pe_str (fun _ => rfl))) (nomark _)) (ss_one (s_ret (e_I (e_tup (ad_cons (e_con pe_str (fun _ => rfl)) (ad_cons (e_cb c_lenW ok_len (by rfl) (T.free 6) PySem.boot_len (a_cons (e_I (e_ix (e_var 1) (e_con pe_int (fun _ => rfl)))) a_nil)) ad_nil)))))) ss_nil)
 (ss_one (s_ret (e_I (e_tup (ad_cons (e_con pe_str (fun _ => rfl)) (ad_cons (e_ix (e_var 1) (e_con pe_int (fun _ => rfl))) (ad_cons (e_tup ad_nil) ad_nil))))))))))))))
theorem sc_Ltwo : FnScope N_Ltwo ["_law_head", "_law_one_here", "_law_other"] (defScope s_Ltwo) := ⟨rfl, rfl, rfl, by decide +kernel, rfl, by decide +kernel, by decide +kernel⟩
theorem ok_Ltwo (T : Fy fa fn xs K mg) (D_Lquotient : Def P w K mg base 1 (He.ga K "_law_quotient") ["_law_left", "_law_right"] (spD ⟨K, true⟩ pf_quotient)) : Def P w K mg base 2 (He.ga K "_law_two") ["_law_head", "_law_one_here", "_law_other"] (spD ⟨K, true⟩ pf_two) := by
  obtain ⟨fd, F⟩ := T.c.def_ 21 (d := df_Ltwo) rfl
  refine Def.of (k := 1) (N := N_Ltwo) F sc_Ltwo (fun _ _ _ _ _ _ us hl => match us, hl with | [_, _, _], _ => rfl) (spD_len fun ws st k ex h => by unfold pf_two at h; split at h <;> first | rfl | exact h.elim) (fun cdv A outer s H vs Q E hr h => ⟨lS (XN (cxOf (L2.CX P w) P w K mg base N_Ltwo df_Ltwo.qual df_Ltwo.scope (He.ga K "_law_two") cdv A outer s H E) true) (fun cls d _ H => E cls d H) (t_Ltwo), ?_, body_ok (kp := false) (Nm := N_Ltwo) r_Ltwo h⟩)
  exact (ss_cons (s_if (t_cmpD (o_eq' hr.units) ok_eq (e_var 0) (e_I (e_con pe_str (fun _ => rfl))) (nomark _)) (ss_one (s_ret (e_I (e_tup (ad_cons (e_con pe_str (fun _ => rfl)) (ad_cons (e_op o_add' ok_add (e_ix (e_var 1) (e_con pe_int (fun _ => rfl))) (e_ix (e_var 2) (e_con pe_int (fun _ => rfl)))) ad_nil)))))) ss_nil)
 (ss_cons (s_if (t_cmpD (o_eq' hr.units) ok_eq (e_var 0) (e_I (e_con pe_str (fun _ => rfl))) (nomark _)) (ss_one (s_ret (e_I (e_tup (ad_cons (e_con pe_str (fun _ => rfl)) (ad_cons (e_op o_sub ok_sub (e_ix (e_var 1) (e_con pe_int (fun _ => rfl))) (e_ix (e_var 2) (e_con pe_int (fun _ => rfl)))) ad_nil)))))) ss_nil)
 (ss_cons (s_if (t_cmpD (o_eq' hr.units) ok_eq (e_var 0) (e_I (e_con pe_str (fun _ => rfl))) (nomark _)) (ss_one (s_ret (e_I (e_tup (ad_cons (e_con pe_str (fun _ => rfl)) (ad_cons (e_op o_mul' ok_mul (e_ix (e_var 1) (e_con pe_int (fun _ => rfl))) (e_ix (e_var 2) (e_con pe_int (fun _ => rfl)))) ad_nil)))))) ss_nil)
 (ss_cons (s_if (t_cmpD (o_eq' hr.units) ok_eq (e_var 0) (e_I (e_con pe_str (fun _ => rfl))) (nomark _)) (ss_one (s_ret (e_I (e_tup (ad_cons (e_con pe_str (fun _ => rfl)) (ad_cons (e_cmpD o_lt' ok_lt (e_I (e_ix (e_var 1) (e_con pe_int (fun _ => rfl)))) (e_I (e_ix (e_var 2) (e_con pe_int (fun _ => rfl)))) (nomark _)) ad_nil)))))) ss_nil)
 (ss_cons (s_if (PW.pt (w_and (t_cmpD (o_in hr.units65) ok_in (e_var 0) (e_I (e_tup (ad_cons (e_con pe_str (fun _ => rfl)) (ad_cons (e_con pe_str (fun _ => rfl)) ad_nil)))) (by rfl)) (w_and1 (t_cmpD (o_eq' hr.units) ok_eq (e_I (e_ix (e_var 2) (e_con pe_int (fun _ => rfl)))) (e_I (e_con pe_int (fun _ => rfl))) (nomark _))))) (ss_one (s_ret (e_I (e_tup (ad_cons (e_con pe_str (fun _ => rfl)) ad_nil))))) ss_nil)
 (ss_cons (s_if (t_cmpD (o_eq' hr.units) ok_eq (e_var 0) (e_I (e_con pe_str (fun _ => rfl))) (nomark _)) (ss_one (s_ret (e_I (e_tup (ad_cons (e_con pe_str (fun _ => rfl)) (ad_cons (e_D (e_call D_Lquotient (hr.mono (by decide)) rfl (T.glo 30) (fun σ => passAt (takes_of rfl rfl rfl rfl) σ) (a_cons (e_I (e_ix (e_var 1) (e_con pe_int (fun _ => rfl)))) (a_cons (e_I (e_ix (e_var 2) (e_con pe_int (fun _ => rfl)))) a_nil)))) ad_nil)))))) ss_nil)
 (ss_cons (s_if (t_cmpD (o_eq' hr.units) ok_eq (e_var 0) (e_I (e_con pe_str (fun _ => rfl))) (nomark _)) (ss_one (s_ret (e_I (e_tup (ad_cons (e_con pe_str (fun _ => rfl)) (ad_cons (e_op o_sub ok_sub (e_ix (e_var 1) (e_con pe_int (fun _ => rfl))) (e_op o_mul' ok_mul (e_ix (e_var 2) (e_con pe_int (fun _ => rfl))) (e_D (e_call D_Lquotient (hr.mono (by decide)) rfl (T.glo 30) (fun σ => passAt (takes_of rfl rfl rfl rfl) σ) (a_cons (e_I (e_ix (e_var 1) (e_con pe_int (fun _ => rfl)))) (a_cons (e_I (e_ix (e_var 2) (e_con pe_int (fun _ => rfl)))) a_nil)))))) ad_nil)))))) ss_nil)
 (ss_cons (s_if (t_cmpD (o_eq' hr.units) ok_eq (e_var 0) (e_I (e_con pe_str (fun _ => rfl))) (nomark _)) (ss_one (s_ret (e_I (e_tup (ad_cons (e_con pe_str (fun _ => rfl)) (ad_cons (e_cmpD (o_eq' hr.units) ok_eq (e_var 1) (e_var 2) (nomark _)) ad_nil)))))) ss_nil)
 (ss_cons (s_if (t_cmpD (o_eq' hr.units) ok_eq (e_var 0) (e_I (e_con pe_str (fun _ => rfl))) (nomark _)) (ss_one (s_ret (e_I (e_tup (ad_cons (e_con pe_str (fun _ => rfl)) (ad_cons (e_D (e_andV (e_I (e_ix (e_var 1) (e_con pe_int (fun _ => rfl)))) (e_and1 (e_I (e_ix (e_var 2) (e_con pe_int (fun _ => rfl))))))) ad_nil)))))) ss_nil)
 (ss_cons (s_if (t_cmpD (o_eq' hr.units) ok_eq (e_var 0) (e_I (e_con pe_str (fun _ => rfl))) (nomark _)) (ss_one (s_ret (e_I (e_tup (ad_cons (e_con pe_str (fun _ => rfl)) (ad_cons (e_D (e_orV (e_I (e_ix (e_var 1) (e_con pe_int (fun _ => rfl)))) (e_or1 (e_I (e_ix (e_var 2) (e_con pe_int (fun _ => rfl))))))) ad_nil)))))) ss_nil)
 (ss_cons (s_if (t_cmpD (o_eq' hr.units) ok_eq (e_var 0) (e_I (e_con pe_str (fun _ => rfl))) (nomark _)) (ss_one (s_ret (e_I (e_tup (ad_cons (e_con pe_str (fun _ => rfl)) (ad_cons (e_op o_add' ok_add (e_ix (e_var 1) (e_con pe_int (fun _ => rfl))) (e_ix (e_var 2) (e_con pe_int (fun _ => rfl)))) ad_nil)))))) ss_nil)
 (ss_cons (s_if (t_cmpD (o_eq' hr.units) ok_eq (e_var 0) (e_I (e_con pe_str (fun _ => rfl))) (nomark _)) (ss_one (s_ret (e_I (e_tup (ad_cons (e_con pe_str (fun _ => rfl)) (ad_cons (e_ix (e_var 1) (e_con pe_int (fun _ => rfl))) (ad_cons (e_op o_add' ok_add (e_ix (e_var 1) (e_con pe_int (fun _ => rfl))) (e_tup (ad_cons (e_D (e_var 2)) ad_nil))) ad_nil))))))) ss_nil)
 (ss_one (s_ret (e_ifW (t_chainD o_le o_lt' ok_le ok_lt (e_I (e_con pe_int (fun _ => rfl))) (e_I (e_ix (e_var 2) (e_con pe_int (fun _ => rfl)))) (e_I (e_cb c_lenW ok_len (by rfl) (T.free 6) PySem.boot_len (a_cons (e_I (e_ix (e_var 1) (e_con pe_int (fun _ => rfl)))) a_nil)))) (e_I (e_ix (e_I (e_ix (e_var 1) (e_con pe_int (fun _ => rfl)))) (e_ix (e_var 2) (e_con pe_int (fun _ => rfl))))) (e_I (e_tup (ad_cons (e_con pe_str (fun _ => rfl)) ad_nil))))))))))))))))))
theorem sc_Lworked : FnScope N_Lworked ["_law_head", "_law_operands"] (defScope s_Lworked) := ⟨rfl, rfl, rfl, by decide +kernel, rfl, by decide +kernel, by decide +kernel⟩
theorem ok_Lworked (T : Fy fa fn xs K mg) (D_Lsettled : Def P w K mg base 31 (He.ga K "_law_settled") ["_law_value_here"] (spD ⟨K, true⟩ pf_settled)) (D_Lone : Def P w K mg base 2 (He.ga K "_law_one") ["_law_head", "_law_value_here"] (spD ⟨K, true⟩ pf_Lone)) (D_Ltwo : Def P w K mg base 2 (He.ga K "_law_two") ["_law_head", "_law_one_here", "_law_other"] (spD ⟨K, true⟩ pf_two)) : Def P w K mg base 32 (He.ga K "_law_worked") ["_law_head", "_law_operands"] (spD ⟨K, true⟩ pf_worked) := by
  obtain ⟨fd, F⟩ := T.c.def_ 22 (d := df_Lworked) rfl
  refine Def.of (k := 31) (N := N_Lworked) F sc_Lworked (fun _ _ _ _ _ _ us hl => match us, hl with | [_, _], _ => rfl) (spD_len fun ws st k ex h => by unfold pf_worked at h; split at h <;> first | rfl | exact h.elim) (fun cdv A outer s H vs Q E hr h => ⟨lS (XN (cxOf (L2.CX P w) P w K mg base N_Lworked df_Lworked.qual df_Lworked.scope (He.ga K "_law_worked") cdv A outer s H E) true) (fun cls d _ H => E cls d H) (t_Lworked), ?_, body_ok (kp := false) (Nm := N_Lworked) r_Lworked h⟩)
  exact (ss_cons (s_if (t_cmpD (o_in hr.units65) ok_in (e_I (e_tup (ad_cons (e_con pe_str (fun _ => rfl)) ad_nil))) (e_var 1) (by rfl)) (ss_one (s_ret (e_I (e_tup (ad_cons (e_con pe_str (fun _ => rfl)) ad_nil))))) ss_nil)
 (ss_cons (s_if (t_cmpD (o_eq' hr.units) ok_eq (e_I (e_cb c_lenW ok_len (by rfl) (T.free 6) PySem.boot_len (a_cons (e_var 1) a_nil))) (e_I (e_con pe_int (fun _ => rfl))) (nomark _)) (ss_one (s_ret (e_call D_Lsettled (hr.mono (by decide)) rfl (T.glo 32) (fun σ => passAt (takes_of rfl rfl rfl rfl) σ) (a_cons (e_call D_Lone (hr.mono (by decide)) rfl (T.glo 31) (fun σ => passAt (takes_of rfl rfl rfl rfl) σ) (a_cons (e_var 0) (a_cons (e_I (e_ix (e_var 1) (e_con pe_int (fun _ => rfl)))) a_nil))) a_nil)))) ss_nil)
 (ss_one (s_ret (e_call D_Lsettled (hr.mono (by decide)) rfl (T.glo 32) (fun σ => passAt (takes_of rfl rfl rfl rfl) σ) (a_cons (e_call D_Ltwo (hr.mono (by decide)) rfl (T.glo 33) (fun σ => passAt (takes_of rfl rfl rfl rfl) σ) (a_cons (e_var 0) (a_cons (e_I (e_ix (e_var 1) (e_con pe_int (fun _ => rfl)))) (a_cons (e_I (e_ix (e_var 1) (e_con pe_int (fun _ => rfl)))) a_nil)))) a_nil))))))
theorem sc_Loperation : FnScope N_Loperation ["_law_pool_here"] (defScope s_Loperation) := ⟨rfl, rfl, rfl, by decide +kernel, rfl, by decide +kernel, by decide +kernel⟩
theorem ok_Loperation (T : Fy fa fn xs K mg) (D_Ltake : Def P w K mg base 2 (He.ga K "_law_take") ["_law_pool_here", "_law_many"] (spD ⟨K, true⟩ pf_take)) : Def P w K mg base 3 (He.ga K "_law_operation") ["_law_pool_here"] (spD ⟨K, true⟩ pf_Loperation) := by
  obtain ⟨fd, F⟩ := T.c.def_ 23 (d := df_Loperation) rfl
  refine Def.of (k := 2) (N := N_Loperation) F sc_Loperation (fun _ _ _ _ _ _ us hl => match us, hl with | [_], _ => rfl) (spD_len fun ws st k ex h => by unfold pf_Loperation at h; split at h <;> first | rfl | exact h.elim) (fun cdv A outer s H vs Q E hr h => ⟨lS (XN (cxOf (L2.CX P w) P w K mg base N_Loperation df_Loperation.qual df_Loperation.scope (He.ga K "_law_operation") cdv A outer s H E) true) (fun cls d _ H => E cls d H) (t_Loperation), ?_, body_ok (kp := false) (Nm := N_Loperation) r_Loperation h⟩)
  exact (ss_cons (s_asg (ps_set (i := 1) sc_Loperation.nd rfl (Or.inl rfl) (e_lstM (ad_cons (e_tup (ad_cons (e_con pe_str (fun _ => rfl)) (ad_cons (e_con pe_str (fun _ => rfl)) ad_nil))) (ad_cons (e_tup (ad_cons (e_con pe_str (fun _ => rfl)) (ad_cons (e_con pe_str (fun _ => rfl)) ad_nil))) (ad_cons (e_tup (ad_cons (e_con pe_str (fun _ => rfl)) (ad_cons (e_con pe_str (fun _ => rfl)) ad_nil))) (ad_cons (e_tup (ad_cons (e_con pe_str (fun _ => rfl)) (ad_cons (e_con pe_str (fun _ => rfl)) ad_nil))) (ad_cons (e_tup (ad_cons (e_con pe_str (fun _ => rfl)) (ad_cons (e_con pe_str (fun _ => rfl)) ad_nil))) (ad_cons (e_tup (ad_cons (e_con pe_str (fun _ => rfl)) (ad_cons (e_con pe_str (fun _ => rfl)) ad_nil))) (ad_cons (e_tup (ad_cons (e_con pe_str (fun _ => rfl)) (ad_cons (e_con pe_str (fun _ => rfl)) ad_nil))) (ad_cons (e_tup (ad_cons (e_con pe_str (fun _ => rfl)) (ad_cons (e_con pe_str (fun _ => rfl)) ad_nil))) (ad_cons (e_tup (ad_cons (e_con pe_str (fun _ => rfl)) (ad_cons (e_con pe_str (fun _ => rfl)) (ad_cons (e_con pe_str (fun _ => rfl)) ad_nil)))) (ad_cons (e_tup (ad_cons (e_con pe_str (fun _ => rfl)) (ad_cons (e_con pe_str (fun _ => rfl)) (ad_cons (e_con pe_str (fun _ => rfl)) ad_nil)))) (ad_cons (e_tup (ad_cons (e_con pe_str (fun _ => rfl)) (ad_cons (e_con pe_str (fun _ => rfl)) (ad_cons (e_con pe_str (fun _ => rfl)) ad_nil)))) (ad_cons (e_tup (ad_cons (e_con pe_str (fun _ => rfl)) (ad_cons (e_con pe_str (fun _ => rfl)) (ad_cons (e_con pe_str (fun _ => rfl)) ad_nil)))) (ad_cons (e_tup (ad_cons (e_con pe_str (fun _ => rfl)) (ad_cons (e_con pe_str (fun _ => rfl)) (ad_cons (e_con pe_str (fun _ => rfl)) ad_nil)))) (ad_cons (e_tup (ad_cons (e_con pe_str (fun _ => rfl)) (ad_cons (e_con pe_str (fun _ => rfl)) (ad_cons (e_con pe_str (fun _ => rfl)) ad_nil)))) (ad_cons (e_tup (ad_cons (e_con pe_str (fun _ => rfl)) (ad_cons (e_con pe_str (fun _ => rfl)) (ad_cons (e_con pe_str (fun _ => rfl)) ad_nil)))) (ad_cons (e_tup (ad_cons (e_con pe_str (fun _ => rfl)) (ad_cons (e_con pe_str (fun _ => rfl)) (ad_cons (e_con pe_str (fun _ => rfl)) ad_nil)))) (ad_cons (e_tup (ad_cons (e_con pe_str (fun _ => rfl)) (ad_cons (e_con pe_str (fun _ => rfl)) (ad_cons (e_con pe_str (fun _ => rfl)) ad_nil)))) (ad_cons (e_tup (ad_cons (e_con pe_str (fun _ => rfl)) (ad_cons (e_con pe_str (fun _ => rfl)) (ad_cons (e_con pe_str (fun _ => rfl)) ad_nil)))) (ad_cons (e_tup (ad_cons (e_con pe_str (fun _ => rfl)) (ad_cons (e_con pe_str (fun _ => rfl)) (ad_cons (e_con pe_str (fun _ => rfl)) ad_nil)))) ad_nil))))))))))))))))))))))
 (ss_cons (s_asg (ps_set (i := 2) sc_Loperation.nd rfl (Or.inl rfl) (e_I (e_ix (e_I (e_tup (ad_cons (e_con pe_str (fun _ => rfl)) (ad_cons (e_con pe_str (fun _ => rfl)) (ad_cons (e_con pe_str (fun _ => rfl)) (ad_cons (e_con pe_str (fun _ => rfl)) ad_nil)))))) (e_D (e_call D_Ltake (hr.mono (by decide)) rfl (T.glo 20) (fun σ => passAt (takes_of rfl rfl rfl rfl) σ) (a_cons (e_var 0) (a_cons (e_I (e_con pe_int (fun _ => rfl))) a_nil))))))))
 (ss_cons (s_app (ps_expr (pe_bm PySem.F.plainAttrs_list PySem.F.slot_list_append PySem.F.type_list_append mt_append (e_var 1) (pa_cons (e_tup (ad_cons (e_con pe_str (fun _ => rfl)) (ad_cons (e_D (e_var 2)) (ad_cons (e_D (e_var 2)) ad_nil)))) pa_nil))))
 (ss_one (s_ret (e_I (e_ix (e_var 1) (e_D (e_call D_Ltake (hr.mono (by decide)) rfl (T.glo 20) (fun σ => passAt (takes_of rfl rfl rfl rfl) σ) (a_cons (e_var 0) (a_cons (e_I (e_cb c_lenW ok_len (by rfl) (T.free 6) PySem.boot_len (a_cons (e_var 1) a_nil))) a_nil)))))))))))
theorem sc_Lover : FnScope N_Lover ["_law_head", "_law_values", "_law_between"] (defScope s_Lover) := ⟨rfl, rfl, rfl, by decide +kernel, rfl, by decide +kernel, by decide +kernel⟩
theorem ok_Lover (T : Fy fa fn xs K mg) (D_Lworked : Def P w K mg base 32 (He.ga K "_law_worked") ["_law_head", "_law_operands"] (spD ⟨K, true⟩ pf_worked)) : Def P w K mg base 33 (He.ga K "_law_over") ["_law_head", "_law_values", "_law_between"] (spD ⟨K, true⟩ pf_gathered) := by
  obtain ⟨fd, F⟩ := T.c.def_ 24 (d := df_Lover) rfl
  refine Def.of (k := 32) (N := N_Lover) F sc_Lover (fun _ _ _ _ _ _ us hl => match us, hl with | [_, _, _], _ => rfl) (spD_len fun ws st k ex h => by unfold pf_gathered at h; split at h <;> first | rfl | exact h.elim) (fun cdv A outer s H vs Q E hr h => ⟨lS (XN (cxOf (L2.CX P w) P w K mg base N_Lover df_Lover.qual df_Lover.scope (He.ga K "_law_over") cdv A outer s H E) true) (fun cls d _ H => E cls d H) (t_Lover), ?_, body_ok (kp := false) (Nm := N_Lover) r_Lover h⟩)
  exact (ss_cons (s_asg (ps_set (i := 3) sc_Lover.nd rfl (Or.inl rfl) (e_dispM (dp_cons (e_con pe_str (fun _ => rfl)) (e_tup (ad_cons (e_con pe_str (fun _ => rfl)) (ad_cons (e_con pe_int (fun _ => rfl)) ad_nil))) (dp_cons (e_con pe_str (fun _ => rfl)) (e_tup (ad_cons (e_con pe_str (fun _ => rfl)) (ad_cons (e_con pe_bl (fun _ => rfl)) ad_nil))) (dp_cons (e_con pe_str (fun _ => rfl)) (e_tup (ad_cons (e_con pe_str (fun _ => rfl)) (ad_cons (e_con pe_bl (fun _ => rfl)) ad_nil))) (dp_cons (e_con pe_str (fun _ => rfl)) (e_tup (ad_cons (e_con pe_str (fun _ => rfl)) (ad_cons (e_con pe_str (fun _ => rfl)) ad_nil))) dp_nil)))) (by rfl) (by rfl) (fun z => by cases z) (by decide))))
 (ss_cons (s_dput (hu_of hr) (fun z => nomatch z) (e_var 3) (e_con pe_str (fun _ => rfl)) (e_tup (ad_cons (e_con pe_str (fun _ => rfl)) (ad_cons (e_con pe_str (fun _ => rfl)) (ad_cons (e_tup ad_nil) ad_nil)))))
 (ss_cons (s_asg (ps_set (i := 4) sc_Lover.nd rfl (Or.inl rfl) (e_I (e_dispD (dp_cons (e_con pe_str (fun _ => rfl)) (e_con pe_str (fun _ => rfl)) (dp_cons (e_con pe_str (fun _ => rfl)) (e_con pe_str (fun _ => rfl)) (dp_cons (e_con pe_str (fun _ => rfl)) (e_con pe_str (fun _ => rfl)) (dp_cons (e_con pe_str (fun _ => rfl)) (e_con pe_str (fun _ => rfl)) (dp_cons (e_con pe_str (fun _ => rfl)) (e_con pe_str (fun _ => rfl)) dp_nil))))) (by rfl) (by rfl) (fun z => by cases z) (by decide)))))
 (ss_cons (s_asg (ps_set (i := 5) sc_Lover.nd rfl (Or.inl rfl) (e_I (e_get (hu_of hr) (fun z => nomatch z) (e_var 3) (e_D (e_var 0))))))
 (ss_cons (s_for (vs := [6]) (gV := (gName 6)) (gok_name (by decide)) (passes_of rfl) rfl (i_rg1 rfl (T.free 18) (pa_cons (e_cb c_lenW ok_len (by rfl) (T.free 6) PySem.boot_len (a_cons (e_var 1) a_nil)) pa_nil)) (pg_name (i := 6) sc_Lover.nd rfl (Or.inl rfl))
 (ss_cons (s_if (PW.pt (w_and (t_cmpD (o_eq' hr.units) ok_eq (e_var 0) (e_I (e_con pe_str (fun _ => rfl))) (nomark _)) (w_and1 (t_cmpD o_gt ok_gt (e_var 6) (e_I (e_con pe_int (fun _ => rfl))) (nomark _))))) (ss_one (s_asg (ps_set (i := 5) sc_Lover.nd rfl (Or.inl rfl) (e_call D_Lworked (hr.mono (by decide)) rfl (T.glo 34) (fun σ => passAt (takes_of rfl rfl rfl rfl) σ) (a_cons (e_I (e_con pe_str (fun _ => rfl))) (a_cons (e_I (e_lst (ad_cons (e_D (e_var 5)) (ad_cons (e_tup (ad_cons (e_con pe_str (fun _ => rfl)) (ad_cons (e_D (e_var 2)) ad_nil))) ad_nil)))) a_nil)))))) ss_nil)
 (ss_one (s_asg (ps_set (i := 5) sc_Lover.nd rfl (Or.inl rfl) (e_call D_Lworked (hr.mono (by decide)) rfl (T.glo 34) (fun σ => passAt (takes_of rfl rfl rfl rfl) σ) (a_cons (e_I (e_get (hu_of hr) (fun z => nomatch z) (e_var 4) (e_D (e_var 0)))) (a_cons (e_I (e_lst (ad_cons (e_D (e_var 5)) (ad_cons (e_ix (e_var 1) (e_D (e_var 6))) ad_nil)))) a_nil))))))))
 (ss_one (s_ret (e_var 5))))))))
theorem sc_Lsame : FnScope N_Lsame ["_law_actual", "_law_due"] (defScope s_Lsame) := ⟨rfl, rfl, rfl, by decide +kernel, rfl, by decide +kernel, by decide +kernel⟩
theorem ok_Lsame (T : Fy fa fn xs K mg) : Def P w K mg base 1 (He.ga K "_law_same") ["_law_actual", "_law_due"] (spD ⟨K, true⟩ pf_Lsame) := by
  obtain ⟨fd, F⟩ := T.c.def_ 25 (d := df_Lsame) rfl
  refine Def.of (k := 0) (N := N_Lsame) F sc_Lsame (fun _ _ _ _ _ _ us hl => match us, hl with | [_, _], _ => rfl) (spD_len fun ws st k ex h => by unfold pf_Lsame at h; split at h <;> first | rfl | exact h.elim) (fun cdv A outer s H vs Q E hr h => ⟨lS (XN (cxOf (L2.CX P w) P w K mg base N_Lsame df_Lsame.qual df_Lsame.scope (He.ga K "_law_same") cdv A outer s H E) true) (fun cls d _ H => E cls d H) (t_Lsame), ?_, body_ok (kp := false) (Nm := N_Lsame) r_Lsame h⟩)
  exact (ss_cons (s_if (PW.pt (w_or (t_not (t_tru (e_I (e_cb c_isi ok_isi (by rfl) (T.free 35) (by decide +kernel) (a_cons (e_var 0) (a_cons (e_I (e_con (pe_bltn (v := .ty "tuple") (u := .type "tuple") (by rfl) (T.free 22) (by decide +kernel) rfl) (fun _ => rfl))) a_nil)))))) (w_or1 (t_cmpD (o_ne' hr.units) ok_ne (e_var 0) (e_var 1) (nomark _))))) (ss_one (s_ret (e_I (e_con pe_bl (fun _ => rfl))))) ss_nil)
 (ss_cons (s_if (t_cmpD (o_eq' hr.units) ok_eq (e_I (e_ix (e_var 1) (e_con pe_int (fun _ => rfl)))) (e_I (e_con pe_str (fun _ => rfl))) (nomark _)) (ss_one (s_ret (e_I (e_cb c_isi ok_isi (by rfl) (T.free 35) (by decide +kernel) (a_cons (e_I (e_ix (e_var 0) (e_con pe_int (fun _ => rfl)))) (a_cons (e_I (e_con (pe_bltn (v := .ty "bool") (u := .type "bool") (by rfl) (T.free 36) (by decide +kernel) rfl) (fun _ => rfl))) a_nil)))))) ss_nil)
 (ss_one (s_ret (e_orV (e_I (e_cmpD (o_ne' hr.units) ok_ne (e_I (e_ix (e_var 1) (e_con pe_int (fun _ => rfl)))) (e_I (e_con pe_str (fun _ => rfl))) (nomark _))) (e_or1 (e_I (e_notW (e_I (e_cb c_isi ok_isi (by rfl) (T.free 35) (by decide +kernel) (a_cons (e_I (e_ix (e_var 0) (e_con pe_int (fun _ => rfl)))) (a_cons (e_I (e_con (pe_bltn (v := .ty "bool") (u := .type "bool") (by rfl) (T.free 36) (by decide +kernel) rfl) (fun _ => rfl))) a_nil))))))))))))
theorem sc_law : FnScope N_law ["_law_script"] (defScope s_law) := ⟨rfl, rfl, rfl, by decide +kernel, rfl, by decide +kernel, by decide +kernel⟩
theorem ok_law (T : Fy fa fn xs K mg) (D_Lpool : Def P w K mg base 1 (He.ga K "_law_pool") ["_law_script"] (spD ⟨K, true⟩ pf_pool)) (D_Loperation : Def P w K mg base 3 (He.ga K "_law_operation") ["_law_pool_here"] (spD ⟨K, true⟩ pf_Loperation)) (D_Lvalue : Def P w K mg base 4 (He.ga K "_law_value") ["_law_pool_here", "_law_sort"] (spD ⟨K, true⟩ pf_Lvalue)) (D_Ltake : Def P w K mg base 2 (He.ga K "_law_take") ["_law_pool_here", "_law_many"] (spD ⟨K, true⟩ pf_take)) (D_Lsame : Def P w K mg base 1 (He.ga K "_law_same") ["_law_actual", "_law_due"] (spD ⟨K, true⟩ pf_Lsame)) (D_Lworked : Def P w K mg base 32 (He.ga K "_law_worked") ["_law_head", "_law_operands"] (spD ⟨K, true⟩ pf_worked)) (D_worked : Def P w K mg base 34 (He.ga K "worked") ["head", "operands"] (spD ⟨K, true⟩ pf_worked)) (D_Lover : Def P w K mg base 33 (He.ga K "_law_over") ["_law_head", "_law_values", "_law_between"] (spD ⟨K, true⟩ pf_gathered)) (D_gathered : Def P w K mg base 35 (He.ga K "gathered") ["head", "values", "between"] (spD ⟨K, true⟩ pf_gathered)) (D_Lsettled : Def P w K mg base 31 (He.ga K "_law_settled") ["_law_value_here"] (spD ⟨K, true⟩ pf_settled)) (D_settled : Def P w K mg base 31 (He.ga K "settled") ["value"] (spD ⟨K, true⟩ pf_settled)) {fd : FuncData} (F : FunD K "law" "law" (defArgs s_law) (defBody s_law) (defScope s_law) [] [] (He.ga K "law") fd) : FnOk P w K mg base (L2.CX P w) 36 (He.ga K "law") fd ["_law_script"] (Dl.sp_law K) := by
  refine fn_by (k := 35) (N := N_law) F sc_law (fun vs H Q E h => by unfold Dl.sp_law at h; split at h <;> first | rfl | exact h.elim) (fun cdv A outer s H vs Q E hr h => ⟨lS (XN (cxOf (L2.CX P w) P w K mg base N_law "law" (defScope s_law) (He.ga K "law") cdv A outer s H E) true) (fun cls d _ H => E cls d H) (t_law), ?_, body_ok (kp := false) (Nm := N_law) r_law (law_ok (N := ⟨K, true⟩) h)⟩)
  exact (ss_cons (s_asg (ps_set (i := 1) sc_law.nd rfl (Or.inr rfl) (e_call D_Lpool (hr.mono (by decide)) rfl (T.glo 37) (fun σ => passAt (takes_of rfl rfl rfl rfl) σ) (a_cons (e_var 0) a_nil))))
 (ss_cons (s_asg (ps_set (i := 2) sc_law.nd rfl (Or.inl rfl) (e_call D_Loperation (hr.mono (by decide)) rfl (T.glo 38) (fun σ => passAt (takes_of rfl rfl rfl rfl) σ) (a_cons (e_var 1) a_nil))))
 (ss_cons (s_setLcM (i := 4) (own := [("_law_sort", 3)]) (g := (gN 3)) (gV := (gName 3)) (gok_name (by decide)) rfl sc_law.nd rfl rfl (sw_true rfl rfl rfl (by decide +kernel)) (i_sq (e_sl (e_var 2) (o_some (e_con pe_int (fun _ => rfl))) o_none)) (blkOk_by (own := [("_law_sort", 3)]) (N := N_law) (sc := defScope s_law) (by decide +kernel)) (fun _ _ _ _ _ => (pg_name (i := 3) sc_law.nd rfl (Or.inl rfl))) (fun _ _ _ _ _ => ts_nil) (fun _ _ _ _ _ => (e_D (e_call D_Lvalue (hr.mono (by decide)) rfl (T.glo 39) (fun _ => pass_none (fun _ _ _ _ h => h)) (a_cons (e_var 1) (a_cons (e_var 3) a_nil))))))
 (ss_cons (s_if (PW.pt (w_and (t_cmpD (o_eq' hr.units) ok_eq (e_I (e_ix (e_var 2) (e_con pe_int (fun _ => rfl)))) (e_I (e_con pe_str (fun _ => rfl))) (nomark _)) (w_and1 (t_cmpD (o_eq' hr.units) ok_eq (e_call D_Ltake (hr.mono (by decide)) rfl (T.glo 20) (fun σ => passAt (takes_of rfl rfl rfl rfl) σ) (a_cons (e_var 1) (a_cons (e_I (e_con pe_int (fun _ => rfl))) a_nil))) (e_I (e_con pe_int (fun _ => rfl))) (nomark _))))) (ss_one (s_setL (ps_asg (e_ix (e_var 4) (e_con pe_int (fun _ => rfl))) (pg_sub (e_var 4) (e_con pe_int (fun _ => rfl)) set_list)))) ss_nil)
 (ss_cons (s_if (t_not (t_tru (e_call D_Lsame (hr.mono (by decide)) rfl (T.glo 41) (fun σ => passAt (takes_of rfl rfl rfl rfl) σ) (a_cons (e_call D_worked (hr.mono (by decide)) rfl (T.glo 19) (fun σ => passAt (takes_of rfl rfl rfl rfl) σ) (a_cons (e_I (e_ix (e_var 2) (e_con pe_int (fun _ => rfl)))) (a_cons (e_I (e_cty call_list_of ok_list (by rfl) (T.free 40) (by decide +kernel) (a_cons (e_var 4) a_nil))) a_nil))) (a_cons (e_call D_Lworked (hr.mono (by decide)) rfl (T.glo 34) (fun σ => passAt (takes_of rfl rfl rfl rfl) σ) (a_cons (e_I (e_ix (e_var 2) (e_con pe_int (fun _ => rfl)))) (a_cons (e_I (e_D (e_var 4))) a_nil))) a_nil))))) (ss_one (s_ret (e_I (e_con pe_bl (fun _ => rfl))))) ss_nil)
 (ss_cons (s_asg (ps_set (i := 5) sc_law.nd rfl (Or.inl rfl) (e_I (e_ix (e_I (e_tup (ad_cons (e_con pe_str (fun _ => rfl)) (ad_cons (e_con pe_str (fun _ => rfl)) (ad_cons (e_con pe_str (fun _ => rfl)) (ad_cons (e_con pe_str (fun _ => rfl)) (ad_cons (e_con pe_str (fun _ => rfl)) ad_nil))))))) (e_D (e_call D_Ltake (hr.mono (by decide)) rfl (T.glo 20) (fun σ => passAt (takes_of rfl rfl rfl rfl) σ) (a_cons (e_var 1) (a_cons (e_I (e_con pe_int (fun _ => rfl))) a_nil))))))))
 (ss_cons (s_asg (ps_set (i := 3) sc_law.nd rfl (Or.inr rfl) (e_I (e_get (hu_of hr) (fun z => nomatch z) (e_I (e_dispD (dp_cons (e_con pe_str (fun _ => rfl)) (e_con pe_str (fun _ => rfl)) (dp_cons (e_con pe_str (fun _ => rfl)) (e_con pe_str (fun _ => rfl)) (dp_cons (e_con pe_str (fun _ => rfl)) (e_con pe_str (fun _ => rfl)) (dp_cons (e_con pe_str (fun _ => rfl)) (e_con pe_str (fun _ => rfl)) (dp_cons (e_con pe_str (fun _ => rfl)) (e_con pe_str (fun _ => rfl)) dp_nil))))) (by rfl) (by rfl) (fun z => by cases z) (by decide))) (e_D (e_var 5))))))
 (ss_cons (s_setLcD (i := 6) (own := [("_law_k", 9)]) (g := (gN 9)) (gV := (gName 9)) (gok_name (by decide)) rfl sc_law.nd rfl rfl (sw_true rfl rfl rfl (by decide +kernel)) (i_rg1 rfl (T.free 18) (pa_cons (e_D (e_call D_Ltake (hr.mono (by decide)) rfl (T.glo 20) (fun σ => passAt (takes_of rfl rfl rfl rfl) σ) (a_cons (e_var 1) (a_cons (e_I (e_con pe_int (fun _ => rfl))) a_nil)))) pa_nil)) (blkOk_by (own := [("_law_k", 9)]) (N := N_law) (sc := defScope s_law) (by decide +kernel)) (fun _ _ _ _ _ => (pg_name (i := 9) sc_law.nd rfl (Or.inl rfl))) (fun _ _ _ _ _ => ts_nil) (fun _ _ _ _ _ => (e_D (e_call D_Lvalue (hr.mono (by decide)) rfl (T.glo 39) (fun _ => pass_none (fun _ _ _ _ h => h)) (a_cons (e_var 1) (a_cons (e_var 3) a_nil))))))
 (ss_cons (s_asg (ps_set (i := 7) sc_law.nd rfl (Or.inl rfl) (e_I (e_ix (e_I (e_tup (ad_cons (e_con pe_str (fun _ => rfl)) (ad_cons (e_con pe_str (fun _ => rfl)) (ad_cons (e_con pe_str (fun _ => rfl)) ad_nil))))) (e_D (e_call D_Ltake (hr.mono (by decide)) rfl (T.glo 20) (fun σ => passAt (takes_of rfl rfl rfl rfl) σ) (a_cons (e_var 1) (a_cons (e_I (e_con pe_int (fun _ => rfl))) a_nil))))))))
 (ss_cons (s_if (t_not (t_tru (e_call D_Lsame (hr.mono (by decide)) rfl (T.glo 41) (fun σ => passAt (takes_of rfl rfl rfl rfl) σ) (a_cons (e_call D_gathered (hr.mono (by decide)) rfl (T.glo 43) (fun σ => passAt (takes_of rfl rfl rfl rfl) σ) (a_cons (e_var 5) (a_cons (e_I (e_cty call_list_of ok_list (by rfl) (T.free 40) (by decide +kernel) (a_cons (e_var 6) a_nil))) (a_cons (e_var 7) a_nil)))) (a_cons (e_call D_Lover (hr.mono (by decide)) rfl (T.glo 42) (fun σ => passAt (takes_of rfl rfl rfl rfl) σ) (a_cons (e_var 5) (a_cons (e_var 6) (a_cons (e_var 7) a_nil)))) a_nil))))) (ss_one (s_ret (e_I (e_con pe_bl (fun _ => rfl))))) ss_nil)
 (ss_cons (s_asg (ps_set (i := 8) sc_law.nd rfl (Or.inl rfl) (e_I (e_ix (e_I (e_tup (ad_cons (e_tup (ad_cons (e_con pe_str (fun _ => rfl)) (ad_cons (e_op o_add' ok_add (e_op o_pow ok_pow (e_con pe_int (fun _ => rfl)) (e_con pe_int (fun _ => rfl))) (e_D (e_call D_Ltake (hr.mono (by decide)) rfl (T.glo 20) (fun σ => passAt (takes_of rfl rfl rfl rfl) σ) (a_cons (e_var 1) (a_cons (e_I (e_con pe_int (fun _ => rfl))) a_nil))))) ad_nil))) (ad_cons (e_tup (ad_cons (e_con pe_str (fun _ => rfl)) (ad_cons (e_op o_mul' ok_mul (e_con pe_str (fun _ => rfl)) (e_op o_add' ok_add (e_con pe_int (fun _ => rfl)) (e_D (e_call D_Ltake (hr.mono (by decide)) rfl (T.glo 20) (fun σ => passAt (takes_of rfl rfl rfl rfl) σ) (a_cons (e_var 1) (a_cons (e_I (e_con pe_int (fun _ => rfl))) a_nil)))))) ad_nil))) ad_nil)))) (e_D (e_call D_Ltake (hr.mono (by decide)) rfl (T.glo 20) (fun σ => passAt (takes_of rfl rfl rfl rfl) σ) (a_cons (e_var 1) (a_cons (e_I (e_con pe_int (fun _ => rfl))) a_nil))))))))
 (ss_one (s_ret (e_call D_Lsame (hr.mono (by decide)) rfl (T.glo 41) (fun σ => passAt (takes_of rfl rfl rfl rfl) σ) (a_cons (e_call D_settled (hr.mono (by decide)) rfl (T.glo 11) (fun σ => passAt (takes_of rfl rfl rfl rfl) σ) (a_cons (e_var 8) a_nil)) (a_cons (e_call D_Lsettled (hr.mono (by decide)) rfl (T.glo 32) (fun σ => passAt (takes_of rfl rfl rfl rfl) σ) (a_cons (e_var 8) a_nil)) a_nil))))))))))))))))
theorem facts {h : Heap} {f : Addr} (X : K.In h) (G : h.Ns mainGlobals mg) (hfa : mg ("law" : Str) = some (.ref f)) (c : He.SaysX fa fn [] [] exB w h K) :
    ∃ fd : FuncData, (∀ (s : Shared) (v : Value), BindsTo s fd ⟨[v], []⟩ [("_law_script", v)]) ∧ ∀ base : Heap, K.In base → base.Ns mainGlobals mg → FnOk P w K mg base CX0 36 f fd ["_law_script"] (Dl.sp_law K) := by
  have T : Fy fa fn xs K mg := ⟨⟨⟨h, X, G⟩, c.t.d⟩, c.more⟩
  obtain ⟨fd, F⟩ := c.t.d.def_ 26 (d := df_law) rfl
  have e := hfa.symm.trans (T.glo 44)
  cases e
  have b := FunD.bindsA (ps := ["_law_script"]) F fun _ _ _ _ _ _ us hl => match us, hl with | [_], _ => rfl
  refine ⟨fd, fun s v => b s [v] rfl, fun base _ _ => ?_⟩
  have D_size : Def P w K mg base 30 (He.ga K "size") ["value"] (spD ⟨K, true⟩ (pf_size 30)) := all_size T 30
  have D_height : Def P w K mg base 30 (He.ga K "height") ["value"] (spD ⟨K, true⟩ (pf_height 30)) := all_height T 30
  have D_settled : Def P w K mg base 31 (He.ga K "settled") ["value"] (spD ⟨K, true⟩ pf_settled) := ok_settled T D_size D_height
  have D_parsed : Def P w K mg base 32 (He.ga K "parsed") ["text"] (spD ⟨K, true⟩ pf_parsed) := ok_parsed T D_settled
  have D_of_one : Def P w K mg base 33 (He.ga K "of_one") ["head", "value"] (spD ⟨K, true⟩ pf_of_one) := ok_of_one T D_parsed
  have D_quotient : Def P w K mg base 1 (He.ga K "quotient") ["left", "right"] (spD ⟨K, true⟩ pf_quotient) := ok_quotient T
  have D_of_integers : Def P w K mg base 2 (He.ga K "of_integers") ["head", "left", "right"] (spD ⟨K, true⟩ pf_of_integers) := ok_of_integers T D_quotient
  have D_of_two : Def P w K mg base 3 (He.ga K "of_two") ["head", "one", "other"] (spD ⟨K, true⟩ pf_two) := ok_of_two T D_of_integers
  have D_worked : Def P w K mg base 34 (He.ga K "worked") ["head", "operands"] (spD ⟨K, true⟩ pf_worked) := ok_worked T D_settled D_of_one D_of_two
  have D_gathered : Def P w K mg base 35 (He.ga K "gathered") ["head", "values", "between"] (spD ⟨K, true⟩ pf_gathered) := ok_gathered T D_worked
  have O_Lpool : Def P w K mg base 1 (He.ga K "_law_pool") ["_law_script"] (sp_pool K) := ok_Lpool T
  have D_Lpool : Def P w K mg base 1 (He.ga K "_law_pool") ["_law_script"] (spD ⟨K, true⟩ pf_pool) := O_Lpool.imp fun vs H Q E h => pool_ok h
  have O_Ltake : Def P w K mg base 2 (He.ga K "_law_take") ["_law_pool_here", "_law_many"] (sp_take 2) := ok_Ltake 1 T (ok_Ltake 0 T ((no_Ltake T).imp fun vs H Q E h => by unfold sp_take at h; split at h; exact absurd h.1 (by decide); exact h))
  have D_Ltake : Def P w K mg base 2 (He.ga K "_law_take") ["_law_pool_here", "_law_many"] (spD ⟨K, true⟩ pf_take) := O_Ltake.imp fun vs H Q E h => take_ok h
  have D_Linteger : Def P w K mg base 3 (He.ga K "_law_integer") ["_law_pool_here"] (spD ⟨K, true⟩ pf_Linteger) := ok_Linteger T D_Ltake
  have D_Ltext : Def P w K mg base 3 (He.ga K "_law_text") ["_law_pool_here"] (spD ⟨K, true⟩ pf_Ltext) := ok_Ltext T D_Ltake
  have D_Lterm : Def P w K mg base 3 (He.ga K "_law_term") ["_law_pool_here"] (spD ⟨K, true⟩ pf_Lterm) := ok_Lterm T D_Ltake
  have D_Lvalue : Def P w K mg base 4 (He.ga K "_law_value") ["_law_pool_here", "_law_sort"] (spD ⟨K, true⟩ pf_Lvalue) := ok_Lvalue T D_Ltake D_Linteger D_Ltext D_Lterm
  have D_Lsize : Def P w K mg base 30 (He.ga K "_law_size") ["_law_term_here"] (spD ⟨K, true⟩ (pf_size 30)) := all_Lsize T 30
  have D_Lsettled : Def P w K mg base 31 (He.ga K "_law_settled") ["_law_value_here"] (spD ⟨K, true⟩ pf_settled) := ok_Lsettled T D_Lsize
  have D_Lquotient : Def P w K mg base 1 (He.ga K "_law_quotient") ["_law_left", "_law_right"] (spD ⟨K, true⟩ pf_quotient) := ok_Lquotient T
  have D_Lparsed : Def P w K mg base 1 (He.ga K "_law_parsed") ["_law_text_here"] (spD ⟨K, true⟩ pf_Lparsed) := ok_Lparsed T
  have D_Lone : Def P w K mg base 2 (He.ga K "_law_one") ["_law_head", "_law_value_here"] (spD ⟨K, true⟩ pf_Lone) := ok_Lone T D_Lparsed
  have D_Ltwo : Def P w K mg base 2 (He.ga K "_law_two") ["_law_head", "_law_one_here", "_law_other"] (spD ⟨K, true⟩ pf_two) := ok_Ltwo T D_Lquotient
  have D_Lworked : Def P w K mg base 32 (He.ga K "_law_worked") ["_law_head", "_law_operands"] (spD ⟨K, true⟩ pf_worked) := ok_Lworked T D_Lsettled D_Lone D_Ltwo
  have D_Loperation : Def P w K mg base 3 (He.ga K "_law_operation") ["_law_pool_here"] (spD ⟨K, true⟩ pf_Loperation) := ok_Loperation T D_Ltake
  have D_Lover : Def P w K mg base 33 (He.ga K "_law_over") ["_law_head", "_law_values", "_law_between"] (spD ⟨K, true⟩ pf_gathered) := ok_Lover T D_Lworked
  have D_Lsame : Def P w K mg base 1 (He.ga K "_law_same") ["_law_actual", "_law_due"] (spD ⟨K, true⟩ pf_Lsame) := ok_Lsame T
  exact fn_to0 (ok_law T D_Lpool D_Loperation D_Lvalue D_Ltake D_Lsame D_Lworked D_worked D_Lover D_gathered D_Lsettled D_settled F) (fun _ _ _ _ h => h)
end
abbrev R : PySem.W.OpenRow := PySem.W.OpenLaw.row PySem.Challenge.rw_tongues_k45_values
abbrev hk : PySem.W.Hook := He.hookX 5 fa fn [] [] exB
def ob (s : PySem.W.SharedT) : He.AlX := He.obsX 5 fa fn [] [] exB (HandSHeadRun.getT s)
theorem ob_eq (s : PySem.W.SharedT) : ob s = hk.obs s.abs := He.obsX_eq (HandSHeadRun.getT_eq s)
def loose : List Str := ["ABSENT", "GREATEST", "MOST_TEXT", "MOST_TERMS", "size", "height", "settled", "parsed", "of_one", "quotient", "of_integers", "of_two", "worked", "gathered", "_law_pool", "_law_take", "_law_integer", "_law_text", "_law_term", "_law_value", "_law_size", "_law_settled", "_law_quotient", "_law_parsed", "_law_one", "_law_two", "_law_worked", "_law_operation", "_law_over", "_law_same"]
theorem run (w : World) : HandSHeadRun.RunEq R (PySem.W.view R.prog [32]) hk ob 3000 loose w := by
  intro os
  kernel_rfl
end Dl.Vb
open PySem PySem.W PySem.Calls PyProof.Rows
set_option maxRecDepth 100000 in
set_option maxHeartbeats 0 in
theorem PySem.Challenge.cw_tongues_k45_values_holds : PySem.Challenge.rw_tongues_k45_values.Holds := by
  w_on; o_law
  refine HandSHeadRun.head_any (r := OpenLaw.row PySem.Challenge.rw_tongues_k45_values) (q := view (OpenLaw.row PySem.Challenge.rw_tongues_k45_values).prog [32]) (H := Dl.Vb.hk) (ob := Dl.Vb.ob) (M := 3000) (loose := Dl.Vb.loose) (d := HandSHeadRun.topDef (OpenLaw.row PySem.Challenge.rw_tongues_k45_values).prog 32) (kwd := []) Dl.Vb.ob_eq
    (by kernel_rfl) (fun s => by kernel_rfl) Dl.Vb.run (by kernel_rfl) (by kernel_rfl) (by kernel_rfl) (by rfl) (by first | assumption | decide +kernel) (by decide +kernel) ⟨rfl, rfl, rfl, rfl, rfl, by decide +kernel⟩ ?hw ?hc
  case hw => w_witness2
  case hc =>
    refine L2.walk_ofE (l := PySem.Challenge.rw_tongues_k45_values) (n := 63) (k := 36) (x := "_law_script") (CX := L2.CX0) rfl (by decide) (by kernel_rfl) ⟨rfl, by decide, by decide⟩ ?F (fun _ _ _ _ z => z)
    intro w mg fa h Y G hmg0
    obtain ⟨K, KX, c⟩ := Y
    have hmg : mg ("law" : PySem.Str) = some (.ref fa) := by
      have e : (HandSHeadRun.topDef (OpenLaw.row PySem.Challenge.rw_tongues_k45_values).prog 32).name = ("law" : PySem.Str) := by kernel_rfl
      rw [← e]
      exact hmg0
    obtain ⟨fd, hb, hF⟩ := Dl.Vb.facts (P := (PySem.Challenge.rw_tongues_k45_values).prog) (w := w) KX G hmg c
    exact ⟨K, fd, Dl.sp_law K, KX, hb, fun H a ns hl _ hS => ⟨ns, hS, hl, fun _ => rfl⟩, hF⟩
end
