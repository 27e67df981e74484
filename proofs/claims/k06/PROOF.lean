import PyProof.Rows.All
import Wide.All
import OpenK.AllK
import Wide.FinOn
import PyProof.EqAt
import PyProof.EqKinds
import PyProof.TupleCall
import HandS.ForMost
import HandS.ForExc
import HandS.TryMany
import HandS.IsInst
import HandS.Flow
import HandS.Small
import HandS.CallSlots
import HandS.ExcIs
import HandS.Defaults
import HandS.Head0
import HandS.Head1
import HandS.Head2
import HandS.HeadEnd
import HandS.HeadHook1
import HandS.HeadHook2
import HandS.WideBits
import Lean
import HandS.StrMore
import HandS.DictComp
import HandS.Conv
import KE.GoesEnum
import KE.GoesMore
import HandS.ExcInit
import HandS.ExcField
import HandS.HeadHook4
import HandS.Deep
import HandS.Steps
import HandS.Text
import HandS.TupAny
import HandS.TupLen
import PyProof.P3Eq
import PyProof.P3In
import PyProof.NeData
import HandS.Replace
import HandS.More
import PySem.Challenge.RW_tongues_k06_patterns_read
set_option Elab.async false
set_option linter.all false
set_option maxRecDepth 100000
section
set_option maxHeartbeats 4000000
namespace Co
open PySem PySem.Spec PyProof.Rows L2
section
variable {X : Cx} {a b : Expr} {ta tb : TE} {pos : Pos}
theorem PE.imp {e : Expr} {t t' : TE} (h : PE X e t) (i : ∀ σ H Q, t' σ H Q → t σ H Q) : PE X e t' := ⟨fun pins s σ H Q I q => h.run pins s σ H Q I (i σ H Q q)⟩
theorem PT.imp {e : Expr} {t t' : TT} (h : PT X e t) (i : ∀ σ H Q, t' σ H Q → t σ H Q) : PT X e t' := ⟨fun pins s σ H Q I q => h.run pins s σ H Q I (i σ H Q q)⟩
theorem PW.imp {e : Expr} {t t' : TT} (h : PW X e t) (i : ∀ σ H Q, t' σ H Q → t σ H Q) : PW X e t' := ⟨fun wh pins s σ H Q I q => h.run wh pins s σ H Q I (i σ H Q q)⟩
theorem PS.imp {st : Stmt} {t t' : TS} (h : PS X st t) (i : ∀ D σ H, t' D σ H → t D σ H) : PS X st t' := ⟨fun pins s σ H D I q => h.run pins s σ H D I (i D σ H q)⟩
def tV (i : Nat) : TE := fun σ H Q => match σ[i]? with
  | some (some v) => Q v H
  | _ => False
theorem v_of {i : Nat} {σ : L2.St} {H : Hp} {Q : VK} (h : tV i σ H Q) : tVar i σ H Q := by
  unfold tV at h
  split at h
  · exact ⟨_, by assumption, h⟩
  · exact h.elim
theorem va (i : Nat) {x : Str} {pos : Pos} (hN : X.N[i]? = some x := by rfl) (hv : Vis X.env.scope x := by first | exact Or.inl rfl | exact Or.inr (Or.inl rfl) | exact Or.inr (Or.inr rfl)) (hd : (x == ("__debug__" : Str)) = false := by decide)
    (hcd : (x == ("__classdict__" : Str)) = false := by decide) : PE X (.Name x pos) (tV i) := PE.imp (pe_var hN hv hd hcd) fun _ _ _ => v_of
theorem OpR.imp {f : Value → Value → Sem Value} {r r' : R2} (h : OpR X f r) (i : ∀ x y H Q, r' x y H Q → r x y H Q) : OpR X f r' := fun pins s σ H x y v u Q I rx ry q => h pins s σ H x y v u Q I rx ry (i _ _ _ _ q)
theorem CallR.imp {f : Value} {r r' : List V → Hp → VK → Prop} (h : CallR X f r) (i : ∀ xs H Q, r' xs H Q → r xs H Q) : CallR X f r' := fun pins s σ H xs us Q I rx q => h pins s σ H xs us Q I rx (i _ _ _ q)
def fII (g : Int → Int → V) : R2 := fun x y H Q => match x, y with
  | .int i, .int j => Q (g i j) H
  | _, _ => False
theorem fII_of {g : Int → Int → V} {x y : V} {H : Hp} {Q : VK} (h : fII g x y H Q) : rI0 g x y H Q := by
  unfold fII at h
  split at h
  · exact ⟨_, _, rfl, rfl, h⟩
  · exact h.elim
def fIC (C : Int → Int → Prop) (g : Int → Int → V) : R2 := fun x y H Q => match x, y with
  | .int i, .int j => C i j ∧ Q (g i j) H
  | _, _ => False
theorem fIC_of {C : Int → Int → Prop} {g : Int → Int → V} {x y : V} {H : Hp} {Q : VK} (h : fIC C g x y H Q) : rI C g x y H Q := by
  unfold fIC at h
  split at h
  · exact ⟨_, _, rfl, rfl, h.1, h.2⟩
  · exact h.elim
def fAdd : R2 := fII fun i j => .int (i + j)
def fSub : R2 := fII fun i j => .int (i - j)
def CMulL (i j : Int) : Prop := (-(2 ^ 64) < i ∧ i < 2 ^ 64) ∨ (-(2 ^ 64) < j ∧ j < 2 ^ 64) ∨ (i.natAbs < 2 ^ 250 ∧ j.natAbs < 2 ^ 250)
theorem CMulL.ok {i j : Int} (h : CMulL i j) : IntMulOk i j := by
  rcases h with h | h | ⟨h1, h2⟩
  · exact CMul.ok (.inl h)
  · exact CMul.ok (.inr h)
  · refine CMulX.ok ?_
    have a := intBits_le h1
    have b := intBits_le h2
    unfold CMulX
    omega
def fMul : R2 := fIC CMulL fun i j => .int (i * j)
def fMod : R2 := fIC (fun _ j => 0 < j) fun i j => .int (i % j)
def CDivL (i j : Int) : Prop := 0 < j ∧ j < 2 ^ 250
theorem noPy {i j : Int} (h : CDivL i j) : Builtin.divisionGoesByPylong i j = false := by
  obtain ⟨h1, h2⟩ := h
  have h3 : j.natAbs < 2 ^ 250 := by omega
  have h4 : j.natAbs ≠ 0 := by omega
  have h5 : j.natAbs.log2 < 250 := (Nat.log2_lt h4).mpr h3
  have h6 : (j == 0) = false := by simp; omega
  have h7 : ¬ j.natAbs.log2 / 30 + 1 > 300 := by omega
  unfold Builtin.divisionGoesByPylong
  simp only [h6, Bool.false_eq_true, if_false, Bool.and_eq_false_iff, decide_eq_false_iff_not]
  exact .inl h7
def fDiv : R2 := fIC CDivL fun i j => .int (i / j)
def fPow : R2 := fIC CPow fun i j => .int (i ^ j.toNat)
theorem o_add : OpR X (binaryOp .Add) fAdd := OpR.imp op_add fun _ _ _ _ => fII_of
theorem o_sub : OpR X (binaryOp .Sub) fSub := OpR.imp op_sub fun _ _ _ _ => fII_of
theorem o_mul : OpR X (binaryOp .Mult) fMul := OpR.imp (r := rI CMulL fun i j => .int (i * j)) (opI fun _ _ _ _ _ _ _ hc q => mul_int q hc.ok) fun _ _ _ _ => fIC_of
theorem o_mod : OpR X (binaryOp .Mod) fMod := OpR.imp op_mod fun _ _ _ _ => fIC_of
theorem o_div : OpR X (binaryOp .FloorDiv) fDiv := OpR.imp (r := rI CDivL fun i j => .int (i / j)) (opI fun i j _ _ _ _ _ hc q => by
  have hj : (0 : Int) < j := hc.1
  rw [← Int.fdiv_eq_ediv_of_nonneg i (Int.le_of_lt hj)] at q
  exact floordiv_int (by omega) q (.inl (noPy hc))) fun _ _ _ _ => fIC_of
theorem o_pow : OpR X (binaryOp .Pow) fPow := OpR.imp op_pow fun _ _ _ _ => fIC_of
def fLt : R2 := fII fun i j => .bl (decide (i < j))
def fLe : R2 := fII fun i j => .bl (decide (i ≤ j))
def fGt : R2 := fII fun i j => .bl (decide (j < i))
def fGe : R2 := fII fun i j => .bl (decide (j ≤ i))
theorem o_lt : OpR X (compareOp .Lt) fLt := OpR.imp op_lt fun _ _ _ _ => fII_of
theorem o_le : OpR X (compareOp .LtE) fLe := OpR.imp op_le fun _ _ _ _ => fII_of
theorem o_gt : OpR X (compareOp .Gt) fGt := OpR.imp op_gt fun _ _ _ _ => fII_of
theorem o_ge : OpR X (compareOp .GtE) fGe := OpR.imp op_ge fun _ _ _ _ => fII_of
def fAddS : R2 := fun x y H Q => match x, y with
  | .str i, .str j => i.length + j.length ≤ sizeLine ∧ Q (.str (i ++ j)) H
  | _, _ => False
theorem o_addS : OpR X (binaryOp .Add) fAddS := OpR.imp op_add_str fun x y H Q h => by
  unfold fAddS at h
  split at h
  · exact ⟨_, _, rfl, rfl, h.1, h.2⟩
  · exact h.elim
def eqS : V → V → Option Bool
  | .non, .non => some true | .non, .int _ => some false | .int _, .non => some false | .non, .bl _ => some false | .bl _, .non => some false | .non, .str _ => some false | .str _, .non => some false
  | .int i, .int j => some (decide (i = j)) | .bl i, .bl j => some (decide (i = j)) | .str i, .str j => some (decide (i = j))
  | .int _, .str _ => some false | .str _, .int _ => some false | .bl _, .str _ => some false | .str _, .bl _ => some false
  | _, _ => none
theorem eqS_of {x y : V} {b : Bool} (h : eqS x y = some b) : scal x y = true ∧ decide (x = y) = b := by
  cases x <;> cases y <;> simp only [eqS, Option.some.injEq, reduceCtorEq] at h <;> subst h <;> simp [scal]
def fEq : R2 := fun x y H Q => match eqS x y with
  | some b => Q (.bl b) H
  | none => False
def fNe : R2 := fun x y H Q => match eqS x y with
  | some b => Q (.bl (!b)) H
  | none => False
theorem o_eq : OpR X (compareOp .Eq) fEq := OpR.imp op_eq fun x y H Q h => by
  unfold fEq at h
  split at h
  · rename_i b e
    obtain ⟨h1, h2⟩ := eqS_of e
    exact ⟨h1, by rw [h2]; exact h⟩
  · exact h.elim
theorem o_ne : OpR X (compareOp .NotEq) fNe := OpR.imp op_ne fun x y H Q h => by
  unfold fNe at h
  split at h
  · rename_i b e
    obtain ⟨h1, h2⟩ := eqS_of e
    exact ⟨h1, by rw [h2]; exact h⟩
  · exact h.elim
def fNeg : V → Hp → VK → Prop := fun x H Q => match x with
  | .int i => Q (.int (-i)) H
  | _ => False
theorem u_neg : UnR X (unaryOp .USub) fNeg := fun pins s σ H x v Q I r h => by
  unfold fNeg at h
  split at h
  · exact un_neg pins s σ H _ v Q I r ⟨_, rfl, h⟩
  · exact h.elim
def fIsN : V → V := fun x => match x with
  | .non => .bl true
  | _ => .bl false
theorem fIsN_eq (x : V) : fIsN x = .bl (decide (x = .non)) := by cases x <;> simp [fIsN]
def tIs (ta : TE) : TE := fun σ H Q => ta σ H fun x H1 => Q (fIsN x) H1
def fNotN : V → V := fun x => match x with
  | .non => .bl false
  | _ => .bl true
theorem fNotN_eq (x : V) : fNotN x = .bl (!decide (x = .non)) := by cases x <;> simp [fNotN]
def tNt (ta : TE) : TE := fun σ H Q => ta σ H fun x H1 => Q (fNotN x) H1
theorem e_isN {j pos' pos} (ha : PE X a ta) : PE X (.Compare a [.Is] [.Constant .none j pos'] pos) (tIs ta) := PE.imp (pe_cmp (pc_isN ha)) fun σ H Q h => by
  unfold tIs at h
  simp only [fIsN_eq] at h
  exact h
theorem e_notN {j pos' pos} (ha : PE X a ta) : PE X (.Compare a [.IsNot] [.Constant .none j pos'] pos) (tNt ta) := PE.imp (pe_cmp (pc_notN ha)) fun σ H Q h => by
  unfold tNt at h
  simp only [fNotN_eq] at h
  exact h
def tBo (t : TE) : TT := fun σ H Q => t σ H fun x H1 => match x with
  | .bl c => Q c H1
  | _ => False
theorem bl_fun {Q : Bool → Hp → Prop} : (fun (x : V) (H1 : Hp) => ∃ c, x = .bl c ∧ Q c H1) = fun x H1 => match x with
  | .bl c => Q c H1
  | _ => False := by
  funext x H1
  cases x <;> simp
theorem t_val {e : Expr} {t : TE} (h : PE X e t) (he : ∀ whole, isTrue e X.env whole = (do let v ← whole; standAt e.pos; holding [v] (truthy v)) := by intro _; rfl) : PT X e (tBo t) := PT.imp (pt_val h he) fun σ H Q h => by
  unfold tB
  rw [bl_fun]
  exact h
theorem t_cmp {op : CmpOp} {r : R2} (ho : OpR X (compareOp op) r) (ha : PE X a ta) (hb : PE X b tb) (hm : behindInMarks op b = false) : PT X (.Compare a [op] [b] pos) (tBo (tOp r ta tb)) := PT.imp (pt_cmpR ho ha hb hm) fun σ H Q h => by
  unfold tTest
  rw [bl_fun]
  exact h
def two (c : Bool) (p q : Prop) : Prop := (c = true → p) ∧ (c = false → q)
theorem two_eq {c : Bool} {p q : Prop} : (if c = true then p else q) = two c p q := by
  cases c <;> simp [two]
theorem twoT {p q : Prop} (h : p) : two true p q := ⟨fun _ => h, fun e => nomatch e⟩
theorem twoF {p q : Prop} (h : q) : two false p q := ⟨fun e => (nomatch e), fun _ => h⟩
theorem two_of {c : Bool} {p q : Prop} (h1 : c = true → p) (h2 : c = false → q) : two c p q := ⟨h1, h2⟩
def uAnd (t u : TT) : TT := fun σ H Q => t σ H fun c H1 => two c (u σ H1 Q) (Q false H1)
def uOr (t u : TT) : TT := fun σ H Q => t σ H fun c H1 => two c (Q true H1) (u σ H1 Q)
theorem w_and {tA tB' : TT} {rest : List Expr} (ha : PT X a tA) (hb : PW X (.BoolOp .And (b :: rest) pos) tB') : PW X (.BoolOp .And (a :: b :: rest) pos) (uAnd tA tB') := PW.imp (pw_and ha hb) fun σ H Q h => by
  unfold tAnd
  simp only [two_eq]
  exact h
theorem w_or {tA tB' : TT} {rest : List Expr} (ha : PT X a tA) (hb : PW X (.BoolOp .Or (b :: rest) pos) tB') : PW X (.BoolOp .Or (a :: b :: rest) pos) (uOr tA tB') := PW.imp (pw_or ha hb) fun σ H Q h => by
  unfold tOr
  simp only [two_eq]
  exact h
def bv (x : V) (k : Bool → Prop) : Prop := match x with
  | .bl c => k c
  | _ => False
theorem bv_eq {x : V} {k : Bool → Prop} : (∃ c, x = .bl c ∧ k c) = bv x k := by cases x <;> simp [bv]
def uAndV (ta tb : TE) : TE := fun σ H Q => ta σ H fun x H1 => bv x fun c => two c (tb σ H1 Q) (Q (.bl false) H1)
def uOrV (ta tb : TE) : TE := fun σ H Q => ta σ H fun x H1 => bv x fun c => two c (Q (.bl true) H1) (tb σ H1 Q)
def uNotV (ta : TE) : TE := fun σ H Q => ta σ H fun x H1 => bv x fun c => Q (.bl (!c)) H1
theorem e_and {rest : List Expr} (ha : PE X a ta) (hb : PE X (.BoolOp .And (b :: rest) pos) tb) : PE X (.BoolOp .And (a :: b :: rest) pos) (uAndV ta tb) := PE.imp (pe_and ha hb) fun σ H Q h => by
  unfold tAndV
  simp only [bv_eq, two_eq]
  exact h
theorem e_or {rest : List Expr} (ha : PE X a ta) (hb : PE X (.BoolOp .Or (b :: rest) pos) tb) : PE X (.BoolOp .Or (a :: b :: rest) pos) (uOrV ta tb) := PE.imp (pe_or ha hb) fun σ H Q h => by
  unfold tOrV
  simp only [bv_eq, two_eq]
  exact h
theorem e_not (ha : PE X a ta) : PE X (.UnaryOp .Not a pos) (uNotV ta) := PE.imp (pe_not ha) fun σ H Q h => by
  unfold tNotV
  simp only [bv_eq]
  exact h
def uIf (t : TT) (ta tb : TE) : TE := fun σ H Q => t σ H fun c H1 => two c (ta σ H1 Q) (tb σ H1 Q)
theorem e_if {c : Expr} {tA : TT} (hc : PT X c tA) (ha : PE X a ta) (hb : PE X b tb) : PE X (.IfExp c a b pos) (uIf tA ta tb) := PE.imp (pe_ifExp hc ha hb) fun σ H Q h => by
  unfold tIf
  simp only [two_eq]
  exact h
def uIfS (c : TT) (t u : TS) : TS := fun D σ H => c σ H fun b H1 => two b (t D σ H1) (u D σ H1)
theorem s_if {c : Expr} {p q : List Stmt} {tc : TT} {t u : TS} (hc : PT X c tc) (ha : PSs X p t) (hb : PSs X q u) : PS X (.If c p q pos) (uIfS tc t u) := PS.imp (ps_if hc ha hb) fun D σ H h => by
  unfold tIfS
  simp only [two_eq]
  exact h
def uChain (r r' : R2) (ta tb tc : TE) : TE := fun σ H Q => ta σ H fun x H1 => tb σ H1 fun y H2 => r x y H2 fun z H3 => bv z fun k => two k (tc σ H3 fun w' H4 => r' y w' H4 Q) (Q (.bl false) H3)
theorem e_chain {op op' : CmpOp} {r r' : R2} {c : Expr} {tc : TE} (ho : OpR X (compareOp op) r) (ho' : OpR X (compareOp op') r') (ha : PE X a ta) (hb : PE X b tb) (hc : PE X c tc)
    (hm : lastMarks [op, op'] [b, c] = false := by with_unfolding_all rfl) : PE X (.Compare a [op, op'] [b, c] pos) (uChain r r' ta tb tc) := PE.imp (pe_chain ho ho' ha hb hc hm) fun σ H Q h => by
  unfold tChain
  simp only [bv_eq, two_eq]
  exact h
theorem t_chain {op op' : CmpOp} {r r' : R2} {c : Expr} {tc : TE} (ho : OpR X (compareOp op) r) (ho' : OpR X (compareOp op') r') (ha : PE X a ta) (hb : PE X b tb) (hc : PE X c tc)
    (hm : lastMarks [op, op'] [b, c] = false := by with_unfolding_all rfl) : PT X (.Compare a [op, op'] [b, c] pos) (tBo (uChain r r' ta tb tc)) := PT.imp (pt_chain ho ho' ha hb hc hm) fun σ H Q h => by
  unfold tTest tChain
  simp only [bl_fun, bv_eq, two_eq]
  exact h
def cInt : List V → Hp → VK → Prop := fun xs H Q => match xs with
  | [.int i] => Q (.int i) H
  | [.bl k] => Q (.int (if k then 1 else 0)) H
  | _ => False
theorem c_int : CallR X (.type "int") cInt := CallR.imp call_int1 fun xs H Q h => by
  unfold cInt at h
  split at h
  · exact .inl ⟨_, rfl, h⟩
  · exact .inr ⟨_, rfl, h⟩
  · exact h.elim
end
structure Def (P : Program) (w : World) (K : PySem.W.Frag) (mg : Str → Option Value) (base : Heap) (k : Nat) (f : Addr) (ps : List Str) (sp : Sp) : Prop where
  ex : ∃ fd, FnOk P w K mg base (L2.CX P w) k f fd ps sp ∧ Binds K fd ps []
  kp : PySem.W.keepIn K (.ref f) = true
section
variable {P : Program} {w : World} {K : PySem.W.Frag} {mg : Str → Option Value} {base : Heap} {k : Nat} {f : Addr} {ps : List Str} {sp : Sp}
theorem Def.mono {j : Nat} (d : Def P w K mg base j f ps sp) (h : j ≤ k) : Def P w K mg base k f ps sp := ⟨let ⟨fd, F, b⟩ := d.ex; ⟨fd, F.mono h, b⟩, d.kp⟩
theorem Def.imp {sp' : Sp} (d : Def P w K mg base k f ps sp) (h : ∀ vs H Q E, sp' vs H Q E → sp vs H Q E) : Def P w K mg base k f ps sp' := ⟨let ⟨fd, F, b⟩ := d.ex; ⟨fd, F.imp h, b⟩, d.kp⟩
theorem Def.of {x qual : Str} {params : Arguments} {body : List Stmt} {scope : Scope} {fd : FuncData} {N : List Str} (F : FunD K x qual params body scope [] [] f fd) (S : FnScope N ps scope)
    (hb : ∀ (kV doc pm : Value) (an : Option Addr) (cdv ct : Value) (us : List Value), us.length = ps.length → bindArgs (PySem.W.fnOf x qual params body scope .none kV doc pm an cdv ct) ⟨us, []⟩ = pure (ps.zip us))
    (len : ∀ vs H Q E, sp vs H Q E → vs.length = ps.length)
    (hbody : ∀ (cdv : Value) (A : Around) (outer : List Env) (s : Shared) (H : Hp) (vs : List V) (Q : VK) (E : XK), Room k (A.deeper (envOfC qual scope s.heap.objs.size f cdv)) → sp vs H Q E →
      ∃ t, PSs (cxOf (L2.CX P w) P w K mg base N qual scope f cdv A outer s H E) body t ∧ t { nx := fun _ H' => Q .non H', rt := Q } (start N vs) H) : Def P w K mg base (k + 1) f ps sp :=
  ⟨⟨fd, F.ok S len hbody, FunD.bindsN F hb⟩, F.kp⟩
theorem Def.zero {x qual : Str} {params : Arguments} {body : List Stmt} {scope : Scope} {fd : FuncData} (F : FunD K x qual params body scope [] [] f fd)
    (hb : ∀ (kV doc pm : Value) (an : Option Addr) (cdv ct : Value) (us : List Value), us.length = ps.length → bindArgs (PySem.W.fnOf x qual params body scope .none kV doc pm an cdv ct) ⟨us, []⟩ = pure (ps.zip us)) : Def P w K mg base 0 f ps (fun _ _ _ _ => False) :=
  ⟨⟨fd, ⟨fun _ _ _ _ h => h.elim, fun _ _ _ _ _ _ _ _ _ _ _ _ _ h => h.elim⟩, FunD.bindsN F hb⟩, F.kp⟩
end
section
variable {X : Cx} {k : Nat} {f C : Addr} {ps : List Str} {sp : Sp} {E : XK} {x m : Str} {p pos apos : Pos} {e o : Expr} {es : List Expr} {ta : TE} {t : TA}
def uCall (sp : Sp) (E : XK) (t : TA) : TE := fun σ H Q => t σ H fun vs H1 => sp vs H1 Q E
theorem e_call (d : Def X.prog X.w X.K X.mg X.base k f ps sp) (hr : Room k X.A) (hg : Gl X x) (hm : X.mg x = some (.ref f)) (hx : Passes (L2.CX X.prog X.w) X E)
    (ha : PA X (e :: es) t) (hdb : (x == ("__debug__" : Str)) = false := by decide) (he : starEach (e :: es) X.env = (false, eval e X.env) :: starEach es X.env := by rfl) (hpl : (backTo pos (starEach es X.env)).any (·.1) = false := by rfl) :
    PE X (.Call (.Name x p) (e :: es) [] pos) (uCall sp E t) := by
  obtain ⟨fd, F, b⟩ := d.ex
  refine PE.imp (pe_call (pos := pos) (p := p) F hr hg hm d.kp b .nil hx ha hdb he hpl) fun σ H Q h => ?_
  unfold tCall
  simp only [List.append_nil]
  exact h
theorem e_call0 (d : Def X.prog X.w X.K X.mg X.base k f ps sp) (hr : Room k X.A) (hg : Gl X x) (hm : X.mg x = some (.ref f)) (hx : Passes (L2.CX X.prog X.w) X E)
    (hdb : (x == ("__debug__" : Str)) = false := by decide) : PE X (.Call (.Name x p) [] [] pos) (uCall sp E tNil) := by
  obtain ⟨fd, F, b⟩ := d.ex
  exact PE.imp (pe_call0 F hr hg hm d.kp b .nil hx hdb) fun σ H Q h => h
def uCallS (sp : Sp) (E : L2.St → XK) (t : TA) : TE := fun σ H Q => t σ H fun vs H1 => sp vs H1 Q (E σ)
theorem e_callS {E : L2.St → XK} (d : Def X.prog X.w X.K X.mg X.base k f ps sp) (hr : Room k X.A) (hg : Gl X x) (hm : X.mg x = some (.ref f)) (hx : ∀ σ, PassesAt (L2.CX X.prog X.w) X σ (E σ))
    (ha : PA X (e :: es) t) (hdb : (x == ("__debug__" : Str)) = false := by decide) (he : starEach (e :: es) X.env = (false, eval e X.env) :: starEach es X.env := by rfl) (hpl : (backTo pos (starEach es X.env)).any (·.1) = false := by rfl) :
    PE X (.Call (.Name x p) (e :: es) [] pos) (uCallS sp E t) := by
  obtain ⟨fd, F, b⟩ := d.ex
  exact pe_callS F hr hg hm d.kp b hx ha hdb he hpl
def uMeth (C : Addr) (m : Str) (sp : Sp) (E : L2.St → XK) (ta : TE) (t : TA) : TE := fun σ H Q => ta σ H fun x H1 => ∃ a dx fs, x = .ref a ∧ H1 a = some (.ins C dx fs) ∧ fs.lookup m = none ∧ t σ H1 fun vs H2 => sp (x :: vs) H2 Q (E σ)
theorem e_meth {pl : Sem Bool} {E : L2.St → XK} (he : PE X o ta) (c : Cls X.K C) (hm : Meth X.K C m f) (d : Def X.prog X.w X.K X.mg X.base k f ps sp) (hr : Room k X.A) (hx : ∀ σ, PassesAt (L2.CX X.prog X.w) X σ (E σ)) (ha : PA X (e :: es) t)
    (hst : starEach (e :: es) X.env = (false, eval e X.env) :: starEach es X.env := by rfl) (hpl : (backTo pos (starEach es X.env)).any (·.1) = false := by rfl)
    (ht : eval (.Call (.Attribute o m apos) (e :: es) [] pos) X.env = (do
      let ov ← eval o X.env
      standAt apos.atName
      let (f, first) ← holding [ov] (getMethod ov m pl)
      callWith pos f first (backTo pos (starEach (e :: es) X.env)) (backToKw pos (keywordEach [] X.env))) := by rfl) :
    PE X (.Call (.Attribute o m apos) (e :: es) [] pos) (uMeth C m sp E ta t) := by
  obtain ⟨fd, F, b⟩ := d.ex
  refine ⟨fun pins s σ H Q I h => ?_⟩
  refine PySem.W.methodCall_KW (pl := pl) (thn (he.run pins s σ H _ I h) fun u s1 ⟨x, H1, I1, rx, a, dx, fs, ex, ea, l, q⟩ => ?_) ht
  subst ex
  obtain rfl : u = Value.ref a := rx
  refine getmeth_ok I1 ea c hm l ?_
  refine PySem.W.callWith_K (first := [.ref a]) (h₀ := X.base) I.ok.mod.kin hm.kp (thn (ha.run pos pins s1 σ H1 _ I1 q) fun us s2 ⟨vs, H2, I2, r, q2⟩ => ⟨I2.kIn, ?_⟩) hst hpl
  exact run_fnS (us := .ref a :: us) (vs := .ref a :: vs) F hr b (hx σ) I2 (.cons rfl r) q2
theorem e_meth0 {pl : Sem Bool} {E : L2.St → XK} (he : PE X o ta) (c : Cls X.K C) (hm : Meth X.K C m f) (d : Def X.prog X.w X.K X.mg X.base k f ps sp) (hr : Room k X.A) (hx : ∀ σ, PassesAt (L2.CX X.prog X.w) X σ (E σ))
    (ht : eval (.Call (.Attribute o m apos) [] [] pos) X.env = (do
      let ov ← eval o X.env
      standAt apos.atName
      let (f, first) ← holding [ov] (getMethod ov m pl)
      callWith pos f first (backTo pos (starEach [] X.env)) (backToKw pos (keywordEach [] X.env))) := by rfl) :
    PE X (.Call (.Attribute o m apos) [] [] pos) (uMeth C m sp E ta tNil) := by
  obtain ⟨fd, F, b⟩ := d.ex
  refine ⟨fun pins s σ H Q I h => ?_⟩
  refine PySem.W.methodCall_KW (pl := pl) (thn (he.run pins s σ H _ I h) fun u s1 ⟨x, H1, I1, rx, a, dx, fs, ex, ea, l, q⟩ => ?_) ht
  subst ex
  obtain rfl : u = Value.ref a := rx
  refine getmeth_ok I1 ea c hm l ?_
  exact PySem.W.callWith_K0 (first := [.ref a]) I1.kIn hm.kp (run_fnS (us := [.ref a]) (vs := [.ref a]) F hr b (hx σ) I1 (.cons rfl .nil) q)
theorem pass_none {σ : L2.St} {W : L2.St → XK} (h : ∀ σ c d H, ¬ W σ c d H) : PassesAt (L2.CX X.prog X.w) X σ (W σ) := fun _ _ _ _ _ _ c => by
  obtain ⟨_, _, _, _, _, _, _, _, _, _, _, _, z⟩ := c
  exact (h _ _ _ _ z).elim
theorem mk_own0 {bmB : List Value} {B newId initId : String} (F : ExcBaseFacts B newId initId bmB) (q : PySem.W.excIn X.K C bmB newId = true) (gC : X.mg x = some (.ref C)) (kC : PySem.W.keepIn X.K (.ref C) = true) (r : Raises X (.ref C)) (hg : Gl X x)
    (hdb : (x == ("__debug__" : Str)) = false := by decide) : PMk X (.Call (.Name x p) [] [] pos) (fun _ H Q => Q (.ref C) none H) := by
  intro pins s σ H Q I h
  refine wpAny_Call_Name_kw (ld_glob I hg gC ?_ hdb)
  refine PySem.W.callWith_K0 I.kIn kC ?_
  show wpAny _ _ (call (.ref C) []) _ _ _
  obtain ⟨bm, N, nm, qn, bs, hdct, sn, sub, ab, col, dd, k0, k1, k2, k3, k5, mN, hC, hN, hni, T⟩ := exc_obj I.kIn q
  refine wpAny_call_exc_subT F T hC hN hni (fun h' e hm => ?_) (by show 0 ≤ sizeLine; rw [sizeLine_eq]; omega)
  exact mk_of I hm r h (I.hok.gone hm.new)
end
end Co
end

section
set_option maxHeartbeats 4000000
namespace Co
open PySem PySem.Spec PyProof.Rows L2
abbrev St := L2.St
section
variable {X : Cx} {a b : Expr} {ta tb : TE} {pos : Pos}
theorem t_pc {op : CmpOp} {t : TE} (h : PC X op a b t) (h1 : behindInMarks op b = false := by first | exact nobehind _ (by decide) (by decide) | rfl) : PT X (.Compare a [op] [b] pos) (tBo t) := PT.imp (pt_cmp h h1) fun σ H Q h => by
  unfold tB
  rw [bl_fun]
  exact h
theorem t_isN {j pos' pos} (ha : PE X a ta) : PT X (.Compare a [.Is] [.Constant .none j pos'] pos) (tBo (tIs ta)) := PT.imp (pt_cmp (pc_isN ha)) fun σ H Q h => by
  unfold tB
  rw [bl_fun]
  unfold tBo tIs at h
  simp only [fIsN_eq] at h
  exact h
theorem t_notN {j pos' pos} (ha : PE X a ta) : PT X (.Compare a [.IsNot] [.Constant .none j pos'] pos) (tBo (tNt ta)) := PT.imp (pt_cmp (pc_notN ha)) fun σ H Q h => by
  unfold tB
  rw [bl_fun]
  unfold tBo tNt at h
  simp only [fNotN_eq] at h
  exact h
def tTru (K : PySem.W.Frag) (ta : TE) : TT := fun σ H Q => ta σ H fun x H' => ∃ k, TruV K x H' k ∧ Q k H'
def sRaise (W : WX) (c : Value) : TS := fun _ σ H => W c none σ H
def uMake (C : Addr) (sp : Sp) (E : XK) (t : TA) : TE := fun σ H Q => t σ H fun vs H1 => ∀ x dx, H1 x = none → H1 dx = none → dx ≠ x →
  sp (.ref x :: vs) (upd (upd H1 dx (.own x)) x (.ins C dx [])) (fun v H2 => v = .non ∧ Q (.ref x) H2) E
theorem e_make {k : Nat} {f C : Addr} {ps : List Str} {sp : Sp} {E : XK} {x : Str} {p pos : Pos} {e : Expr} {es : List Expr} {t : TA} (M : Mk X.K C f) (d : Def X.prog X.w X.K X.mg X.base k f ps sp) (hr : Room (k + 1) X.A) (hg : Gl X x) (hm : X.mg x = some (.ref C)) (hx : Passes (L2.CX X.prog X.w) X E)
    (ha : PA X (e :: es) t) (hdb : (x == ("__debug__" : Str)) = false := by decide) (he : starEach (e :: es) X.env = (false, eval e X.env) :: starEach es X.env := by rfl) (hpl : (backTo pos (starEach es X.env)).any (·.1) = false := by rfl) :
    PE X (.Call (.Name x p) (e :: es) [] pos) (uMake C sp E t) := by
  obtain ⟨fd, F, b⟩ := d.ex
  refine PE.imp (pe_make (pos := pos) (p := p) M F hr hg hm b .nil hx ha hdb he hpl) fun σ H Q h => ?_
  unfold tMake
  simp only [List.append_nil]
  exact h
theorem e_make0 {k : Nat} {f C : Addr} {ps : List Str} {sp : Sp} {E : XK} {x : Str} {p pos : Pos} (M : Mk X.K C f) (d : Def X.prog X.w X.K X.mg X.base k f ps sp) (hr : Room (k + 1) X.A) (hg : Gl X x) (hm : X.mg x = some (.ref C)) (hx : Passes (L2.CX X.prog X.w) X E)
    (hdb : (x == ("__debug__" : Str)) = false := by decide) : PE X (.Call (.Name x p) [] [] pos) (uMake C sp E tNil) := by
  obtain ⟨fd, F, b⟩ := d.ex
  refine PE.imp (pe_make0 (pos := pos) (p := p) M F hr hg hm b .nil hx hdb) fun σ H Q h => ?_
  exact h
def cMin2 : List V → Hp → VK → Prop := fun xs H Q => match xs with
  | [.int i, .int j] => Q (.int (if j < i then j else i)) H
  | _ => False
theorem c_min2 (hc : X.calm = true) : CallR X (.builtin "min") cMin2 := CallR.imp (call_min2 hc) fun xs H Q h => by
  unfold cMin2 at h
  split at h
  · exact ⟨_, _, rfl, h⟩
  · exact h.elim
def cMax2 : List V → Hp → VK → Prop := fun xs H Q => match xs with
  | [.int i, .int j] => Q (.int (if j > i then j else i)) H
  | _ => False
theorem c_max2 (hc : X.calm = true) : CallR X (.builtin "max") cMax2 := CallR.imp (call_max2 hc) fun xs H Q h => by
  unfold cMax2 at h
  split at h
  · exact ⟨_, _, rfl, h⟩
  · exact h.elim
def cLenS : List V → Hp → VK → Prop := fun xs H Q => match xs with
  | [.str z] => z.length ≤ sizeLine ∧ Q (.int z.length) H
  | _ => False
theorem c_lenS : CallR X (.builtin "len") cLenS := CallR.imp call_len_str fun xs H Q h => by
  unfold cLenS at h
  split at h
  · exact ⟨_, rfl, h.1, h.2⟩
  · exact h.elim
def rLenQ (K : PySem.W.Frag) : List V → Hp → VK → Prop := fun xs H Q => ∃ p ys, xs = [.ref p] ∧ (SqL K H p ys ∨ SqT K H p ys) ∧ Q (.int ys.length) H
def rLenD : List V → Hp → VK → Prop := fun xs H Q => ∃ a kvs, xs = [V.ref a] ∧ H a = some (.dK kvs) ∧ Q (.int kvs.length) H
def rTupOf (K : PySem.W.Frag) : List V → Hp → VK → Prop := fun xs H Q => ∃ p ys, xs = [.ref p] ∧ ((SqL K H p ys ∧ ∀ l, H l = none → Q (.ref l) (upd H l (.tup ys))) ∨ (SqT K H p ys ∧ Q (.ref p) H))
def rListOf (K : PySem.W.Frag) : List V → Hp → VK → Prop := fun xs H Q => ∃ p ys, xs = [.ref p] ∧ (SqL K H p ys ∨ SqT K H p ys) ∧ ∀ l, H l = none → Q (.ref l) (upd H l (.lst ys))
def tJoin (K : PySem.W.Frag) (ts tl : TE) : TE := fun σ H Q => ts σ H fun x H1 => (∃ z, x = .str z) ∧ tl σ H1 fun y H2 => ∃ (a : Str) (p : Addr) (ys : List Str), x = .str a ∧ y = .ref p ∧ (SqL K H2 p (ys.map V.str) ∨ SqT K H2 p (ys.map V.str)) ∧ True ∧ Q (.str (Txt.join a ys)) H2
def isiS : V → String → Option Bool
  | .non, c => if c = "tuple" ∨ c = "list" ∨ c = "dict" ∨ c = "int" ∨ c = "str" ∨ c = "bool" then some false else none
  | .bl _, c => if c = "bool" ∨ c = "int" then some true else if c = "tuple" ∨ c = "list" ∨ c = "dict" ∨ c = "str" then some false else none
  | .int _, c => if c = "int" then some true else if c = "tuple" ∨ c = "list" ∨ c = "dict" ∨ c = "str" ∨ c = "bool" then some false else none
  | .str _, c => if c = "str" then some true else if c = "tuple" ∨ c = "list" ∨ c = "dict" ∨ c = "int" ∨ c = "bool" then some false else none
  | _, _ => none
def isiR (t c : String) : Prop := (t = "list" ∨ t = "tuple" ∨ t = "dict") ∧ (c = "tuple" ∨ c = "list" ∨ c = "dict" ∨ c = "int" ∨ c = "str" ∨ c = "bool")
def cIsi (K : PySem.W.Frag) : List V → Hp → VK → Prop := fun xs H Q => match xs with
  | [.ref p, .ty c] => ∃ t, TyX K H (.ref p) (.type t) ∧ isiR t c ∧ Q (.bl (decide (t = c))) H
  | [x, .ty c] => (match isiS x c with
    | some b => Q (.bl b) H
    | none => False)
  | _ => False
theorem isi_kit {K : PySem.W.Frag} {t c : String} (h : isiR t c) : PySem.W.kitOne K (.type t) (.type c) = some (decide (t = c)) := by
  obtain ⟨h1, h2⟩ := h
  rcases h1 with rfl | rfl | rfl <;> rcases h2 with rfl | rfl | rfl | rfl | rfl | rfl <;> exact kit_ty (by decide +kernel)
theorem isiS_ok {K : PySem.W.Frag} {H : Hp} {x : V} {c : String} {b : Bool} (h : isiS x c = some b) : ∃ t, TyX K H x (.type t) ∧ PySem.W.kitOne K (.type t) (.type c) = some b := by
  cases x <;> simp only [isiS] at h
  case non =>
    split at h
    · rename_i q
      cases h
      rcases q with rfl | rfl | rfl | rfl | rfl | rfl <;> exact ⟨"NoneType", .base .non, kit_ty (by decide +kernel)⟩
    · cases h
  case bl v =>
    split at h
    · rename_i q
      cases h
      rcases q with rfl | rfl <;> exact ⟨"bool", .base (.bl v), kit_ty (by decide +kernel)⟩
    · split at h
      · rename_i q
        cases h
        rcases q with rfl | rfl | rfl | rfl <;> exact ⟨"bool", .base (.bl v), kit_ty (by decide +kernel)⟩
      · cases h
  case int v =>
    split at h
    · rename_i q
      cases h
      subst q
      exact ⟨"int", .base (.int v), kit_ty (by decide +kernel)⟩
    · split at h
      · rename_i q
        cases h
        rcases q with rfl | rfl | rfl | rfl | rfl <;> exact ⟨"int", .base (.int v), kit_ty (by decide +kernel)⟩
      · cases h
  case str v =>
    split at h
    · rename_i q
      cases h
      subst q
      exact ⟨"str", .base (.str v), kit_ty (by decide +kernel)⟩
    · split at h
      · rename_i q
        cases h
        rcases q with rfl | rfl | rfl | rfl | rfl <;> exact ⟨"str", .base (.str v), kit_ty (by decide +kernel)⟩
      · cases h
  all_goals cases h
theorem c_isi : CallR X (.builtin "isinstance") (cIsi X.K) := CallR.imp call_isi fun xs H Q h => by
  unfold cIsi at h
  split at h
  · obtain ⟨t, ty, r, q⟩ := h
    exact ⟨_, _, _, _, _, rfl, .ty _, ty, isi_kit r, q⟩
  · split at h
    · rename_i b e
      obtain ⟨t, ty, k⟩ := isiS_ok (K := X.K) (H := H) e
      exact ⟨_, _, _, _, _, rfl, .ty _, ty, k, h⟩
    · exact h.elim
  · exact h.elim
theorem tyx_l {K : PySem.W.Frag} {H : Hp} {p : Addr} {xs : List V} (h : SqL K H p xs) : TyX K H (.ref p) (.type "list") := by
  rcases h with (h | ⟨o, h⟩) | ⟨o, its, n, h, c, _⟩
  · exact .base (.lst h)
  · exact .base (.frz h)
  · exact .kList h c
theorem tyx_t {K : PySem.W.Frag} {H : Hp} {p : Addr} {xs : List V} (h : SqT K H p xs) : TyX K H (.ref p) (.type "tuple") := by
  rcases h with (h | ⟨o, h⟩) | ⟨o, its, n, h, c, _⟩
  · exact .base (.tup h)
  · exact .fTuple h
  · exact .kTuple h c
def SqA (K : PySem.W.Frag) (H : Hp) (a : Addr) (xs : List V) : Prop := SqL K H a xs ∨ SqT K H a xs
def iSeq (K : PySem.W.Frag) (tl : TE) : TI := fun σ H R => tl σ H fun x H1 => ∃ a, x = .ref a ∧ (((∃ xs, SqL K H1 a xs) ∧ R (Itl K a) H1) ∨ ((∃ xs, SqT K H1 a xs) ∧ R (Itt K a) H1))
theorem pi_seq {tg l : Expr} {tl : TE} (hl : PE X l tl) : PI X tg l (iSeq X.K tl) := by
  refine ⟨fun pins s σ H R I h => ?_⟩
  refine thn (hl.run pins s σ H _ I h) fun v s1 ⟨x, H1, I1, r1, q1⟩ => ?_
  obtain ⟨a, e, q⟩ := q1
  subst e
  cases r1
  rcases q with ⟨⟨xs, hq⟩, q⟩ | ⟨⟨xs, hq⟩, q⟩
  · obtain ⟨its, rv, p, hz⟩ := I1.list hq
    refine wpAny_pyIter_list p.isList ?_
    refine ⟨s1.heap.objs.size, [s1.heap.objs.size], _, _, H1, rfl, I1.kept (t' := s1.toks) fun b o e => Heap.get?_push_of_some _ e, turn_list a _, ⟨_, Heap.get?_push_size _ rfl, rfl, rfl⟩, fun b hb => ?_, q⟩
    have e : b = s1.heap.objs.size := by simpa using hb
    subst e
    exact I1.fpOk (Nat.le_refl _) (I1.hok.fresh (Nat.le_refl _))
  · obtain ⟨its, rv, p, hz⟩ := I1.tuple hq
    refine wpAny_pyIter_tuple (show s1.heap.IsTuple a its.toArray from p) ?_
    refine ⟨s1.heap.objs.size, [s1.heap.objs.size], _, _, H1, rfl, I1.kept (t' := s1.toks) fun b o e => Heap.get?_push_of_some _ e, turn_tuple a _, ⟨_, Heap.get?_push_size _ rfl, rfl, rfl⟩, fun b hb => ?_, q⟩
    have e : b = s1.heap.objs.size := by simpa using hb
    subst e
    exact I1.fpOk (Nat.le_refl _) (I1.hok.fresh (Nat.le_refl _))
end
structure Fx (fa : List He.Fa) (fn : List He.DefD) (K : PySem.W.Frag) (mg : Str → Option Value) : Prop where
  ex : ∃ h : Heap, K.In h ∧ h.Ns mainGlobals mg
  c : He.SaysD fa fn K
section
variable {fa : List He.Fa} {fn : List He.DefD} {K : PySem.W.Frag} {mg : Str → Option Value}
theorem Fx.glo (T : Fx fa fn K mg) (i : Nat) {x : Str} (h : fa[i]? = some (.glo x) := by rfl) : mg x = some (.ref (He.ga K x)) := let ⟨_, KX, G⟩ := T.ex; He.glo_ok KX G (T.c.fact i h)
theorem Fx.free (T : Fx fa fn K mg) (i : Nat) {x : Str} (h : fa[i]? = some (.free x) := by rfl) : mg x = none := let ⟨_, KX, G⟩ := T.ex; He.free_ok KX G (T.c.fact i h)
theorem Fx.cls (T : Fx fa fn K mg) (i : Nat) {x : Str} (h : fa[i]? = some (.cls x) := by rfl) : Cls K (He.ga K x) := He.cls_ok (T.c.fact i h)
end
end Co
end

section
set_option maxHeartbeats 4000000
namespace Co
open PySem PySem.Spec PyProof.Rows L2
section
variable {fa : List He.Fa} {fn : List He.DefD} {K : PySem.W.Frag} {mg : Str → Option Value}
theorem Fx.noat (T : Fx fa fn K mg) (i : Nat) {x f : Str} (h : fa[i]? = some (.noat x f) := by rfl) : NoAttr K (He.ga K x) f := He.noat_ok (T.c.fact i h)
theorem Fx.meth (T : Fx fa fn K mg) (i : Nat) {x m : Str} (h : fa[i]? = some (.meth x m) := by rfl) : Meth K (He.ga K x) m (He.ma K (He.ga K x) m) := He.meth_ok (T.c.fact i h)
theorem Fx.mkr (T : Fx fa fn K mg) (i : Nat) {x : Str} (h : fa[i]? = some (.mkr x) := by rfl) : Mk K (He.ga K x) (He.ma K (He.ga K x) "__init__") := He.mkr_ok (T.c.fact i h)
theorem Fx.exm (T : Fx fa fn K mg) (i : Nat) {x y : Str} {b : Bool} (h : fa[i]? = some (.exm x y b) := by rfl) : PySem.W.exmOne K (.ref (He.ga K x)) (.ref (He.ga K y)) = some b := He.exm_ok (T.c.fact i h)
theorem Fx.mk0 (T : Fx fa fn K mg) (i : Nat) {X : Cx} {x : Str} {p pos : Pos} (gC : X.mg x = some (.ref (He.ga X.K x))) (e1 : X.K = K := by rfl) (hg : Gl X x := by rfl) (h : fa[i]? = some (.exc x) := by rfl)
    (hdb : (x == ("__debug__" : Str)) = false := by decide) : PMk X (.Call (.Name x p) [] [] pos) (fun _ H Q => Q (.ref (He.ga K x)) none H) := by
  subst e1
  obtain ⟨q1, q2, q3, q4⟩ := He.exc_ok (T.c.fact i h)
  exact mk_own0 PySem.F.excBase_ValueError q1 gC q2 (raises_own q3 q4) hg hdb
end
def uLc (wi : TI) (g : TG) (tt : TT) (te : TE) (vs : List Nat) : TE := fun σ H Q => wi σ H fun J H1 => ∀ D, H1 D = none → ∃ W : Nat → Nat → Hp → Prop, (∃ m, W 0 m (upd H1 D (.lst []))) ∧ ∀ i m H, W i m H →
  (J.stop i H ∧ Q (.ref D) H) ∨ (J.go i H ∧ ∃ Nx : Hp → Prop, (∀ H', Nx H' → ∃ m', m' < m ∧ W (i + 1) m' H') ∧ ∀ x H', J.yld i H x H' → g x (wipe σ vs) H' fun σ2 H2 => wipe σ2 vs = wipe σ vs ∧ tt σ2 H2 fun b H3 =>
    two b (te σ2 H3 fun y H4 => ∃ acc, H4 D = some (.lst acc) ∧ acc.length < sizeLine ∧ Nx (upd H4 D (.lst (acc ++ [y])))) (Nx H3))
theorem lc_eq {wi : TI} {g : TG} {tt : TT} {te : TE} {vs : List Nat} : tLc wi g tt te vs = uLc wi g tt te vs := by
  unfold tLc uLc
  simp only [two_eq]
section
variable {X : Cx}
theorem e_lc {elt tg iter : Expr} {ifs : List Expr} {scope : Scope} {own : List (Str × Nat)} {pos : Pos} {wi : TI} {g : TG} {tt : TT} {te : TE} (hc : X.calm = true) (hN : X.N.Nodup) (hi : PI X tg iter wi) (ok : BlkOk X.N X.env.scope scope own)
    (hg : ∀ (s : Shared) (H : Hp) (C : Addr) (cl : List (Str × Addr)) (fp : List Addr), PG (X.blk s H scope (compEnvC scope cl C X.env) fp) tg g) (ht : ∀ (s : Shared) (H : Hp) (C : Addr) (cl : List (Str × Addr)) (fp : List Addr), PTs (X.blk s H scope (compEnvC scope cl C X.env) fp) ifs tt)
    (he : ∀ (s : Shared) (H : Hp) (C : Addr) (cl : List (Str × Addr)) (fp : List Addr), PE (X.blk s H scope (compEnvC scope cl C X.env) fp) elt te) (hs : ∀ x, foldedSetIterable iter X.env x = pure x := by intro _; rfl) :
    PE X (.ListComp elt [⟨tg, iter, ifs, 0⟩] scope pos) (uLc wi g tt te (own.map (·.2))) := lc_eq ▸ pe_lc hc hN hi ok hg ht he hs
theorem s_setLc {i : Nat} {y : Str} {py : Pos} {elt tg iter : Expr} {ifs : List Expr} {scope : Scope} {own : List (Str × Nat)} {pos spos : Pos} {wi : TI} {g : TG} {tt : TT} {te : TE} (hc : X.calm = true) (hN : X.N.Nodup) (hy : X.N[i]? = some y) (hyl : X.env.scope.names.lookup y = some .local)
    (hsw : swapsWith (.ListComp elt [⟨tg, iter, ifs, 0⟩] scope pos) (some (.Name y py)) spos.line X.env = pure true) (hi : PI X tg iter wi) (ok : BlkOk X.N X.env.scope scope own)
    (hg : ∀ (s : Shared) (H : Hp) (C : Addr) (cl : List (Str × Addr)) (fp : List Addr), PG (X.blk s H scope (compEnvC scope cl C X.env) fp) tg g) (ht : ∀ (s : Shared) (H : Hp) (C : Addr) (cl : List (Str × Addr)) (fp : List Addr), PTs (X.blk s H scope (compEnvC scope cl C X.env) fp) ifs tt)
    (he : ∀ (s : Shared) (H : Hp) (C : Addr) (cl : List (Str × Addr)) (fp : List Addr), PE (X.blk s H scope (compEnvC scope cl C X.env) fp) elt te) (hs : ∀ x, foldedSetIterable iter X.env x = pure x := by intro _; rfl) :
    PS X (.Assign [.Name y py] (.ListComp elt [⟨tg, iter, ifs, 0⟩] scope pos) spos) (tAsg (uLc wi g tt te (own.map (·.2))) (gName i)) := lc_eq ▸ ps_setLc hc hN hy hyl hsw hi ok hg ht he hs
end
def LcTurn (g : TG) (tt : TT) (te : TE) (vs : List Nat) (σ : St) (D : Addr) (x : V) (H : Hp) (Nx : Hp → Prop) : Prop :=
  g x (wipe σ vs) H fun σ2 H2 => wipe σ2 vs = wipe σ vs ∧ tt σ2 H2 fun b H3 =>
    two b (te σ2 H3 fun y H4 => ∃ acc, H4 D = some (.lst acc) ∧ acc.length < sizeLine ∧ Nx (upd H4 D (.lst (acc ++ [y])))) (Nx H3)
theorem lcL {K : PySem.W.Frag} {tl : TE} {g : TG} {tt : TT} {te : TE} {vs : List Nat} {σ : St} {H : Hp} {Q : VK} (h : tl σ H fun x H1 => ∃ a xs, x = .ref a ∧ SqL K H1 a xs ∧ ∀ D, H1 D = none → ∃ Pv : Nat → Hp → Prop, Pv 0 (upd H1 D (.lst [])) ∧
      (∀ i H, i ≤ xs.length → Pv i H → SqL K H a xs) ∧ (∀ i x H, xs[i]? = some x → Pv i H → LcTurn g tt te vs σ D x H (Pv (i + 1))) ∧ ∀ H, Pv xs.length H → Q (.ref D) H)
    (mono : ∀ Q Q' : VK, (∀ v H1, Q v H1 → Q' v H1) → tl σ H Q → tl σ H Q') : uLc (iList K tl) g tt te vs σ H Q := by
  refine mono _ _ (fun v H1 q => ?_) h
  obtain ⟨a, xs, e, hx, k⟩ := q
  subst e
  refine ⟨a, rfl, ⟨xs, hx⟩, fun D hD => ?_⟩
  obtain ⟨Pv, h0, hl, hs, hd⟩ := k D hD
  refine ⟨fun i m H => m = xs.length - i ∧ i ≤ xs.length ∧ Pv i H, ⟨xs.length, by simp, Nat.zero_le _, h0⟩, ?_⟩
  rintro i m H ⟨rfl, hi, p⟩
  have q := hl i H hi p
  by_cases hlt : i < xs.length
  · refine .inr ⟨⟨xs, xs[i], q, by simp [hlt]⟩, Pv (i + 1), fun H' p' => ⟨xs.length - (i + 1), by omega, rfl, hlt, p'⟩, fun x H' y => ?_⟩
    obtain ⟨e, y⟩ := y
    subst e
    exact hs i x _ (y xs q) p
  · have e : i = xs.length := by omega
    subst e
    exact .inl ⟨⟨xs, q, Nat.le_refl _⟩, hd H p⟩
theorem lcR {ta : TA} {g : TG} {tt : TT} {te : TE} {vs : List Nat} {σ : St} {H : Hp} {Q : VK} (h : ta σ H fun xs H1 => ∃ n : Int, xs = [.int n] ∧ -(2 ^ 62) ≤ n ∧ n < 2 ^ 62 ∧ ∀ D, H1 D = none → ∃ Pv : Nat → Hp → Prop, Pv 0 (upd H1 D (.lst [])) ∧
      (∀ (i : Nat) H, i < n.toNat → Pv i H → LcTurn g tt te vs σ D (.int (i : Int)) H (Pv (i + 1))) ∧ ∀ H, Pv n.toNat H → Q (.ref D) H)
    (mono : ∀ Q Q' : List V → Hp → Prop, (∀ v H1, Q v H1 → Q' v H1) → ta σ H Q → ta σ H Q') : uLc (iRng1 ta) g tt te vs σ H Q := by
  refine mono _ _ (fun v H1 q => ?_) h
  obtain ⟨n, e, h1, h2, k⟩ := q
  subst e
  refine ⟨n, rfl, h1, h2, fun D hD => ?_⟩
  obtain ⟨Pv, h0, hs, hd⟩ := k D hD
  refine ⟨fun i m H => m = n.toNat - i ∧ i ≤ n.toNat ∧ Pv i H, ⟨n.toNat, by simp, Nat.zero_le _, h0⟩, ?_⟩
  rintro i m H ⟨rfl, hi, p⟩
  by_cases hlt : i < n.toNat
  · refine .inr ⟨hlt, Pv (i + 1), fun H' p' => ⟨n.toNat - (i + 1), by omega, rfl, hlt, p'⟩, fun x H' y => ?_⟩
    obtain ⟨e, y⟩ := y
    subst e y
    rw [Int.zero_add]
    exact hs i _ hlt p
  · have e : i = n.toNat := by omega
    subst e
    exact .inl ⟨Nat.le_refl _, hd H p⟩
theorem forL {K : PySem.W.Frag} {a : Addr} {xs : List V} {g : TG} {tb : TS} {D : Ends} {σ : St} {H : Hp} (hq : SqL K H a xs) (Pv : Nat → St → Hp → Prop) (h0 : Pv 0 σ H) (hl : ∀ i σ H, i ≤ xs.length → Pv i σ H → SqL K H a xs)
    (hs : ∀ i x σ H, xs[i]? = some x → Pv i σ H → g x σ H fun σ2 H2 => tb { D with nx := Pv (i + 1), ct := Pv (i + 1), bk := D.nx } σ2 H2) (hd : ∀ σ H, Pv xs.length σ H → D.nx σ H) : tFor (iList K (fun _ H Q => Q (.ref a) H)) g tb D σ H :=
  ⟨a, rfl, ⟨xs, hq⟩, for_list Pv h0 hl hs hd⟩
theorem forL_of {K : PySem.W.Frag} {tl : TE} {g : TG} {tb : TS} {D : Ends} {σ : St} {H : Hp} {a : Addr} {xs : List V} (hv : ∀ Q : VK, Q (.ref a) H → tl σ H Q) (hq : SqL K H a xs) (Pv : Nat → St → Hp → Prop) (h0 : Pv 0 σ H) (hl : ∀ i σ H, i ≤ xs.length → Pv i σ H → SqL K H a xs)
    (hs : ∀ i x σ H, xs[i]? = some x → Pv i σ H → g x σ H fun σ2 H2 => tb { D with nx := Pv (i + 1), ct := Pv (i + 1), bk := D.nx } σ2 H2) (hd : ∀ σ H, Pv xs.length σ H → D.nx σ H) : tFor (iList K tl) g tb D σ H :=
  hv _ ⟨a, rfl, ⟨xs, hq⟩, for_list Pv h0 hl hs hd⟩
theorem forA_of {K : PySem.W.Frag} {tl : TE} {g : TG} {tb : TS} {D : Ends} {σ : St} {H : Hp} {a : Addr} {xs : List V} (hv : ∀ Q : VK, Q (.ref a) H → tl σ H Q) (hq : SqA K H a xs) (Pv : Nat → St → Hp → Prop) (h0 : Pv 0 σ H) (hl : ∀ i σ H', i ≤ xs.length → Pv i σ H' → Same H H')
    (hs : ∀ i x σ H, xs[i]? = some x → Pv i σ H → g x σ H fun σ2 H2 => tb { D with nx := Pv (i + 1), ct := Pv (i + 1), bk := D.nx } σ2 H2) (hd : ∀ σ H, Pv xs.length σ H → D.nx σ H) : tFor (iSeq K tl) g tb D σ H := by
  refine hv _ ⟨a, rfl, ?_⟩
  rcases hq with hq | hq
  · exact .inl ⟨⟨xs, hq⟩, for_list Pv h0 (fun i σ' H' hi p => (hl i σ' H' hi p).seq hq) hs hd⟩
  · refine .inr ⟨⟨xs, hq⟩, for_tup Pv h0 (fun i σ' H' hi p => ?_) hs hd⟩
    have e := hl i σ' H' hi p
    rcases hq with (h | ⟨o, h⟩) | h
    · exact .inl (.inl (e _ _ h))
    · exact .inl (.inr ⟨o, e _ _ h⟩)
    · exact .inr h
def Fr (S : List Addr) (H H' : Hp) : Prop := ∀ b o, H b = some o → b ∉ S → H' b = some o
theorem Fr.refl (S : List Addr) (H : Hp) : Fr S H H := fun _ _ h _ => h
theorem Fr.trans {S : List Addr} {H H1 H2 : Hp} (a : Fr S H H1) (b : Fr S H1 H2) : Fr S H H2 := fun c o h n => b c o (a c o h n) n
theorem Fr.mono {S S' : List Addr} {H H1 : Hp} (a : Fr S H H1) (h : ∀ b ∈ S, b ∈ S') : Fr S' H H1 := fun c o e n => a c o e fun z => n (h c z)
theorem Fr.of {S : List Addr} {H H' : Hp} (a : Same H H') : Fr S H H' := fun b o h _ => a b o h
theorem Fr.at1 {p q : Addr} {H H' : Hp} {o : HO} (a : Fr [p] H H') (h : H q = some o) (n : q ≠ p) : H' q = some o := a q o h (by simp [n])
theorem Fr.at0 {q : Addr} {H H' : Hp} {o : HO} (a : Fr [] H H') (h : H q = some o) : H' q = some o := a q o h (by simp)
theorem Fr.same {H H' : Hp} (a : Fr [] H H') : Same H H' := fun b o h => a b o h (by simp)
theorem Fr.new {S : List Addr} {H H' : Hp} {p : Addr} {o : HO} (a : Fr S H H') (h : H' p = none) : Fr S H (upd H' p o) := fun b u e n => by
  have q := a b u e n
  rw [upd_ne (ne_of_none q h)]
  exact q
theorem Fr.wr {S : List Addr} {H H' : Hp} {p : Addr} {o : HO} (a : Fr S H H') (h : p ∈ S) : Fr S H (upd H' p o) := fun b u e n => by
  rw [upd_ne (show b ≠ p from fun z => n (by rw [z]; exact h))]
  exact a b u e n
theorem Fr.loc {S : List Addr} {H H' : Hp} {p : Addr} {o : HO} (a : Fr S H H') (h : H p = none) : Fr S H (upd H' p o) := fun b u e n => by
  rw [upd_ne (ne_of_none e h)]
  exact a b u e n
theorem same_new {H H' : Hp} {p : Addr} {o : HO} (a : Same H H') (h : H' p = none) : Same H (upd H' p o) := fun b u e => by
  rw [upd_ne (ne_of_none (a b u e) h)]
  exact a b u e
theorem same_loc {H H' : Hp} {p : Addr} {o : HO} (a : Same H H') (h : H p = none) : Same H (upd H' p o) := fun b u e => by
  rw [upd_ne (ne_of_none e h)]
  exact a b u e
theorem same_fr {M H H' : Hp} {S : List Addr} (a : Same M H) (b : Fr S H H') (h : ∀ p ∈ S, M p = none) : Same M H' := fun c o e => b c o (a c o e) fun z => by
  rw [h c z] at e
  cases e
theorem same_fr1 {M H H' : Hp} {p : Addr} (a : Same M H) (b : Fr [p] H H') (h : M p = none) : Same M H' := same_fr a b fun q hq => by
  have e : q = p := by simpa using hq
  rw [e]
  exact h
theorem same_grow {M H : Hp} {p : Addr} {o : HO} (a : Same M H) (h : H p = some o) : Same (upd M p o) H := fun b u e => by
  by_cases z : b = p
  · subst z
    rw [upd_same] at e
    cases e
    exact h
  · rw [upd_ne z] at e
    exact a b u e
theorem same_grow0 {M : Hp} {p : Addr} {o : HO} (h : M p = none) : Same M (upd M p o) := fun b u e => by
  rw [upd_ne (ne_of_none e h)]
  exact e
theorem keep_new {H : Hp} {p q : Addr} {o o' : HO} (h : H p = none) (e : H q = some o) : upd H p o' q = some o := by
  rw [upd_ne (ne_of_none e h)]
  exact e
theorem keep_ne {H : Hp} {p q : Addr} {o o' : HO} (n : q ≠ p) (e : H q = some o) : upd H p o' q = some o := by
  rw [upd_ne n]
  exact e
theorem sqT_same {K : PySem.W.Frag} {H H' : Hp} {a : Addr} {xs : List V} (e : Same H H') (h : SqT K H a xs) : SqT K H' a xs := by
  rcases h with (h | ⟨o, h⟩) | h
  · exact .inl (.inl (e _ _ h))
  · exact .inl (.inr ⟨o, e _ _ h⟩)
  · exact .inr h
mutual
theorem dp_mono {K : PySem.W.Frag} {H H' : Hp} (e : Same H H') : ∀ {d : PyData} {v : V}, Dp K H v d → Dp K H' v d
  | .none, _, h => by cases h; exact .non
  | .bool b, _, h => by cases h; exact .bl b
  | .int i, _, h => by cases h; exact .int i
  | .str x, _, h => by cases h; exact .str x
  | .list ds, _, h => by
    cases h with
    | lst hs ha => exact .lst (e.seq hs) (dpAll_mono e ha)
  | .tuple ds, _, h => by
    cases h with
    | tup hs ha => exact .tup (sqT_same e hs) (dpAll_mono e ha)
  | .dict _, _, h => by cases h
theorem dpAll_mono {K : PySem.W.Frag} {H H' : Hp} (e : Same H H') : ∀ {ds : List PyData} {vs : List V}, DpAll K H vs ds → DpAll K H' vs ds
  | [], _, h => by cases h; exact .nil
  | d :: ds, _, h => by
    cases h with
    | cons h1 h2 => exact .cons (dp_mono e h1) (dpAll_mono e h2)
end
theorem dpAll_length {K : PySem.W.Frag} {H : Hp} : ∀ {ds : List PyData} {vs : List V}, DpAll K H vs ds → vs.length = ds.length
  | [], _, h => by cases h; rfl
  | d :: ds, _, h => by
    cases h with
    | cons h1 h2 => simp [dpAll_length h2]
theorem dpAll_get {K : PySem.W.Frag} {H : Hp} : ∀ {ds : List PyData} {vs : List V} {i : Nat} {d : PyData}, DpAll K H vs ds → ds[i]? = some d → ∃ v, vs[i]? = some v ∧ Dp K H v d
  | [], _, _, _, h, e => by simp at e
  | d :: ds, _, 0, _, h, e => by
    cases h with
    | cons h1 h2 =>
      simp at e
      subst e
      exact ⟨_, rfl, h1⟩
  | d :: ds, _, i + 1, _, h, e => by
    cases h with
    | cons h1 h2 => exact dpAll_get (i := i) h2 (by simpa using e)
theorem dpAll_append {K : PySem.W.Frag} {H : Hp} : ∀ {ds es : List PyData} {vs ws : List V}, DpAll K H vs ds → DpAll K H ws es → DpAll K H (vs ++ ws) (ds ++ es)
  | [], _, _, _, h, h' => by cases h; exact h'
  | d :: ds, _, _, _, h, h' => by
    cases h with
    | cons h1 h2 => exact .cons h1 (dpAll_append h2 h')
theorem atNat {α : Type} {xs : List α} {i : Int} {v : α} (h0 : 0 ≤ i) (h : xs[i.toNat]? = some v) : atI xs i = some v := by
  have e : i = ((i.toNat : Nat) : Int) := by omega
  rw [e]
  exact atI_nat h
end Co
end

section
set_option maxHeartbeats 4000000
namespace Co
open PySem PySem.Spec PyProof.Rows L2
section
variable {X : Cx}
def LenR (K : PySem.W.Frag) (H : Hp) (p : Addr) (n : Nat) : Prop := (∃ ys, SqA K H p ys ∧ n = ys.length) ∨ ∃ kvs, H p = some (.dK kvs) ∧ n = kvs.length
def cLenA (K : PySem.W.Frag) : List V → Hp → VK → Prop := fun xs H Q => match xs with
  | [.str z] => z.length ≤ sizeLine ∧ Q (.int z.length) H
  | [.ref p] => ∃ n, LenR K H p n ∧ Q (.int (n : Nat)) H
  | _ => False
theorem c_lenA : CallR X (.builtin "len") (cLenA X.K) := CallR.imp (CallR.or call_len_seq (CallR.or call_len_str call_lenD)) fun xs H Q h => by
  unfold cLenA at h
  split at h
  · exact .inr (.inl ⟨_, rfl, h⟩)
  · obtain ⟨n, ⟨ys, hs, rfl⟩ | ⟨kvs, hs, rfl⟩, q⟩ := h
    · exact .inl ⟨_, _, rfl, hs, q⟩
    · exact .inr (.inr ⟨_, _, rfl, hs, q⟩)
  · exact h.elim
end
theorem lenL {K : PySem.W.Frag} {H : Hp} {p : Addr} {ys : List V} (h : H p = some (.lst ys)) : LenR K H p ys.length := .inl ⟨_, .inl (SqL.of h), rfl⟩
theorem lenT {K : PySem.W.Frag} {H : Hp} {p : Addr} {ys : List V} (h : SqT K H p ys) : LenR K H p ys.length := .inl ⟨_, .inr h, rfl⟩
structure Pool (H : Hp) (p q : Addr) (ns : List Int) (i d s : Int) : Prop where
  hp : H p = some (.lst [.ref q, .int i, .int d, .int s])
  hq : H q = some (.lst (ns.map V.int))
  ne : q ≠ p
  nn : ∀ n ∈ ns, 0 ≤ n
  hi : 0 ≤ i
  hd : 0 ≤ d
  hs : 0 ≤ s
  hs2 : s < 2147483647
def PoolAt (H : Hp) (p q : Addr) : Prop := ∃ ns i d s, Pool H p q ns i d s
def sp_pool (K : PySem.W.Frag) : Sp := fun vs H Q _ => match vs with
  | [.ref a] => ∃ ns : List Int, SqL K H a (ns.map V.int) ∧ ns.length ≤ 63 ∧ ∀ p q H', H p = none → H q = none → PoolAt H' p q → Same H H' → Q (.ref p) H'
  | _ => False
def sp_take (n : Nat) : Sp := fun vs H Q _ => match vs with
  | [.ref p, .int m] => 0 < n ∧ ∃ q, (∃ ns i d s, Pool H p q ns i d s ∧ (n = 1 → 0 < d)) ∧ 0 < m ∧ m < 2 ^ 250 ∧ ∀ (r : Int) H', 0 ≤ r → r < m → PoolAt H' p q → Fr [p] H H' → Q (.int r) H'
  | _ => False
def t_Lpool (K : PySem.W.Frag) : TS :=
 (tRet (tLst (tCons (uLc (iList K (tV 0)) (gName 1) tYes (uIf (tBo (tOp fGe (tV 1) (tC (.int 0)))) (tOp fMul (tC (.int 2)) (tV 1)) (tOp fSub (tOp fMul (tUn fNeg (tC (.int 2))) (tV 1)) (tC (.int 1)))) ([("_law_cell", 1)].map (·.2))) (tCons (tC (.int 0)) (tCons (tC (.int 0)) (tCons (tC (.int 17)) tNil))))))
def t_Ltake (K : PySem.W.Frag) (sp : Sp) : TS :=
 (tSeq (uIfS (tBo (tOp fGt (tOp (rIxL K) (tV 0) (tC (.int 2))) (tC (.int 0)))) (tSeq (tAsg (tOp fMod (tCB cInt (tCons (tOp (rIxL K) (tV 0) (tC (.int 2))) tNil)) (tV 1)) (gName 2))
 (tSeq (tAsg (tOp fDiv (tOp (rIxL K) (tV 0) (tC (.int 2))) (tV 1)) (gSub (tV 0) (tC (.int 2)) rSetL))
 (tRet (tV 2)))) tNext)
 (tSeq (tAsg (tC (.int 0)) (gName 3))
 (tSeq (uIfS (tBo (tOp fLt (tOp (rIxL K) (tV 0) (tC (.int 1))) (tCB (cLenA K) (tCons (tOp (rIxL K) (tV 0) (tC (.int 0))) tNil)))) (tAsg (tOp (rIx K) (tOp (rIxL K) (tV 0) (tC (.int 0))) (tOp (rIxL K) (tV 0) (tC (.int 1)))) (gName 3)) tNext)
 (tSeq (tAsg (tOp fAdd (tOp (rIxL K) (tV 0) (tC (.int 1))) (tC (.int 1))) (gSub (tV 0) (tC (.int 1)) rSetL))
 (tSeq (uIfS (tBo (tOp fGe (tV 3) (tOp fPow (tC (.int 10)) (tC (.int 18))))) (tSeq (tAsg (tOp fDiv (tV 3) (tC (.int 2))) (gSub (tV 0) (tC (.int 2)) rSetL))
 (tRet (uCall sp E0 (tCons (tV 0) (tCons (tV 1) tNil))))) tNext)
 (tSeq (tAsg (tOp fMod (tCB cInt (tCons (tOp fAdd (tOp fAdd (tOp fMul (tOp (rIxL K) (tV 0) (tC (.int 3))) (tC (.int 48271))) (tOp fMul (tV 3) (tC (.int 69621)))) (tOp fMul (tOp (rIxL K) (tV 0) (tC (.int 1))) (tC (.int 613)))) tNil)) (tC (.int 2147483647))) (gSub (tV 0) (tC (.int 3)) rSetL))
 (tSeq (tAsg (tOp fMod (tCB cInt (tCons (tOp fAdd (tOp fAdd (tOp fMul (tOp (rIxL K) (tV 0) (tC (.int 3))) (tOp (rIxL K) (tV 0) (tC (.int 3)))) (tOp fMul (tOp (rIxL K) (tV 0) (tC (.int 3))) (tC (.int 7919)))) (tC (.int 104729))) tNil)) (tC (.int 1000000007))) (gName 4))
 (tRet (tOp fMod (tCB cInt (tCons (tOp fDiv (tV 4) (tC (.int 3))) tNil)) (tV 1))))))))))
abbrev Dn (Q : VK) : Ends := { nx := fun _ H' => Q .non H', rt := Q }
theorem PoolAt.fr {H H' : Hp} {p q : Addr} {S : List Addr} (h : PoolAt H p q) (f : Fr S H H') (n1 : p ∉ S) (n2 : q ∉ S) : PoolAt H' p q := by
  obtain ⟨ns, i, d, s, P⟩ := h
  exact ⟨ns, i, d, s, ⟨f _ _ P.hp n1, f _ _ P.hq n2, P.ne, P.nn, P.hi, P.hd, P.hs, P.hs2⟩⟩
theorem PoolAt.same {H H' : Hp} {p q : Addr} (h : PoolAt H p q) (f : Same H H') : PoolAt H' p q := h.fr (S := []) (Fr.of f) (by simp) (by simp)
theorem PoolAt.take {H : Hp} {p q : Addr} (h : PoolAt H p q) : ∃ ns i d s, Pool H p q ns i d s ∧ (2 = 1 → 0 < d) := by
  obtain ⟨ns, i, d, s, P⟩ := h
  exact ⟨ns, i, d, s, P, fun e => absurd e (by decide)⟩
theorem PoolAt.ex {H : Hp} {p q : Addr} (h : PoolAt H p q) : (∃ o, H p = some o) ∧ (∃ o, H q = some o) ∧ p ≠ q := by
  obtain ⟨ns, i, d, s, P⟩ := h
  exact ⟨⟨_, P.hp⟩, ⟨_, P.hq⟩, P.ne.symm⟩
theorem len_pool {K : PySem.W.Frag} : ∀ vs H Q E, sp_pool K vs H Q E → vs.length = 1 := fun vs H Q E h => by
  unfold sp_pool at h
  split at h
  · rfl
  · exact h.elim
theorem len_take {n : Nat} : ∀ vs H Q E, sp_take n vs H Q E → vs.length = 2 := fun vs H Q E h => by
  unfold sp_take at h
  split at h
  · rfl
  · exact h.elim
theorem mapInt_get {ns : List Int} {i : Nat} {x : V} (h : (ns.map V.int)[i]? = some x) : ∃ z, x = .int z ∧ ns[i]? = some z := by
  rw [List.getElem?_map] at h
  cases e : ns[i]? with
  | none => rw [e] at h; cases h
  | some z => rw [e] at h; exact ⟨z, (Option.some.inj h).symm, rfl⟩
theorem r_Lpool {K : PySem.W.Frag} {vs : List V} {H : Hp} {Q : VK} {E : XK} (h : sp_pool K vs H Q E) : t_Lpool K (Dn Q) (start ["_law_script", "_law_cell"] vs) H := by
  unfold sp_pool at h
  split at h
  · rename_i a
    obtain ⟨ns, hs, hl, k⟩ := h
    unfold t_Lpool tRet tLst tCons
    refine lcL ?_ (fun Q Q' i q => i _ _ q)
    refine ⟨a, _, rfl, hs, fun D hD => ?_⟩
    refine ⟨fun i H' => ∃ ms : List Int, H' D = some (.lst (ms.map V.int)) ∧ (∀ n ∈ ms, 0 ≤ n) ∧ ms.length ≤ i ∧ Same H H', ⟨[], upd_same, by simp, Nat.le_refl _, same_new (Same.refl H) hD⟩, fun i H' _ ⟨_, _, _, _, s⟩ => s.seq hs, ?_, ?_⟩
    · rintro i x H' hx ⟨ms, h1, h2, h3, s⟩
      have hil : i < ns.length := by
        have := (List.getElem?_eq_some_iff.mp hx).1
        simpa using this
      obtain ⟨z, rfl, -⟩ := mapInt_get hx
      refine ⟨rfl, ⟨fun _ => ?_, fun e => nomatch e⟩⟩
      have fin : ∀ w : Int, 0 ≤ w → ∃ acc, H' D = some (.lst acc) ∧ acc.length < sizeLine ∧ ∃ ms : List Int, (upd H' D (.lst (acc ++ [V.int w]))) D = some (.lst (ms.map V.int)) ∧ (∀ n ∈ ms, 0 ≤ n) ∧ ms.length ≤ i + 1 ∧ Same H (upd H' D (.lst (acc ++ [V.int w]))) := fun w hw => by
        refine ⟨_, h1, ?_, ms ++ [w], ?_, ?_, ?_, same_loc s hD⟩
        · rw [List.length_map]
          exact small1000 (by omega)
        · rw [upd_same, List.map_append]
          rfl
        · intro n hn
          rcases List.mem_append.mp hn with hn | hn
          · exact h2 n hn
          · simp at hn
            omega
        · simp
          omega
      refine ⟨fun e => ?_, fun e => ?_⟩
      · have e' : 0 ≤ z := of_decide_eq_true e
        exact ⟨.inl ⟨by decide, by decide⟩, fin _ (by omega)⟩
      · have e' : ¬ 0 ≤ z := of_decide_eq_false e
        exact ⟨.inl ⟨by decide, by decide⟩, fin _ (by omega)⟩
    · rintro H' ⟨ms, h1, h2, h3, s⟩
      refine ⟨by show 4 ≤ sizeLine; rw [sizeLine_eq]; omega, fun p hp => ?_⟩
      refine k p D _ (s.free hp) hD ⟨ms, 0, 0, 17, ⟨upd_same, keep_new hp h1, ne_of_none h1 hp, h2, by decide, by decide, by decide, by decide⟩⟩ (same_new s hp)
  · exact h.elim
theorem r_Ltake {K : PySem.W.Frag} {n : Nat} {vs : List V} {H : Hp} {Q : VK} {E : XK} (h : sp_take (n + 1) vs H Q E) : t_Ltake K (sp_take n) (Dn Q) (start ["_law_pool_here", "_law_many", "_law_digit", "_law_cell", "_law_mixed"] vs) H := by
  unfold sp_take at h
  split at h
  · rename_i p m
    obtain ⟨_, q, ⟨ns, i, d, s, P, hd1⟩, hm, hm2, k⟩ := h
    refine ⟨_, _, _, _, rfl, rfl, SqL.of P.hp, rfl, ⟨fun e => ?_, fun e => ?_⟩⟩
    · have e' : 0 < d := of_decide_eq_true e
      refine ⟨_, _, _, _, rfl, rfl, SqL.of P.hp, rfl, ⟨hm, ?_⟩⟩
      refine ⟨_, _, _, _, rfl, rfl, SqL.of P.hp, rfl, ⟨⟨hm, hm2⟩, ?_⟩⟩
      refine ⟨_, _, _, _, rfl, rfl, P.hp, rfl, ?_⟩
      refine k _ _ (Int.emod_nonneg _ (by omega)) (Int.emod_lt_of_pos _ hm) ⟨ns, i, d / m, s, ⟨upd_same, keep_ne P.ne P.hq, P.ne, P.nn, P.hi, Int.ediv_nonneg P.hd (by omega), P.hs, P.hs2⟩⟩ ?_
      exact (Fr.refl _ _).wr (by simp)
    · have e' : ¬ 0 < d := of_decide_eq_false e
      have hn : n ≠ 0 := fun z => by
        subst z
        exact e' (hd1 rfl)
      refine ⟨_, _, _, _, rfl, rfl, SqL.of P.hp, rfl, ?_⟩
      refine ⟨_, _, _, _, rfl, rfl, SqL.of P.hp, rfl, ⟨_, lenL P.hq, ?_⟩⟩
      have tail : ∀ c : Int, 0 ≤ c → ∀ σ' : St, σ' = [some (.ref p), some (.int m), none, some (.int c), none] →
          (tSeq (tAsg (tOp fAdd (tOp (rIxL K) (tV 0) (tC (.int 1))) (tC (.int 1))) (gSub (tV 0) (tC (.int 1)) rSetL))
 (tSeq (uIfS (tBo (tOp fGe (tV 3) (tOp fPow (tC (.int 10)) (tC (.int 18))))) (tSeq (tAsg (tOp fDiv (tV 3) (tC (.int 2))) (gSub (tV 0) (tC (.int 2)) rSetL))
 (tRet (uCall (sp_take n) E0 (tCons (tV 0) (tCons (tV 1) tNil))))) tNext)
 (tSeq (tAsg (tOp fMod (tCB cInt (tCons (tOp fAdd (tOp fAdd (tOp fMul (tOp (rIxL K) (tV 0) (tC (.int 3))) (tC (.int 48271))) (tOp fMul (tV 3) (tC (.int 69621)))) (tOp fMul (tOp (rIxL K) (tV 0) (tC (.int 1))) (tC (.int 613)))) tNil)) (tC (.int 2147483647))) (gSub (tV 0) (tC (.int 3)) rSetL))
 (tSeq (tAsg (tOp fMod (tCB cInt (tCons (tOp fAdd (tOp fAdd (tOp fMul (tOp (rIxL K) (tV 0) (tC (.int 3))) (tOp (rIxL K) (tV 0) (tC (.int 3)))) (tOp fMul (tOp (rIxL K) (tV 0) (tC (.int 3))) (tC (.int 7919)))) (tC (.int 104729))) tNil)) (tC (.int 1000000007))) (gName 4))
 (tRet (tOp fMod (tCB cInt (tCons (tOp fDiv (tV 4) (tC (.int 3))) tNil)) (tV 1))))))) (Dn Q) σ' H := by
        rintro c hc σ' rfl
        refine ⟨_, _, _, _, rfl, rfl, SqL.of P.hp, rfl, ?_⟩
        refine ⟨_, _, _, _, rfl, rfl, P.hp, rfl, ?_⟩
        refine ⟨⟨by decide, by decide, by decide⟩, ⟨fun e2 => ?_, fun e2 => ?_⟩⟩
        · have e3 : (10 : Int) ^ (Int.toNat 18) ≤ c := of_decide_eq_true e2
          have e4 : (10 : Int) ^ (Int.toNat 18) = 1000000000000000000 := by decide
          refine ⟨⟨by decide, by decide⟩, ?_⟩
          refine ⟨_, _, _, _, rfl, rfl, upd_same, rfl, ?_⟩
          refine ⟨by omega, q, ⟨ns, i + 1, c / 2, s, ⟨upd_same, keep_ne P.ne (keep_ne P.ne P.hq), P.ne, P.nn, by have := P.hi; omega, by omega, P.hs, P.hs2⟩, fun _ => by omega⟩, hm, hm2, fun r H' h0 h1 h2 h3 => ?_⟩
          exact k r H' h0 h1 h2 ((((Fr.refl [p] H).wr (by simp)).wr (by simp)).trans h3)
        · refine ⟨_, _, _, _, rfl, rfl, SqL.of upd_same, rfl, ⟨.inr (.inl ⟨by decide, by decide⟩), ⟨.inr (.inl ⟨by decide, by decide⟩), ?_⟩⟩⟩
          refine ⟨_, _, _, _, rfl, rfl, SqL.of upd_same, rfl, ⟨.inr (.inl ⟨by decide, by decide⟩), ⟨(show (0 : Int) < 2147483647 by decide), ?_⟩⟩⟩
          refine ⟨_, _, _, _, rfl, rfl, upd_same, rfl, ?_⟩
          have hs1 : 0 ≤ (s * 48271 + c * 69621 + (i + 1) * 613) % 2147483647 ∧ (s * 48271 + c * 69621 + (i + 1) * 613) % 2147483647 < 2147483647 := by omega
          refine ⟨_, _, _, _, rfl, rfl, SqL.of upd_same, rfl, ?_⟩
          refine ⟨_, _, _, _, rfl, rfl, SqL.of upd_same, rfl, ⟨.inl ⟨by show -(2 ^ 64) < (s * 48271 + c * 69621 + (i + 1) * 613) % 2147483647; omega, by show (s * 48271 + c * 69621 + (i + 1) * 613) % 2147483647 < 2 ^ 64; omega⟩, ?_⟩⟩
          refine ⟨_, _, _, _, rfl, rfl, SqL.of upd_same, rfl, ⟨.inr (.inl ⟨by decide, by decide⟩), ⟨(show (0 : Int) < 1000000007 by decide), ?_⟩⟩⟩
          refine ⟨⟨by decide, by decide⟩, ⟨hm, ?_⟩⟩
          refine k _ _ (Int.emod_nonneg _ (by omega)) (Int.emod_lt_of_pos _ hm) ⟨ns, i + 1, d, (s * 48271 + c * 69621 + (i + 1) * 613) % 2147483647, ⟨upd_same, keep_ne P.ne (keep_ne P.ne P.hq), P.ne, P.nn, by have := P.hi; omega, P.hd, hs1.1, hs1.2⟩⟩ ?_
          exact ((Fr.refl [p] H).wr (by simp)).wr (by simp)
      refine ⟨fun e2 => ?_, fun e2 => ?_⟩
      · have e3 : i < ((ns.map V.int).length : Nat) := of_decide_eq_true e2
        rw [List.length_map] at e3
        have hi := P.hi
        have hil : i.toNat < ns.length := by omega
        refine ⟨_, _, _, _, rfl, rfl, SqL.of P.hp, rfl, ?_⟩
        refine ⟨_, _, _, _, rfl, rfl, SqL.of P.hp, rfl, ?_⟩
        refine .inl ⟨_, _, _, .int ns[i.toNat], rfl, rfl, SqL.of P.hq, atNat hi (by rw [List.getElem?_map, List.getElem?_eq_getElem hil]; rfl), ?_⟩
        exact tail _ (P.nn _ (List.getElem_mem hil)) _ rfl
      · exact tail 0 (by decide) _ rfl
  · exact h.elim
end Co
end

section
set_option maxHeartbeats 4000000
namespace Co
open PySem PySem.Spec PyProof.Rows L2
def dle : Nat → PyData → Prop
  | _, .none => True
  | _, .bool _ => True
  | _, .int _ => True
  | _, .str _ => True
  | n + 1, .list ds => ds.length ≤ 1000000 ∧ ∀ d ∈ ds, dle n d
  | n + 1, .tuple ds => ds.length ≤ 1000000 ∧ ∀ d ∈ ds, dle n d
  | _, _ => False
def sp_same (K : PySem.W.Frag) (n : Nat) : Sp := fun vs H Q _ => match vs with
  | [x, y] => ∃ d m, n = m + 1 ∧ dle m d ∧ Dp K H x d ∧ Dp K H y d ∧ ∀ H', Same H H' → Q (.bl true) H'
  | _ => False
theorem len_same {K : PySem.W.Frag} {n : Nat} : ∀ vs H Q E, sp_same K n vs H Q E → vs.length = 2 := fun vs H Q E h => by
  unfold sp_same at h
  split at h
  · rfl
  · exact h.elim
def sp_isint : Sp := fun vs H Q _ => match vs with
  | [.int i] => Q (.bl true) H
  | _ => False
theorem len_isint : ∀ vs H Q E, sp_isint vs H Q E → vs.length = 1 := fun vs H Q E h => by
  unfold sp_isint at h
  split at h
  · rfl
  · exact h.elim
def t_Lis_integer (K : PySem.W.Frag) : TS :=
 (tRet (uAndV (tCB (cIsi K) (tCons (tV 0) (tCons (tC (.ty "int")) tNil))) (uNotV (tCB (cIsi K) (tCons (tV 0) (tCons (tC (.ty "bool")) tNil))))))
theorem r_Lis_integer {K : PySem.W.Frag} {x : Str} {vs : List V} {H : Hp} {Q : VK} {E : XK} (h : sp_isint vs H Q E) : t_Lis_integer K (Dn Q) (start [x] vs) H := by
  unfold sp_isint at h
  split at h
  · exact ⟨fun _ => h, fun e => nomatch e⟩
  · exact h.elim
theorem ixA {K : PySem.W.Frag} {H : Hp} {a : Addr} {xs : List V} {i : Nat} {v : V} {Q : VK} (h : SqA K H a xs) (e : xs[i]? = some v) (q : Q v H) : rIx K (.ref a) (.int (i : Int)) H Q := by
  rcases h with h | h
  · exact .inl ⟨_, _, _, _, rfl, rfl, h, atI_nat e, q⟩
  · exact .inr (.inl ⟨_, _, _, _, rfl, rfl, h, atI_nat e, q⟩)
theorem sqA_same {K : PySem.W.Frag} {H H' : Hp} {a : Addr} {xs : List V} (e : Same H H') (h : SqA K H a xs) : SqA K H' a xs := h.elim (fun h => .inl (e.seq h)) fun h => .inr (sqT_same e h)
abbrev tAlls (K : PySem.W.Frag) (sp : Sp) : TE := tCB (rAll K) (tCons (uLc (iRng1 (tCons (tCB (cLenA K) (tCons (tV 1) tNil)) tNil)) (gName 2) tYes (uCall sp E0 (tCons (tOp (rIx K) (tV 0) (tV 2)) (tCons (tOp (rIx K) (tV 1) (tV 2)) tNil))) ([("_law_k", 2)].map (·.2))) tNil)
theorem all_same {K : PySem.W.Frag} {n : Nat} {a b : Addr} {z : Option V} {xs ys : List V} {ds : List PyData} {H : Hp} {Q : VK} (ha : SqA K H a xs) (hb : SqA K H b ys) (dx : DpAll K H xs ds) (dy : DpAll K H ys ds) (hl : ds.length ≤ 1000000) (hd : ∀ d ∈ ds, dle n d)
    (k : ∀ H', Same H H' → Q (.bl true) H') : tAlls K (sp_same K (n + 1)) [some (.ref a), some (.ref b), z] H Q := by
  have lx := dpAll_length dx
  have ly := dpAll_length dy
  unfold tAlls tCB tCons
  refine lcR ?_ (fun Q Q' i ⟨n, h, q⟩ => ⟨n, h, i _ _ q⟩)
  refine ⟨ys.length, .inl ⟨ys, hb, rfl⟩, _, rfl, by omega, by omega, fun D hD => ⟨fun i H' => H' D = some (.lst ((List.replicate i true).map V.bl)) ∧ Same H H', ⟨upd_same, same_new (Same.refl H) hD⟩, ?_, ?_⟩⟩
  · rintro i H' hi ⟨h1, s⟩
    have hi' : i < ds.length := by omega
    obtain ⟨x, ex, px⟩ := dpAll_get dx (List.getElem?_eq_getElem hi')
    obtain ⟨y, ey, py⟩ := dpAll_get dy (List.getElem?_eq_getElem hi')
    refine ⟨rfl, ⟨fun _ => ?_, fun e => nomatch e⟩⟩
    refine ixA (sqA_same s ha) ex ?_
    refine ixA (sqA_same s hb) ey ?_
    refine ⟨_, n, rfl, hd _ (List.getElem_mem hi'), dp_mono s px, dp_mono s py, fun H2 s2 => ?_⟩
    refine ⟨_, s2 _ _ h1, ?_, ?_, same_loc (s.trans s2) hD⟩
    · rw [List.length_map, List.length_replicate]
      have : sizeLine = 16777216 := sizeLine_eq
      omega
    · rw [upd_same, List.replicate_succ', List.map_append]
      rfl
  · rintro H' ⟨h1, s⟩
    refine ⟨D, _, rfl, SqL.of h1, ?_⟩
    have e : (List.replicate ((ys.length : Int)).toNat true).all id = true := by
      rw [List.all_eq_true]
      intro x hx
      exact (List.mem_replicate.mp hx).2
    rw [e]
    exact k _ s
def t_LsameA (K : PySem.W.Frag) (sp : Sp) : TS :=
 (tSeq (uIfS (tBo (tCB (cIsi K) (tCons (tV 1) (tCons (tC (.ty "tuple")) tNil)))) (tSeq (uIfS (uOr (tNot (tBo (tCB (cIsi K) (tCons (tV 0) (tCons (tC (.ty "tuple")) tNil))))) (tBo (tOp fNe (tCB (cLenA K) (tCons (tV 0) tNil)) (tCB (cLenA K) (tCons (tV 1) tNil))))) (tRet (tC (.bl false))) tNext)
 (tRet (tCB (rAll K) (tCons (uLc (iRng1 (tCons (tCB (cLenA K) (tCons (tV 1) tNil)) tNil)) (gName 2) tYes (uCall sp E0 (tCons (tOp (rIx K) (tV 0) (tV 2)) (tCons (tOp (rIx K) (tV 1) (tV 2)) tNil))) ([("_law_k", 2)].map (·.2))) tNil)))) tNext)
 (tSeq (uIfS (tBo (tCB (cIsi K) (tCons (tV 1) (tCons (tC (.ty "list")) tNil)))) (tSeq (uIfS (uOr (tNot (tBo (tCB (cIsi K) (tCons (tV 0) (tCons (tC (.ty "list")) tNil))))) (tBo (tOp fNe (tCB (cLenA K) (tCons (tV 0) tNil)) (tCB (cLenA K) (tCons (tV 1) tNil))))) (tRet (tC (.bl false))) tNext)
 (tRet (tCB (rAll K) (tCons (uLc (iRng1 (tCons (tCB (cLenA K) (tCons (tV 1) tNil)) tNil)) (gName 2) tYes (uCall sp E0 (tCons (tOp (rIx K) (tV 0) (tV 2)) (tCons (tOp (rIx K) (tV 1) (tV 2)) tNil))) ([("_law_k", 2)].map (·.2))) tNil)))) tNext)
 (tSeq (uIfS (tBo (tIs (tV 1))) (tRet (tIs (tV 0))) tNext)
 (tSeq (uIfS (tBo (tCB (cIsi K) (tCons (tV 1) (tCons (tC (.ty "bool")) tNil)))) (tRet (uAndV (tCB (cIsi K) (tCons (tV 0) (tCons (tC (.ty "bool")) tNil))) (tOp fEq (tV 0) (tV 1)))) tNext)
 (tSeq (uIfS (tBo (tCB (cIsi K) (tCons (tV 1) (tCons (tC (.ty "str")) tNil)))) (tRet (uAndV (tCB (cIsi K) (tCons (tV 0) (tCons (tC (.ty "str")) tNil))) (tOp fEq (tV 0) (tV 1)))) tNext)
 (tRet (uAndV (uCall sp_isint E0 (tCons (tV 0) tNil)) (tOp fEq (tV 0) (tV 1)))))))))
def t_LsameB (K : PySem.W.Frag) (sp : Sp) : TS :=
 (tSeq (uIfS (tBo (tIs (tV 1))) (tRet (tIs (tV 0))) tNext)
 (tSeq (uIfS (uOr (tBo (tOp fNe (tCB (cIsi K) (tCons (tV 1) (tCons (tC (.ty "tuple")) tNil))) (tCB (cIsi K) (tCons (tV 0) (tCons (tC (.ty "tuple")) tNil))))) (tBo (tOp fNe (tCB (cIsi K) (tCons (tV 1) (tCons (tC (.ty "list")) tNil))) (tCB (cIsi K) (tCons (tV 0) (tCons (tC (.ty "list")) tNil)))))) (tRet (tC (.bl false))) tNext)
 (tSeq (uIfS (uOr (tBo (tCB (cIsi K) (tCons (tV 1) (tCons (tC (.ty "tuple")) tNil)))) (tBo (tCB (cIsi K) (tCons (tV 1) (tCons (tC (.ty "list")) tNil))))) (tRet (uAndV (tOp fEq (tCB (cLenA K) (tCons (tV 0) tNil)) (tCB (cLenA K) (tCons (tV 1) tNil))) (tCB (rAll K) (tCons (uLc (iRng1 (tCons (tCB (cLenA K) (tCons (tV 1) tNil)) tNil)) (gName 2) tYes (uCall sp E0 (tCons (tOp (rIx K) (tV 0) (tV 2)) (tCons (tOp (rIx K) (tV 1) (tV 2)) tNil))) ([("_law_k", 2)].map (·.2))) tNil)))) tNext)
 (tSeq (uIfS (uOr (tBo (tOp fNe (tCB (cIsi K) (tCons (tV 1) (tCons (tC (.ty "bool")) tNil))) (tCB (cIsi K) (tCons (tV 0) (tCons (tC (.ty "bool")) tNil))))) (tBo (tOp fNe (tCB (cIsi K) (tCons (tV 1) (tCons (tC (.ty "str")) tNil))) (tCB (cIsi K) (tCons (tV 0) (tCons (tC (.ty "str")) tNil)))))) (tRet (tC (.bl false))) tNext)
 (tRet (uAndV (tOp fEq (tCB (cIsi K) (tCons (tV 1) (tCons (tC (.ty "int")) tNil))) (tCB (cIsi K) (tCons (tV 0) (tCons (tC (.ty "int")) tNil)))) (tOp fEq (tV 0) (tV 1))))))))
theorem isi_l {K : PySem.W.Frag} {H : Hp} {p : Addr} {xs : List V} {c : String} {Q : VK} (h : SqL K H p xs) (hc : c = "tuple" ∨ c = "list" ∨ c = "dict" ∨ c = "int" ∨ c = "str" ∨ c = "bool") (q : Q (.bl (decide ("list" = c))) H) : cIsi K [.ref p, .ty c] H Q := ⟨"list", tyx_l h, ⟨.inl rfl, hc⟩, q⟩
theorem isi_t {K : PySem.W.Frag} {H : Hp} {p : Addr} {xs : List V} {c : String} {Q : VK} (h : SqT K H p xs) (hc : c = "tuple" ∨ c = "list" ∨ c = "dict" ∨ c = "int" ∨ c = "str" ∨ c = "bool") (q : Q (.bl (decide ("tuple" = c))) H) : cIsi K [.ref p, .ty c] H Q := ⟨"tuple", tyx_t h, ⟨.inr (.inl rfl), hc⟩, q⟩
theorem two1 {c : Bool} {p q : Prop} (e : c = true) (h : p) : two c p q := by
  subst e
  exact twoT h
theorem two0 {c : Bool} {p q : Prop} (e : c = false) (h : q) : two c p q := by
  subst e
  exact twoF h
local macro_rules | `(tactic| walk_at "no") => `(tactic| refine ⟨fun e => absurd e (by decide), fun _ => ?_⟩)
local macro_rules | `(tactic| walk_at "yes") => `(tactic| refine ⟨fun _ => ?_, fun e => absurd e (by decide)⟩)
local macro_rules | `(tactic| walk_at "isl") => `(tactic| refine ⟨"list", tyx_l (by assumption), ⟨.inl rfl, by decide⟩, ?_⟩)
local macro_rules | `(tactic| walk_at "ist") => `(tactic| refine ⟨"tuple", tyx_t (by assumption), ⟨.inr (.inl rfl), by decide⟩, ?_⟩)
theorem r_LsameB {K : PySem.W.Frag} {n : Nat} {x y : Str} {vs : List V} {H : Hp} {Q : VK} {E : XK} (h : sp_same K (n + 1) vs H Q E) : t_LsameB K (sp_same K n) (Dn Q) (start [x, y, "_law_k"] vs) H := by
  unfold sp_same at h
  split at h
  · obtain ⟨d, m, e, hd, h1, h2, k⟩ := h
    cases e
    cases d with
    | none =>
      cases h1
      cases h2
      exact ⟨fun _ => k _ (Same.refl _), fun e => nomatch e⟩
    | bool b =>
      cases h1
      cases h2
      refine ⟨fun e => (nomatch e), fun _ => ?_⟩
      walk_at "no"; walk_at "no"
      walk_at "no"; walk_at "no"
      walk_at "no"; walk_at "no"
      refine ⟨fun _ => ?_, fun e => (nomatch e)⟩
      show Q (.bl (decide (b = b))) H
      rw [decide_eq_true rfl]
      exact k _ (Same.refl _)
    | int i =>
      cases h1
      cases h2
      refine ⟨fun e => (nomatch e), fun _ => ?_⟩
      walk_at "no"; walk_at "no"
      walk_at "no"; walk_at "no"
      walk_at "no"; walk_at "no"
      refine ⟨fun _ => ?_, fun e => (nomatch e)⟩
      show Q (.bl (decide (i = i))) H
      rw [decide_eq_true rfl]
      exact k _ (Same.refl _)
    | str i =>
      cases h1
      cases h2
      refine ⟨fun e => (nomatch e), fun _ => ?_⟩
      walk_at "no"; walk_at "no"
      walk_at "no"; walk_at "no"
      walk_at "no"; walk_at "no"
      refine ⟨fun _ => ?_, fun e => (nomatch e)⟩
      show Q (.bl (decide (i = i))) H
      rw [decide_eq_true rfl]
      exact k _ (Same.refl _)
    | list ds =>
      cases n with
      | zero => exact hd.elim
      | succ m =>
      cases h1 with
      | lst hx dx =>
      cases h2 with
      | lst hy dy =>
      refine ⟨fun e => (nomatch e), fun _ => ?_⟩
      walk_at "isl"; walk_at "isl"; walk_at "no"; walk_at "isl"; walk_at "isl"; walk_at "no"
      walk_at "isl"; walk_at "no"; walk_at "isl"; walk_at "yes"
      refine ⟨_, .inl ⟨_, .inl hx, rfl⟩, _, .inl ⟨_, .inl hy, rfl⟩, ?_⟩
      refine two1 (decide_eq_true ?_) ?_
      · rw [dpAll_length dx, dpAll_length dy]
      · exact all_same (.inl hx) (.inl hy) dx dy hd.1 hd.2 k
    | tuple ds =>
      cases n with
      | zero => exact hd.elim
      | succ m =>
      cases h1 with
      | tup hx dx =>
      cases h2 with
      | tup hy dy =>
      refine ⟨fun e => (nomatch e), fun _ => ?_⟩
      walk_at "ist"; walk_at "ist"; walk_at "no"; walk_at "ist"; walk_at "ist"; walk_at "no"
      walk_at "ist"; walk_at "yes"; walk_at "yes"
      refine ⟨_, .inl ⟨_, .inr hx, rfl⟩, _, .inl ⟨_, .inr hy, rfl⟩, ?_⟩
      refine two1 (decide_eq_true ?_) ?_
      · rw [dpAll_length dx, dpAll_length dy]
      · exact all_same (.inr hx) (.inr hy) dx dy hd.1 hd.2 k
    | dict _ => cases h1
  · exact h.elim
theorem r_LsameA {K : PySem.W.Frag} {n : Nat} {x y : Str} {vs : List V} {H : Hp} {Q : VK} {E : XK} (h : sp_same K (n + 1) vs H Q E) : t_LsameA K (sp_same K n) (Dn Q) (start [x, y, "_law_k"] vs) H := by
  unfold sp_same at h
  split at h
  · obtain ⟨d, m, e, hd, h1, h2, k⟩ := h
    cases e
    cases d with
    | none =>
      cases h1
      cases h2
      walk_at "no"; walk_at "no"
      exact ⟨fun _ => k _ (Same.refl _), fun e => nomatch e⟩
    | bool b =>
      cases h1
      cases h2
      walk_at "no"; walk_at "no"
      refine ⟨fun e => (nomatch e), fun _ => ?_⟩
      walk_at "yes"; walk_at "yes"
      show Q (.bl (decide (b = b))) H
      rw [decide_eq_true rfl]
      exact k _ (Same.refl _)
    | int i =>
      cases h1
      cases h2
      walk_at "no"; walk_at "no"
      refine ⟨fun e => (nomatch e), fun _ => ?_⟩
      walk_at "no"; walk_at "no"
      walk_at "yes"
      show Q (.bl (decide (i = i))) H
      rw [decide_eq_true rfl]
      exact k _ (Same.refl _)
    | str i =>
      cases h1
      cases h2
      walk_at "no"; walk_at "no"
      refine ⟨fun e => (nomatch e), fun _ => ?_⟩
      walk_at "no"; walk_at "yes"; walk_at "yes"
      show Q (.bl (decide (i = i))) H
      rw [decide_eq_true rfl]
      exact k _ (Same.refl _)
    | list ds =>
      cases n with
      | zero => exact hd.elim
      | succ m =>
      cases h1 with
      | lst hx dx =>
      cases h2 with
      | lst hy dy =>
      walk_at "isl"; walk_at "no"; walk_at "isl"; walk_at "yes"; walk_at "isl"; walk_at "no"
      refine ⟨_, .inl ⟨_, .inl hx, rfl⟩, _, .inl ⟨_, .inl hy, rfl⟩, ?_⟩
      refine two0 ?_ ?_
      · rw [dpAll_length dx, dpAll_length dy]
        simp
      · exact all_same (.inl hx) (.inl hy) dx dy hd.1 hd.2 k
    | tuple ds =>
      cases n with
      | zero => exact hd.elim
      | succ m =>
      cases h1 with
      | tup hx dx =>
      cases h2 with
      | tup hy dy =>
      walk_at "ist"; walk_at "yes"; walk_at "ist"; walk_at "no"
      refine ⟨_, .inl ⟨_, .inr hx, rfl⟩, _, .inl ⟨_, .inr hy, rfl⟩, ?_⟩
      refine two0 ?_ ?_
      · rw [dpAll_length dx, dpAll_length dy]
        simp
      · exact all_same (.inr hx) (.inr hy) dx dy hd.1 hd.2 k
    | dict _ => cases h1
  · exact h.elim
end Co
end

section
set_option maxHeartbeats 4000000
namespace Co
open PySem PySem.Spec PyProof.Rows L2
theorem zip_lookup : ∀ {ks : List Str} {vs : List V} {f : Str} {i : Nat} {v : V}, ks.findIdx? (fun g => decide (g = f)) = some i → vs[i]? = some v → (ks.zip vs).lookup f = some v
  | [], _, _, _, _, h, _ => by simp at h
  | k :: ks, [], _, _, _, _, h => by simp at h
  | k :: ks, w :: vs, f, i, v, h, e => by
    rw [List.zip_cons_cons]
    by_cases z : k = f
    · subst z
      simp [List.findIdx?_cons] at h
      subst h
      simp at e
      subst e
      simp [List.lookup]
    · rw [List.findIdx?_cons] at h
      simp only [decide_eq_false z, Bool.false_eq_true, if_false] at h
      rw [Option.map_eq_some_iff] at h
      obtain ⟨j, h1, h2⟩ := h
      subst h2
      have e' : (f == k) = false := beq_eq_false_iff_ne.mpr fun q => z q.symm
      rw [List.lookup_cons, e']
      exact zip_lookup h1 (by simpa using e)
theorem zip_none : ∀ {ks : List Str} {vs : List V} {f : Str}, ks.all (fun g => decide (g ≠ f)) = true → (ks.zip vs).lookup f = none
  | [], _, _, _ => rfl
  | k :: ks, [], _, _ => rfl
  | k :: ks, w :: vs, f, h => by
    rw [List.all_cons, Bool.and_eq_true] at h
    have e' : (f == k) = false := beq_eq_false_iff_ne.mpr fun q => of_decide_eq_true h.1 q.symm
    rw [List.zip_cons_cons, List.lookup_cons, e']
    exact zip_none h.2
theorem zip_putF : ∀ {ks : List Str} {vs : List V} {f : Str} {i : Nat} {v : V}, ks.findIdx? (fun g => decide (g = f)) = some i → i < vs.length → putF f v (ks.zip vs) = ks.zip (vs.set i v)
  | [], _, _, _, _, h, _ => by simp at h
  | k :: ks, [], _, _, _, _, h => by simp at h
  | k :: ks, w :: vs, f, i, v, h, e => by
    rw [List.zip_cons_cons]
    by_cases z : k = f
    · subst z
      simp [List.findIdx?_cons] at h
      subst h
      simp [putF]
    · rw [List.findIdx?_cons] at h
      simp only [decide_eq_false z, Bool.false_eq_true, if_false] at h
      rw [Option.map_eq_some_iff] at h
      obtain ⟨j, h1, h2⟩ := h
      subst h2
      show (if k = f then _ else _) = _
      rw [if_neg z, zip_putF h1 (by simpa using e), List.set_cons_succ, List.zip_cons_cons]
theorem zip_new : ∀ {ks : List Str} {vs : List V} {f : Str} {v : V}, ks.all (fun g => decide (g ≠ f)) = true → ks.length = vs.length → putF f v (ks.zip vs) = (ks ++ [f]).zip (vs ++ [v])
  | [], [], f, v, _, _ => rfl
  | [], _ :: _, _, _, _, e => by simp at e
  | _ :: _, [], _, _, _, e => by simp at e
  | k :: ks, w :: vs, f, v, h, e => by
    rw [List.all_cons, Bool.and_eq_true] at h
    rw [List.zip_cons_cons]
    show (if k = f then _ else _) = _
    rw [if_neg (of_decide_eq_true h.1), zip_new h.2 (by simpa using e)]
    rfl
theorem zip_val {κ : Type} [DecidableEq κ] : ∀ {ks : List κ} {vs : List V} {f : κ} {i : Nat} {v : V}, ks.findIdx? (fun g => decide (g = f)) = some i → vs[i]? = some v → valV (ks.zip vs) f = some v
  | [], _, _, _, _, h, _ => by simp at h
  | k :: ks, [], _, _, _, _, h => by simp at h
  | k :: ks, w :: vs, f, i, v, h, e => by
    rw [List.zip_cons_cons]
    by_cases z : k = f
    · subst z
      simp [List.findIdx?_cons] at h
      subst h
      simp at e
      subst e
      exact valV_pos rfl
    · rw [List.findIdx?_cons] at h
      simp only [decide_eq_false z, Bool.false_eq_true, if_false] at h
      rw [Option.map_eq_some_iff] at h
      obtain ⟨j, h1, h2⟩ := h
      subst h2
      rw [valV_neg (p := (k, w)) z]
      exact zip_val h1 (by simpa using e)
theorem putK_pos {κ : Type} [DecidableEq κ] {p : κ × V} {r : List (κ × V)} {k : κ} {v : V} (e : p.1 = k) (hn : ∀ q ∈ r, q.1 ≠ k) : putK (p :: r) k v = (k, v) :: r := by
  unfold putK
  have h : ((p :: r).any fun kv => decide (kv.1 = k)) = true := by simp [e]
  rw [if_pos h, List.map_cons, if_pos e]
  congr 1
  · rw [e]
  · rw [List.map_congr_left (g := id) fun q hq => by rw [if_neg (hn q hq)]; rfl]
    simp
theorem zip_mem_fst {κ : Type} : ∀ {ks : List κ} {vs : List V} {q : κ × V}, q ∈ ks.zip vs → q.1 ∈ ks := fun {ks vs q} h => (List.of_mem_zip (a := q.1) (b := q.2) h).1
theorem zip_putK {κ : Type} [DecidableEq κ] : ∀ {ks : List κ} {vs : List V} {f : κ} {i : Nat} {v : V}, ks.Nodup → ks.findIdx? (fun g => decide (g = f)) = some i → i < vs.length → putK (ks.zip vs) f v = ks.zip (vs.set i v)
  | [], _, _, _, _, _, h, _ => by simp at h
  | k :: ks, [], _, _, _, _, _, h => by simp at h
  | k :: ks, w :: vs, f, i, v, hn, h, e => by
    rw [List.nodup_cons] at hn
    rw [List.zip_cons_cons]
    by_cases z : k = f
    · subst z
      simp [List.findIdx?_cons] at h
      subst h
      rw [putK_pos rfl fun q hq (e : q.1 = k) => hn.1 (by rw [← e]; exact zip_mem_fst hq)]
      rfl
    · rw [List.findIdx?_cons] at h
      simp only [decide_eq_false z, Bool.false_eq_true, if_false] at h
      rw [Option.map_eq_some_iff] at h
      obtain ⟨j, h1, h2⟩ := h
      subst h2
      have ih := zip_putK (v := v) hn.2 h1 (vs := vs) (by simpa using e)
      rw [List.set_cons_succ, List.zip_cons_cons, ← ih]
      unfold putK
      have ha : ((((k, w) : κ × V) :: ks.zip vs).any fun kv => decide (kv.1 = f)) = ((ks.zip vs).any fun kv => decide (kv.1 = f)) := by
        rw [List.any_cons, decide_eq_false z, Bool.false_or]
      rw [ha]
      split
      · rw [List.map_cons, if_neg z]
      · rfl
theorem mergeK_zip : ∀ {ks : List Key} {vs : List V} {acc : List (Key × V)}, ks.Nodup → (∀ k ∈ ks, valV acc k = none) → mergeK acc (ks.zip vs) = acc ++ ks.zip vs
  | [], _, _, _, _ => by simp [mergeK]
  | k :: ks, [], _, _, _ => by simp [mergeK]
  | k :: ks, v :: vs, acc, hn, h => by
    rw [List.nodup_cons] at hn
    rw [List.zip_cons_cons]
    show mergeK (putK acc k v) (ks.zip vs) = _
    have hk := h k List.mem_cons_self
    rw [putK_new v hk, mergeK_zip hn.2 fun j hj => ?_]
    · simp
    · rw [valV_snoc k j v acc hk]
      rw [if_neg (show ¬ j = k from fun e => hn.1 (by rw [← e]; exact hj))]
      exact h j (List.mem_cons_of_mem _ hj)
theorem mergeK_zip0 {ks : List Key} {vs : List V} (h : ks.Nodup) : mergeK [] (ks.zip vs) = ks.zip vs := mergeK_zip h fun _ _ => rfl
def uWhile (c : TT) (tb : TS) : TS := fun D σ H => ∃ W : Nat → St → Hp → Prop, (∃ m, W m σ H) ∧ ∀ m σ H, W m σ H →
  c σ H fun b H1 => two b (tb { D with nx := fun σ' H' => ∃ m', m' < m ∧ W m' σ' H', ct := fun σ' H' => ∃ m', m' < m ∧ W m' σ' H', bk := D.nx } σ H1) (D.nx σ H1)
theorem s_while {X : Cx} {pos : Pos} {c : Expr} {body : List Stmt} {tc : TT} {tb : TS} (hp : PassesOwn (model X.prog X.w) X.A X.env X.xe) (hc : PT X c tc) (hb : PSs X body tb) : PS X (.While c body [] pos) (uWhile tc tb) := by
  have hc' : PT X c fun σ H Q => tc σ H Q := hc
  refine ⟨fun pins s σ H D I h => ?_⟩
  obtain ⟨W, ⟨m0, w0⟩, turn⟩ := h
  refine wpAny_While (codeAny_whileLoop (fun n s' => ∃ σ' H', Inv X pins σ' H' s' ∧ W n σ' H') ?_ m0 ⟨σ, H, I, w0⟩)
  rintro n s1 ⟨σ1, H1, I1, w1⟩
  refine wpAny_passesOwn hp (thn (hc.run pins s1 σ1 H1 _ I1 (turn n σ1 H1 w1)) fun b s2 ⟨H2, I2, q2⟩ => ?_)
  cases b with
  | true =>
    rw [if_pos rfl]
    refine wpAny_passesOwn hp (thn (hb.run pins s2 σ1 H2 _ I2 (q2.1 rfl)) fun f s3 q3 => ?_)
    cases f with
    | next =>
      obtain ⟨σ3, H3, I3, m', hm, w3⟩ := q3
      exact ⟨m', hm, σ3, H3, I3, w3⟩
    | cont =>
      obtain ⟨σ3, H3, I3, m', hm, w3⟩ := q3
      exact ⟨m', hm, σ3, H3, I3, w3⟩
    | brk => exact q3
    | ret v => exact q3
  | false =>
    rw [if_neg Bool.false_ne_true]
    exact wpAny_execs_nil ⟨σ1, H2, I2, q2.2 rfl⟩
theorem fn_to0 {P : Program} {w : World} {K : PySem.W.Frag} {mg : Str → Option Value} {base : Heap} {k : Nat} {f : Addr} {fd : FuncData} {ps : List Str} {sp : Sp} (F : FnOk P w K mg base (L2.CX P w) k f fd ps sp) (hE : ∀ vs H Q E, sp vs H Q E → sp vs H Q E0) : FnOk P w K mg base CX0 k f fd ps sp :=
  ⟨F.len, fun A outer s H args us vs Q E hr he hb hv hs => codeAny_mono (F.run A outer s H args us vs Q E0 hr he hb hv (hE _ _ _ _ hs)) fun r s' hq => by
    cases r with
    | error e =>
      obtain ⟨_, _, _, _, _, _, _, _, _, _, _, _, z⟩ := (show L2.CX P w outer H s E0 e s' from hq)
      exact z.elim
    | ok fl => cases fl <;> exact hq⟩
theorem fn_by {P : Program} {w : World} {K : PySem.W.Frag} {mg : Str → Option Value} {base : Heap} {k : Nat} {f : Addr} {ps : List Str} {sp : Sp} {x qual : Str} {params : Arguments} {body : List Stmt} {scope : Scope} {fd : FuncData} {N : List Str} (F : FunD K x qual params body scope [] [] f fd) (S : FnScope N ps scope)
    (len : ∀ vs H Q E, sp vs H Q E → vs.length = ps.length)
    (hbody : ∀ (cdv : Value) (A : Around) (outer : List Env) (s : Shared) (H : Hp) (vs : List V) (Q : VK) (E : XK), Room k (A.deeper (envOfC qual scope s.heap.objs.size f cdv)) → sp vs H Q E →
      ∃ t, PSs (cxOf (L2.CX P w) P w K mg base N qual scope f cdv A outer s H E) body t ∧ t { nx := fun _ H' => Q .non H', rt := Q } (start N vs) H) : FnOk P w K mg base (L2.CX P w) (k + 1) f fd ps sp := F.ok S len hbody
end Co
end

section
set_option maxHeartbeats 4000000
namespace Co
open PySem PySem.Spec PyProof.Rows L2
abbrev S (l : List Nat) : Str := ⟨l.toArray⟩
theorem S_cps (l : List Nat) : (S l).cps.toList = l := rfl
theorem S_len (l : List Nat) : (S l).length = l.length := by show l.toArray.size = _; simp
theorem S_eq (z : Str) : z = S z.cps.toList := by cases z; rfl
theorem S_inj {a b : List Nat} (h : S a = S b) : a = b := by
  have := congrArg (fun z => z.cps.toList) h
  simpa using this
section
variable {X : Cx}
theorem MtR.imp {id : String} {r r' : V → List V → Hp → VK → Prop} (h : MtR X id r) (i : ∀ x xs H Q, r' x xs H Q → r x xs H Q) : MtR X id r' := fun pins s σ H x xs v us Q I rx rs q => h pins s σ H x xs v us Q I rx rs (i _ _ _ _ q)
def rSS (g : Str → Str → V) : V → List V → Hp → VK → Prop := fun x xs H Q => match x, xs with
  | .str a, [.str b] => Q (g a b) H
  | _, _ => False
theorem rSS_of {g : Str → Str → V} {x : V} {xs : List V} {H : Hp} {Q : VK} (h : rSS g x xs H Q) : ∃ a b, x = .str a ∧ xs = [.str b] ∧ Q (g a b) H := by
  unfold rSS at h
  split at h
  · exact ⟨_, _, rfl, rfl, h⟩
  · exact h.elim
abbrev rCountS := rSS fun a b => .int (Txt.count a b)
abbrev rRfindS := rSS fun a b => .int (Txt.rfind a b)
theorem m_count : MtR X "str.count" rCountS := MtR.imp mt_count fun _ _ _ _ => rSS_of
theorem m_rfind : MtR X "str.rfind" rRfindS := MtR.imp mt_rfind fun _ _ _ _ => rSS_of
def rJoinS (K : PySem.W.Frag) : V → List V → Hp → VK → Prop := fun x xs H Q => match x, xs with
  | .str a, [.ref p] => ∃ ys : List Str, SqA K H p (ys.map V.str) ∧ (ys.map (·.length)).sum + ys.length * a.length ≤ 16777216 ∧ Q (.str (Txt.join a ys)) H
  | _, _ => False
theorem m_join : MtR X "str.join" (rJoinS X.K) := MtR.imp mt_join fun x xs H Q h => by
  unfold rJoinS at h
  split at h
  · obtain ⟨ys, h1, h2, h3⟩ := h
    exact ⟨_, _, ys, rfl, rfl, h1, h2, h3⟩
  · exact h.elim
end
theorem S_app (a b : List Nat) : S a ++ S b = S (a ++ b) := by
  show Str.append _ _ = _
  unfold Str.append
  simp
theorem joinS : ∀ ls : List (List Nat), Str.join (S []) (ls.map S) = S ls.flatten
  | [] => rfl
  | [a] => by simp [Str.join]
  | a :: b :: r => by
    have ih := joinS (b :: r)
    rw [List.map_cons, List.map_cons, Str.join]
    rw [List.map_cons] at ih
    rw [ih, S_app, S_app]
    simp
    intro x
    exact absurd x (by simp)
theorem joinT (ls : List (List Nat)) : Txt.join (S []) (ls.map S) = S ls.flatten := (PySem.StrLaws.glued_eq_join _ _).trans (joinS ls)
theorem cutS_nat {l : List Nat} {a b : Nat} (h : b ≤ l.length) (h2 : a ≤ l.length) : cutS (S l) (some (a : Int)) (some (b : Int)) = S ((l.drop a).take (b - a)) := by
  unfold cutS
  rw [HT.sIx_nat, HT.sIx_nat, S_len, Nat.min_eq_left h, Nat.min_eq_left h2]
theorem cutS_to {l : List Nat} {b : Nat} (h : b ≤ l.length) : cutS (S l) none (some (b : Int)) = S (l.take b) := by
  unfold cutS
  rw [HT.sIx_nat, HT.sIx_none, S_len, Nat.min_eq_left h]
  simp
theorem cutS_from {l : List Nat} {a : Nat} (h : a ≤ l.length) : cutS (S l) (some (a : Int)) none = S (l.drop a) := by
  unfold cutS
  rw [HT.sIx_nat, HT.sIx_none, S_len, Nat.min_eq_left h]
  show S (((l.drop a)).take (l.length - a)) = _
  rw [List.take_of_length_le (by simp)]
theorem oneD {p : Prop} [Decidable p] {T E : Prop} (h : p → T) (k : ¬ p → E) : two (decide p) T E := ⟨fun e => h (of_decide_eq_true e), fun e => k (of_decide_eq_false e)⟩
theorem notD {p : Prop} [Decidable p] {T E : Prop} (h : ¬ p → T) (k : p → E) : two (!decide p) T E := by
  by_cases z : p
  · rw [decide_eq_true z]
    exact ⟨fun e => (nomatch e), fun _ => k z⟩
  · rw [decide_eq_false z]
    exact ⟨fun _ => h z, fun e => (nomatch e)⟩
theorem andD {p q : Prop} [Decidable p] [Decidable q] {T E : Prop} (h : p ∧ q → T) (k : ¬ (p ∧ q) → E) : two (decide p) (two (decide q) T E) (two false T E) :=
  oneD (fun a => oneD (fun b => h ⟨a, b⟩) fun b => k fun z => b z.2) fun a => twoF (k fun z => a z.1)
theorem orD {p q : Prop} [Decidable p] [Decidable q] {T E : Prop} (h : p ∨ q → T) (k : ¬ (p ∨ q) → E) : two (decide p) (two true T E) (two (decide q) T E) :=
  oneD (fun a => twoT (h (.inl a))) fun a => oneD (fun b => h (.inr b)) fun b => k fun z => z.elim a b
def cMinW : List V → Hp → VK → Prop := fun xs H Q => match xs with
  | [.int i, .int j] => ∀ k : Int, k ≤ i → k ≤ j → (k = i ∨ k = j) → Q (.int k) H
  | _ => False
def cMaxW : List V → Hp → VK → Prop := fun xs H Q => match xs with
  | [.int i, .int j] => ∀ k : Int, i ≤ k → j ≤ k → (k = i ∨ k = j) → Q (.int k) H
  | _ => False
section
variable {X : Cx}
theorem c_minW (hc : X.calm = true) : CallR X (.builtin "min") cMinW := CallR.imp (c_min2 hc) fun xs H Q h => by
  unfold cMinW at h
  unfold cMin2
  split at h
  · rename_i i j
    show Q _ _
    by_cases z : j < i
    · rw [if_pos z]
      exact h j (by omega) (by omega) (.inr rfl)
    · rw [if_neg z]
      exact h i (by omega) (by omega) (.inl rfl)
  · exact h.elim
theorem c_maxW (hc : X.calm = true) : CallR X (.builtin "max") cMaxW := CallR.imp (c_max2 hc) fun xs H Q h => by
  unfold cMaxW at h
  unfold cMax2
  split at h
  · rename_i i j
    show Q _ _
    by_cases z : j > i
    · rw [if_pos z]
      exact h j (by omega) (by omega) (.inr rfl)
    · rw [if_neg z]
      exact h i (by omega) (by omega) (.inl rfl)
  · exact h.elim
end
def uAug (i : Nat) (te : TE) (f : V → V → Option V) : TS := fun D σ H => match σ[i]? with
  | some (some x) => te σ H fun y H1 => (match f x y with
    | some z => D.nx (σ.set i (some z)) H1
    | none => False)
  | _ => False
def iiAdd : V → V → Option V
  | .int i, .int j => some (.int (i + j))
  | _, _ => none
def iiSub : V → V → Option V
  | .int i, .int j => some (.int (i - j))
  | _, _ => none
theorem PIp.imp {X : Cx} {op : Operator} {t t' : TIp} (h : PIp X op t) (i : ∀ x y H Q, t' x y H Q → t x y H Q) : PIp X op t' := fun pins s σ H x y v u Q I r1 r2 q => h pins s σ H x y v u Q I r1 r2 (i _ _ _ _ q)
theorem uAug_of {i : Nat} {te : TE} {f : V → V → Option V} {D : Ends} {σ : St} {H : Hp} (h : uAug i te f D σ H) : tAug i te (fun x y H1 Q => match f x y with
    | some z => Q z H1
    | none => False) D σ H := by
  unfold uAug at h
  split at h
  · exact ⟨_, by assumption, h⟩
  · exact h.elim
section
variable {X : Cx} {i : Nat} {x : Str} {e : Expr} {te : TE} {pos pos' : Pos}
theorem s_augadd (hN : X.N.Nodup) (hi : X.N[i]? = some x) (hx : Loc X.env.scope x) (he : PE X e te) (hf : X.fn x = true ∨ X.env.scope.names.lookup x = some .local := by first | exact .inl rfl | exact .inr rfl | assumption) :
    PS X (.AugAssign (.Name x pos') .Add e pos) (uAug i te iiAdd) := PS.imp (ps_aug hN hi hx he (PIp.imp ip_add fun x y H Q h => by
  split at h
  · rename_i z e
    unfold iiAdd at e
    split at e
    · cases e
      exact ⟨_, _, rfl, rfl, h⟩
    · cases e
  · exact h.elim) hf) fun _ _ _ => uAug_of
theorem s_augsub (hN : X.N.Nodup) (hi : X.N[i]? = some x) (hx : Loc X.env.scope x) (he : PE X e te) (hf : X.fn x = true ∨ X.env.scope.names.lookup x = some .local := by first | exact .inl rfl | exact .inr rfl | assumption) :
    PS X (.AugAssign (.Name x pos') .Sub e pos) (uAug i te iiSub) := PS.imp (ps_aug hN hi hx he (PIp.imp ip_sub fun x y H Q h => by
  split at h
  · rename_i z e
    unfold iiSub at e
    split at e
    · cases e
      exact ⟨_, _, rfl, rfl, h⟩
    · cases e
  · exact h.elim) hf) fun _ _ _ => uAug_of
end
structure Walks (J : It) (P : Hp → Prop) (xs : List V) : Prop where
  stop : ∀ i H, P H → xs.length ≤ i → J.stop i H
  go : ∀ i H, P H → i < xs.length → J.go i H
  yld : ∀ i H x H', P H → i < xs.length → J.yld i H x H' → H' = H ∧ xs[i]? = some x
abbrev rgV (lo : Int) (n : Nat) : List V := (List.range n).map fun (k : Nat) => V.int (lo + (k : Int))
theorem wk_rng {lo : Int} {n : Nat} : Walks (Itr lo n) (fun _ => True) (rgV lo n) where
  stop := fun i H _ h => by simpa [Itr] using h
  go := fun i H _ h => by simpa [Itr] using h
  yld := fun i H x H' _ h y => by
    obtain ⟨e, y⟩ := y
    refine ⟨e, ?_⟩
    have h' : i < n := by simpa using h
    rw [y]
    simp [h']
abbrev chV (l : List Nat) : List V := l.map fun c => V.str (S [c])
theorem wk_str {l : List Nat} : Walks (Its (S l)) (fun _ => True) (chV l) where
  stop := fun i H _ h => by simpa [Its] using h
  go := fun i H _ h => by simpa [Its] using h
  yld := fun i H x H' _ h y => by
    obtain ⟨e, c, h1, h2⟩ := y
    refine ⟨e, ?_⟩
    have h3 : l[i]? = some c := by simpa using h1
    rw [h2]
    simp [h3]
theorem wk_list {K : PySem.W.Frag} {a : Addr} {xs : List V} : Walks (Itl K a) (fun H => SqL K H a xs) xs where
  stop := fun i H h hi => ⟨xs, h, hi⟩
  go := fun i H h hi => ⟨xs, xs[i], h, by simp [hi]⟩
  yld := fun i H x H' h hi y => ⟨y.1, y.2 xs h⟩
theorem wk_tup {K : PySem.W.Frag} {a : Addr} {xs : List V} : Walks (Itt K a) (fun H => SqT K H a xs) xs where
  stop := fun i H h hi => ⟨xs, h, hi⟩
  go := fun i H h hi => ⟨xs, xs[i], h, by simp [hi]⟩
  yld := fun i H x H' h hi y => ⟨y.1, y.2 xs h⟩
def LcBody (J : It) (g : TG) (tt : TT) (te : TE) (vs : List Nat) (σ : St) (H1 : Hp) (QD : Addr → Hp → Prop) : Prop :=
    ∀ D, H1 D = none → ∃ W : Nat → Nat → Hp → Prop, (∃ m, W 0 m (upd H1 D (.lst []))) ∧ ∀ i m H, W i m H →
  (J.stop i H ∧ QD D H) ∨ (J.go i H ∧ ∃ Nx : Hp → Prop, (∀ H', Nx H' → ∃ m', m' < m ∧ W (i + 1) m' H') ∧ ∀ x H', J.yld i H x H' → g x (wipe σ vs) H' fun σ2 H2 => wipe σ2 vs = wipe σ vs ∧ tt σ2 H2 fun b H3 =>
    two b (te σ2 H3 fun y H4 => ∃ acc, H4 D = some (.lst acc) ∧ acc.length < sizeLine ∧ Nx (upd H4 D (.lst (acc ++ [y])))) (Nx H3))
theorem lcW {J : It} {P : Hp → Prop} {xs : List V} {g : TG} {tt : TT} {te : TE} {vs : List Nat} {σ : St} {H1 : Hp} {QD : Addr → Hp → Prop} (w : Walks J P xs) (h : ∀ D, H1 D = none → ∃ Pv : Nat → Hp → Prop, Pv 0 (upd H1 D (.lst [])) ∧ (∀ i H, i ≤ xs.length → Pv i H → P H) ∧
      (∀ i x H, xs[i]? = some x → Pv i H → LcTurn g tt te vs σ D x H (Pv (i + 1))) ∧ ∀ H, Pv xs.length H → QD D H) : LcBody J g tt te vs σ H1 QD := by
  intro D hD
  obtain ⟨Pv, h0, hl, hs, hd⟩ := h D hD
  refine ⟨fun i m H => m = xs.length - i ∧ i ≤ xs.length ∧ Pv i H, ⟨xs.length, by simp, Nat.zero_le _, h0⟩, ?_⟩
  rintro i m H ⟨rfl, hi, p⟩
  have q := hl i H hi p
  by_cases hlt : i < xs.length
  · refine .inr ⟨w.go i H q hlt, Pv (i + 1), fun H' p' => ⟨xs.length - (i + 1), by omega, rfl, hlt, p'⟩, fun x H' y => ?_⟩
    obtain ⟨e, y2⟩ := w.yld i H x H' q hlt y
    subst e
    exact hs i x _ y2 p
  · have e : i = xs.length := by omega
    subst e
    exact .inl ⟨w.stop _ H q (Nat.le_refl _), hd H p⟩
theorem forW {J : It} {P : Hp → Prop} {xs : List V} {g : TG} {tb : TS} {D : Ends} {σ : St} {H : Hp} (w : Walks J P xs) (Pv : Nat → St → Hp → Prop) (h0 : Pv 0 σ H) (hl : ∀ i σ H, i ≤ xs.length → Pv i σ H → P H)
    (hs : ∀ i x σ H, xs[i]? = some x → Pv i σ H → g x σ H fun σ2 H2 => tb { D with nx := Pv (i + 1), ct := Pv (i + 1), bk := D.nx } σ2 H2) (hd : ∀ σ H, Pv xs.length σ H → D.nx σ H) :
    ∃ W : Nat → Nat → St → Hp → Prop, (∃ m, W 0 m σ H) ∧ ∀ i m σ H, W i m σ H →
  (J.stop i H ∧ D.nx σ H) ∨ (J.go i H ∧ ∃ N : St → Hp → Prop, (∀ σ' H', N σ' H' → ∃ m', m' < m ∧ W (i + 1) m' σ' H') ∧ ∀ x H', J.yld i H x H' → g x σ H' fun σ2 H2 => tb { D with nx := N, ct := N, bk := D.nx } σ2 H2) := by
  refine ⟨fun i m σ H => m = xs.length - i ∧ i ≤ xs.length ∧ Pv i σ H, ⟨xs.length, by simp, Nat.zero_le _, h0⟩, ?_⟩
  rintro i m σ H ⟨rfl, hi, p⟩
  have q := hl i σ H hi p
  by_cases hlt : i < xs.length
  · refine .inr ⟨w.go i H q hlt, Pv (i + 1), fun σ' H' p' => ⟨xs.length - (i + 1), by omega, rfl, hlt, p'⟩, fun x H' y => ?_⟩
    obtain ⟨e, y2⟩ := w.yld i H x H' q hlt y
    subst e
    exact hs i x σ _ y2 p
  · have e : i = xs.length := by omega
    subst e
    exact .inl ⟨w.stop _ H q (Nat.le_refl _), hd σ H p⟩
theorem forA {K : PySem.W.Frag} {g : TG} {tb : TS} {D : Ends} {σ : St} {H : Hp} {a : Addr} {xs : List V} (hq : SqA K H a xs) (Pv : Nat → St → Hp → Prop) (h0 : Pv 0 σ H) (hl : ∀ i σ H', i ≤ xs.length → Pv i σ H' → SqA K H' a xs)
    (hs : ∀ i x σ H, xs[i]? = some x → Pv i σ H → g x σ H fun σ2 H2 => tb { D with nx := Pv (i + 1), ct := Pv (i + 1), bk := D.nx } σ2 H2) (hd : ∀ σ H, Pv xs.length σ H → D.nx σ H) (hlt : ∀ H', SqA K H' a xs → (SqL K H a xs → SqL K H' a xs) ∧ (SqT K H a xs → SqT K H' a xs)) : tFor (iSeq K (fun _ H Q => Q (.ref a) H)) g tb D σ H := by
  refine ⟨a, rfl, ?_⟩
  rcases hq with hq | hq
  · exact .inl ⟨⟨xs, hq⟩, forW wk_list Pv h0 (fun i σ' H' hi p => (hlt _ (hl i σ' H' hi p)).1 hq) hs hd⟩
  · exact .inr ⟨⟨xs, hq⟩, forW wk_tup Pv h0 (fun i σ' H' hi p => (hlt _ (hl i σ' H' hi p)).2 hq) hs hd⟩
theorem none_of {H H' : Hp} {p : Addr} (s : Same H H') (h : H' p = none) : H p = none := by
  cases e : H p with
  | none => rfl
  | some o =>
    rw [s p o e] at h
    cases h
structure Rw {α : Type} (f : α → List V) (H : Hp) (vs : List V) (as : List α) : Prop where
  len : vs.length = as.length
  at_ : ∀ (i : Nat) (a : α), as[i]? = some a → ∃ l, vs[i]? = some (V.ref l) ∧ H l = some (.tup (f a))
theorem Rw.nil {α : Type} {f : α → List V} {H : Hp} : Rw f H [] [] := ⟨rfl, fun i a h => by simp at h⟩
theorem Rw.app {α : Type} {f : α → List V} {H : Hp} {vs ws : List V} {as bs : List α} (h : Rw f H vs as) (k : Rw f H ws bs) : Rw f H (vs ++ ws) (as ++ bs) := by
  refine ⟨by simp [h.len, k.len], fun i a e => ?_⟩
  rw [List.getElem?_append] at e
  rw [List.getElem?_append, h.len]
  split at e
  · rename_i hi
    rw [if_pos hi]
    exact h.at_ i a e
  · rename_i hi
    rw [if_neg hi]
    exact k.at_ _ a e
theorem Rw.one {α : Type} {f : α → List V} {H : Hp} {l : Addr} {a : α} (h : H l = some (.tup (f a))) : Rw f H [.ref l] [a] := ⟨rfl, fun i b e => by
  cases i with
  | zero =>
    simp at e
    subst e
    exact ⟨l, rfl, h⟩
  | succ n => simp at e⟩
def Kt (H H' : Hp) : Prop := ∀ b ys, H b = some (.tup ys) → H' b = some (.tup ys)
theorem Kt.refl (H : Hp) : Kt H H := fun _ _ h => h
theorem Kt.trans {H H1 H2 : Hp} (a : Kt H H1) (b : Kt H1 H2) : Kt H H2 := fun c ys h => b c ys (a c ys h)
theorem Kt.same {H H' : Hp} (a : Same H H') : Kt H H' := fun c ys h => a c _ h
theorem Kt.new {H : Hp} {p : Addr} {o : HO} (h : H p = none) : Kt H (upd H p o) := fun b ys e => keep_new h e
theorem Kt.lst {H : Hp} {p : Addr} {o : HO} {xs : List V} (h : H p = some (.lst xs)) : Kt H (upd H p o) := fun b ys e => keep_ne (fun z => by subst z; rw [h] at e; cases e) e
theorem Kt.fr {H H' : Hp} {S : List Addr} (a : Fr S H H') (h : ∀ p ∈ S, ∀ ys, H p ≠ some (.tup ys)) : Kt H H' := fun b ys e => a b _ e fun z => h b z ys e
theorem Rw.kt {α : Type} {f : α → List V} {H H' : Hp} {vs : List V} {as : List α} (h : Rw f H vs as) (k : Kt H H') : Rw f H' vs as := ⟨h.len, fun i a e => let ⟨l, h1, h2⟩ := h.at_ i a e; ⟨l, h1, k _ _ h2⟩⟩
theorem Rw.get {α : Type} {f : α → List V} {H : Hp} {vs : List V} {as : List α} {i : Nat} {x : V} (h : Rw f H vs as) (e : vs[i]? = some x) : ∃ a l, as[i]? = some a ∧ x = .ref l ∧ H l = some (.tup (f a)) := by
  have hi := (List.getElem?_eq_some_iff.mp e).1
  rw [h.len] at hi
  obtain ⟨l, h1, h2⟩ := h.at_ i as[i] (by simp [hi])
  rw [e] at h1
  cases h1
  exact ⟨_, l, by simp [hi], rfl, h2⟩
theorem Rw.take {α : Type} {f : α → List V} {H : Hp} {vs : List V} {as : List α} {i : Nat} {l : Addr} {a : α} (h : Rw f H vs (as.take i)) (e : as[i]? = some a) (k : H l = some (.tup (f a))) : Rw f H (vs ++ [.ref l]) (as.take (i + 1)) := by
  rw [List.take_add_one, e]
  exact h.app (Rw.one k)
theorem lcRw {α : Type} {f : α → List V} {as : List α} {J : It} {P : Hp → Prop} {xs : List V} {n : Nat} {te : TE} {vs : List Nat} {σ : St} {H1 : Hp} {QD : Addr → Hp → Prop} (w : Walks J P xs) (hlen : xs.length = as.length) (hz : as.length ≤ 1000000) (hP : ∀ H', Same H1 H' → P H')
    (hs : ∀ (i : Nat) x a H' Q', xs[i]? = some x → as[i]? = some a → Same H1 H' → (∀ l, H' l = none → Q' (V.ref l) (upd H' l (.tup (f a)))) → wipe ((wipe σ vs).set n (some x)) vs = wipe σ vs ∧ te ((wipe σ vs).set n (some x)) H' Q')
    (k : ∀ D ys H', H1 D = none → H' D = some (.lst ys) → Rw f H' ys as → Same H1 H' → QD D H') : LcBody J (gName n) tYes te vs σ H1 QD := by
  refine lcW w fun D hD => ?_
  refine ⟨fun i H' => ∃ ys, H' D = some (.lst ys) ∧ Rw f H' ys (as.take i) ∧ Same H1 H', ⟨[], upd_same, by rw [List.take_zero]; exact Rw.nil, same_new (Same.refl _) hD⟩, fun i H' _ ⟨_, _, _, s⟩ => hP _ s, ?_, ?_⟩
  · rintro i x H' hx ⟨ys, h1, h2, h3⟩
    have hi : i < as.length := by
      rw [← hlen]
      exact (List.getElem?_eq_some_iff.mp hx).1
    have ha : as[i]? = some as[i] := by simp [hi]
    obtain ⟨z1, z2⟩ := hs i x _ H' (fun y H4 => ∃ acc, H4 D = some (.lst acc) ∧ acc.length < sizeLine ∧ ∃ ys, (upd H4 D (.lst (acc ++ [y]))) D = some (.lst ys) ∧ Rw f (upd H4 D (.lst (acc ++ [y]))) ys (as.take (i + 1)) ∧ Same H1 (upd H4 D (.lst (acc ++ [y])))) hx ha h3 (fun l hl => by
      have e1 : (upd H' l (.tup (f as[i]))) D = some (.lst ys) := keep_new hl h1
      refine ⟨ys, e1, ?_, _, upd_same, ?_, ?_⟩
      · rw [h2.len, List.length_take, sizeLine_eq]
        omega
      · refine Rw.take (h2.kt ((Kt.new hl).trans (Kt.lst e1))) ha ?_
        exact (Kt.lst e1) _ _ upd_same
      · exact same_loc (same_new h3 hl) hD)
    exact ⟨z1, ⟨fun _ => z2, fun e => (nomatch e)⟩⟩
  · rintro H' ⟨ys, h1, h2, h3⟩
    rw [hlen, List.take_length] at h2
    exact k D ys H' hD h1 h2 h3
theorem lcVal {ws : List V} {J : It} {P : Hp → Prop} {xs : List V} {n : Nat} {te : TE} {vs : List Nat} {σ : St} {H1 : Hp} {QD : Addr → Hp → Prop} (w : Walks J P xs) (hlen : xs.length = ws.length) (hz : ws.length ≤ 1000000) (hP : ∀ H', Same H1 H' → P H')
    (hs : ∀ (i : Nat) x y H' Q', xs[i]? = some x → ws[i]? = some y → Same H1 H' → Q' y H' → wipe ((wipe σ vs).set n (some x)) vs = wipe σ vs ∧ te ((wipe σ vs).set n (some x)) H' Q')
    (k : ∀ D H', H1 D = none → H' D = some (.lst ws) → Same H1 H' → QD D H') : LcBody J (gName n) tYes te vs σ H1 QD := by
  refine lcW w fun D hD => ?_
  refine ⟨fun i H' => H' D = some (.lst (ws.take i)) ∧ Same H1 H', ⟨upd_same, same_new (Same.refl _) hD⟩, fun i H' _ ⟨_, s⟩ => hP _ s, ?_, ?_⟩
  · rintro i x H' hx ⟨h1, h3⟩
    have hi : i < ws.length := by
      rw [← hlen]
      exact (List.getElem?_eq_some_iff.mp hx).1
    have ha : ws[i]? = some ws[i] := by simp [hi]
    obtain ⟨z1, z2⟩ := hs i x _ H' (fun y H4 => ∃ acc, H4 D = some (.lst acc) ∧ acc.length < sizeLine ∧ (upd H4 D (.lst (acc ++ [y]))) D = some (.lst (ws.take (i + 1))) ∧ Same H1 (upd H4 D (.lst (acc ++ [y])))) hx ha h3
      ⟨_, h1, by rw [List.length_take, sizeLine_eq]; omega, by rw [upd_same, List.take_add_one, ha]; rfl, same_loc h3 hD⟩
    exact ⟨z1, ⟨fun _ => z2, fun e => (nomatch e)⟩⟩
  · rintro H' ⟨h1, h3⟩
    rw [hlen, List.take_length] at h1
    exact k D H' hD h1 h3
theorem foldl_take {α β : Type} {f : β → α → β} {b : β} {as : List α} {i : Nat} {a : α} (h : as[i]? = some a) : (as.take (i + 1)).foldl f b = f ((as.take i).foldl f b) a := by
  rw [List.take_add_one, h]
  simp
theorem rgV_get {lo : Int} {n i : Nat} {x : V} (h : (rgV lo n)[i]? = some x) : i < n ∧ x = .int (lo + (i : Int)) := by
  rw [List.getElem?_map] at h
  by_cases hi : i < n
  · rw [List.getElem?_range hi] at h
    exact ⟨hi, (Option.some.inj h).symm⟩
  · rw [List.getElem?_eq_none (by simp; omega)] at h
    cases h
theorem rgV_len {lo : Int} {n : Nat} : (rgV lo n).length = n := by simp
theorem chV_get {l : List Nat} {i : Nat} {x : V} (h : (chV l)[i]? = some x) : ∃ c, l[i]? = some c ∧ x = .str (S [c]) := by
  rw [List.getElem?_map] at h
  cases e : l[i]? with
  | none => rw [e] at h; cases h
  | some c => rw [e] at h; exact ⟨c, rfl, (Option.some.inj h).symm⟩
theorem chV_len {l : List Nat} : (chV l).length = l.length := by simp
def toD : V → PyData
  | .int i => .int i
  | .str s => .str s
  | .bl b => .bool b
  | _ => .none
def isSc : V → Bool
  | .int _ => true
  | .str _ => true
  | .bl _ => true
  | .non => true
  | _ => false
section
variable {K : PySem.W.Frag} {H : Hp} {QB : Hp → Prop}
theorem dp_sc {v : V} (h : isSc v = true) : Dp K H v (toD v) := by
  cases v with
  | int i => exact .int i
  | str s => exact .str s
  | bl b => exact .bl b
  | non => exact .non
  | _ => cases h
theorem dle_sc {v : V} : ∀ n, dle n (toD v) := by
  intro n
  cases n <;> cases v <;> trivial
theorem dpAll_sc : ∀ {vs : List V}, vs.all isSc = true → DpAll K H vs (vs.map toD)
  | [], _ => .nil
  | v :: vs, h => by
    rw [List.all_cons, Bool.and_eq_true] at h
    exact .cons (dp_sc h.1) (dpAll_sc h.2)
theorem dp_tup {l : Addr} {vs : List V} (h : H l = some (.tup vs)) (hs : vs.all isSc = true) : Dp K H (.ref l) (.tuple (vs.map toD)) := .tup (SqT.of h) (dpAll_sc hs)
theorem dle_tup {vs : List V} (hl : vs.length ≤ 1000) (n : Nat) : dle (n + 1) (.tuple (vs.map toD)) := ⟨by rw [List.length_map]; omega, fun d hd => by
  obtain ⟨v, _, rfl⟩ := List.mem_map.mp hd
  exact dle_sc n⟩
theorem rw_dp {α : Type} {f : α → List V} : ∀ {vs : List V} {as : List α}, Rw f H vs as → (∀ a, (f a).all isSc = true) → DpAll K H vs (as.map fun a => .tuple ((f a).map toD))
  | [], [], _, _ => .nil
  | [], _ :: _, h, _ => by have := h.len; simp at this
  | _ :: _, [], h, _ => by have := h.len; simp at this
  | v :: vs, a :: as, h, hs => by
    obtain ⟨l, h1, h2⟩ := h.at_ 0 a rfl
    cases Option.some.inj h1
    exact .cons (dp_tup h2 (hs a)) (rw_dp ⟨by have := h.len; simpa using this, fun i b e => h.at_ (i + 1) b e⟩ hs)
theorem dle_rows {α : Type} {f : α → List V} {as : List α} (hl : as.length ≤ 100000) (hf : ∀ a, (f a).length ≤ 1000) (n : Nat) : dle (n + 2) (.tuple (as.map fun a => .tuple ((f a).map toD))) ∧ dle (n + 2) (.list (as.map fun a => .tuple ((f a).map toD))) := by
  have : ∀ d ∈ as.map (fun a => PyData.tuple ((f a).map toD)), dle (n + 1) d := fun d hd => by
    obtain ⟨a, _, rfl⟩ := List.mem_map.mp hd
    exact dle_tup (hf a) n
  exact ⟨⟨by rw [List.length_map]; omega, this⟩, ⟨by rw [List.length_map]; omega, this⟩⟩
def SmB (K : PySem.W.Frag) (n : Nat) (x y : V) (H : Hp) (QB : Hp → Prop) : Prop := ∃ d m, n = m + 1 ∧ dle m d ∧ Dp K H x d ∧ Dp K H y d ∧ ∀ H', Same H H' → QB H'
theorem sm_of {n : Nat} {x y : V} (d : PyData) (hd : dle n d) (h1 : Dp K H x d) (h2 : Dp K H y d) (k : ∀ H', Same H H' → QB H') : SmB K (n + 1) x y H QB := ⟨d, n, rfl, hd, h1, h2, k⟩
theorem sm_sc {n : Nat} {v : V} (h : isSc v = true) (k : ∀ H', Same H H' → QB H') : SmB K (n + 1) v v H QB := ⟨toD v, n, rfl, dle_sc n, dp_sc h, dp_sc h, k⟩
theorem sm_tup {n : Nat} {l l' : Addr} {vs : List V} (h : H l = some (.tup vs)) (h' : H l' = some (.tup vs)) (hs : vs.all isSc = true) (hl : vs.length ≤ 1000) (k : ∀ H', Same H H' → QB H') : SmB K (n + 2) (.ref l) (.ref l') H QB :=
  ⟨_, n + 1, rfl, dle_tup hl n, dp_tup h hs, dp_tup h' hs, k⟩
theorem sm_rowsT {α : Type} {f : α → List V} {n : Nat} {a b : Addr} {xs ys : List V} {as : List α} (h : SqT K H a xs) (r : Rw f H xs as) (h' : SqT K H b ys) (r' : Rw f H ys as) (hs : ∀ a, (f a).all isSc = true) (hl : as.length ≤ 100000) (hf : ∀ a, (f a).length ≤ 1000) (k : ∀ H', Same H H' → QB H') : SmB K (n + 3) (.ref a) (.ref b) H QB :=
  ⟨_, n + 2, rfl, (dle_rows hl hf n).1, .tup h (rw_dp r hs), .tup h' (rw_dp r' hs), k⟩
theorem sm_rowsL {α : Type} {f : α → List V} {n : Nat} {a b : Addr} {xs ys : List V} {as : List α} (h : SqL K H a xs) (r : Rw f H xs as) (h' : SqL K H b ys) (r' : Rw f H ys as) (hs : ∀ a, (f a).all isSc = true) (hl : as.length ≤ 100000) (hf : ∀ a, (f a).length ≤ 1000) (k : ∀ H', Same H H' → QB H') : SmB K (n + 3) (.ref a) (.ref b) H QB :=
  ⟨_, n + 2, rfl, (dle_rows hl hf n).2, .lst h (rw_dp r hs), .lst h' (rw_dp r' hs), k⟩
end
end Co
end

section
set_option maxHeartbeats 4000000
namespace Co
open PySem PySem.Spec PyProof.Rows L2
theorem meets_enumB1 {v : Value} {o : Obj} {H : Heap → Prop} (B : Begins v o H) :
    Meets (Builtin.«enumerate.__new__» ⟨[.type "enumerate", v], []⟩) (fun _ R s => H s.heap ∧
      R (.ok (.ret (.ref (s.heap.push o).objs.size))) { s with heap := (s.heap.push o).push { cls := .type "enumerate", data := .fields #[.none, .bool false, .ref s.heap.objs.size, rawInt 0, .none, .none] } }) :=
  .of_wp fun prog w A R s h => by
    obtain ⟨hp, g, d, tk, os⟩ := s; obtain ⟨h1, h⟩ := h
    have hsub := sub_enumerate
    have q1 : ∀ {A' : Around} {E : Value → Shared → Prop} {Q : Value → Shared → Prop}, Q (.ref hp.objs.size) ⟨hp.push o, g, d, tk, os⟩ → wpAny (model prog w) A' (pyIter v) Q E ⟨hp, g, d, tk, os⟩ :=
      fun q => B.iter prog w _ _ ⟨hp, g, d, tk, os⟩ _ h1 q
    wp_walk using q1
    refine wpAny_stack_any fun st => wpAny_pure ?_
    split
    · rename_i c _ _ _ _ _
      cases (c == Value.type "enumerate")
      · wp_walk using q1
        exact ⟨_, rfl, h⟩
      · wp_walk using q1
        exact ⟨_, rfl, h⟩
    · wp_walk using q1
      exact ⟨_, rfl, h⟩
section
variable {prog : Program} {w : World} {A : Around} {E : Value → Shared → Prop} {s : Shared}
theorem enum_beginsB1 {v : Value} {o : Obj} {H : Heap → Prop} {Q : Value → Shared → Prop} (B : Begins v o H) (h1 : H s.heap)
    (h : ∀ h', IsEnum h' (s.heap.objs.size + 1) s.heap.objs.size 0 .none → h'.get? s.heap.objs.size = some o → h'.objs.size = s.heap.objs.size + 2 →
      (∀ b o, s.heap.get? b = some o → h'.get? b = some o) → Q (.ref (s.heap.objs.size + 1)) { s with heap := h' }) :
    wpAny (model prog w) A (call (.type "enumerate") [v]) Q E s := by
  refine callType_new F.called_enumerate (by decide) (F.typeCall_enumerate_1 _) (F.newCall_enumerate_1 _) (fun obj => F.args_object_init_2 obj _) F.entry_enumerate_new
    (meets_enumB1 B) ⟨h1, ?_⟩
  have hz : (s.heap.push o).objs.size = s.heap.objs.size + 1 := Heap.size_push ..
  show _ ∧ _
  rw [hz]
  have he : IsEnum ((s.heap.push o).push { cls := .type "enumerate", data := .fields #[.none, .bool false, .ref s.heap.objs.size, rawInt 0, .none, .none] }) (s.heap.objs.size + 1) s.heap.objs.size 0 .none := by
    have := Heap.get?_push_size (s.heap.push o) (o := { cls := .type "enumerate", data := .fields #[.none, .bool false, .ref s.heap.objs.size, rawInt 0, .none, .none] }) rfl
    rw [hz] at this; exact this
  refine ⟨⟨_, he, rfl⟩, h _ he (Heap.get?_push_of_some _ (Heap.get?_push_size _ B.free)) (by rw [Heap.size_push, hz]) fun b o x => Heap.get?_push_of_some _ (Heap.get?_push_of_some _ x)⟩
theorem enumT_end {e it l : Addr} {i : Nat} {items : Array Value} {old : Value} {Q : Option Value → Shared → Prop} (hh : A.handled = none)
    (he : IsEnum s.heap e it i old) (hit : s.heap.IsTupleIter it l i) (hl : s.heap.IsTuple l items) (hx : items[i]? = none)
    (hQ : ∀ h', Heap.ExtBut it s.heap h' → Q none { s with heap := h' }) : wpAny (model prog w) A (pyNext (.ref e)) Q E s := by
  have hT : s.TypeIs (.ref e) "enumerate" := ⟨_, he, rfl⟩
  unfold pyNext
  refine wpAny_bind (wpAny_attempt (wpAny_callSpecial?_slot (name := Str.ofString "__next__") hT F.slot_enumerate_next
    (wpAny_call_entry F.slot_enumerate_next hT F.entry_enumerate_next ?_ (F.args_enumerate_next_1 _))))
  show wpAny _ _ (field (.ref e) 2 >>= _) _ _ _
  refine wpAny_bind (wpAny_field he rfl (x := .ref it) rfl ?_)
  refine wpAny_bind (wpAny_nextOf_tuple_end hh hit hl hx fun h' x he' hx' => ?_)
  obtain ⟨o, ho, hc⟩ := hx'
  refine wpAny_bind (wpAny_isInstance (T := "StopIteration") (b := true) ⟨o, ho, hc⟩ isSubtype_stop ?_)
  exact wpAny_pure (hQ _ he')
end
def IteT (K : PySem.W.Frag) (a : Addr) : It :=
  ⟨fun i H => ∃ (xs : List V) (x : V), SqT K H a xs ∧ xs[i]? = some x, fun i H v H' => ∃ T x, v = .ref T ∧ H T = none ∧ H' = upd H T (.tup [.int (i : Nat), x]) ∧ ∀ xs, SqT K H a xs → xs[i]? = some x, fun i H => ∃ xs : List V, SqT K H a xs ∧ xs.length ≤ i⟩
theorem turn_enumT {P : Program} {w : World} {K : PySem.W.Frag} {elts : List Expr} {kk : Nat} {tpos : Pos} (a e it : Addr) :
    Turn P w K (.Tuple elts kk tpos) (IteT K a) [e, it] e (fun i h => (∃ old, IsEnum h e it ((i : Nat) : Int) old) ∧ h.IsTupleIter it a i ∧ e ≠ it ∧ e ≠ a ∧ a ≠ it) where
  mem := by simp
  obj := fun i h st b hb => by
    obtain ⟨⟨old, he⟩, ⟨o, ho, hc, hd⟩, _⟩ := st
    have e' : b = e ∨ b = it := by simpa using hb
    rcases e' with z | z
    · rw [z]; exact ⟨_, he, fun v q => nomatch q⟩
    · rw [z]; exact ⟨o, ho, fun v q => by rw [hd] at q; cases q⟩
  keep := fun i h h' st k => let ⟨⟨old, he⟩, hi, hne⟩ := st; ⟨⟨old, k e (by simp) _ he⟩, hi.at fun o q => k it (by simp) o q, hne⟩
  item := by
    intro X hP hw hK hc i pins s σ H E I hf st hg
    subst hP hw hK
    obtain ⟨⟨old, he⟩, hit, hne, hea, hai⟩ := st
    obtain ⟨xs, x, hq, hx⟩ := hg
    obtain ⟨its, rv, p, hz⟩ := I.tuple hq
    have p : s.heap.IsTuple a its.toArray := p
    obtain ⟨u, hu, ru⟩ := rv.get hx
    have hel : e < s.heap.objs.size := Heap.lt_size he
    have hil : it < s.heap.objs.size := by obtain ⟨_, q, _⟩ := hit; exact Heap.lt_size q
    have hlt : i < its.toArray.size := by
      have := (List.getElem?_eq_some_iff.mp hu).1
      simpa using this
    refine wpAny_pyNext_enum_itemD (Draws.tuple (A := X.A.in1) (I.ok.hd hc) it a hai its.toArray) he ⟨hit, p⟩ hlt hne (by simp [hne, hea]) fun x' h' tk hx' ho hst hT hsz hk => ?_
    have ex : x' = u := by
      have : its.toArray[i]? = some u := by simpa using hu
      rw [this] at hx'
      exact (Option.some.inj hx').symm
    subst ex
    obtain ⟨hit', -⟩ := hst
    refine ⟨_, rfl, wpAny_letOwnedTupleGo_enum (s := { s with heap := h', toks := tk + 1 }) ho fun h'' he' sb => ?_⟩
    have hT2 : h''.get? s.heap.objs.size = some { cls := .type "tuple", data := .seq #[.int i tk, x'] } := (sb.2 _ (Nat.ne_of_gt hel)).trans hT
    have new : ObjOk X.prog X.w (upd H s.heap.objs.size (.tup [.int (i : Nat), x])) h'' s.heap.objs.size (.tup [.int (i : Nat), x]) :=
      ⟨by show 2 ≤ sizeLine; decide, [.int i tk, x'], .cons ⟨_, rfl⟩ (.cons ru .nil), ⟨_, hT2, rfl, _, rfl⟩⟩
    have I1 : Inv X pins σ (upd H s.heap.objs.size (.tup [.int (i : Nat), x])) { s with heap := h'', toks := tk + 1 } :=
      I.turnedNew (ch := [e, it]) (fun b ob hb q => (sb.2 b (fun z => hb (by simp [z]))).trans (hk b ob (fun z => hb (by simp [z])) (fun z => hb (by simp [z])) q)) hf (Nat.le_refl _) new
    refine ⟨.ref s.heap.objs.size, _, I1, rfl, ⟨_, x, rfl, I.hok.fresh (Nat.le_refl _), rfl, fun ys hy => by rw [I.tuple_inj hy hq]; exact hx⟩, ⟨⟨x', ?_⟩, hit'.at fun o q => (sb.2 it (Ne.symm hne)).trans q, hne, hea, hai⟩, fun b hb => ?_⟩
    · have e1 : ((i + 1 : Nat) : Int) = (i : Int) + 1 := by omega
      rw [e1]; exact he'
    · have hb' : b < s.heap.objs.size := by
        have e' : b = e ∨ b = it := by simpa using hb
        rcases e' with z | z
        · rw [z]; exact hel
        · rw [z]; exact hil
      rw [upd_ne (Nat.ne_of_lt hb')]
      exact (hf b hb).1
  done := by
    intro X hP hw hK hc i pins s σ H E I hf st hg
    subst hP hw hK
    obtain ⟨⟨old, he⟩, hit, hne, hea, hai⟩ := st
    obtain ⟨xs, hq, hx⟩ := hg
    obtain ⟨its, rv, p, hz⟩ := I.tuple hq
    have p : s.heap.IsTuple a its.toArray := p
    obtain ⟨f0, f1, f2, f3, f4, f5⟩ := hf it (by simp)
    have hl := rv.length
    exact enumT_end (I.ok.hd hc) he hit p (by simp; omega) fun h' eb => ⟨rfl, I.turned (t' := s.toks) (fun b o hb q => eb b o hb q) f0 f1 f3 f4 f5⟩
  self := fun A i s Q E st h => let ⟨⟨_, he⟩, _⟩ := st; wpAny_pyIter_enum he h
def iEnumA (K : PySem.W.Frag) (ta : TA) : TI := fun σ H R => ta σ H fun vs H1 => ∃ a, vs = [.ref a] ∧ (((∃ xs, SqL K H1 a xs) ∧ R (Ite K a) H1) ∨ ((∃ xs, SqT K H1 a xs) ∧ R (IteT K a) H1))
theorem pi_enumA {X : Cx} {e : Expr} {ta : TA} {p pos tpos : Pos} {elts : List Expr} {kk : Nat} (hg : Gl X "enumerate") (hm : X.mg "enumerate" = none) (ha : PA X [e] ta) (hs : starEach [e] X.env = [(false, eval e X.env)] := by rfl) :
    PI X (.Tuple elts kk tpos) (.Call (.Name "enumerate" p) [e] [] pos) (iEnumA X.K ta) := by
  refine ⟨fun pins s σ H R I h => ?_⟩
  refine Call_ (ld_blt I hg hm boot_enumerate (PyProof.Rows.callWith_type1 (thn (ha.run pos pins s σ H _ I h) fun us s1 ⟨vs, H1, I1, r1, q1⟩ => ?_) hs rfl))
  obtain ⟨a, ex, q⟩ := q1
  subst ex
  cases r1 with
  | cons r rr =>
    cases rr
    cases r
    rcases q with ⟨⟨xs, hq⟩, q⟩ | ⟨⟨xs, hq⟩, q⟩
    · obtain ⟨its, rv, p', hz⟩ := I1.list hq
      refine call_enumerate_list p'.isList fun h' he hit hsz hk => wpAny_pyIter_enum he ?_
      have I2 : Inv X pins σ H1 { s1 with heap := h' } := I1.kept (t' := s1.toks) hk
      refine ⟨s1.heap.objs.size + 1, [s1.heap.objs.size + 1, s1.heap.objs.size], _, _, H1, rfl, I2, turn_enum a (s1.heap.objs.size + 1) s1.heap.objs.size, ⟨⟨.none, he⟩, hit, Nat.succ_ne_self _⟩, fun b hb => ?_, q⟩
      have e' : b = s1.heap.objs.size + 1 ∨ b = s1.heap.objs.size := by simpa using hb
      have hle : s1.heap.objs.size ≤ b := by
        rcases e' with z | z
        · rw [z]; exact Nat.le_add_right _ _
        · rw [z]; exact Nat.le_refl _
      exact I1.fpOk hle (I1.hok.fresh hle)
    · obtain ⟨its, rv, p', hz⟩ := I1.tuple hq
      have p' : s1.heap.IsTuple a its.toArray := p'
      have hal : a < s1.heap.objs.size := by obtain ⟨_, q, _⟩ := p'; exact Heap.lt_size q
      refine enum_beginsB1 (begins_tuple a its.toArray) p' fun h' he hit hsz hk => wpAny_pyIter_enum he ?_
      have I2 : Inv X pins σ H1 { s1 with heap := h' } := I1.kept (t' := s1.toks) hk
      refine ⟨s1.heap.objs.size + 1, [s1.heap.objs.size + 1, s1.heap.objs.size], _, _, H1, rfl, I2, turn_enumT a (s1.heap.objs.size + 1) s1.heap.objs.size, ⟨⟨.none, he⟩, ⟨_, hit, rfl, rfl⟩, Nat.succ_ne_self _, Nat.ne_of_gt (Nat.lt_succ_of_lt hal), Nat.ne_of_lt hal⟩, fun b hb => ?_, q⟩
      have e' : b = s1.heap.objs.size + 1 ∨ b = s1.heap.objs.size := by simpa using hb
      have hle : s1.heap.objs.size ≤ b := by
        rcases e' with z | z
        · rw [z]; exact Nat.le_add_right _ _
        · rw [z]; exact Nat.le_refl _
      exact I1.fpOk hle (I1.hok.fresh hle)
section
variable {X : Cx} {a b c d : Expr} {ta tb tc td : TE} {pos : Pos}
def uChain3 (r r' r'' : R2) (ta tb tc td : TE) : TE := fun σ H Q => ta σ H fun x H1 => tb σ H1 fun y H2 => r x y H2 fun z H3 => bv z fun k => two k
  (tc σ H3 fun w H4 => r' y w H4 fun z2 H5 => bv z2 fun k2 => two k2 (td σ H5 fun v H6 => r'' w v H6 Q) (Q (.bl false) H5)) (Q (.bl false) H3)
theorem bv_ex {x : V} {k : Bool → Prop} (h : bv x k) : ∃ c, x = .bl c ∧ k c := by
  unfold bv at h
  split at h
  · exact ⟨_, rfl, h⟩
  · exact h.elim
theorem t_chain3 {op op' op'' : CmpOp} {r r' r'' : R2} (ho : OpR X (compareOp op) r) (ho' : OpR X (compareOp op') r') (ho'' : OpR X (compareOp op'') r'') (ha : PE X a ta) (hb : PE X b tb) (hc : PE X c tc) (hd : PE X d td)
    (hm : lastMarks [op, op', op''] [b, c, d] = false := by with_unfolding_all rfl) : PT X (.Compare a [op, op', op''] [b, c, d] pos) (tBo (uChain3 r r' r'' ta tb tc td)) := by
  refine ⟨fun pins s σ H Q I h => ?_⟩
  refine isTrue_chain (thn (ha.run pins s σ H _ I h) fun v s1 ⟨x, H1, I1, r1, q1⟩ => test_link (thn (hb.run pins s1 σ H1 _ I1 q1) fun u s2 ⟨y, H2, I2, r2, q2⟩ =>
    thn (ho pins s2 σ H2 x y v u _ I2 r1 r2 q2) fun d s3 ⟨z, H3, I3, r3, q3⟩ => ?_)) hm
  obtain ⟨k, e, q3⟩ := bv_ex q3
  subst e
  cases r3
  refine wpAny_truthy_bool ?_
  cases k with
  | false => exact ite_ff ⟨H3, I3, q3.2 rfl⟩
  | true =>
    refine ite_tt (test_link (thn (hc.run pins s3 σ H3 _ I3 (q3.1 rfl)) fun w' s4 ⟨w, H4, I4, r4, q4⟩ => thn (ho' pins s4 σ H4 y w u w' _ I4 r2 r4 q4) fun d' s5 ⟨z2, H5, I5, r5, q5⟩ => ?_))
    obtain ⟨k2, e2, q5⟩ := bv_ex q5
    subst e2
    cases r5
    refine wpAny_truthy_bool ?_
    cases k2 with
    | false => exact ite_ff ⟨H5, I5, q5.2 rfl⟩
    | true =>
      refine ite_tt (test_last (thn (hd.run pins s5 σ H5 _ I5 (q5.1 rfl)) fun v' s6 ⟨v2, H6, I6, r6, q6⟩ => thn (ho'' pins s6 σ H6 w v2 w' v' _ I6 r4 r6 q6) fun d2 s7 ⟨z3, H7, I7, r7, q7⟩ => ?_))
      have q7 : bv z3 fun k => Q k H7 := by
        cases z3 <;> exact q7
      obtain ⟨k3, e3, q7⟩ := bv_ex q7
      subst e3
      cases r7
      exact wpAny_truthy_bool ⟨H7, I7, q7⟩
end
theorem yesD {p : Prop} [Decidable p] {T E : Prop} (h : p) (k : T) : two (decide p) T E := oneD (fun _ => k) fun n => absurd h n
theorem noD {p : Prop} [Decidable p] {T E : Prop} (h : ¬ p) (k : E) : two (decide p) T E := oneD (fun n => absurd n h) fun _ => k
theorem notY {p : Prop} [Decidable p] {T E : Prop} (h : p) (k : E) : two (!decide p) T E := notD (fun n => absurd h n) fun _ => k
theorem notN {p : Prop} [Decidable p] {T E : Prop} (h : ¬ p) (k : T) : two (!decide p) T E := notD (fun _ => k) fun n => absurd n h
theorem andN {p q : Prop} [Decidable p] [Decidable q] {T E : Prop} (h : ¬ (p ∧ q)) (k : E) : two (decide p) (two (decide q) T E) (two false T E) := andD (fun z => absurd z h) fun _ => k
theorem andY {p q : Prop} [Decidable p] [Decidable q] {T E : Prop} (h : p ∧ q) (k : T) : two (decide p) (two (decide q) T E) (two false T E) := andD (fun _ => k) fun z => absurd h z
theorem forEn {K : PySem.W.Frag} {a : Addr} {xs : List V} {g : TG} {tb : TS} {D : Ends} {σ : St} {H : Hp} (hq : SqA K H a xs) (Pv : Nat → St → Hp → Prop) (h0 : Pv 0 σ H) (hl : ∀ i σ H', i ≤ xs.length → Pv i σ H' → Same H H')
    (hs : ∀ (i : Nat) x σ H' T, xs[i]? = some x → Pv i σ H' → H' T = none → g (.ref T) σ (upd H' T (.tup [.int (i : Int), x])) fun σ2 H2 => tb { D with nx := Pv (i + 1), ct := Pv (i + 1), bk := D.nx } σ2 H2) (hd : ∀ σ H, Pv xs.length σ H → D.nx σ H) :
    tFor (iEnumA K (tCons (fun _ H Q => Q (.ref a) H) tNil)) g tb D σ H := by
  refine ⟨a, rfl, ?_⟩
  rcases hq with hq | hq
  · refine .inl ⟨⟨xs, hq⟩, fun i m σ H => m = xs.length - i ∧ i ≤ xs.length ∧ Pv i σ H, ⟨xs.length, by simp, Nat.zero_le _, h0⟩, ?_⟩
    rintro i m σ' H' ⟨rfl, hi, p⟩
    have q : SqL K H' a xs := (hl i σ' H' hi p).seq hq
    by_cases hlt : i < xs.length
    · refine .inr ⟨⟨xs, xs[i], q, by simp [hlt]⟩, Pv (i + 1), fun σ' H' p' => ⟨xs.length - (i + 1), by omega, rfl, hlt, p'⟩, fun x H2 y => ?_⟩
      obtain ⟨T, x', e1, e2, e3, e4⟩ := y
      subst e1 e3
      exact hs i x' σ' _ T (e4 xs q) p e2
    · have e : i = xs.length := by omega
      subst e
      exact .inl ⟨⟨xs, q, Nat.le_refl _⟩, hd σ' H' p⟩
  · refine .inr ⟨⟨xs, hq⟩, fun i m σ H => m = xs.length - i ∧ i ≤ xs.length ∧ Pv i σ H, ⟨xs.length, by simp, Nat.zero_le _, h0⟩, ?_⟩
    rintro i m σ' H' ⟨rfl, hi, p⟩
    have q : SqT K H' a xs := sqT_same (hl i σ' H' hi p) hq
    by_cases hlt : i < xs.length
    · refine .inr ⟨⟨xs, xs[i], q, by simp [hlt]⟩, Pv (i + 1), fun σ' H' p' => ⟨xs.length - (i + 1), by omega, rfl, hlt, p'⟩, fun x H2 y => ?_⟩
      obtain ⟨T, x', e1, e2, e3, e4⟩ := y
      subst e1 e3
      exact hs i x' σ' _ T (e4 xs q) p e2
    · have e : i = xs.length := by omega
      subst e
      exact .inl ⟨⟨xs, q, Nat.le_refl _⟩, hd σ' H' p⟩
theorem forS {K : PySem.W.Frag} {g : TG} {tb : TS} {D : Ends} {σ : St} {H H0 : Hp} {a : Addr} {xs : List V} (hq : SqA K H0 a xs) (Pv : Nat → St → Hp → Prop) (h0 : Pv 0 σ H) (hl : ∀ i σ H', i ≤ xs.length → Pv i σ H' → Same H0 H')
    (hs : ∀ (i : Nat) x σ H, xs[i]? = some x → Pv i σ H → g x σ H fun σ2 H2 => tb { D with nx := Pv (i + 1), ct := Pv (i + 1), bk := D.nx } σ2 H2) (hd : ∀ σ H, Pv xs.length σ H → D.nx σ H) : tFor (iSeq K (fun _ H Q => Q (.ref a) H)) g tb D σ H := by
  refine ⟨a, rfl, ?_⟩
  have e0 := hl 0 σ H (Nat.zero_le _) h0
  rcases hq with hq | hq
  · exact .inl ⟨⟨xs, e0.seq hq⟩, forW wk_list Pv h0 (fun i σ' H' hi p => (hl i σ' H' hi p).seq hq) hs hd⟩
  · exact .inr ⟨⟨xs, sqT_same e0 hq⟩, forW wk_tup Pv h0 (fun i σ' H' hi p => sqT_same (hl i σ' H' hi p) hq) hs hd⟩
end Co
end

section
set_option maxHeartbeats 4000000
namespace Co
open PySem PySem.Spec PyProof.Rows L2
def uDc (wi : TI) (g : TG) (tt : TT) (tk tv : TE) (vs : List Nat) : TE := fun σ H Q => wi σ H fun J H1 => ∀ D, H1 D = none → ∃ W : Nat → Nat → Hp → Prop, (∃ m, W 0 m (upd H1 D (.dK []))) ∧ ∀ i m H, W i m H →
  (J.stop i H ∧ Q (.ref D) H) ∨ (J.go i H ∧ ∃ Nx : Hp → Prop, (∀ H', Nx H' → ∃ m', m' < m ∧ W (i + 1) m' H') ∧ ∀ x H', J.yld i H x H' → g x (wipe σ vs) H' fun σ2 H2 => wipe σ2 vs = wipe σ vs ∧ tt σ2 H2 fun b H3 =>
    two b (tk σ2 H3 fun y H4 => tv σ2 H4 fun z H5 => ∃ kvs k, y = kV k ∧ H5 D = some (.dK kvs) ∧ kvs.length < sizeLine ∧ Nx (upd H5 D (.dK (putK kvs k z)))) (Nx H3))
theorem dc_eq {wi : TI} {g : TG} {tt : TT} {tk tv : TE} {vs : List Nat} : tDc wi g tt tk tv vs = uDc wi g tt tk tv vs := by
  unfold tDc uDc
  simp only [two_eq]
section
variable {X : Cx}
theorem e_dc {kx vx tg iter : Expr} {ifs : List Expr} {scope : Scope} {own : List (Str × Nat)} {pos : Pos} {wi : TI} {g : TG} {tt : TT} {tk tv : TE} (hc : X.calm = true) (hN : X.N.Nodup) (hi : PI X tg iter wi) (ok : BlkOk X.N X.env.scope scope own)
    (hg : ∀ (s : Shared) (H : Hp) (C : Addr) (cl : List (Str × Addr)) (fp : List Addr), PG (X.blk s H scope (compEnvC scope cl C X.env) fp) tg g) (ht : ∀ (s : Shared) (H : Hp) (C : Addr) (cl : List (Str × Addr)) (fp : List Addr), PTs (X.blk s H scope (compEnvC scope cl C X.env) fp) ifs tt)
    (hk : ∀ (s : Shared) (H : Hp) (C : Addr) (cl : List (Str × Addr)) (fp : List Addr), PE (X.blk s H scope (compEnvC scope cl C X.env) fp) kx tk)
    (he : ∀ (s : Shared) (H : Hp) (C : Addr) (cl : List (Str × Addr)) (fp : List Addr), PE (X.blk s H scope (compEnvC scope cl C X.env) fp) vx tv) (hs : ∀ x, foldedSetIterable iter X.env x = pure x := by intro _; rfl) :
    PE X (.DictComp kx vx [⟨tg, iter, ifs, 0⟩] scope pos) (uDc wi g tt tk tv (own.map (·.2))) := dc_eq ▸ pe_dc hc hN hi ok hg ht hk he hs
theorem sw_trueD {kx vx : Expr} {gs : List Comprehension} {scope : Scope} {pos py : Pos} {y : Str} {l : Nat} {env : Env} (hk : env.scope.kind = .function) (hy : env.scope.names.lookup y = some .local) (hl : (py.line == pos.line) = true)
    (ha : (scope.names.any fun (n, k) => n == y && (k == .local || k == .cell)) = false) : swapsWith (.DictComp kx vx gs scope pos) (some (.Name y py)) l env = pure true := by
  have ky : env.kindOf y = some .local := hy
  have hb : env.blockKind = .function := by unfold Env.blockKind; rw [hk]; rfl
  unfold swapsWith
  simp only [hb, ky, ha, Expr.pos, hl]
  rfl
theorem s_setDc {i : Nat} {y : Str} {py : Pos} {kx vx tg iter : Expr} {ifs : List Expr} {scope : Scope} {own : List (Str × Nat)} {pos spos : Pos} {wi : TI} {g : TG} {tt : TT} {tk tv : TE} (hc : X.calm = true) (hN : X.N.Nodup) (hy : X.N[i]? = some y) (hyl : X.env.scope.names.lookup y = some .local)
    (hsw : swapsWith (.DictComp kx vx [⟨tg, iter, ifs, 0⟩] scope pos) (some (.Name y py)) spos.line X.env = pure true) (hi : PI X tg iter wi) (ok : BlkOk X.N X.env.scope scope own)
    (hg : ∀ (s : Shared) (H : Hp) (C : Addr) (cl : List (Str × Addr)) (fp : List Addr), PG (X.blk s H scope (compEnvC scope cl C X.env) fp) tg g) (ht : ∀ (s : Shared) (H : Hp) (C : Addr) (cl : List (Str × Addr)) (fp : List Addr), PTs (X.blk s H scope (compEnvC scope cl C X.env) fp) ifs tt)
    (hk : ∀ (s : Shared) (H : Hp) (C : Addr) (cl : List (Str × Addr)) (fp : List Addr), PE (X.blk s H scope (compEnvC scope cl C X.env) fp) kx tk)
    (he : ∀ (s : Shared) (H : Hp) (C : Addr) (cl : List (Str × Addr)) (fp : List Addr), PE (X.blk s H scope (compEnvC scope cl C X.env) fp) vx tv) (hs : ∀ x, foldedSetIterable iter X.env x = pure x := by intro _; rfl) :
    PS X (.Assign [.Name y py] (.DictComp kx vx [⟨tg, iter, ifs, 0⟩] scope pos) spos) (tAsg (uDc wi g tt tk tv (own.map (·.2))) (gName i)) := by
  rw [← dc_eq]
  refine ⟨fun pins s σ H D I h => ?_⟩
  rw [exec_Assign_Name_used _ _ _ _ hsw]
  refine wpAny_bind (wpAny_standAt (wpAny_bind ?_))
  show wpAny _ X.A (do let _ ← comprehension (.DictComp kx vx [⟨tg, iter, ifs, 0⟩] scope pos) scope X.env (firstIterPos [⟨tg, iter, ifs, 0⟩] pos) newDict false (eval iter X.env) (some (assign (.Name y py) X.env))) _ _ s
  have h : tDc wi g tt tk tv (own.map (·.2)) σ H (fun x H1 => gName i x σ H1 D.nx) := h
  refine wpAny_bind (thn (dc_core (Qf := fun _ s' => SP X pins D .next s') hc hN I hi ok hg ht hk he hs h fun L C s' m H' I' q hn f => ?_) fun _ s' hq => wpAny_pure (wpAny_pure hq))
  show wpAny _ _ (assign (.Name y py) X.env (.ref L)) _ _ _
  refine wpAny_assign_Name (store_ok2 (v := V.ref L) I' hN hy (.inl hyl) rfl (fun s2 I2 ⟨a, sb, ha⟩ => ?_) (.inr hyl))
  obtain ⟨f0, f1, f2, f3, f4, f5⟩ := f
  have haC : C ≠ a := by
    rcases ha with z | z
    · rw [z]; exact f1
    · exact fun e => f4 y a z e.symm
  refine ⟨m, hn.sameBut sb haC, fun h3 sb3 => ?_⟩
  exact ⟨_, H', I2.turned (t' := s2.toks) (fun b o hb e => (sb3.2 b hb).trans e) f0 f1 f3 f4 f5, q⟩
end
def DcBody (J : It) (g : TG) (tt : TT) (tk tv : TE) (vs : List Nat) (σ : St) (H1 : Hp) (QD : Addr → Hp → Prop) : Prop :=
  ∀ D, H1 D = none → ∃ W : Nat → Nat → Hp → Prop, (∃ m, W 0 m (upd H1 D (.dK []))) ∧ ∀ i m H, W i m H →
  (J.stop i H ∧ QD D H) ∨ (J.go i H ∧ ∃ Nx : Hp → Prop, (∀ H', Nx H' → ∃ m', m' < m ∧ W (i + 1) m' H') ∧ ∀ x H', J.yld i H x H' → g x (wipe σ vs) H' fun σ2 H2 => wipe σ2 vs = wipe σ vs ∧ tt σ2 H2 fun b H3 =>
    two b (tk σ2 H3 fun y H4 => tv σ2 H4 fun z H5 => ∃ kvs k, y = kV k ∧ H5 D = some (.dK kvs) ∧ kvs.length < sizeLine ∧ Nx (upd H5 D (.dK (putK kvs k z)))) (Nx H3))
theorem dcW {J : It} {P : Hp → Prop} {xs : List V} {g : TG} {tt : TT} {tk tv : TE} {vs : List Nat} {σ : St} {H1 : Hp} {QD : Addr → Hp → Prop} (w : Walks J P xs) (h : ∀ D, H1 D = none → ∃ Pv : Nat → Hp → Prop, Pv 0 (upd H1 D (.dK [])) ∧ (∀ i H, i ≤ xs.length → Pv i H → P H) ∧
      (∀ (i : Nat) x H, xs[i]? = some x → Pv i H → g x (wipe σ vs) H fun σ2 H2 => wipe σ2 vs = wipe σ vs ∧ tt σ2 H2 fun b H3 => two b (tk σ2 H3 fun y H4 => tv σ2 H4 fun z H5 => ∃ kvs k, y = kV k ∧ H5 D = some (.dK kvs) ∧ kvs.length < sizeLine ∧ Pv (i + 1) (upd H5 D (.dK (putK kvs k z)))) (Pv (i + 1) H3)) ∧
      ∀ H, Pv xs.length H → QD D H) : DcBody J g tt tk tv vs σ H1 QD := by
  intro D hD
  obtain ⟨Pv, h0, hl, hs, hd⟩ := h D hD
  refine ⟨fun i m H => m = xs.length - i ∧ i ≤ xs.length ∧ Pv i H, ⟨xs.length, by simp, Nat.zero_le _, h0⟩, ?_⟩
  rintro i m H ⟨rfl, hi, p⟩
  have q := hl i H hi p
  by_cases hlt : i < xs.length
  · refine .inr ⟨w.go i H q hlt, Pv (i + 1), fun H' p' => ⟨xs.length - (i + 1), by omega, rfl, hlt, p'⟩, fun x H' y => ?_⟩
    obtain ⟨e, y2⟩ := w.yld i H x H' q hlt y
    subst e
    exact hs i x _ y2 p
  · have e : i = xs.length := by omega
    subst e
    exact .inl ⟨w.stop _ H q (Nat.le_refl _), hd H p⟩
theorem orDN {p q : Prop} [Decidable p] [Decidable q] {T E : Prop} (h : p ∨ ¬ q → T) (k : ¬ (p ∨ ¬ q) → E) : two (decide p) (two true T E) (two (!decide q) T E) :=
  oneD (fun a => twoT (h (.inl a))) fun a => notD (fun b => h (.inr b)) fun b => k fun z => z.elim a fun n => n b
theorem Rw.erase {α : Type} {f : α → List V} {H : Hp} {vs : List V} {as : List α} (h : Rw f H vs as) (k : Nat) : Rw f H (vs.eraseIdx k) (as.eraseIdx k) := by
  refine ⟨by rw [List.length_eraseIdx, List.length_eraseIdx, h.len], fun i a e => ?_⟩
  rw [List.getElem?_eraseIdx] at e
  rw [List.getElem?_eraseIdx]
  split at e
  · rename_i hi
    rw [if_pos hi]
    exact h.at_ i a e
  · rename_i hi
    rw [if_neg hi]
    exact h.at_ (i + 1) a e
end Co
end

section
set_option maxHeartbeats 4000000
namespace PySem.W
open PySem PySem.Spec PySem.Calls PyProof.Rows
section
variable {prog : Program} {w : World} {A : Around} {E : Value → Shared → Prop} {s : Shared} {K : Frag} {x D : Addr} {ox : Obj} {od : Option Obj}
theorem findObj_dataA {C : Addr} {name : Str} {a g : Value} (hc : (clsIn K C).isSome = true) (ha : findIn K (.ref C) name = some (some a)) (hg : specialIn K a "__get__" = some (some g)) (ht : takesIn K a = some true) : findObj K C od name = some (.bind g a) := by
  obtain ⟨cd, hc⟩ := Option.isSome_iff_exists.mp hc
  unfold findObj
  rw [hc, Option.bind_some, ha, Option.bind_some]
  simp [hg, ht]
theorem kin_classA {Q : Option Value → Shared → Prop} (C : L2.ExcC K D) (X : K.In s.heap) (I : InstAt s.heap x ox D od) (h : Q (some (.ref D)) { s with toks := s.toks + 1 }) : wpAny (model prog w) A (getAttr? (.ref x) "__class__") Q E s := by
  have hf : findObj K D od "__class__" = some (.bind (.builtin "getset_descriptor.__get__") (.builtin "object.__class__")) := findObj_dataA (by obtain ⟨cd, hc, _⟩ := any_some C.hd; rw [hc]; rfl) C.ha C.hn C.ht
  obtain ⟨hp, g, d, t, os⟩ := s
  have L0 := I.type (M := model prog w)
  have L1 := looks_findIn (M := model prog w) X C.hg
  have L2 := looks_findIn (M := model prog w) X C.hk
  have L3 := looks_find (M := model prog w) X I hf
  have sub : Looks (model prog w) hp (isInstance (.ref x) (.type "BaseException")) true := L0.andThen (looks_subIn X C.hs)
  have hx2 : (Value.builtin "BaseException.__getattribute__" == Value.builtin "object.__getattribute__") = false := by decide +kernel
  have hx1 : (onTheHeap (Value.ref D) && Value.builtin "BaseException.__getattribute__" == Value.builtin "object.__getattribute__") = false := by rw [hx2]; rfl
  unfold getAttr? getAttrBy? getAttrBy
  refine wpAny_bind (wpAny_mkText (wpAny_bind (wpAny_attempt (wpAny_holding (wpAny_bind (L0.at (wpAny_bind (L1.at ?_))))))))
  show wpAny _ _ (if (onTheHeap (Value.ref D) && Value.builtin "BaseException.__getattribute__" == Value.builtin "object.__getattribute__") = true then _ else _) _ _ _
  rw [hx1, if_neg Bool.false_ne_true]
  unfold getAttrByItsOwn hookBefore
  refine wpAny_bind ?_
  rw [if_pos (show onTheHeap (Value.ref D) = true from rfl)]
  refine L2.at ?_
  refine wpAny_bind (wpAny_attempt (wpAny_holding ?_))
  unfold callGetattribute
  rw [show (false && onTheHeap (Value.builtin "BaseException.__getattribute__")) = false from rfl, if_neg Bool.false_ne_true]
  unfold boundAndCalled
  rw [PySem.F.excAttr_ValueError.ga.bind (.ref x)]
  refine wpAny_bind (wpAny_pure ?_)
  show wpAny _ _ (call (.builtin "BaseException.__getattribute__") [.ref x, .str "__class__" t]) _ _ _
  refine wpAny_call (codeAny_call_builtin PySem.F.excAttr_ValueError.ga.plain PySem.F.entry_bexc_ga ?_)
  refine @check_slot (model prog w) _ _ ⟨hp, g, d, t + 1, os⟩ "BaseException.__getattribute__" "BaseException" "__getattribute__" (.ref x) [.str "__class__" t] [] _ (by decide +kernel) (by decide +kernel) sub (PySem.F.args_bexc_ga (.ref x) (.str "__class__" t)) ?_
  unfold Builtin.«object.__getattribute__»
  refine wpAny_bind (wpAny_of_eq (a := ((Value.ref x : Value), [Value.str "__class__" t])) (by first | rfl | (simp only [slotArgs]; rfl)) ?_)
  refine wpAny_bind (wpAny_pure (wpAny_bind (L0.at (wpAny_bind (L3.at ?_)))))
  show wpAny _ _ (holding [Value.builtin "object.__class__"] (call (.builtin "getset_descriptor.__get__") [.builtin "object.__class__", .ref x, .ref D]) >>= ret) _ _ _
  refine wpAny_bind (wpAny_holding (wpAny_call (class_get (s := ⟨hp, g, d, t + 1, os⟩) (ox := ox) (od := od) X I C.hm ?_)))
  refine wpAny_pure ?_
  show wpAny _ _ (handedOut (.ref D)) _ _ _
  rw [handedOut_of (v := .ref D) rfl]
  first
    | exact wpAny_pure (wpAny_pure h)
    | exact wpAny_pure h
    | exact wpAny_pure (wpAny_bind (wpAny_pure (wpAny_pure h)))
theorem kitx_excA (C : L2.ExcC K D) : KitX K (.ref x) (.ref D) (fun h => ∃ ox od, InstAt h x ox D od) where
  ty := fun _ _ _ ⟨_, _, I⟩ => I.type
  it := fun _ _ X _ => by
    obtain ⟨cdD, hcD, _⟩ := any_some C.hd
    unfold clsIn at hcD
    split at hcD
    · rename_i c' d' cd' sl' ho
      intro A' Q' E' s' k q
      unfold isType loadHead
      exact wpAny_bind (wpAny_loadPart (k _ _ (X _ _ ho)) (wpAny_pure q))
    · cases hcD
  ne := fun h tp dd its n sl X htp => by
    obtain ⟨cdD, hcD, _⟩ := any_some C.hd
    refine Bool.eq_false_iff.mpr fun q => ?_
    have e : D = tp := Value.ref.inj (beq_iff_eq.mp q)
    subst e
    unfold clsIn at hcD
    split at hcD
    · rename_i c' d' cd' sl' ho
      have z := (X _ _ ho).symm.trans htp
      cases z
    · cases hcD
  ca := fun X ⟨_, _, I⟩ k => kin_classA C X I k
end
end PySem.W
namespace Co
open PySem PySem.Spec PyProof.Rows L2
def rIsD (K : PySem.W.Frag) (D a : Addr) (cls : Value) (d : Option Addr) : List V → Hp → VK → Prop := fun xs H Q => ∃ (c : V) (cv : Value) (b : Bool) (dd : Addr) (fs : List (Str × V)), xs = [.ref a, c] ∧ cls = .ref D ∧ d = some dd ∧ H dd = some (.xd fs) ∧ (∀ u, RelV c u → u = cv) ∧ PySem.W.kitOne K (.ref D) cv = some b ∧ Q (.bl b) H
theorem call_isD {X : Cx} {a D : Addr} {oe : Obj} {cls : Value} {d : Option Addr} {pn : List (Addr × Obj)} (C : ExcC X.K D) (hz : Zc cls d oe) (hf : ∃ vs, oe.data = .fields vs) : CallR (X.suite a ((a, oe) :: pn)) (.builtin "isinstance") (rIsD X.K D a cls d) := by
  intro pins s σ H xs us Q I r h
  obtain ⟨c, cv, b, dd, fs, rfl, rfl, rfl, ed, hcv, e, q⟩ := h
  cases r with
  | cons rx rr =>
    cases rr with
    | cons rt rr =>
      cases rr
      cases rx
      have ec := hcv _ rt
      subst ec
      obtain ⟨hget, _⟩ := I.pin (a, oe) (List.mem_append.mpr (.inl List.mem_cons_self))
      obtain ⟨vs, hv⟩ := hf
      have hx : ObjOk X.prog X.w H s.heap dd (.xd fs) := I.hok dd _ ed
      obtain ⟨mA, hns, hr⟩ := hx
      obtain ⟨od, ho, hl⟩ := lookIn_ns hns
      have J : PySem.W.InstAt s.heap a oe D (some od) := ⟨hget, hz.1, by unfold PySem.W.notCls; rw [hv] <;> rfl, by rw [hz.2]; exact ho⟩
      exact PySem.W.kia_one (PySem.W.kitx_excA C) I.kIn ⟨_, _, J⟩ e (fun z => nomatch z) fun tk => ⟨.bl b, H, I.kept (t' := tk) fun _ _ z => z, rfl, q⟩
inductive Ex where
  | oex (x : Str)
  | init (x : Str)
  | nofld (x f : Str)
  | isc (x : Str)
  | kit (x y : Str) (b : Bool)
  | kitT (x : Str) (t : String) (b : Bool)
  | tup (x : Str) (vs : List He.Dv)
  | lst (x : Str) (vs : List He.Dv)
def oexB (K : PySem.W.Frag) (C : Addr) : Bool := match K.lookup C with
  | some ⟨.type "type", _, .cls cd, sl⟩ => (match cd.mro, sl.toList with
    | .ref C' :: bm, [_, _, _, _, some (.builtin n), _] => C' == C && (n == "ValueError.__new__" && (!cd.hasDel && (cd.hasDict && PySem.HandSPX.refsVE bm)))
    | _, _ => false)
  | _ => false
def Ex.ok (K : PySem.W.Frag) : Ex → Bool
  | .oex x => oexB K (He.ga K x) && (He.eqO (PySem.W.findIn K (.ref (He.ga K x)) "__setattr__") (some (some (.builtin "object.__setattr__"))) && (decide (PySem.W.subIn K (.ref (He.ga K x)) (.type "BaseException") = some true) &&
      (decide (PySem.W.typeIn K (.ref (He.ga K x)) = some (.type "type")) && PySem.W.keepIn K (.ref (He.ga K x)))))
  | .init x => He.eqO (PySem.W.findIn K (.ref (He.ga K x)) "__init__") (some (some (.ref (He.ma K (He.ga K x) "__init__")))) && decide (PySem.W.typeIn K (.ref (He.ma K (He.ga K x) "__init__")) = some (.type "function"))
  | .nofld x f => He.eqO (PySem.W.findIn K (.ref (He.ga K x)) f) (some none)
  | .isc x => He.eqO (PySem.W.findIn K (.ref (He.ga K x)) "__getattribute__") (some (some (.builtin "BaseException.__getattribute__"))) && (He.eqO (PySem.W.findIn K (.ref (He.ga K x)) "__getattr__") (some none) &&
      (decide (PySem.W.subIn K (.ref (He.ga K x)) (.type "BaseException") = some true) && (PySem.W.hasDictIn K (He.ga K x) && (He.eqO (PySem.W.findIn K (.ref (He.ga K x)) "__class__") (some (some (.builtin "object.__class__"))) &&
      (He.eqO (PySem.W.specialIn K (.builtin "object.__class__") "__get__") (some (some (.builtin "getset_descriptor.__get__"))) && (decide (PySem.W.takesIn K (.builtin "object.__class__") = some true) && decide (PySem.W.mroIn K (He.ga K x) (.type "object") = some true)))))))
  | .kit x y b => decide (PySem.W.kitOne K (.ref (He.ga K x)) (.ref (He.ga K y)) = some b)
  | .kitT x t b => decide (PySem.W.kitOne K (.ref (He.ga K x)) (.type t) = some b)
  | .tup x vs => He.tupB K x vs
  | .lst x vs => He.lstB K x vs
section
variable {K : PySem.W.Frag} {x y f : Str}
theorem oexB_ok {C : Addr} (h : oexB K C = true) : ∃ nm q N bs bm sn sub ab col dd k0 k1 k2 k3 k5, K.lookup C = some (excClassObj nm q C N bs bm true sn sub ab col dd k0 k1 k2 k3 k5 "ValueError.__new__") ∧ PySem.HandSPX.refsVE bm = true := by
  unfold oexB at h
  split at h
  · rename_i dd cd sl ho
    split at h
    · rename_i C' bm k0 k1 k2 k3 n k5 hm hs
      simp only [Bool.and_eq_true, beq_iff_eq, Bool.not_eq_true'] at h
      obtain ⟨rfl, rfl, hdel, hd, hr⟩ := h
      obtain ⟨nm, bs, mro, ns, qn, hdc, sn, sub, ab, col, del⟩ := cd
      dsimp only at hm hdel hd
      subst hm hdel hd
      have hsl : sl = #[k0, k1, k2, k3, some (.builtin "ValueError.__new__"), k5] := by
        obtain ⟨l⟩ := sl
        simp only at hs
        rw [hs]
      subst hsl
      exact ⟨nm, qn, ns, bs, bm, sn, sub, ab, col, dd, k0, k1, k2, k3, k5, ho, hr⟩
    · cases h
  · cases h
theorem ex_oex (h : (Ex.oex x).ok K = true) : OexC K (He.ga K x) := by
  obtain ⟨h1, h⟩ := He.ba h
  obtain ⟨h2, h⟩ := He.ba h
  obtain ⟨h3, h⟩ := He.ba h
  obtain ⟨h4, h5⟩ := He.ba h
  exact ⟨oexB_ok h1, He.eqO_ok h2, of_decide_eq_true h3, of_decide_eq_true h4, h5⟩
theorem ex_init (h : (Ex.init x).ok K = true) : PySem.W.findIn K (.ref (He.ga K x)) "__init__" = some (some (.ref (He.ma K (He.ga K x) "__init__"))) ∧ PySem.W.typeIn K (.ref (He.ma K (He.ga K x) "__init__")) = some (.type "function") := by
  obtain ⟨h1, h2⟩ := He.ba h
  exact ⟨He.eqO_ok h1, of_decide_eq_true h2⟩
theorem ex_nofld (h : (Ex.nofld x f).ok K = true) : PySem.W.findIn K (.ref (He.ga K x)) f = some none := He.eqO_ok h
theorem ex_isc (h : (Ex.isc x).ok K = true) : ExcC K (He.ga K x) := by
  obtain ⟨h1, h⟩ := He.ba h
  obtain ⟨h2, h⟩ := He.ba h
  obtain ⟨h3, h⟩ := He.ba h
  obtain ⟨h4, h⟩ := He.ba h
  obtain ⟨h5, h⟩ := He.ba h
  obtain ⟨h6, h⟩ := He.ba h
  obtain ⟨h7, h8⟩ := He.ba h
  exact ⟨He.eqO_ok h1, He.eqO_ok h2, of_decide_eq_true h3, h4, He.eqO_ok h5, He.eqO_ok h6, of_decide_eq_true h7, of_decide_eq_true h8⟩
theorem xfc_of {C : Addr} (h : ExcC K C) : XfC K C := ⟨h.hg, h.hk, h.hs, h.hd⟩
theorem ex_kit {b : Bool} (h : (Ex.kit x y b).ok K = true) : PySem.W.kitOne K (.ref (He.ga K x)) (.ref (He.ga K y)) = some b := of_decide_eq_true h
theorem ex_kitT {t : String} {b : Bool} (h : (Ex.kitT x t b).ok K = true) : PySem.W.kitOne K (.ref (He.ga K x)) (.type t) = some b := of_decide_eq_true h
end
theorem ex_tup {K : PySem.W.Frag} {x : Str} {vs : List He.Dv} (h : (Ex.tup x vs).ok K = true) (H : Hp) : SqT K H (He.ga K x) (vs.map (He.Dv.v K)) := He.tupB_ok h H
theorem ex_lst {K : PySem.W.Frag} {x : Str} {vs : List He.Dv} (h : (Ex.lst x vs).ok K = true) (H : Hp) : SqL K H (He.ga K x) (vs.map (He.Dv.v K)) := He.lstB_ok h H
theorem Fx.intg {fa : List He.Fa} {fn : List He.DefD} {K : PySem.W.Frag} {mg : Str → Option Value} (T : Fx fa fn K mg) (i : Nat) {x : Str} {n : Int} (h : fa[i]? = some (.int x n) := by rfl) : ∃ t, mg x = some (.int n t) := let ⟨_, KX, G⟩ := T.ex; He.int_ok KX G (T.c.fact i h)
theorem Fx.strg {fa : List He.Fa} {fn : List He.DefD} {K : PySem.W.Frag} {mg : Str → Option Value} (T : Fx fa fn K mg) (i : Nat) {x z : Str} (h : fa[i]? = some (.str x z) := by rfl) : ∃ t, mg x = some (.str z t) := let ⟨_, KX, G⟩ := T.ex; He.str_ok KX G (T.c.fact i h)
theorem e_gint {X : Cx} {x : Str} {n : Int} {pos : Pos} (hg : Gl X x) (h : ∃ t, X.mg x = some (.int n t)) (hd : (x == ("__debug__" : Str)) = false := by decide) : PE X (.Name x pos) (tC (.int n)) := let ⟨t, e⟩ := h; pe_glob hg e ⟨t, rfl⟩ hd
theorem e_gstr {X : Cx} {x z : Str} {pos : Pos} (hg : Gl X x) (h : ∃ t, X.mg x = some (.str z t)) (hd : (x == ("__debug__" : Str)) = false := by decide) : PE X (.Name x pos) (tC (.str z)) := let ⟨t, e⟩ := h; pe_glob hg e ⟨t, rfl⟩ hd
structure Fy (fa : List He.Fa) (fn : List He.DefD) (xs : List Ex) (K : PySem.W.Frag) (mg : Str → Option Value) : Prop extends Fx fa fn K mg where
  m : (xs.all fun e => e.ok K) = true
theorem Fy.more {fa : List He.Fa} {fn : List He.DefD} {xs : List Ex} {K : PySem.W.Frag} {mg : Str → Option Value} (T : Fy fa fn xs K mg) (i : Nat) {e : Ex} (h : xs[i]? = some e := by rfl) : e.ok K = true := List.all_eq_true.mp T.m e (List.mem_of_getElem? h)
def sRaiseO (W : WX) (C : Addr) (sp : Sp) (ta : TA) : TS := fun _ σ H => ta σ H fun vs H1 => vs.length ≤ 1000 ∧ ∀ a, H1 a = none → sp (.ref a :: vs) (upd H1 a (exo a C none))
  (fun v H2 => v = .non ∧ ∃ (d : Addr) (fs : List (Str × V)), H2 a = some (exo a C (some d)) ∧ H2 d = some (exd d fs) ∧ H1 d = none ∧ W (.ref C) (some d) σ (upd (del H2 a) d (.xd fs))) (fun _ _ _ => False)
theorem s_raiseO {X : Cx} {W : WX} {x : Str} {p pos pos' : Pos} {e : Expr} {es : List Expr} {C fI : Addr} {k : Nat} {ps : List Str} {sp : Sp} {ta : TA} (hc : X.calm = true) (tk : Takes X W) (T : OexC X.K C)
    (i : PySem.W.findIn X.K (.ref C) "__init__" = some (some (.ref fI)) ∧ PySem.W.typeIn X.K (.ref fI) = some (.type "function")) (d : Def X.prog X.w X.K X.mg X.base k fI ps sp) (hr : Room (k + 1) X.A) (hg : Gl X x) (hm : X.mg x = some (.ref C)) (ha : PA X (e :: es) ta)
    (hdb : (x == ("__debug__" : Str)) = false := by decide) (he : starEach (e :: es) X.env = (false, eval e X.env) :: starEach es X.env := by rfl) (hpl : (backTo pos (starEach es X.env)).any (·.1) = false := by rfl) :
    PS X (.Raise (some (.Call (.Name x p) (e :: es) [] pos)) none pos') (sRaiseO W C sp ta) := by
  obtain ⟨fd, F, b⟩ := d.ex
  refine PS.imp (ps_raise hc tk (pmk_oex (dvs := []) T i.1 i.2 F hr b .nil passL hg hm ha hdb he hpl)) fun D σ H h => ?_
  unfold sRaiseO at h
  unfold tMkO
  simp only [List.append_nil]
  exact h
end Co
end

section
set_option maxHeartbeats 4000000
namespace Co
open PySem PySem.Spec PyProof.Rows L2
section
variable {X : Cx}
def repL (l : List Nat) (n : Int) : List Nat := (List.replicate n.toNat l).flatten
theorem repL_len (l : List Nat) (n : Int) : (repL l n).length = n.toNat * l.length := by simp [repL]
theorem rep_fold (c : Array Nat) : ∀ (n : Nat) (a : Array Nat), ((List.replicate n c).foldl (· ++ ·) a) = a ++ ((List.replicate n c.toList).flatten).toArray
  | 0, a => by simp
  | n + 1, a => by
    rw [List.replicate_succ, List.foldl_cons, rep_fold c n (a ++ c), List.replicate_succ, List.flatten_cons]
    apply Array.ext'
    simp
theorem txt_mul (l : List Nat) (n : Int) : Txt.mul (S l) n = S (repL l n) := by
  unfold Txt.mul
  split
  · rename_i h
    unfold repL
    rw [show n.toNat = 0 by omega]
    rfl
  · split
    · rename_i h1 h2
      unfold repL
      simp only [Bool.or_eq_true, beq_iff_eq] at h2
      rcases h2 with h2 | h2
      · subst h2
        simp
      · have : l = [] := List.eq_nil_of_length_eq_zero (by rw [S_len] at h2; exact h2)
        subst this
        simp
    · rw [rep_fold]
      simp [repL]
def rRepS : R2 := fun x y H Q => match x, y with
  | .str z, .int n => n * z.length ≤ 1000000 ∧ -(2 ^ 62) ≤ n ∧ n < 2 ^ 62 ∧ Q (.str (S (repL z.cps.toList n))) H
  | _, _ => False
theorem op_repS : OpR X (binaryOp .Mult) rRepS := by
  intro pins s σ H x y v u Q I rx ry h
  unfold rRepS at h
  split at h
  · rename_i z n
    obtain ⟨h1, h2, h3, q⟩ := h
    obtain ⟨t, rfl⟩ := rx
    obtain ⟨t', rfl⟩ := ry
    have hz : z.length = z.cps.toList.length := by show z.cps.size = _; simp
    refine SB.mul ⟨?_, fun hn _ => ?_, fun hn _ => ?_⟩ fun t1 k => ⟨.str (S (repL z.cps.toList n)), H, I.tok _, ⟨t1, ?_⟩, q⟩
    · simp
      omega
    · have hn1 : 0 < n := by omega
      intro hc
      have h4 : (z.length : Int) * n > (2 ^ 63 - 1) / n * n := Int.mul_lt_mul_of_pos_right hc hn1
      have h5 := Int.emod_add_mul_ediv (2 ^ 63 - 1) n
      have h6 := Int.emod_lt_of_pos (2 ^ 63 - 1) hn1
      have e1 : n * ((2 ^ 63 - 1) / n) = (2 ^ 63 - 1) / n * n := Int.mul_comm _ _
      have e2 : n * (z.length : Int) = (z.length : Int) * n := Int.mul_comm _ _
      by_cases hl : z.length = 0
      · have h7 : 0 ≤ (2 ^ 63 - 1) / n := Int.ediv_nonneg (by omega) (by omega)
        omega
      · have h8 : n ≤ n * (z.length : Int) := by
          have := Int.mul_le_mul_of_nonneg_left (show (1 : Int) ≤ (z.length : Int) by omega) (show 0 ≤ n by omega)
          omega
        omega
    · have h4 : ((z.length * n.toNat : Nat) : Int) ≤ 1000000 := by
        rw [Int.natCast_mul, Int.toNat_of_nonneg (by omega), Int.mul_comm]
        exact h1
      show Builtin.Str.tooLong _ = false
      unfold Builtin.Str.tooLong
      simp only [decide_eq_false_iff_not]
      rw [sizeLine_eq]
      omega
    · have := txt_mul z.cps.toList n
      rw [← S_eq z] at this
      rw [this]
  · exact h.elim
def rCatW (K : PySem.W.Frag) : R2 := fun x y H Q => ∃ a b xs ys, x = .ref a ∧ y = .ref b ∧ SqT K H a xs ∧ SqT K H b ys ∧ xs.length + ys.length ≤ sizeLine ∧
  (xs = [] → Q (.ref b) H) ∧ (xs ≠ [] → ys = [] → Q (.ref a) H) ∧ (xs ≠ [] → ys ≠ [] → ∀ p, H p = none → Q (.ref p) (upd H p (.tup (xs ++ ys))))
theorem cat_tup0 {prog : Program} {w : World} {A : Around} {E : Value → Shared → Prop} {s : Shared} {t b : Addr} {ws : List Value} {Q : Value → Shared → Prop} (ht : IsTup s.heap t ([] : List Value).toArray) (hb : IsTup s.heap b ws.toArray)
    (h : Q (.ref b) s) : wpAny (model prog w) A (binaryOp .Add (.ref t) (.ref b)) Q E s := by
  obtain ⟨⟨cls, dd, data, sl⟩, ho, hc, n, hd⟩ := id ht
  obtain ⟨⟨cls2, dd2, data2, sl2⟩, ho2, hc2, n2, hd2⟩ := id hb
  simp only at hc hd hc2 hd2
  subst hc hd hc2 hd2
  exact concat_meets ⟨_, ho, rfl⟩ ⟨_, ho2, rfl⟩ noFill_tuple_add seq_tuple_add PySem.F.slot_tuple_add PySem.F.entry_tuple_add (PySem.F.args_tuple_add_2 _ _)
      (tuple_addW0 t b ([] : List Value).toArray ws.toArray n n2 dd dd2 sl sl2 (by simp)) ⟨ho, ho2, h⟩
theorem op_catW : OpR X (binaryOp .Add) (rCatW X.K) := by
  intro pins s σ H x y v u Q I rx ry h
  obtain ⟨a, b, xs, ys, rfl, rfl, ha, hb, hz, q0, q1, q2⟩ := h
  by_cases hx : xs = []
  · subst hx
    obtain ⟨its, r1, p1, _⟩ := I.tuple ha
    obtain ⟨its2, r2, p2, _⟩ := I.tuple hb
    have e := r1.nil_iff.mpr rfl
    subst e
    cases rx
    cases ry
    exact cat_tup0 p1 p2 ⟨.ref b, H, I, rfl, q0 rfl⟩
  · exact op_catT pins s σ H _ _ v u Q I rx ry ⟨a, b, xs, ys, rfl, rfl, ha, hb, hx, hz, q1 hx, q2 hx⟩
def cStrI : List V → Hp → VK → Prop := fun xs H Q => match xs with
  | [.int i] => i.natAbs.log2 < 1920 ∧ Q (.str (toString i)) H
  | _ => False
theorem c_strI : CallR X (.type "str") cStrI := CallR.imp call_str_int fun xs H Q h => by
  unfold cStrI at h
  split at h
  · exact ⟨_, rfl, h.1, h.2⟩
  · exact h.elim
def cIntS : List V → Hp → VK → Prop := fun xs H Q => match xs with
  | [.str a] => ∃ n, PySem.intText? a = some n ∧ a.length ≤ 640 ∧ Q (.int n) H
  | _ => False
theorem c_intS : CallR X (.type "int") cIntS := CallR.imp call_int_str fun xs H Q h => by
  unfold cIntS at h
  split at h
  · obtain ⟨n, h1, h2, h3⟩ := h
    exact ⟨_, n, rfl, h1, h2, h3⟩
  · exact h.elim
def cAbs : List V → Hp → VK → Prop := fun xs H Q => match xs with
  | [.int i] => Q (.int (i.natAbs : Int)) H
  | _ => False
theorem c_abs : CallR X (.builtin "abs") cAbs := CallR.imp call_abs fun xs H Q h => by
  unfold cAbs at h
  split at h
  · rename_i i
    refine ⟨i, rfl, ?_⟩
    have : (if i < 0 then -i else i) = (i.natAbs : Int) := by split <;> omega
    rw [this]
    exact h
  · exact h.elim
def rLstripS : V → List V → Hp → VK → Prop := fun x xs H Q => match x, xs with
  | .str a, [.str b] => a.length ≤ sizeLine ∧ Q (.str (Txt.lstripChars a b)) H
  | _, _ => False
theorem m_lstrip : MtR X "str.lstrip" rLstripS := MtR.imp mt_lstripChars fun x xs H Q h => by
  unfold rLstripS at h
  split at h
  · exact ⟨_, _, rfl, rfl, h.1, h.2⟩
  · exact h.elim
def fAddA : R2 := fun x y H Q => match x, y with
  | .int i, .int j => Q (.int (i + j)) H
  | .str i, .str j => i.length + j.length ≤ sizeLine ∧ Q (.str (i ++ j)) H
  | _, _ => False
theorem o_addA : OpR X (binaryOp .Add) fAddA := by
  intro pins s σ H x y v u Q I rx ry h
  unfold fAddA at h
  split at h
  · exact o_add pins s σ H _ _ v u Q I rx ry h
  · exact o_addS pins s σ H _ _ v u Q I rx ry h
  · exact h.elim
end
end Co
theorem L2.Room.units65 {k : Nat} {A : PySem.Around} (r : L2.Room k A) : A.units + 65 < PySem.cLine := by
  have := r.un
  omega
end

section
set_option maxHeartbeats 4000000
namespace Dl
open PySem PySem.Spec PyProof.Rows L2 Co
inductive D where
  | non | bl (b : Bool) | int (i : Int) | str (x : Str) | ty (n : String) | glo (x : Str)
  | tup (ds : List D) | lst (ds : List D) | dct (ks : List Key) (ds : List D) | dcT (ks : List (List Key)) (ds : List D) | ins (C : Str) (ns : List Str) (ds : List D) | scr (ns : List Int)
  | exc (a dd : Addr) (C : Str) (ns : List Str) (ds : List D)
inductive W where
  | im (d : D) | loc (n : Nat) | dead
inductive Ob where
  | lst (ds : List D) | dct (ks : List Key) (ds : List D) | dcT (ks : List (List Key)) (ds : List D) | ins (C : Str) (fs : List (Str × W)) | pool | fz (d : D) | gone
abbrev Sl := List (Option W)
abbrev Sto := List Ob
structure Kn where
  K : PySem.W.Frag
  b : Bool
def isDct : HO → Bool
  | .dK _ => true
  | .dT _ => true
  | _ => false
def Sub (M H : Hp) : Prop := ∀ b u, M b = some u → H b = some u ∨ (isDct u = true ∧ ∃ o, H b = some (.frz o u))
def SqC (N : Kn) (M : Hp) (p : Addr) (xs : List V) : Prop := M p = some (.tup xs) ∨ (N.b = true ∧ SqT N.K M p xs)
mutual
def Rp (N : Kn) (M : Hp) : D → V → Prop
  | .non, v => v = .non
  | .bl b, v => v = .bl b
  | .int i, v => v = .int i
  | .str x, v => v = .str x
  | .ty n, v => v = .ty n
  | .glo x, v => v = .ref (He.ga N.K x)
  | .scr ns, v => ∃ p, v = .ref p ∧ SqL N.K M p (ns.map V.int)
  | .tup ds, v => ∃ p xs, v = .ref p ∧ SqC N M p xs ∧ Rps N M ds xs
  | .lst ds, v => ∃ p xs, v = .ref p ∧ M p = some (.lst xs) ∧ Rps N M ds xs
  | .dct ks ds, v => ∃ p kvs, v = .ref p ∧ M p = some (.dK kvs) ∧ kvs.map (·.1) = ks ∧ Rps N M ds (kvs.map (·.2))
  | .dcT ks ds, v => ∃ p kvs, v = .ref p ∧ M p = some (.dT kvs) ∧ kvs.map (·.1) = ks ∧ Rps N M ds (kvs.map (·.2))
  | .ins C ns ds, v => ∃ p dx fs, v = .ref p ∧ M p = some (.ins (He.ga N.K C) dx fs) ∧ fs.map (·.1) = ns ∧ Rps N M ds (fs.map (·.2))
  | .exc a dd _ ns ds, v => v = .ref a ∧ ∃ fxs, M dd = some (.xd fxs) ∧ fxs.map (·.1) = ns ∧ Rps N M ds (fxs.map (·.2))
def Rps (N : Kn) (M : Hp) : List D → List V → Prop
  | [], xs => xs = []
  | d :: ds, xs => ∃ x r, xs = x :: r ∧ Rp N M d x ∧ Rps N M ds r
end
section
variable {N : Kn} {M M' H H' : Hp}
theorem SqC.mono {p : Addr} {xs : List V} (h : SqC N M p xs) (e : Same M M') : SqC N M' p xs := h.elim (fun h => .inl (e _ _ h)) fun h => .inr ⟨h.1, sqT_same e h.2⟩
mutual
theorem Rp.mono (e : Same M M') : ∀ {d : D} {v : V}, Rp N M d v → Rp N M' d v
  | .non, _, h => h
  | .bl _, _, h => h
  | .int _, _, h => h
  | .str _, _, h => h
  | .ty _, _, h => h
  | .glo _, _, h => h
  | .scr _, _, ⟨p, h1, h2⟩ => ⟨p, h1, e.seq h2⟩
  | .tup _, _, ⟨p, xs, h1, h2, h3⟩ => ⟨p, xs, h1, h2.mono e, Rps.mono e h3⟩
  | .lst _, _, ⟨p, xs, h1, h2, h3⟩ => ⟨p, xs, h1, e _ _ h2, Rps.mono e h3⟩
  | .dct _ _, _, ⟨p, kvs, h1, h2, h3, h4⟩ => ⟨p, kvs, h1, e _ _ h2, h3, Rps.mono e h4⟩
  | .dcT _ _, _, ⟨p, kvs, h1, h2, h3, h4⟩ => ⟨p, kvs, h1, e _ _ h2, h3, Rps.mono e h4⟩
  | .ins _ _ _, _, ⟨p, dx, fs, h1, h2, h3, h4⟩ => ⟨p, dx, fs, h1, e _ _ h2, h3, Rps.mono e h4⟩
  | .exc _ _ _ _ _, _, ⟨h1, fxs, h2, h3, h4⟩ => ⟨h1, fxs, e _ _ h2, h3, Rps.mono e h4⟩
theorem Rps.mono (e : Same M M') : ∀ {ds : List D} {vs : List V}, Rps N M ds vs → Rps N M' ds vs
  | [], _, h => h
  | _ :: _, _, ⟨x, r, h1, h2, h3⟩ => ⟨x, r, h1, Rp.mono e h2, Rps.mono e h3⟩
end
theorem Rps.nil : Rps N M [] [] := rfl
theorem Rps.cons {d : D} {ds : List D} {v : V} {vs : List V} (h : Rp N M d v) (t : Rps N M ds vs) : Rps N M (d :: ds) (v :: vs) := ⟨v, vs, rfl, h, t⟩
theorem Rps.length : ∀ {ds : List D} {vs : List V}, Rps N M ds vs → vs.length = ds.length
  | [], _, h => by rw [show _ = [] from h]; rfl
  | _ :: _, _, ⟨_, _, h1, _, h3⟩ => by rw [h1, List.length_cons, List.length_cons, Rps.length h3]
theorem Rps.get : ∀ {ds : List D} {vs : List V} {i : Nat} {d : D}, Rps N M ds vs → ds[i]? = some d → ∃ v, vs[i]? = some v ∧ Rp N M d v
  | [], _, _, _, _, e => by simp at e
  | d :: ds, _, 0, _, ⟨x, r, h1, h2, _⟩, e => by
    subst h1
    simp at e
    subst e
    exact ⟨x, rfl, h2⟩
  | d :: ds, _, i + 1, _, ⟨x, r, h1, _, h3⟩, e => by
    subst h1
    obtain ⟨v, h4, h5⟩ := Rps.get (i := i) h3 (by simpa using e)
    exact ⟨v, by simpa using h4, h5⟩
theorem Rps.get2 : ∀ {ds : List D} {vs : List V} {i : Nat} {v : V}, Rps N M ds vs → vs[i]? = some v → ∃ d, ds[i]? = some d ∧ Rp N M d v
  | [], vs, _, _, h, e => by rw [show vs = [] from h] at e; simp at e
  | d :: ds, _, 0, _, ⟨x, r, h1, h2, _⟩, e => by
    subst h1
    simp at e
    subst e
    exact ⟨d, rfl, h2⟩
  | d :: ds, _, i + 1, _, ⟨x, r, h1, _, h3⟩, e => by
    subst h1
    obtain ⟨v, h4, h5⟩ := Rps.get2 (i := i) h3 (by simpa using e)
    exact ⟨v, by simpa using h4, h5⟩
theorem Rps.append : ∀ {ds es : List D} {vs ws : List V}, Rps N M ds vs → Rps N M es ws → Rps N M (ds ++ es) (vs ++ ws)
  | [], _, _, _, h, t => by rw [show _ = [] from h]; exact t
  | _ :: _, _, _, _, ⟨x, r, h1, h2, h3⟩, t => by
    subst h1
    exact ⟨x, r ++ _, rfl, h2, Rps.append h3 t⟩
theorem Rps.take : ∀ {ds : List D} {vs : List V} (n : Nat), Rps N M ds vs → Rps N M (ds.take n) (vs.take n)
  | _, _, 0, _ => rfl
  | [], _, _ + 1, h => by rw [show _ = [] from h]; rfl
  | _ :: _, _, n + 1, ⟨x, r, h1, h2, h3⟩ => by
    subst h1
    exact ⟨x, r.take n, rfl, h2, Rps.take n h3⟩
theorem Rps.drop : ∀ {ds : List D} {vs : List V} (n : Nat), Rps N M ds vs → Rps N M (ds.drop n) (vs.drop n)
  | _, _, 0, h => h
  | [], _, _ + 1, h => by rw [show _ = [] from h]; rfl
  | _ :: _, _, n + 1, ⟨x, r, h1, h2, h3⟩ => by
    subst h1
    exact Rps.drop n h3
theorem Rps.set : ∀ {ds : List D} {vs : List V} {d : D} {v : V} (i : Nat), Rps N M ds vs → Rp N M d v → Rps N M (ds.set i d) (vs.set i v)
  | [], _, _, _, _, h, _ => by rw [show _ = [] from h]; rfl
  | _ :: _, _, _, _, 0, ⟨x, r, h1, h2, h3⟩, q => by
    subst h1
    exact ⟨_, r, rfl, q, h3⟩
  | _ :: _, _, _, _, i + 1, ⟨x, r, h1, h2, h3⟩, q => by
    subst h1
    exact ⟨x, _, rfl, h2, Rps.set i h3 q⟩
theorem Rps.reverse : ∀ {ds : List D} {vs : List V}, Rps N M ds vs → Rps N M ds.reverse vs.reverse
  | [], _, h => by rw [show _ = [] from h]; rfl
  | _ :: _, _, ⟨x, r, h1, h2, h3⟩ => by
    subst h1
    rw [List.reverse_cons, List.reverse_cons]
    exact (Rps.reverse h3).append (Rps.cons h2 .nil)
theorem Rps.of_get : ∀ {ds : List D} {vs : List V}, vs.length = ds.length → (∀ (i : Nat) d v, ds[i]? = some d → vs[i]? = some v → Rp N M d v) → Rps N M ds vs
  | [], [], _, _ => rfl
  | [], _ :: _, h, _ => by simp at h
  | _ :: _, [], h, _ => by simp at h
  | d :: ds, v :: vs, h, f => ⟨v, vs, rfl, f 0 d v rfl rfl, Rps.of_get (by simpa using h) fun i d' v' e1 e2 => f (i + 1) d' v' (by simpa using e1) (by simpa using e2)⟩
theorem Sub.seq {a : Addr} {xs : List V} (s : Sub M H) (h : SqL N.K M a xs) : SqL N.K H a xs := by
  rcases h with (h | ⟨o, h⟩) | h
  · rcases s _ _ h with h | ⟨h, _⟩
    · exact .inl (.inl h)
    · cases h
  · rcases s _ _ h with h | ⟨h, _⟩
    · exact .inl (.inr ⟨o, h⟩)
    · cases h
  · exact .inr h
theorem Sub.tup {a : Addr} {xs : List V} (s : Sub M H) (h : SqC N M a xs) : SqT N.K H a xs := by
  have g : ∀ u, M a = some u → isDct u = false → H a = some u := fun u e n => by
    rcases s _ _ e with h | ⟨h, _⟩
    · exact h
    · rw [n] at h; cases h
  rcases h with h | ⟨_, (h | ⟨o, h⟩) | h⟩
  · exact .inl (.inl (g _ h rfl))
  · exact .inl (.inl (g _ h rfl))
  · exact .inl (.inr ⟨o, g _ h rfl⟩)
  · exact .inr h
theorem Sub.ins {a : Addr} {C dx : Addr} {fs : List (Str × V)} (s : Sub M H) (h : M a = some (.ins C dx fs)) : H a = some (.ins C dx fs) := by
  rcases s _ _ h with h | ⟨h, _⟩
  · exact h
  · cases h
theorem Sub.tup1 {a : Addr} {xs : List V} (s : Sub M H) (h : M a = some (.tup xs)) : H a = some (.tup xs) := by
  rcases s _ _ h with h | ⟨h, _⟩
  · exact h
  · cases h
theorem Sub.lst1 {a : Addr} {xs : List V} (s : Sub M H) (h : M a = some (.lst xs)) : H a = some (.lst xs) := by
  rcases s _ _ h with h | ⟨h, _⟩
  · exact h
  · cases h
theorem Sub.dK {a : Addr} {kvs : List (Key × V)} (s : Sub M H) (h : M a = some (.dK kvs)) : Rd H a (.dK kvs) := by
  rcases s _ _ h with h | ⟨_, o, h⟩
  · exact .inl h
  · exact .inr ⟨o, h⟩
theorem Sub.dT {a : Addr} {kvs : List (List Key × V)} (s : Sub M H) (h : M a = some (.dT kvs)) : Rd H a (.dT kvs) := by
  rcases s _ _ h with h | ⟨_, o, h⟩
  · exact .inl h
  · exact .inr ⟨o, h⟩
theorem Sub.isSome {a : Addr} {u : HO} (s : Sub M H) (h : M a = some u) : H a ≠ none := by
  rcases s _ _ h with h | ⟨_, o, h⟩ <;> rw [h] <;> exact fun z => nomatch z
end
def Pre (ρ ρ' : List Addr) : Prop := ∃ r, ρ' = ρ ++ r
theorem Pre.refl (ρ : List Addr) : Pre ρ ρ := ⟨[], by simp⟩
theorem Pre.trans {a b c : List Addr} (h : Pre a b) (k : Pre b c) : Pre a c := by
  obtain ⟨r, rfl⟩ := h
  obtain ⟨q, rfl⟩ := k
  exact ⟨r ++ q, by simp⟩
theorem Pre.get {ρ ρ' : List Addr} (h : Pre ρ ρ') {i : Nat} {a : Addr} (e : ρ[i]? = some a) : ρ'[i]? = some a := by
  obtain ⟨r, rfl⟩ := h
  have := (List.getElem?_eq_some_iff.mp e).1
  rw [List.getElem?_append_left this]
  exact e
theorem Pre.mem {ρ ρ' : List Addr} (h : Pre ρ ρ') {a : Addr} (e : a ∈ ρ) : a ∈ ρ' := by
  obtain ⟨r, rfl⟩ := h
  exact List.mem_append_left _ e
def Rw (N : Kn) (M : Hp) (ρ : List Addr) : W → V → Prop
  | .im d, v => Rp N M d v
  | .loc n, v => ∃ a, ρ[n]? = some a ∧ v = .ref a
  | .dead, _ => True
def Rws (N : Kn) (M : Hp) (ρ : List Addr) : List W → List V → Prop
  | [], xs => xs = []
  | d :: ds, xs => ∃ x r, xs = x :: r ∧ Rw N M ρ d x ∧ Rws N M ρ ds r
def PoolR (M H : Hp) (a : Addr) : Prop := ∃ (q : Addr) (ns : List Int) (i d s : Int), M q = some (.lst (ns.map V.int)) ∧ H a = some (.lst [.ref q, .int i, .int d, .int s]) ∧ (∀ n ∈ ns, 0 ≤ n) ∧ 0 ≤ i ∧ 0 ≤ d ∧ 0 ≤ s ∧ s < 2147483647
def RO (N : Kn) (M : Hp) (ρ : List Addr) (H : Hp) : Ob → Addr → Prop
  | .lst ds, a => M a = none ∧ ∃ xs, H a = some (.lst xs) ∧ Rps N M ds xs
  | .dct ks ds, a => M a = none ∧ ∃ kvs, H a = some (.dK kvs) ∧ kvs.map (·.1) = ks ∧ Rps N M ds (kvs.map (·.2))
  | .dcT ks ds, a => M a = none ∧ ∃ kvs, H a = some (.dT kvs) ∧ kvs.map (·.1) = ks ∧ Rps N M ds (kvs.map (·.2))
  | .ins C fs, a => M a = none ∧ ∃ dx fxs, H a = some (.ins (He.ga N.K C) dx fxs) ∧ fxs.map (·.1) = fs.map (·.1) ∧ Rws N M ρ (fs.map (·.2)) (fxs.map (·.2))
  | .pool, a => M a = none ∧ PoolR M H a
  | .fz d, a => Rp N M d (.ref a) ∧ H a ≠ none
  | .gone, a => H a ≠ none
section
variable {N : Kn} {M M' H H' : Hp} {ρ ρ' : List Addr}
theorem Rw.mono {w : W} {v : V} (h : Rw N M ρ w v) (e : Same M M') (p : Pre ρ ρ') : Rw N M' ρ' w v := by
  cases w with
  | im d => exact Rp.mono e h
  | loc n => obtain ⟨a, h1, h2⟩ := h; exact ⟨a, p.get h1, h2⟩
  | dead => trivial
theorem Rws.mono (e : Same M M') (p : Pre ρ ρ') : ∀ {ws : List W} {vs : List V}, Rws N M ρ ws vs → Rws N M' ρ' ws vs
  | [], _, h => h
  | _ :: _, _, ⟨x, r, h1, h2, h3⟩ => ⟨x, r, h1, h2.mono e p, Rws.mono e p h3⟩
theorem Rws.length : ∀ {ds : List W} {vs : List V}, Rws N M ρ ds vs → vs.length = ds.length
  | [], _, h => by rw [show _ = [] from h]; rfl
  | _ :: _, _, ⟨_, _, h1, _, h3⟩ => by rw [h1, List.length_cons, List.length_cons, Rws.length h3]
theorem Rws.get : ∀ {ds : List W} {vs : List V} {i : Nat} {d : W}, Rws N M ρ ds vs → ds[i]? = some d → ∃ v, vs[i]? = some v ∧ Rw N M ρ d v
  | [], _, _, _, _, e => by simp at e
  | d :: ds, _, 0, _, ⟨x, r, h1, h2, _⟩, e => by
    subst h1
    simp at e
    subst e
    exact ⟨x, rfl, h2⟩
  | d :: ds, _, i + 1, _, ⟨x, r, h1, _, h3⟩, e => by
    subst h1
    obtain ⟨v, h4, h5⟩ := Rws.get (i := i) h3 (by simpa using e)
    exact ⟨v, by simpa using h4, h5⟩
theorem Rws.get2 : ∀ {ds : List W} {vs : List V} {i : Nat} {v : V}, Rws N M ρ ds vs → vs[i]? = some v → ∃ d, ds[i]? = some d ∧ Rw N M ρ d v
  | [], vs, _, _, h, e => by rw [show vs = [] from h] at e; simp at e
  | d :: ds, _, 0, _, ⟨x, r, h1, h2, _⟩, e => by
    subst h1
    simp at e
    subst e
    exact ⟨d, rfl, h2⟩
  | d :: ds, _, i + 1, _, ⟨x, r, h1, _, h3⟩, e => by
    subst h1
    obtain ⟨v, h4, h5⟩ := Rws.get2 (i := i) h3 (by simpa using e)
    exact ⟨v, by simpa using h4, h5⟩
theorem Rws.of : ∀ {ds : List D} {vs : List V}, Rps N M ds vs → Rws N M ρ (ds.map W.im) vs
  | [], _, h => h
  | _ :: _, _, ⟨x, r, h1, h2, h3⟩ => ⟨x, r, h1, h2, Rws.of h3⟩
theorem RO.there {o : Ob} {a : Addr} (h : RO N M ρ H o a) : H a ≠ none := by
  cases o with
  | lst ds => obtain ⟨_, _, h, _⟩ := h; rw [h]; exact fun z => nomatch z
  | dct ks ds => obtain ⟨_, _, h, _⟩ := h; rw [h]; exact fun z => nomatch z
  | dcT ks ds => obtain ⟨_, _, h, _⟩ := h; rw [h]; exact fun z => nomatch z
  | ins C fs => obtain ⟨_, _, _, h, _⟩ := h; rw [h]; exact fun z => nomatch z
  | pool => obtain ⟨_, _, _, _, _, _, _, h, _⟩ := h; rw [h]; exact fun z => nomatch z
  | fz d => exact h.2
  | gone => exact h
theorem RO.mono {o : Ob} {a : Addr} (h : RO N M ρ H o a) (e : Same M M') (p : Pre ρ ρ') (hM : M a = none → M' a = none) (hH : ∀ u, H a = some u → H' a = some u) : RO N M' ρ' H' o a := by
  have hn : H a ≠ none → H' a ≠ none := fun n => by
    cases z : H a with
    | none => exact absurd z n
    | some u => rw [hH u z]; exact fun z => nomatch z
  cases o with
  | lst ds => obtain ⟨h0, xs, h, h1⟩ := h; exact ⟨hM h0, xs, hH _ h, h1.mono e⟩
  | dct ks ds => obtain ⟨h0, xs, h, h1, h2⟩ := h; exact ⟨hM h0, xs, hH _ h, h1, h2.mono e⟩
  | dcT ks ds => obtain ⟨h0, xs, h, h1, h2⟩ := h; exact ⟨hM h0, xs, hH _ h, h1, h2.mono e⟩
  | ins C fs => obtain ⟨h0, dx, xs, h, h1, h2⟩ := h; exact ⟨hM h0, dx, xs, hH _ h, h1, h2.mono e p⟩
  | pool => obtain ⟨h0, q, ns, i, d, s, h1, h2, h3⟩ := h; exact ⟨hM h0, q, ns, i, d, s, e _ _ h1, hH _ h2, h3⟩
  | fz d => exact ⟨h.1.mono e, hn h.2⟩
  | gone => exact hn h
structure Rep (N : Kn) (M : Hp) (ρ : List Addr) (st : Sto) (H : Hp) : Prop where
  sub : Sub M H
  len : ρ.length = st.length
  inj : ∀ (i j : Nat) a, ρ[i]? = some a → ρ[j]? = some a → i = j
  ob : ∀ (i : Nat) a o, ρ[i]? = some a → st[i]? = some o → RO N M ρ H o a
def Rs (N : Kn) (M : Hp) (ρ : List Addr) (σ : Sl) (σV : L2.St) : Prop := σ.length = σV.length ∧ ∀ (i : Nat) w, σ[i]? = some (some w) → ∃ v, σV[i]? = some (some v) ∧ Rw N M ρ w v
structure Ext (M : Hp) (ρ : List Addr) (H M' : Hp) (ρ' : List Addr) (H' : Hp) : Prop where
  mm : Same M M'
  pre : Pre ρ ρ'
  fr : Fr ρ H H'
  nw : ∀ a, M' a ≠ none → M a ≠ none ∨ H a = none ∨ a ∈ ρ
  rn : ∀ a ∈ ρ', a ∈ ρ ∨ H a = none
theorem Ext.refl : Ext M ρ H M ρ H := ⟨Same.refl _, Pre.refl _, Fr.refl _ _, fun _ h => .inl h, fun _ h => .inl h⟩
theorem Ext.trans {M2 H2 : Hp} {ρ2 : List Addr} (a : Ext M ρ H M' ρ' H') (b : Ext M' ρ' H' M2 ρ2 H2) : Ext M ρ H M2 ρ2 H2 := by
  have k : ∀ c, H' c = none → H c = none ∨ c ∈ ρ := fun c h => by
    by_cases z : c ∈ ρ
    · exact .inr z
    · left
      cases e : H c with
      | none => rfl
      | some o => rw [a.fr c o e z] at h; cases h
  refine ⟨a.mm.trans b.mm, a.pre.trans b.pre, fun c o h n => ?_, fun c h => ?_, fun c h => ?_⟩
  · refine b.fr c o (a.fr c o h n) fun z => ?_
    rcases a.rn c z with z | z
    · exact n z
    · rw [h] at z; cases z
  · rcases b.nw c h with h | h | h
    · exact a.nw c h
    · rcases k c h with h | h
      · exact .inr (.inl h)
      · exact .inr (.inr h)
    · rcases a.rn c h with h | h
      · exact .inr (.inr h)
      · exact .inr (.inl h)
  · rcases b.rn c h with h | h
    · exact a.rn c h
    · rcases k c h with h | h
      · exact .inr h
      · exact .inl h
theorem Rs.mono {σ : Sl} {σV : L2.St} (h : Rs N M ρ σ σV) (e : Same M M') (p : Pre ρ ρ') : Rs N M' ρ' σ σV := ⟨h.1, fun i w q => let ⟨v, h1, h2⟩ := h.2 i w q; ⟨v, h1, h2.mono e p⟩⟩
theorem Rs.ext {σ : Sl} {σV : L2.St} (h : Rs N M ρ σ σV) (e : Ext M ρ H M' ρ' H') : Rs N M' ρ' σ σV := h.mono e.mm e.pre
theorem Rw.ext {w : W} {v : V} (h : Rw N M ρ w v) (e : Ext M ρ H M' ρ' H') : Rw N M' ρ' w v := h.mono e.mm e.pre
theorem Rws.ext {w : List W} {v : List V} (h : Rws N M ρ w v) (e : Ext M ρ H M' ρ' H') : Rws N M' ρ' w v := Rws.mono e.mm e.pre h
theorem Rp.ext {w : D} {v : V} (h : Rp N M w v) (e : Ext M ρ H M' ρ' H') : Rp N M' w v := Rp.mono e.mm h
theorem Rps.ext {w : List D} {v : List V} (h : Rps N M w v) (e : Ext M ρ H M' ρ' H') : Rps N M' w v := Rps.mono e.mm h
theorem Rs.set {σ : Sl} {σV : L2.St} {w : W} {v : V} (h : Rs N M ρ σ σV) (k : Rw N M ρ w v) (i : Nat) : Rs N M ρ (σ.set i (some w)) (σV.set i (some v)) := by
  refine ⟨by rw [List.length_set, List.length_set]; exact h.1, fun j w' e => ?_⟩
  by_cases z : i = j
  · subst z
    have hj : i < σ.length := by
      have := (List.getElem?_eq_some_iff.mp e).1
      simpa using this
    rw [List.getElem?_set_self hj] at e
    cases e
    exact ⟨v, by rw [List.getElem?_set_self (by rw [← h.1]; exact hj)], k⟩
  · rw [List.getElem?_set_ne z] at e
    obtain ⟨v', h1, h2⟩ := h.2 j w' e
    exact ⟨v', by rw [List.getElem?_set_ne z]; exact h1, h2⟩
theorem Rs.unset {σ : Sl} {σV : L2.St} (h : Rs N M ρ σ σV) (i : Nat) (o : Option V) : Rs N M ρ (σ.set i none) (σV.set i o) := by
  refine ⟨by rw [List.length_set, List.length_set]; exact h.1, fun j w' e => ?_⟩
  by_cases z : i = j
  · subst z
    have hj : i < σ.length := by
      have := (List.getElem?_eq_some_iff.mp e).1
      simpa using this
    rw [List.getElem?_set_self hj] at e
    cases e
  · rw [List.getElem?_set_ne z] at e
    obtain ⟨v', h1, h2⟩ := h.2 j w' e
    exact ⟨v', by rw [List.getElem?_set_ne z]; exact h1, h2⟩
theorem Sub.new {p : Addr} {o : HO} (h : Sub M H) (hp : H p = none) : Sub (upd M p o) (upd H p o) ∧ Same M (upd M p o) := by
  have hm : M p = none := by
    cases e : M p with
    | none => rfl
    | some u => exact absurd hp (h.isSome e)
  refine ⟨fun b u e => ?_, same_grow0 hm⟩
  by_cases z : b = p
  · subst z
    rw [upd_same] at e
    cases e
    exact .inl upd_same
  · rw [upd_ne z] at e
    rw [upd_ne z]
    exact h b u e
theorem Rep.non {st : Sto} (r : Rep N M ρ st H) {p : Addr} (hp : H p = none) : M p = none := by
  cases e : M p with
  | none => rfl
  | some u => exact absurd hp (r.sub.isSome e)
theorem Rep.at_ {st : Sto} (r : Rep N M ρ st H) {i : Nat} {a : Addr} (e : ρ[i]? = some a) : ∃ o, st[i]? = some o ∧ RO N M ρ H o a := by
  have hi := (List.getElem?_eq_some_iff.mp e).1
  rw [r.len] at hi
  exact ⟨st[i], by simp [hi], r.ob i a _ e (by simp [hi])⟩
theorem Rep.addr {st : Sto} (r : Rep N M ρ st H) {i : Nat} {o : Ob} (e : st[i]? = some o) : ∃ a, ρ[i]? = some a ∧ RO N M ρ H o a := by
  have hi := (List.getElem?_eq_some_iff.mp e).1
  rw [← r.len] at hi
  exact ⟨ρ[i], by simp [hi], r.ob i _ _ (by simp [hi]) e⟩
theorem Rep.mem {st : Sto} (r : Rep N M ρ st H) {a : Addr} (h : a ∈ ρ) : H a ≠ none := by
  obtain ⟨i, hi⟩ := List.getElem?_of_mem h
  obtain ⟨o, _, ho⟩ := r.at_ hi
  exact ho.there
theorem Rep.new {st : Sto} (r : Rep N M ρ st H) {p : Addr} {o : HO} (hp : H p = none) : Rep N (upd M p o) ρ st (upd H p o) := by
  obtain ⟨h1, h2⟩ := r.sub.new (o := o) hp
  refine ⟨h1, r.len, r.inj, fun i a ob e1 e2 => ?_⟩
  have q := r.ob i a ob e1 e2
  have hne : a ≠ p := fun z => q.there (by rw [z]; exact hp)
  exact q.mono h2 (Pre.refl _) (fun hm => by rw [upd_ne hne]; exact hm) fun u hu => by rw [upd_ne hne]; exact hu
theorem Ext.new {p : Addr} {o : HO} (r : Sub M H) (hp : H p = none) : Ext M ρ H (upd M p o) ρ (upd H p o) := by
  refine ⟨(r.new hp).2, Pre.refl _, (Fr.refl _ _).new hp, fun a h => ?_, fun a h => .inl h⟩
  by_cases z : a = p
  · exact .inr (.inl (by rw [z]; exact hp))
  · rw [upd_ne z] at h
    exact .inl h
theorem Rep.loc {st : Sto} (r : Rep N M ρ st H) {p : Addr} {u : HO} {o : Ob} (hp : H p = none) (ho : RO N M (ρ ++ [p]) (upd H p u) o p) : Rep N M (ρ ++ [p]) (st ++ [o]) (upd H p u) := by
  have hm := r.non hp
  have hs : Sub M (upd H p u) := fun b u' e => by
    rw [upd_ne (fun z => by rw [z, hm] at e; cases e)]
    exact r.sub b u' e
  have hmem : p ∉ ρ := fun z => r.mem z hp
  refine ⟨hs, by rw [List.length_append, List.length_append, r.len]; rfl, fun i j a e1 e2 => ?_, fun i a o' e1 e2 => ?_⟩
  · rw [List.getElem?_append] at e1 e2
    split at e1 <;> split at e2
    · exact r.inj i j a e1 e2
    · rename_i h1 h2
      exfalso
      have : a = p := by
        cases z : j - ρ.length with
        | zero => rw [z] at e2; simpa using e2.symm
        | succ n => rw [z] at e2; simp at e2
      rw [this] at e1
      exact hmem (List.mem_of_getElem? e1)
    · rename_i h1 h2
      exfalso
      have : a = p := by
        cases z : i - ρ.length with
        | zero => rw [z] at e1; simpa using e1.symm
        | succ n => rw [z] at e1; simp at e1
      rw [this] at e2
      exact hmem (List.mem_of_getElem? e2)
    · rename_i h1 h2
      have k1 : i - ρ.length = 0 := by
        have := (List.getElem?_eq_some_iff.mp e1).1
        simpa using this
      have k2 : j - ρ.length = 0 := by
        have := (List.getElem?_eq_some_iff.mp e2).1
        simpa using this
      omega
  · rw [List.getElem?_append] at e1 e2
    split at e1
    · rename_i h1
      rw [if_pos (by rw [← r.len]; exact h1)] at e2
      have q := r.ob i a o' e1 e2
      have hne : a ≠ p := fun z => q.there (by rw [z]; exact hp)
      exact q.mono (Same.refl _) ⟨[p], rfl⟩ (fun h => h) fun u hu => by rw [upd_ne hne]; exact hu
    · rename_i h1
      rw [if_neg (by rw [← r.len]; exact h1)] at e2
      have k1 : i - ρ.length = 0 := by
        have := (List.getElem?_eq_some_iff.mp e1).1
        simpa using this
      rw [k1] at e1
      rw [← r.len, k1] at e2
      cases e1
      cases e2
      exact ho
theorem Ext.loc {p : Addr} {o : HO} (hp : H p = none) : Ext M ρ H M (ρ ++ [p]) (upd H p o) := by
  refine ⟨Same.refl _, ⟨[p], rfl⟩, (Fr.refl _ _).new hp, fun a h => .inl h, fun a h => ?_⟩
  rcases List.mem_append.mp h with h | h
  · exact .inl h
  · rw [List.mem_singleton] at h
    rw [h]
    exact .inr hp
theorem Rep.wr {st : Sto} (r : Rep N M ρ st H) {n : Nat} {a : Addr} {u : HO} {o : Ob} (ha : ρ[n]? = some a) (hm : M a = none) (ho : RO N M ρ (upd H a u) o a) : Rep N M ρ (st.set n o) (upd H a u) := by
  have hs : Sub M (upd H a u) := fun b u' e => by
    rw [upd_ne (fun z => by rw [z, hm] at e; cases e)]
    exact r.sub b u' e
  refine ⟨hs, by rw [List.length_set]; exact r.len, r.inj, fun i b o' e1 e2 => ?_⟩
  by_cases z : n = i
  · subst z
    rw [ha] at e1
    cases e1
    have hn := (List.getElem?_eq_some_iff.mp ha).1
    rw [List.getElem?_set_self (by rw [← r.len]; exact hn)] at e2
    cases e2
    exact ho
  · rw [List.getElem?_set_ne z] at e2
    have hne : b ≠ a := fun w => z (r.inj _ _ _ ha (by rw [← w]; exact e1))
    exact (r.ob i b o' e1 e2).mono (Same.refl _) (Pre.refl _) (fun h => h) fun u hu => by rw [upd_ne hne]; exact hu
theorem Ext.wr {a : Addr} {o : HO} (ha : a ∈ ρ) : Ext M ρ H M ρ (upd H a o) := ⟨Same.refl _, Pre.refl _, (Fr.refl _ _).wr ha, fun a h => .inl h, fun a h => .inl h⟩
theorem Rep.fz {st : Sto} (r : Rep N M ρ st H) {n : Nat} {a : Addr} {u : HO} {d : D} (ha : ρ[n]? = some a) (hm : M a = Option.none) (hu : H a = some u) (hd : Rp N (upd M a u) d (.ref a)) : Rep N (upd M a u) ρ (st.set n (.fz d)) H := by
  have hs : Sub (upd M a u) H := fun b u' e => by
    by_cases z : b = a
    · subst z
      rw [upd_same] at e
      cases e
      exact .inl hu
    · rw [upd_ne z] at e
      exact r.sub b u' e
  refine ⟨hs, by rw [List.length_set]; exact r.len, r.inj, fun i b o' e1 e2 => ?_⟩
  by_cases z : n = i
  · subst z
    rw [ha] at e1
    cases e1
    have hn := (List.getElem?_eq_some_iff.mp ha).1
    rw [List.getElem?_set_self (by rw [← r.len]; exact hn)] at e2
    cases e2
    exact ⟨hd, by rw [hu]; exact fun z => nomatch z⟩
  · rw [List.getElem?_set_ne z] at e2
    have hne : b ≠ a := fun w => z (r.inj _ _ _ ha (by rw [← w]; exact e1))
    exact (r.ob i b o' e1 e2).mono (same_grow0 hm) (Pre.refl _) (fun h => by rw [upd_ne hne]; exact h) fun u hu => hu
theorem Ext.fz {a : Addr} {u : HO} (ha : a ∈ ρ) (hm : M a = none) : Ext M ρ H (upd M a u) ρ H := by
  refine ⟨same_grow0 hm, Pre.refl _, Fr.refl _ _, fun b h => ?_, fun a h => .inl h⟩
  by_cases z : b = a
  · exact .inr (.inr (by rw [z]; exact ha))
  · rw [upd_ne z] at h
    exact .inl h
end
end Dl
end

section
set_option maxHeartbeats 4000000
namespace Dl
open PySem PySem.Spec PyProof.Rows L2 Co
abbrev DX := Str → List (Str × D) → Sto → Prop
abbrev Lv (α : Type) := Sl → Sto → (α → Sto → Prop) → DX → Prop
abbrev DW := Lv W
abbrev DD := Lv D
abbrev DT := Lv Bool
abbrev DA := Lv (List W)
abbrev DAD := Lv (List D)
structure En where
  nx : Sl → Sto → Prop
  rt : W → Sto → Prop
  ex : Str → List (Str × D) → Sl → Sto → Prop
  bk : Sl → Sto → Prop := fun _ _ => False
  ct : Sl → Sto → Prop := fun _ _ => False
abbrev DS := En → Sl → Sto → Prop
def ErrOwn (N : Kn) (M : Hp) : Option Addr → List (Str × D) → Prop
  | none, fs => fs = []
  | some d, fs => ∃ fxs, M d = some (.xd fxs) ∧ fxs.map (·.1) = fs.map (·.1) ∧ Rps N M (fs.map (·.2)) (fxs.map (·.2))
def ExL (N : Kn) (Wx : WX) (M : Hp) (ρ : List Addr) (H : Hp) (σV : L2.St) (ex : DX) : Prop :=
  ∀ c fs st', ex c fs st' → ∀ o M' ρ' H', Ext M ρ H M' ρ' H' → Rep N M' ρ' st' H' → ErrOwn N M' o fs → Wx (.ref (He.ga N.K c)) o σV H'
structure Kx (N : Kn) (Wx : WX) (M : Hp) (ρ : List Addr) (σ : Sl) (st : Sto) (H : Hp) (σV : L2.St) (ex : DX) : Prop where
  rep : Rep N M ρ st H
  rs : Rs N M ρ σ σV
  xl : ExL N Wx M ρ H σV ex
theorem Kx.step {N : Kn} {Wx : WX} {M M' H H' : Hp} {ρ ρ' : List Addr} {σ : Sl} {st st' : Sto} {σV : L2.St} {ex : DX} (c : Kx N Wx M ρ σ st H σV ex) (e : Ext M ρ H M' ρ' H') (r : Rep N M' ρ' st' H') : Kx N Wx M' ρ' σ st' H' σV ex :=
  ⟨r, c.rs.ext e, fun c' fs st2 h o M2 ρ2 H2 e2 => c.xl c' fs st2 h o M2 ρ2 H2 (e.trans e2)⟩
def Lf {α β : Type} (N : Kn) (Wx : WX) (R : Hp → List Addr → α → β → Prop) (t : Lv α) : L2.St → Hp → (β → Hp → Prop) → Prop := fun σV H Q =>
  ∃ M ρ σ st k ex, Kx N Wx M ρ σ st H σV ex ∧ t σ st k ex ∧ ∀ w st', k w st' → ∀ v M' ρ' H', Ext M ρ H M' ρ' H' → Rep N M' ρ' st' H' → R M' ρ' w v → Q v H'
abbrev RW_ (N : Kn) : Hp → List Addr → W → V → Prop := fun M ρ w v => Rw N M ρ w v
abbrev RD_ (N : Kn) : Hp → List Addr → D → V → Prop := fun M _ d v => Rp N M d v
abbrev RB_ : Hp → List Addr → Bool → Bool → Prop := fun _ _ b c => c = b
abbrev RA_ (N : Kn) : Hp → List Addr → List W → List V → Prop := fun M ρ w v => Rws N M ρ w v
abbrev RAD_ (N : Kn) : Hp → List Addr → List D → List V → Prop := fun M _ d v => Rps N M d v
abbrev lW (N : Kn) (Wx : WX) (t : DW) : TE := Lf N Wx (RW_ N) t
abbrev lD (N : Kn) (Wx : WX) (t : DD) : TE := Lf N Wx (RD_ N) t
abbrev lT (N : Kn) (Wx : WX) (t : DT) : TT := Lf N Wx RB_ t
abbrev lA (N : Kn) (Wx : WX) (t : DA) : TA := Lf N Wx (RA_ N) t
abbrev lAD (N : Kn) (Wx : WX) (t : DAD) : TA := Lf N Wx (RAD_ N) t
class Mo {α β : Type} (R : Hp → List Addr → α → β → Prop) : Prop where
  mo : ∀ {M H M' H' : Hp} {ρ ρ' : List Addr} {w : α} {v : β}, Ext M ρ H M' ρ' H' → R M ρ w v → R M' ρ' w v
instance {N : Kn} : Mo (RW_ N) := ⟨fun e h => Rw.ext h e⟩
instance {N : Kn} : Mo (RD_ N) := ⟨fun e h => Rp.ext h e⟩
instance : Mo RB_ := ⟨fun _ h => h⟩
instance {N : Kn} : Mo (RA_ N) := ⟨fun e h => Rws.ext h e⟩
instance {N : Kn} : Mo (RAD_ N) := ⟨fun e h => Rps.ext h e⟩
section
variable {N : Kn} {Wx : WX} {M H : Hp} {ρ : List Addr} {σ : Sl} {st : Sto} {σV : L2.St} {ex : DX}
theorem Lf.of {α β : Type} {R : Hp → List Addr → α → β → Prop} {t : Lv α} {k : α → Sto → Prop} {Q : β → Hp → Prop} (c : Kx N Wx M ρ σ st H σV ex) (h : t σ st k ex)
    (q : ∀ w st', k w st' → ∀ v M' ρ' H', Ext M ρ H M' ρ' H' → Kx N Wx M' ρ' σ st' H' σV ex → R M' ρ' w v → Q v H') : Lf N Wx R t σV H Q :=
  ⟨M, ρ, σ, st, k, ex, c, h, fun w st' hk v M' ρ' H' e r rv => q w st' hk v M' ρ' H' e (c.step e r) rv⟩
theorem Lf.bin {α β α' β' : Type} {R : Hp → List Addr → α → β → Prop} [Mo R] {R' : Hp → List Addr → α' → β' → Prop} {t : Lv α} {t' : Lv α'} {g : α → α' → Sto → Prop} {Q : β → β' → Hp → Prop} (c : Kx N Wx M ρ σ st H σV ex)
    (h : t σ st (fun w st1 => t' σ st1 (fun w' st2 => g w w' st2) ex) ex)
    (q : ∀ w w' st', g w w' st' → ∀ v v' M' ρ' H', Ext M ρ H M' ρ' H' → Kx N Wx M' ρ' σ st' H' σV ex → R M' ρ' w v → R' M' ρ' w' v' → Q v v' H') :
    Lf N Wx R t σV H (fun v H1 => Lf N Wx R' t' σV H1 (fun v' H2 => Q v v' H2)) :=
  Lf.of c h fun w st1 h1 v M1 ρ1 H1 e1 c1 r1 => Lf.of c1 h1 fun w' st2 h2 v' M2 ρ2 H2 e2 c2 r2 => q w w' st2 h2 v v' M2 ρ2 H2 (e1.trans e2) c2 (Mo.mo e2 r1) r2
theorem Kx.open_ {α β : Type} {R : Hp → List Addr → α → β → Prop} {t : Lv α} {Q : β → Hp → Prop} (h : Lf N Wx R t σV H Q) :
    ∃ M ρ σ st k ex, Kx N Wx M ρ σ st H σV ex ∧ t σ st k ex ∧ ∀ w st', k w st' → ∀ v M' ρ' H', Ext M ρ H M' ρ' H' → Kx N Wx M' ρ' σ st' H' σV ex → R M' ρ' w v → Q v H' := by
  obtain ⟨M, ρ, σ, st, k, ex, c, ht, q⟩ := h
  exact ⟨M, ρ, σ, st, k, ex, c, ht, fun w st' hk v M' ρ' H' e c' r => q w st' hk v M' ρ' H' e c'.rep r⟩
theorem Kx.new (c : Kx N Wx M ρ σ st H σV ex) {p : Addr} {o : HO} (hp : H p = none) : Ext M ρ H (upd M p o) ρ (upd H p o) ∧ Kx N Wx (upd M p o) ρ σ st (upd H p o) σV ex :=
  ⟨Ext.new c.rep.sub hp, c.step (Ext.new c.rep.sub hp) (c.rep.new hp)⟩
theorem Kx.loc (c : Kx N Wx M ρ σ st H σV ex) {p : Addr} {u : HO} {o : Ob} (hp : H p = none) (ho : RO N M (ρ ++ [p]) (upd H p u) o p) : Ext M ρ H M (ρ ++ [p]) (upd H p u) ∧ Kx N Wx M (ρ ++ [p]) σ (st ++ [o]) (upd H p u) σV ex :=
  ⟨Ext.loc hp, c.step (Ext.loc hp) (c.rep.loc hp ho)⟩
theorem Kx.wr (c : Kx N Wx M ρ σ st H σV ex) {n : Nat} {a : Addr} {u : HO} {o : Ob} (ha : ρ[n]? = some a) (hm : M a = none) (ho : RO N M ρ (upd H a u) o a) : Ext M ρ H M ρ (upd H a u) ∧ Kx N Wx M ρ σ (st.set n o) (upd H a u) σV ex :=
  ⟨Ext.wr (List.mem_of_getElem? ha), c.step (Ext.wr (List.mem_of_getElem? ha)) (c.rep.wr ha hm ho)⟩
end
def dW1 : W → Option D
  | .im d => some d
  | _ => none
def dWs : List W → Option (List D)
  | [] => some []
  | .im d :: r => match dWs r with
    | some ds => some (d :: ds)
    | none => none
  | _ :: _ => none
def flat : Ob → Option D
  | .fz d => some d
  | .lst ds => some (.lst ds)
  | .dct ks ds => some (.dct ks ds)
  | .dcT ks ds => some (.dcT ks ds)
  | .ins C fs => match dWs (fs.map (·.2)) with
    | some ds => some (.ins C (fs.map (·.1)) ds)
    | none => none
  | _ => none
def fzFs (st : Sto) : List (Str × W) → Option (List (Str × W) × Sto)
  | [] => some ([], st)
  | (x, .im d) :: r => match fzFs st r with
    | some (r', st') => some ((x, .im d) :: r', st')
    | none => none
  | (x, .loc n) :: r => match st[n]? with
    | some o => (match flat o with
      | some d => (match fzFs (st.set n (.fz d)) r with
        | some (r', st') => some ((x, .im d) :: r', st')
        | none => none)
      | none => none)
    | none => none
  | (_, .dead) :: _ => none
def toD (w : W) (st : Sto) : Option (D × Sto) := match w with
  | .im d => some (d, st)
  | .loc n => match st[n]? with
    | some (.ins C fs) => (match fzFs st fs with
      | some (fs', st') => (match st'[n]? with
        | some (.ins _ _) => (match flat (.ins C fs') with
          | some d => some (d, st'.set n (.fz d))
          | none => none)
        | _ => none)
      | none => none)
    | some o => (match flat o with
      | some d => some (d, st.set n (.fz d))
      | none => none)
    | none => none
  | .dead => none
section
variable {N : Kn} {M H : Hp} {ρ : List Addr} {st : Sto}
theorem dWs_ok : ∀ {ws : List W} {ds : List D} {vs : List V}, dWs ws = some ds → Rws N M ρ ws vs → Rps N M ds vs
  | [], _, _, e, h => by cases e; exact h
  | .im d :: r, _, _, e, ⟨x, q, h1, h2, h3⟩ => by
    unfold dWs at e
    split at e
    · rename_i es e1
      cases e
      exact ⟨x, q, h1, h2, dWs_ok e1 h3⟩
    · cases e
  | .loc _ :: _, _, _, e, _ => by cases e
  | .dead :: _, _, _, e, _ => by cases e
theorem flat_ok (r : Rep N M ρ st H) {n : Nat} {a : Addr} {o : Ob} {d : D} (ha : ρ[n]? = some a) (ho : st[n]? = some o) (e : flat o = some d) :
    ∃ M', Ext M ρ H M' ρ H ∧ Rep N M' ρ (st.set n (.fz d)) H ∧ Rp N M' d (.ref a) := by
  have q := r.ob n a o ha ho
  have go : ∀ u, M a = none → H a = some u → (Rp N (upd M a u) d (.ref a)) → ∃ M', Ext M ρ H M' ρ H ∧ Rep N M' ρ (st.set n (.fz d)) H ∧ Rp N M' d (.ref a) := fun u hm hu hd =>
    ⟨_, Ext.fz (List.mem_of_getElem? ha) hm, r.fz ha hm hu hd, hd⟩
  cases o with
  | lst ds =>
    cases e
    obtain ⟨hm, xs, h1, h2⟩ := q
    exact go _ hm h1 ⟨a, xs, rfl, upd_same, h2.mono (same_grow0 hm)⟩
  | dct ks ds =>
    cases e
    obtain ⟨hm, xs, h1, h2, h3⟩ := q
    exact go _ hm h1 ⟨a, xs, rfl, upd_same, h2, h3.mono (same_grow0 hm)⟩
  | dcT ks ds =>
    cases e
    obtain ⟨hm, xs, h1, h2, h3⟩ := q
    exact go _ hm h1 ⟨a, xs, rfl, upd_same, h2, h3.mono (same_grow0 hm)⟩
  | ins C fs =>
    cases hz : dWs (fs.map (·.2)) with
    | none => simp only [flat, hz] at e; cases e
    | some ds =>
      simp only [flat, hz] at e
      cases e
      obtain ⟨hm, dx, xs, h1, h2, h3⟩ := q
      exact go _ hm h1 ⟨a, dx, xs, rfl, upd_same, h2, (dWs_ok hz h3).mono (same_grow0 hm)⟩
  | pool => cases e
  | fz d' =>
    cases e
    have : st.set n (.fz d) = st := by
      apply List.ext_getElem? 
      intro i
      by_cases z : n = i
      · subst z
        have hn := (List.getElem?_eq_some_iff.mp ho).1
        rw [List.getElem?_set_self hn, ho]
      · rw [List.getElem?_set_ne z]
    rw [this]
    exact ⟨M, Ext.refl, r, q.1⟩
  | gone => cases e
theorem fzFs_ok : ∀ {fs fs' : List (Str × W)} {vs : List V} {M : Hp} {st st' : Sto}, Rep N M ρ st H → fzFs st fs = some (fs', st') → Rws N M ρ (fs.map (·.2)) vs →
    ∃ M', Ext M ρ H M' ρ H ∧ Rep N M' ρ st' H ∧ Rws N M' ρ (fs'.map (·.2)) vs ∧ fs'.map (·.1) = fs.map (·.1)
  | [], _, _, M, _, _, r, e, h => by
    cases e
    exact ⟨M, Ext.refl, r, h, rfl⟩
  | (x, .im d) :: fs, _, _, M, st, _, r, e, ⟨v, q, h1, h2, h3⟩ => by
    unfold fzFs at e
    split at e
    · rename_i r' st1 e1
      cases e
      obtain ⟨M', E, R, h4, h5⟩ := fzFs_ok r e1 h3
      exact ⟨M', E, R, ⟨v, q, h1, h2.ext E, h4⟩, by rw [List.map_cons, List.map_cons, h5]⟩
    · cases e
  | (x, .loc n) :: fs, _, _, M, st, _, r, e, ⟨v, q, h1, ⟨a, h2, h2'⟩, h3⟩ => by
    unfold fzFs at e
    split at e
    · rename_i o ho
      split at e
      · rename_i d hd
        split at e
        · rename_i r' st1 e1
          cases e
          obtain ⟨M1, E1, R1, p1⟩ := flat_ok r h2 ho hd
          obtain ⟨M', E, R, h4, h5⟩ := fzFs_ok R1 e1 (Rws.ext h3 E1)
          refine ⟨M', E1.trans E, R, ⟨v, q, h1, ?_, h4⟩, by rw [List.map_cons, List.map_cons, h5]⟩
          rw [h2']
          exact Rp.ext p1 E
        · cases e
      · cases e
    · cases e
  | (x, .dead) :: fs, _, _, _, _, _, _, e, _ => by cases e
theorem toD_ok {w : W} {d : D} {st' : Sto} {v : V} (r : Rep N M ρ st H) (e : toD w st = some (d, st')) (h : Rw N M ρ w v) : ∃ M', Ext M ρ H M' ρ H ∧ Rep N M' ρ st' H ∧ Rp N M' d v := by
  cases w with
  | im d' => cases e; exact ⟨M, Ext.refl, r, h⟩
  | dead => cases e
  | loc n =>
    obtain ⟨a, ha, rfl⟩ := h
    have gen : ∀ o, st[n]? = some o → (match flat o with
      | some d => some (d, st.set n (.fz d))
      | none => none) = some (d, st') → ∃ M', Ext M ρ H M' ρ H ∧ Rep N M' ρ st' H ∧ Rp N M' d (.ref a) := fun o ho e => by
      cases hf : flat o with
      | none => rw [hf] at e; cases e
      | some d2 =>
        rw [hf] at e
        cases e
        exact flat_ok r ha ho hf
    cases ho : st[n]? with
    | none => simp only [toD, ho] at e; cases e
    | some o =>
      cases o with
      | ins C fs =>
        simp only [toD, ho] at e
        cases h1 : fzFs st fs with
        | none => rw [h1] at e; cases e
        | some p =>
          obtain ⟨fs', st1⟩ := p
          rw [h1] at e
          simp only at e
          cases h2 : st1[n]? with
          | none => rw [h2] at e; cases e
          | some o2 =>
            rw [h2] at e
            cases o2 with
            | ins C2 gs2 =>
              simp only at e
              obtain ⟨hm, dx, xs, q1, q2, q3⟩ := r.ob n a _ ha ho
              obtain ⟨M1, E1, R1, r1, r2⟩ := fzFs_ok r h1 q3
              obtain ⟨hm1, _⟩ := R1.ob n a _ ha h2
              cases h3 : flat (.ins C fs') with
              | none => rw [h3] at e; cases e
              | some d2 =>
                rw [h3] at e
                cases e
                cases h4 : dWs (fs'.map (·.2)) with
                | none => simp only [flat, h4] at h3; cases h3
                | some ds =>
                  simp only [flat, h4] at h3
                  cases h3
                  have hd : Rp N (upd M1 a (.ins (He.ga N.K C) dx xs)) (.ins C (fs'.map (·.1)) ds) (.ref a) := ⟨a, dx, xs, rfl, upd_same, by rw [q2, r2], (dWs_ok h4 r1).mono (same_grow0 hm1)⟩
                  exact ⟨_, E1.trans (Ext.fz (List.mem_of_getElem? ha) hm1), R1.fz ha hm1 q1 hd, hd⟩
            | _ => cases e
      | lst ds => exact gen _ ho (by simpa only [toD, ho] using e)
      | dct ks ds => exact gen _ ho (by simpa only [toD, ho] using e)
      | dcT ks ds => exact gen _ ho (by simpa only [toD, ho] using e)
      | pool => exact gen _ ho (by simpa only [toD, ho] using e)
      | fz d2 => exact gen _ ho (by simpa only [toD, ho] using e)
      | gone => exact gen _ ho (by simpa only [toD, ho] using e)
end
end Dl
end

section
set_option maxHeartbeats 4000000
namespace Dl
open PySem PySem.Spec PyProof.Rows L2 Co
def dV (i : Nat) : DW := fun σ st k _ => match σ[i]? with
  | some (some w) => k w st
  | _ => False
def dC (d : D) : DD := fun _ st k _ => k d st
def dD (t : DW) : DD := fun σ st k ex => t σ st (fun w st1 => match toD w st1 with
  | some (d, st2) => k d st2
  | none => False) ex
def dI (t : DD) : DW := fun σ st k ex => t σ st (fun d st1 => k (.im d) st1) ex
abbrev F2 := D → D → (D → Prop) → Prop
def dOp (f : F2) (ta tb : DD) : DD := fun σ st k ex => ta σ st (fun x st1 => tb σ st1 (fun y st2 => f x y fun d => k d st2) ex) ex
def dUn (f : D → (D → Prop) → Prop) (ta : DD) : DD := fun σ st k ex => ta σ st (fun x st1 => f x fun d => k d st1) ex
def seeW (w : W) (st : Sto) : Option D := match w with
  | .im d => some d
  | .loc n => (match st[n]? with
    | some o => flat o
    | none => none)
  | .dead => none
abbrev C2 := D → D → (Bool → Prop) → Prop
def dCmp (f : C2) (ta tb : DW) : DT := fun σ st k ex => ta σ st (fun x st1 => tb σ st1 (fun y st2 => match seeW x st2, seeW y st2 with
  | some d, some e => f d e fun b => k b st2
  | _, _ => False) ex) ex
def dB (t : DT) : DD := fun σ st k ex => t σ st (fun b st1 => k (.bl b) st1) ex
def dBo (t : DD) : DT := fun σ st k ex => t σ st (fun x st1 => match x with
  | .bl b => k b st1
  | _ => False) ex
def dIsN (t : DW) : DT := fun σ st k ex => t σ st (fun w st1 => match w with
  | .im .non => k true st1
  | .im _ => k false st1
  | .loc _ => k false st1
  | .dead => False) ex
def dNot (t : DT) : DT := fun σ st k ex => t σ st (fun b st1 => k (!b) st1) ex
def dAnd (t u : DT) : DT := fun σ st k ex => t σ st (fun b st1 => two b (u σ st1 k ex) (k false st1)) ex
def dOr (t u : DT) : DT := fun σ st k ex => t σ st (fun b st1 => two b (k true st1) (u σ st1 k ex)) ex
def dIfE {α : Type} (c : DT) (t u : Lv α) : Lv α := fun σ st k ex => c σ st (fun b st1 => two b (t σ st1 k ex) (u σ st1 k ex)) ex
def truD (x : D) (k : Bool → Prop) : Prop := match x with
  | .non => k false
  | .bl b => k b
  | .int i => k (i != 0)
  | .str y => y.length ≤ sizeLine ∧ k ((y.length : Int) != 0)
  | .tup ds => k (!ds.isEmpty)
  | .lst ds => k (!ds.isEmpty)
  | .dct ks _ => k (!ks.isEmpty)
  | _ => False
def dTru (t : DW) : DT := fun σ st k ex => t σ st (fun w st1 => match seeW w st1 with
  | some d => truD d fun b => k b st1
  | none => False) ex
def aNil : DA := fun _ st k _ => k [] st
def aCons (t : DW) (r : DA) : DA := fun σ st k ex => t σ st (fun w st1 => r σ st1 (fun ws st2 => k (w :: ws) st2) ex) ex
def adNil : DAD := fun _ st k _ => k [] st
def adCons (t : DD) (r : DAD) : DAD := fun σ st k ex => t σ st (fun w st1 => r σ st1 (fun ws st2 => k (w :: ws) st2) ex) ex
def dTup (t : DAD) : DD := fun σ st k ex => t σ st (fun ds st1 => ds.length ≤ 1000000 ∧ k (.tup ds) st1) ex
def dLst (t : DAD) : DD := fun σ st k ex => t σ st (fun ds st1 => ds.length ≤ 1000000 ∧ k (.lst ds) st1) ex
def dLstM (t : DAD) : DW := fun σ st k ex => t σ st (fun ds st1 => ds.length ≤ 1000000 ∧ k (.loc st1.length) (st1 ++ [.lst ds])) ex
def fAdd : F2 := fun x y k => match x, y with
  | .int i, .int j => k (.int (i + j))
  | .str a, .str b => a.length + b.length ≤ sizeLine ∧ k (.str (a ++ b))
  | .tup a, .tup b => a.length + b.length ≤ 1000000 ∧ k (.tup (a ++ b))
  | .lst a, .lst b => a.length + b.length ≤ 1000000 ∧ k (.lst (a ++ b))
  | _, _ => False
def fSub : F2 := fun x y k => match x, y with
  | .int i, .int j => k (.int (i - j))
  | _, _ => False
def fMul : F2 := fun x y k => match x, y with
  | .int i, .int j => CMulL i j ∧ k (.int (i * j))
  | .str z, .int n => n * z.length ≤ 1000000 ∧ -(2 ^ 62) ≤ n ∧ n < 2 ^ 62 ∧ k (.str (S (repL z.cps.toList n)))
  | _, _ => False
def fMod : F2 := fun x y k => match x, y with
  | .int i, .int j => 0 < j ∧ k (.int (i % j))
  | _, _ => False
def fDiv : F2 := fun x y k => match x, y with
  | .int i, .int j => CDivL i j ∧ k (.int (i / j))
  | _, _ => False
def fPow : F2 := fun x y k => match x, y with
  | .int i, .int j => CPow i j ∧ k (.int (i ^ j.toNat))
  | _, _ => False
def fNeg : D → (D → Prop) → Prop := fun x k => match x with
  | .int i => k (.int (-i))
  | _ => False
def cLt : C2 := fun x y k => match x, y with
  | .int i, .int j => k (decide (i < j))
  | .str a, .str b => k (decide (a.cps.toList < b.cps.toList))
  | _, _ => False
def cLe : C2 := fun x y k => match x, y with
  | .int i, .int j => k (decide (i ≤ j))
  | .str a, .str b => k (!decide (b.cps.toList < a.cps.toList))
  | _, _ => False
def cGt : C2 := fun x y k => match x, y with
  | .int i, .int j => k (decide (j < i))
  | _, _ => False
def cGe : C2 := fun x y k => match x, y with
  | .int i, .int j => k (decide (j ≤ i))
  | _, _ => False
section
variable {N : Kn} {Wx : WX} {M H : Hp} {ρ : List Addr} {σ : Sl} {st : Sto} {σV : L2.St} {ex : DX}
def Fv (M : Hp) (ρ : List Addr) (H : Hp) : Hp := fun b => match M b with
  | some u => some u
  | none => if b ∈ ρ then H b else none
theorem Fv.same (M : Hp) (ρ : List Addr) (H : Hp) : Same M (Fv M ρ H) := fun b u e => by
  unfold Fv
  rw [e]
theorem Fv.sub (s : Sub M H) : Sub (Fv M ρ H) H := fun b u e => by
  unfold Fv at e
  cases h : M b with
  | some u' =>
    rw [h] at e
    cases e
    exact s _ _ h
  | none =>
    rw [h] at e
    simp only at e
    split at e
    · exact .inl e
    · cases e
theorem Fv.at_ {n : Nat} {a : Addr} (ha : ρ[n]? = some a) (hm : M a = none) : Fv M ρ H a = H a := by
  unfold Fv
  rw [hm]
  simp only
  rw [if_pos (List.mem_of_getElem? ha)]
def RpC (N : Kn) (M F : Hp) : D → V → Prop
  | .lst ds, v => ∃ p xs, v = .ref p ∧ F p = some (.lst xs) ∧ Rps N M ds xs
  | .dct ks ds, v => ∃ p kvs, v = .ref p ∧ F p = some (.dK kvs) ∧ kvs.map (·.1) = ks ∧ Rps N M ds (kvs.map (·.2))
  | .dcT ks ds, v => ∃ p kvs, v = .ref p ∧ F p = some (.dT kvs) ∧ kvs.map (·.1) = ks ∧ Rps N M ds (kvs.map (·.2))
  | .ins C ns ds, v => ∃ p dx fs, v = .ref p ∧ F p = some (.ins (He.ga N.K C) dx fs) ∧ fs.map (·.1) = ns ∧ Rps N M ds (fs.map (·.2))
  | d, v => Rp N M d v
theorem RpC.of {d : D} {v : V} {F : Hp} (h : Rp N M d v) (s : Same M F) : RpC N M F d v := by
  cases d with
  | lst ds => obtain ⟨p, xs, h1, h2, h3⟩ := h; exact ⟨p, xs, h1, s _ _ h2, h3⟩
  | dct ks ds => obtain ⟨p, xs, h1, h2, h3⟩ := h; exact ⟨p, xs, h1, s _ _ h2, h3⟩
  | dcT ks ds => obtain ⟨p, xs, h1, h2, h3⟩ := h; exact ⟨p, xs, h1, s _ _ h2, h3⟩
  | ins C ns ds => obtain ⟨p, dx, fs, h1, h2, h3⟩ := h; exact ⟨p, dx, fs, h1, s _ _ h2, h3⟩
  | _ => exact h
theorem RpC.rp {d : D} {v : V} {F : Hp} (h : RpC N M F d v) (s : Same M F) : Rp N F d v := by
  cases d with
  | lst ds => obtain ⟨p, xs, h1, h2, h3⟩ := h; exact ⟨p, xs, h1, h2, h3.mono s⟩
  | dct ks ds => obtain ⟨p, xs, h1, h2, h3, h4⟩ := h; exact ⟨p, xs, h1, h2, h3, h4.mono s⟩
  | dcT ks ds => obtain ⟨p, xs, h1, h2, h3, h4⟩ := h; exact ⟨p, xs, h1, h2, h3, h4.mono s⟩
  | ins C ns ds => obtain ⟨p, dx, fs, h1, h2, h3, h4⟩ := h; exact ⟨p, dx, fs, h1, h2, h3, h4.mono s⟩
  | _ => exact Rp.mono s (show Rp N M _ v from h)
theorem see_ok {w : W} {d : D} {v : V} (r : Rep N M ρ st H) (e : seeW w st = some d) (h : Rw N M ρ w v) : RpC N M (Fv M ρ H) d v := by
  cases w with
  | im d' => cases e; exact RpC.of h (Fv.same M ρ H)
  | dead => cases e
  | loc n =>
    obtain ⟨a, ha, rfl⟩ := h
    cases ho : st[n]? with
    | none => simp only [seeW, ho] at e; cases e
    | some o =>
      simp only [seeW, ho] at e
      have q := r.ob n a o ha ho
      cases o with
      | lst ds => cases e; obtain ⟨hm, xs, h1, h2⟩ := q; exact ⟨a, xs, rfl, by rw [Fv.at_ ha hm]; exact h1, h2⟩
      | dct ks ds => cases e; obtain ⟨hm, xs, h1, h2⟩ := q; exact ⟨a, xs, rfl, by rw [Fv.at_ ha hm]; exact h1, h2⟩
      | dcT ks ds => cases e; obtain ⟨hm, xs, h1, h2⟩ := q; exact ⟨a, xs, rfl, by rw [Fv.at_ ha hm]; exact h1, h2⟩
      | ins C fs =>
        cases hz : dWs (fs.map (·.2)) with
        | none => simp only [flat, hz] at e; cases e
        | some ds =>
          simp only [flat, hz] at e
          cases e
          obtain ⟨hm, dx, xs, h1, h2, h3⟩ := q
          exact ⟨a, dx, xs, rfl, by rw [Fv.at_ ha hm]; exact h1, h2, dWs_ok hz h3⟩
      | pool => cases e
      | fz d2 => cases e; exact RpC.of q.1 (Fv.same M ρ H)
      | gone => cases e
end
abbrev XN (X : Cx) (b : Bool) : Kn := ⟨X.K, b⟩
section
variable {X : Cx} {b : Bool} {Wx : WX} {e e1 e2 : Expr} {pos : Pos}
theorem e_var (i : Nat) {x : Str} {N : Kn} (hN : X.N[i]? = some x := by rfl) (hv : Vis X.env.scope x := by first | exact Or.inl rfl | exact Or.inr (Or.inl rfl) | exact Or.inr (Or.inr rfl)) (hd : (x == ("__debug__" : Str)) = false := by decide)
    (hcd : (x == ("__classdict__" : Str)) = false := by decide) : PE X (.Name x pos) (lW N Wx (dV i)) := PE.imp (pe_var hN hv hd hcd) fun σV H Q h => by
  obtain ⟨M, ρ, σ, st, k, ex, c, ht, q⟩ := Kx.open_ h
  unfold dV at ht
  split at ht
  · rename_i w hw
    obtain ⟨v, h1, h2⟩ := c.rs.2 i w hw
    exact ⟨v, h1, q _ _ ht v M ρ H Ext.refl c h2⟩
  · exact ht.elim
theorem e_con {N : Kn} {d : D} {v : V} (h : PE X e (tC v)) (hv : ∀ M, Rp N M d v) : PE X e (lD N Wx (dC d)) := PE.imp h fun σV H Q h => by
  obtain ⟨M, ρ, σ, st, k, ex, c, ht, q⟩ := Kx.open_ h
  exact q _ _ ht v M ρ H Ext.refl c (hv M)
theorem e_glob {N : Kn} {x : Str} (hg : Gl X x) (hm : X.mg x = some (.ref (He.ga N.K x))) (hd : (x == ("__debug__" : Str)) = false := by decide) : PE X (.Name x pos) (lD N Wx (dC (.glo x))) := e_con (pe_glob (v := .ref (He.ga N.K x)) hg hm rfl hd) fun _ => rfl
theorem e_D {N : Kn} {t : DW} (h : PE X e (lW N Wx t)) : PE X e (lD N Wx (dD t)) := PE.imp h fun σV H Q h => by
  obtain ⟨M, ρ, σ, st, k, ex, c, ht, q⟩ := Kx.open_ h
  refine Lf.of c ht fun w st' hk v M' ρ' H' E c' r => ?_
  cases hz : toD w st' with
  | none => rw [hz] at hk; exact hk.elim
  | some p =>
    obtain ⟨d, st2⟩ := p
    rw [hz] at hk
    obtain ⟨M2, E2, R2, r2⟩ := toD_ok c'.rep hz r
    exact q _ _ hk v M2 ρ' H' (E.trans E2) (c'.step E2 R2) r2
theorem e_I {N : Kn} {t : DD} (h : PE X e (lD N Wx t)) : PE X e (lW N Wx (dI t)) := PE.imp h fun σV H Q h => by
  obtain ⟨M, ρ, σ, st, k, ex, c, ht, q⟩ := Kx.open_ h
  exact Lf.of c ht fun d st' hk v M' ρ' H' E c' r => q _ _ hk v M' ρ' H' E c' r
def OpOk (N : Kn) (r : R2) (f : F2) : Prop := ∀ {Wx : WX} {M H : Hp} {ρ : List Addr} {σ : Sl} {st : Sto} {σV : L2.St} {ex : DX} {x y : D} {u v : V} {kd : D → Prop} {Q : VK}, Kx N Wx M ρ σ st H σV ex → Rp N M x u → Rp N M y v → f x y kd →
  (∀ d, kd d → ∀ w M' H', Ext M ρ H M' ρ H' → Kx N Wx M' ρ σ st H' σV ex → Rp N M' d w → Q w H') → r u v H Q
theorem op_lift {N : Kn} {r : R2} {f : F2} {ta tb : DD} (ok : OpOk N r f) {σV : L2.St} {H : Hp} {Q : VK} (h : lD N Wx (dOp f ta tb) σV H Q) : tOp r (lD N Wx ta) (lD N Wx tb) σV H Q := by
  obtain ⟨M, ρ, σ, st, k, ex, c, ht, q⟩ := Kx.open_ h
  exact Lf.bin c ht fun x y st' hk u v M' ρ' H' E c' r1 r2 => ok c' r1 r2 hk fun d hd w M2 H2 E2 c2 r => q _ _ hd w M2 ρ' H2 (E.trans E2) c2 r
theorem e_op {N : Kn} {op : Operator} {r : R2} {f : F2} {ta tb : DD} (ho : OpR X (binaryOp op) r) (ok : OpOk N r f) (ha : PE X e1 (lD N Wx ta)) (hb : PE X e2 (lD N Wx tb)) : PE X (.BinOp e1 op e2 pos) (lD N Wx (dOp f ta tb)) := PE.imp (pe_op ho ha hb) fun _ _ _ => op_lift ok
theorem e_un {N : Kn} {op : UnaryOp} {r : V → Hp → VK → Prop} {f : D → (D → Prop) → Prop} {ta : DD} (ho : UnR X (unaryOp op) r) (ok : ∀ {M H : Hp} {x : D} {u : V} {kd : D → Prop} {Q : VK}, Rp N M x u → f x kd → (∀ d w, kd d → Rp N M d w → Q w H) → r u H Q) (ha : PE X e1 (lD N Wx ta)) : PE X (.UnaryOp op e1 pos) (lD N Wx (dUn f ta)) := by
  refine PE.imp (pe_un ho ha) fun σV H Q h => ?_
  obtain ⟨M, ρ, σ, st, k, ex, c, ht, q⟩ := Kx.open_ h
  exact Lf.of c ht fun x st' hk v M' ρ' H' E c' r => ok r hk fun d w hd hw => q _ _ hd w M' ρ' H' E c' hw
theorem OpR.or {f : Value → Value → Sem Value} {r r' : R2} (h : OpR X f r) (h' : OpR X f r') : OpR X f (fun x y H Q => r x y H Q ∨ r' x y H Q) := fun pins s σ H x y v u Q I rx ry q => q.elim (h pins s σ H x y v u Q I rx ry) (h' pins s σ H x y v u Q I rx ry)
theorem lenL6 {n : Nat} (h : n ≤ 1000000) : n ≤ sizeLine := by rw [sizeLine_eq]; omega
theorem o_add' : OpR X (binaryOp .Add) (fun x y H Q => fAddA x y H Q ∨ rCatW X.K x y H Q ∨ rCat x y H Q) := OpR.or o_addA (OpR.or op_catW op_cat)
theorem ok_add : OpOk (XN X b) (fun x y H Q => fAddA x y H Q ∨ rCatW X.K x y H Q ∨ rCat x y H Q) fAdd := by
  intro Wx M H ρ σ st σV ex x y u v kd Q c hx hy h k
  cases x <;> cases y <;> try exact h.elim
  case int.int i j => cases hx; cases hy; exact .inl (k _ h _ M H Ext.refl c rfl)
  case str.str i j => cases hx; cases hy; exact .inl ⟨h.1, k _ h.2 _ M H Ext.refl c rfl⟩
  case tup.tup xs ys =>
    obtain ⟨p, us, rfl, h1, h2⟩ := hx
    obtain ⟨q, vs, rfl, h3, h4⟩ := hy
    obtain ⟨hl, hk⟩ := h
    have e1 := h2.length
    have e2 := h4.length
    refine .inr (.inl ⟨p, q, us, vs, rfl, rfl, c.rep.sub.tup h1, c.rep.sub.tup h3, lenL6 (by omega), fun z => ?_, fun z1 z2 => ?_, fun _ _ l hl' => ?_⟩)
    · subst z
      have : xs = [] := List.eq_nil_of_length_eq_zero (by rw [← e1]; rfl)
      subst this
      exact k _ hk _ M H Ext.refl c ⟨q, vs, rfl, h3, h4⟩
    · subst z2
      have : ys = [] := List.eq_nil_of_length_eq_zero (by rw [← e2]; rfl)
      subst this
      rw [List.append_nil] at hk
      exact k _ hk _ M H Ext.refl c ⟨p, us, rfl, h1, h2⟩
    · obtain ⟨E, c'⟩ := c.new (o := .tup (us ++ vs)) hl'
      exact k _ hk _ _ _ E c' ⟨l, us ++ vs, rfl, .inl upd_same, (h2.append h4).ext E⟩
  case lst.lst xs ys =>
    obtain ⟨p, us, rfl, h1, h2⟩ := hx
    obtain ⟨q, vs, rfl, h3, h4⟩ := hy
    obtain ⟨hl, hk⟩ := h
    have e1 := h2.length
    have e2 := h4.length
    refine .inr (.inr ⟨p, q, us, vs, rfl, rfl, c.rep.sub.lst1 h1, c.rep.sub.lst1 h3, lenL6 (by omega), fun l hl' => ?_⟩)
    obtain ⟨E, c'⟩ := c.new (o := .lst (us ++ vs)) hl'
    exact k _ hk _ _ _ E c' ⟨l, us ++ vs, rfl, upd_same, (h2.append h4).ext E⟩
theorem ok_sub {N : Kn} : OpOk N Co.fSub fSub := by
  intro Wx M H ρ σ st σV ex x y u v kd Q c hx hy h k
  cases x <;> cases y <;> try exact h.elim
  cases hx; cases hy; exact k _ h _ M H Ext.refl c rfl
theorem o_mul' : OpR X (binaryOp .Mult) (fun x y H Q => Co.fMul x y H Q ∨ rRepS x y H Q) := OpR.or o_mul op_repS
theorem ok_mul {N : Kn} : OpOk N (fun x y H Q => Co.fMul x y H Q ∨ rRepS x y H Q) fMul := by
  intro Wx M H ρ σ st σV ex x y u v kd Q c hx hy h k
  cases x <;> cases y <;> try exact h.elim
  case int.int i j => cases hx; cases hy; exact .inl ⟨h.1, k _ h.2 _ M H Ext.refl c rfl⟩
  case str.int z n => cases hx; cases hy; exact .inr ⟨h.1, h.2.1, h.2.2.1, k _ h.2.2.2 _ M H Ext.refl c rfl⟩
theorem ok_mod {N : Kn} : OpOk N Co.fMod fMod := by
  intro Wx M H ρ σ st σV ex x y u v kd Q c hx hy h k
  cases x <;> cases y <;> try exact h.elim
  cases hx; cases hy; exact ⟨h.1, k _ h.2 _ M H Ext.refl c rfl⟩
theorem ok_div {N : Kn} : OpOk N Co.fDiv fDiv := by
  intro Wx M H ρ σ st σV ex x y u v kd Q c hx hy h k
  cases x <;> cases y <;> try exact h.elim
  cases hx; cases hy; exact ⟨h.1, k _ h.2 _ M H Ext.refl c rfl⟩
theorem ok_pow {N : Kn} : OpOk N Co.fPow fPow := by
  intro Wx M H ρ σ st σV ex x y u v kd Q c hx hy h k
  cases x <;> cases y <;> try exact h.elim
  cases hx; cases hy; exact ⟨h.1, k _ h.2 _ M H Ext.refl c rfl⟩
theorem ok_neg {N : Kn} {M H : Hp} {x : D} {u : V} {kd : D → Prop} {Q : VK} (hx : Rp N M x u) (h : fNeg x kd) (k : ∀ d w, kd d → Rp N M d w → Q w H) : Co.fNeg u H Q := by
  cases x <;> try exact h.elim
  cases hx
  exact k _ _ h rfl
def CmpOk (N : Kn) (r : R2) (f : C2) : Prop := ∀ {F H : Hp} {x y : D} {u v : V} {kb : Bool → Prop} {Q : VK}, Sub F H → Rp N F x u → Rp N F y v → f x y kb → (∀ c, kb c → Q (.bl c) H) → r u v H Q
theorem cmp_lift {N : Kn} {r : R2} {f : C2} {ta tb : DW} (ok : CmpOk N r f) {σV : L2.St} {H : Hp} {Q : VK} {M : Hp} {ρ : List Addr} {σ : Sl} {st : Sto} {k : Bool → Sto → Prop} {ex : DX} (c : Kx N Wx M ρ σ st H σV ex) (ht : dCmp f ta tb σ st k ex)
    (q : ∀ c st', k c st' → ∀ M' ρ' H', Ext M ρ H M' ρ' H' → Kx N Wx M' ρ' σ st' H' σV ex → Q (.bl c) H') : tOp r (lW N Wx ta) (lW N Wx tb) σV H Q := by
  refine Lf.bin c ht fun x y st' hk u v M' ρ' H' E c' r1 r2 => ?_
  cases h1 : seeW x st' with
  | none => simp only [h1] at hk
  | some d =>
    cases h2 : seeW y st' with
    | none => simp only [h1, h2] at hk
    | some e =>
      simp only [h1, h2] at hk
      exact ok (Fv.sub c'.rep.sub) ((see_ok c'.rep h1 r1).rp (Fv.same _ _ _)) ((see_ok c'.rep h2 r2).rp (Fv.same _ _ _)) hk fun b hb => q _ _ hb M' ρ' H' E c'
theorem t_cmpD {N : Kn} {op : CmpOp} {r : R2} {f : C2} {ta tb : DW} (ho : OpR X (compareOp op) r) (ok : CmpOk N r f) (ha : PE X e1 (lW N Wx ta)) (hb : PE X e2 (lW N Wx tb)) (hm : behindInMarks op e2 = false) : PT X (.Compare e1 [op] [e2] pos) (lT N Wx (dCmp f ta tb)) := PT.imp (t_cmp ho ha hb hm) fun σV H Q h => by
  obtain ⟨M, ρ, σ, st, k, ex, c, ht, q⟩ := Kx.open_ h
  exact cmp_lift ok c ht fun b st' hb M' ρ' H' E c' => q _ _ hb b M' ρ' H' E c' rfl
theorem e_cmpD {N : Kn} {op : CmpOp} {r : R2} {f : C2} {ta tb : DW} (ho : OpR X (compareOp op) r) (ok : CmpOk N r f) (ha : PE X e1 (lW N Wx ta)) (hb : PE X e2 (lW N Wx tb)) (hm : behindInMarks op e2 = false) : PE X (.Compare e1 [op] [e2] pos) (lD N Wx (dB (dCmp f ta tb))) := PE.imp (pe_cmpR ho ha hb hm) fun σV H Q h => by
  obtain ⟨M, ρ, σ, st, k, ex, c, ht, q⟩ := Kx.open_ h
  exact cmp_lift ok c ht fun b st' hb M' ρ' H' E c' => q _ _ hb _ M' ρ' H' E c' rfl
def rLtS : R2 := fun x y H Q => ∃ i j, x = .str i ∧ y = .str j ∧ Q (.bl (decide (i.cps.toList < j.cps.toList))) H
theorem o_lt' : OpR X (compareOp .Lt) (fun x y H Q => fLt x y H Q ∨ rLtS x y H Q) := OpR.or o_lt op_lt_str
theorem ok_lt {N : Kn} : CmpOk N (fun x y H Q => fLt x y H Q ∨ rLtS x y H Q) cLt := by
  intro F H x y u v kb Q s hx hy h k
  cases x <;> cases y <;> try exact h.elim
  · cases hx; cases hy; exact .inl (k _ h)
  · cases hx; cases hy; exact .inr ⟨_, _, rfl, rfl, k _ h⟩
def rLeS : R2 := fun x y H Q => ∃ i j, x = .str i ∧ y = .str j ∧ Q (.bl (!decide (j.cps.toList < i.cps.toList))) H
theorem o_le' : OpR X (compareOp .LtE) (fun x y H Q => fLe x y H Q ∨ rLeS x y H Q) := OpR.or o_le op_le_str
theorem ok_le {N : Kn} : CmpOk N (fun x y H Q => fLe x y H Q ∨ rLeS x y H Q) cLe := by
  intro F H x y u v kb Q s hx hy h k
  cases x <;> cases y <;> try exact h.elim
  · cases hx; cases hy; exact .inl (k _ h)
  · cases hx; cases hy; exact .inr ⟨_, _, rfl, rfl, k _ h⟩
theorem ok_gt {N : Kn} : CmpOk N fGt cGt := by
  intro F H x y u v kb Q s hx hy h k
  cases x <;> cases y <;> try exact h.elim
  cases hx; cases hy; exact k _ h
theorem ok_ge {N : Kn} : CmpOk N fGe cGe := by
  intro F H x y u v kb Q s hx hy h k
  cases x <;> cases y <;> try exact h.elim
  cases hx; cases hy; exact k _ h
end
end Dl
end

section
set_option maxHeartbeats 4000000
namespace PySem
open Sem (wp)
section
variable {prog : Program} {w : World} {K : Type} [DecidableEq K] {knd : HeapKind prog w K} {A : Around} {E : Value → Shared → Prop} {s : Shared}
theorem wpAny_truthy_dictH {d : Addr} {kvs : List (K × Addr × Value)} {Q : Bool → Shared → Prop} (hd : (d == sysModules) = false) (hm : s.heap.DictOfH knd d kvs) (hfit : (kvs.length : Int) < 2 ^ 63)
    (h : Q (!kvs.isEmpty) { s with toks := s.toks + 1 + 1 }) : wpAny (model prog w) A (truthy (.ref d)) Q E s := by
  have hne : ((kvs.length : Int) != 0) = !kvs.isEmpty := by cases kvs <;> simp <;> omega
  have key : wpAny (model prog w) A (runValue (.builtin "len" ⟨[.ref d], []⟩)) (fun r s' => r = .int kvs.length (s.toks + 1) ∧ Q (!kvs.isEmpty) s') E s := by
    refine wpAny_runValue (codeAny_builtin entry_len ?_)
    rw [Around.under_plainId plain_len _]
    exact wpAny_mono (wpAny_len_body_dictH (Q := fun r s' => r = .int kvs.length (s.toks + 1) ∧ Q (!kvs.isEmpty) s') hd hm hfit ⟨rfl, h⟩)
      (fun fin s' h' => by obtain ⟨r, rfl, hq⟩ := h'; exact hq) fun _ _ e => e
  unfold truthy
  first
    | refine wpAny_bind (wpAny_callSpecial?_none (name := Str.ofString "__bool__") hm.typeIs noBool_dict ?_)
    | refine wpAny_bind (wpAny_pure (wpAny_bind (wpAny_callSpecial?_none (name := Str.ofString "__bool__") hm.typeIs noBool_dict ?_)))
  first
    | refine wpAny_bind (wpAny_specialOf (name := Str.ofString "__len__") hm.typeIs F.slot_dict_len.lookup ?_)
    | refine wpAny_bind (wpAny_pure (wpAny_bind (wpAny_specialOf (name := Str.ofString "__len__") hm.typeIs F.slot_dict_len.lookup ?_)))
  first
    | exact wpAny_bind (wpAny_mono key (fun r s' h' => by obtain ⟨rfl, hq⟩ := h'; exact wpAny_pure (hne ▸ hq)) fun _ _ e => e)
    | exact wpAny_bind (wpAny_pure (wpAny_bind (wpAny_mono key (fun r s' h' => by obtain ⟨rfl, hq⟩ := h'; exact wpAny_pure (hne ▸ hq)) fun _ _ e => e)))
end
end PySem
namespace Dl
open PySem PySem.Spec PyProof.Rows L2 Co
section
variable {X : Cx} {b : Bool} {Wx : WX} {e e1 e2 e3 : Expr} {pos : Pos}
def TruW (K : PySem.W.Frag) (x : V) (H : Hp) (k : Bool) : Prop := TruV K x H k ∨ (∃ p kvs, x = .ref p ∧ Rd H p (.dK kvs) ∧ k = !kvs.isEmpty) ∨ ∃ p kvs, x = .ref p ∧ Rd H p (.dT kvs) ∧ k = !kvs.isEmpty
theorem KT_empty {H : Hp} {kvs : List (List Key × V)} {xs : List (List Key × Addr × Value)} (r : KT H kvs xs) : (!xs.isEmpty) = !kvs.isEmpty := by
  cases r <;> rfl
theorem truW_ok : TruR X (fun x H Q => ∃ k, TruW X.K x H k ∧ Q k H) := by
  intro pins s σ H x v Q I rx h
  obtain ⟨k, e | ⟨p, kvs, rfl, hx, rfl⟩ | ⟨p, kvs, rfl, hx, rfl⟩, q⟩ := h
  · exact tru_ok pins s σ H x v Q I rx ⟨k, e, q⟩
  · cases rx
    obtain ⟨hz, hS, vs, r, m⟩ := (show ObjOk X.prog X.w H s.heap p (.dK kvs) from hx.ok I.hok)
    have hlen : kvs.length = vs.length := Paired.length r
    have hs : sizeLine = 16777216 := sizeLine_eq
    exact wpAny_truthy_dict hS m (by omega) ⟨H, I.tok _, by rw [isEmpty_kv r]; exact q⟩
  · cases rx
    obtain ⟨z, hd, ys, rel, dd⟩ := dt_rd I.hok hx
    have hl : kvs.length = ys.length := Paired.length rel
    have hs : sizeLine = 16777216 := sizeLine_eq
    exact wpAny_truthy_dictH hd dd (by omega) ⟨H, I.tok _, by rw [KT_empty rel]; exact q⟩
theorem pt_truW {ta : TE} (ha : PE X e ta) (he : ∀ whole, isTrue e X.env whole = (do let v ← whole; standAt e.pos; holding [v] (truthy v))) :
    PT X e (fun σ H Q => ta σ H fun x H' => ∃ k, TruW X.K x H' k ∧ Q k H') := by
  refine ⟨fun pins s σ H Q I h => ?_⟩
  exact isTrue_plain (thn (ha.run pins s σ H _ I h) fun v s1 ⟨x, H1, I1, r1, q1⟩ => truW_ok pins s1 σ H1 x v Q I1 r1 q1) (he _)
theorem tru_of {N : Kn} {F H : Hp} {d : D} {v : V} {k : Bool → Prop} (s : Sub F H) (r : Rp N F d v) (h : truD d k) : ∃ c, TruW N.K v H c ∧ k c := by
  cases d with
  | non => cases r; exact ⟨_, .inl rfl, h⟩
  | bl c => cases r; exact ⟨_, .inl rfl, h⟩
  | int i => cases r; exact ⟨_, .inl rfl, h⟩
  | str y => cases r; exact ⟨_, .inl ⟨h.1, rfl⟩, h.2⟩
  | tup ds =>
    obtain ⟨p, xs, rfl, h1, h2⟩ := r
    have hl := h2.length
    refine ⟨_, .inl (.inr (.inl ⟨xs, s.tup h1, rfl⟩)), ?_⟩
    have : xs.isEmpty = ds.isEmpty := by cases xs <;> cases ds <;> first | rfl | (simp at hl)
    rw [this]; exact h
  | lst ds =>
    obtain ⟨p, xs, rfl, h1, h2⟩ := r
    have hl := h2.length
    refine ⟨_, .inl (.inl ⟨xs, SqL.of (s.lst1 h1), rfl⟩), ?_⟩
    have : xs.isEmpty = ds.isEmpty := by cases xs <;> cases ds <;> first | rfl | (simp at hl)
    rw [this]; exact h
  | dct ks ds =>
    obtain ⟨p, kvs, rfl, h1, h2, h3⟩ := r
    refine ⟨_, .inr (.inl ⟨p, kvs, rfl, s.dK h1, rfl⟩), ?_⟩
    have : kvs.isEmpty = ks.isEmpty := by rw [← h2]; cases kvs <;> rfl
    rw [this]; exact h
  | dcT ks ds => exact h.elim
  | ty n => exact h.elim
  | glo x => exact h.elim
  | scr x => exact h.elim
  | exc _ _ _ _ _ => exact h.elim
  | ins C ns ds => exact h.elim
theorem tru_lift {N : Kn} {t : DW} {σV : L2.St} {H M : Hp} {ρ : List Addr} {σ : Sl} {st : Sto} {ex : DX} {k : Bool → Sto → Prop} {Q : Bool → Hp → Prop} (c : Kx N Wx M ρ σ st H σV ex) (ht : dTru t σ st k ex)
    (q : ∀ b st', k b st' → ∀ M' ρ' H', Ext M ρ H M' ρ' H' → Kx N Wx M' ρ' σ st' H' σV ex → Q b H') : lW N Wx t σV H (fun x H1 => ∃ k, TruW N.K x H1 k ∧ Q k H1) := by
  refine Lf.of c ht fun w st' hk v M' ρ' H' E c' r => ?_
  cases hz : seeW w st' with
  | none => simp only [hz] at hk
  | some d =>
    simp only [hz] at hk
    obtain ⟨b, h1, h2⟩ := tru_of (Fv.sub c'.rep.sub) ((see_ok c'.rep hz r).rp (Fv.same _ _ _)) hk
    exact ⟨b, h1, q _ _ h2 M' ρ' H' E c'⟩
theorem t_tru {t : DW} (ha : PE X e (lW (XN X b) Wx t)) (he : ∀ whole, isTrue e X.env whole = (do let v ← whole; standAt e.pos; holding [v] (truthy v)) := by intro _; rfl) : PT X e (lT (XN X b) Wx (dTru t)) := PT.imp (pt_truW ha he) fun σV H Q h => by
  obtain ⟨M, ρ, σ, st, k, ex, c, ht, q⟩ := Kx.open_ h
  exact tru_lift (N := XN X b) c ht fun b st' hb M' ρ' H' E c' => q _ _ hb b M' ρ' H' E c' rfl
theorem pe_notW {ta : TE} (ha : PE X e1 ta) : PE X (.UnaryOp .Not e1 pos) (fun σ H Q => ta σ H fun x H1 => ∃ k, TruW X.K x H1 k ∧ Q (.bl (!k)) H1) := by
  refine ⟨fun pins s σ H Q I h => ?_⟩
  refine UnaryOp_ (thn (ha.run pins s σ H _ I h) fun v s1 ⟨x, H1, I1, r1, q1⟩ => ?_)
  obtain ⟨k, e, q1⟩ := q1
  exact not_of (thn (truW_ok pins s1 σ H1 x v (fun c H2 => Q (.bl (!c)) H2) I1 r1 ⟨k, e, q1⟩) fun c s2 ⟨H2, I2, q2⟩ => ⟨.bl (!c), H2, I2, rfl, q2⟩)
theorem e_notW {t : DW} (ha : PE X e1 (lW (XN X b) Wx t)) : PE X (.UnaryOp .Not e1 pos) (lD (XN X b) Wx (dB (dNot (dTru t)))) := PE.imp (pe_notW ha) fun σV H Q h => by
  obtain ⟨M, ρ, σ, st, k, ex, c, ht, q⟩ := Kx.open_ h
  exact tru_lift (N := XN X b) c ht fun b st' hb M' ρ' H' E c' => q _ _ hb _ M' ρ' H' E c' rfl
variable {N : Kn}
theorem t_bo {t : DD} (h : PE X e (lD N Wx t)) (he : ∀ whole, isTrue e X.env whole = (do let v ← whole; standAt e.pos; holding [v] (truthy v)) := by intro _; rfl) : PT X e (lT N Wx (dBo t)) := PT.imp (t_val h he) fun σV H Q h => by
  obtain ⟨M, ρ, σ, st, k, ex, c, ht, q⟩ := Kx.open_ h
  refine Lf.of c ht fun d st' hk v M' ρ' H' E c' r => ?_
  cases d <;> try exact False.elim hk
  cases r
  exact q _ _ hk _ M' ρ' H' E c' rfl
theorem t_not {t : DT} (h : PT X e1 (lT N Wx t)) : PT X (.UnaryOp .Not e1 pos) (lT N Wx (dNot t)) := PT.imp (pt_not h) fun σV H Q h => by
  obtain ⟨M, ρ, σ, st, k, ex, c, ht, q⟩ := Kx.open_ h
  exact Lf.of c ht fun d st' hk v M' ρ' H' E c' r => q _ _ hk _ M' ρ' H' E c' (by rw [show v = d from r])
theorem w_and {t u : DT} {rest : List Expr} (ha : PT X e1 (lT N Wx t)) (hb : PW X (.BoolOp .And (e2 :: rest) pos) (lT N Wx u)) : PW X (.BoolOp .And (e1 :: e2 :: rest) pos) (lT N Wx (dAnd t u)) := PW.imp (Co.w_and ha hb) fun σV H Q h => by
  obtain ⟨M, ρ, σ, st, k, ex, c, ht, q⟩ := Kx.open_ h
  refine Lf.of c ht fun d st' hk v M' ρ' H' E c' r => ?_
  rw [show v = d from r]
  refine ⟨fun z => Lf.of c' (hk.1 z) fun d2 st2 hk2 v2 M2 ρ2 H2 E2 c2 r2 => q _ _ hk2 _ M2 ρ2 H2 (E.trans E2) c2 r2, fun z => q _ _ (hk.2 z) _ M' ρ' H' E c' rfl⟩
theorem w_or {t u : DT} {rest : List Expr} (ha : PT X e1 (lT N Wx t)) (hb : PW X (.BoolOp .Or (e2 :: rest) pos) (lT N Wx u)) : PW X (.BoolOp .Or (e1 :: e2 :: rest) pos) (lT N Wx (dOr t u)) := PW.imp (Co.w_or ha hb) fun σV H Q h => by
  obtain ⟨M, ρ, σ, st, k, ex, c, ht, q⟩ := Kx.open_ h
  refine Lf.of c ht fun d st' hk v M' ρ' H' E c' r => ?_
  rw [show v = d from r]
  refine ⟨fun z => q _ _ (hk.1 z) _ M' ρ' H' E c' rfl, fun z => Lf.of c' (hk.2 z) fun d2 st2 hk2 v2 M2 ρ2 H2 E2 c2 r2 => q _ _ hk2 _ M2 ρ2 H2 (E.trans E2) c2 r2⟩
theorem w_and1 {t : DT} (ha : PT X e1 (lT N Wx t)) : PW X (.BoolOp .And [e1] pos) (lT N Wx t) := pw_and1 ha
theorem w_or1 {t : DT} (ha : PT X e1 (lT N Wx t)) : PW X (.BoolOp .Or [e1] pos) (lT N Wx t) := pw_or1 ha
def dAndV (t u : DW) : DW := fun σ st k ex => t σ st (fun w st1 => match seeW w st1 with
  | some d => truD d fun b => two b (u σ st1 k ex) (k w st1)
  | none => False) ex
def dOrV (t u : DW) : DW := fun σ st k ex => t σ st (fun w st1 => match seeW w st1 with
  | some d => truD d fun b => two b (k w st1) (u σ st1 k ex)
  | none => False) ex
theorem pe_andW {ta tb : TE} {rest : List Expr} (ha : PE X e1 ta) (hb : PE X (.BoolOp .And (e2 :: rest) pos) tb) : PE X (.BoolOp .And (e1 :: e2 :: rest) pos) (fun σ H Q => ta σ H fun x H1 => ∃ k, TruW X.K x H1 k ∧ if k = true then tb σ H1 Q else Q x H1) := by
  refine ⟨fun pins s σ H Q I h => ?_⟩
  refine BoolOp_and (thn (ha.run pins s σ H _ I h) fun v s1 ⟨x, H1, I1, r1, q1⟩ => ?_)
  obtain ⟨k, e, q1⟩ := q1
  refine thn (truW_ok pins s1 σ H1 x v (fun c H2 => c = k ∧ H2 = H1) I1 r1 ⟨k, e, rfl, rfl⟩) fun c s2 hc => ?_
  obtain ⟨H2, I2, e1, e2⟩ := hc
  subst e1 e2
  cases c with
  | true => exact hb.run pins s2 σ H2 Q I2 q1
  | false => exact ⟨x, H2, I2, r1, q1⟩
theorem pe_orW {ta tb : TE} {rest : List Expr} (ha : PE X e1 ta) (hb : PE X (.BoolOp .Or (e2 :: rest) pos) tb) : PE X (.BoolOp .Or (e1 :: e2 :: rest) pos) (fun σ H Q => ta σ H fun x H1 => ∃ k, TruW X.K x H1 k ∧ if k = true then Q x H1 else tb σ H1 Q) := by
  refine ⟨fun pins s σ H Q I h => ?_⟩
  refine BoolOp_or (thn (ha.run pins s σ H _ I h) fun v s1 ⟨x, H1, I1, r1, q1⟩ => ?_)
  obtain ⟨k, e, q1⟩ := q1
  refine thn (truW_ok pins s1 σ H1 x v (fun c H2 => c = k ∧ H2 = H1) I1 r1 ⟨k, e, rfl, rfl⟩) fun c s2 hc => ?_
  obtain ⟨H2, I2, e1, e2⟩ := hc
  subst e1 e2
  cases c with
  | true => exact ⟨x, H2, I2, r1, q1⟩
  | false => exact hb.run pins s2 σ H2 Q I2 q1
theorem e_andV {t u : DW} {rest : List Expr} (ha : PE X e1 (lW (XN X b) Wx t)) (hb : PE X (.BoolOp .And (e2 :: rest) pos) (lW (XN X b) Wx u)) : PE X (.BoolOp .And (e1 :: e2 :: rest) pos) (lW (XN X b) Wx (dAndV t u)) := PE.imp (pe_andW ha hb) fun σV H Q h => by
  obtain ⟨M, ρ, σ, st, k, ex, c, ht, q⟩ := Kx.open_ h
  refine Lf.of c ht fun w st' hk v M' ρ' H' E c' r => ?_
  cases hz : seeW w st' with
  | none => simp only [hz] at hk
  | some d =>
    simp only [hz] at hk
    obtain ⟨b, h1, h2⟩ := tru_of (Fv.sub c'.rep.sub) ((see_ok c'.rep hz r).rp (Fv.same _ _ _)) hk
    refine ⟨b, h1, ?_⟩
    rw [two_eq]
    exact ⟨fun z => Lf.of c' (h2.1 z) fun d2 st2 hk2 v2 M2 ρ2 H2 E2 c2 r2 => q _ _ hk2 _ M2 ρ2 H2 (E.trans E2) c2 r2, fun z => q _ _ (h2.2 z) _ M' ρ' H' E c' r⟩
theorem e_orV {t u : DW} {rest : List Expr} (ha : PE X e1 (lW (XN X b) Wx t)) (hb : PE X (.BoolOp .Or (e2 :: rest) pos) (lW (XN X b) Wx u)) : PE X (.BoolOp .Or (e1 :: e2 :: rest) pos) (lW (XN X b) Wx (dOrV t u)) := PE.imp (pe_orW ha hb) fun σV H Q h => by
  obtain ⟨M, ρ, σ, st, k, ex, c, ht, q⟩ := Kx.open_ h
  refine Lf.of c ht fun w st' hk v M' ρ' H' E c' r => ?_
  cases hz : seeW w st' with
  | none => simp only [hz] at hk
  | some d =>
    simp only [hz] at hk
    obtain ⟨b, h1, h2⟩ := tru_of (Fv.sub c'.rep.sub) ((see_ok c'.rep hz r).rp (Fv.same _ _ _)) hk
    refine ⟨b, h1, ?_⟩
    rw [two_eq]
    exact ⟨fun z => q _ _ (h2.1 z) _ M' ρ' H' E c' r, fun z => Lf.of c' (h2.2 z) fun d2 st2 hk2 v2 M2 ρ2 H2 E2 c2 r2 => q _ _ hk2 _ M2 ρ2 H2 (E.trans E2) c2 r2⟩
theorem e_and1 {t : TE} (h : PE X e t) : PE X (.BoolOp .And [e] pos) t := pe_one h
theorem e_or1 {t : TE} (h : PE X e t) : PE X (.BoolOp .Or [e] pos) t := pe_one h
theorem e_ifW {c : DT} {t u : DW} (hc : PT X e1 (lT N Wx c)) (ha : PE X e2 (lW N Wx t)) (hb : PE X e3 (lW N Wx u)) : PE X (.IfExp e1 e2 e3 pos) (lW N Wx (dIfE c t u)) := PE.imp (e_if hc ha hb) fun σV H Q h => by
  obtain ⟨M, ρ, σ, st, k, ex, c, ht, q⟩ := Kx.open_ h
  refine Lf.of c ht fun d st' hk v M' ρ' H' E c' r => ?_
  rw [show v = d from r]
  exact ⟨fun z => Lf.of c' (hk.1 z) fun d2 st2 hk2 v2 M2 ρ2 H2 E2 c2 r2 => q _ _ hk2 _ M2 ρ2 H2 (E.trans E2) c2 r2, fun z => Lf.of c' (hk.2 z) fun d2 st2 hk2 v2 M2 ρ2 H2 E2 c2 r2 => q _ _ hk2 _ M2 ρ2 H2 (E.trans E2) c2 r2⟩
theorem isN_lift {t : DW} {σV : L2.St} {H M : Hp} {ρ : List Addr} {σ : Sl} {st : Sto} {ex : DX} {k : Bool → Sto → Prop} {Q : Bool → Hp → Prop} (c : Kx N Wx M ρ σ st H σV ex) (ht : dIsN t σ st k ex)
    (q : ∀ b st', k b st' → ∀ M' ρ' H', Ext M ρ H M' ρ' H' → Kx N Wx M' ρ' σ st' H' σV ex → Q b H') : lW N Wx t σV H (fun x H1 => Q (decide (x = V.non)) H1) := by
  refine Lf.of c ht fun w st' hk v M' ρ' H' E c' r => ?_
  have go : ∀ bb, k bb st' → decide (v = V.non) = bb → Q (decide (v = V.non)) H' := fun bb h1 h2 => by rw [h2]; exact q _ _ h1 M' ρ' H' E c'
  cases w with
  | dead => exact False.elim hk
  | loc n => obtain ⟨a, _, rfl⟩ := r; exact go false hk (by simp)
  | im d =>
    cases d with
    | non => cases r; exact go true hk (by simp)
    | bl _ => cases r; exact go false hk (by simp)
    | int _ => cases r; exact go false hk (by simp)
    | str _ => cases r; exact go false hk (by simp)
    | ty _ => cases r; exact go false hk (by simp)
    | glo _ => cases r; exact go false hk (by simp)
    | scr _ => obtain ⟨p, rfl, _⟩ := r; exact go false hk (by simp)
    | exc _ _ _ _ _ => obtain ⟨rfl, _⟩ := r; exact go false hk (by simp)
    | tup _ => obtain ⟨p, _, rfl, _⟩ := r; exact go false hk (by simp)
    | lst _ => obtain ⟨p, _, rfl, _⟩ := r; exact go false hk (by simp)
    | dct _ _ => obtain ⟨p, _, rfl, _⟩ := r; exact go false hk (by simp)
    | dcT _ _ => obtain ⟨p, _, rfl, _⟩ := r; exact go false hk (by simp)
    | ins _ _ _ => obtain ⟨p, _, _, rfl, _⟩ := r; exact go false hk (by simp)
theorem e_isND {j : Nat} {pos' : Pos} {t : DW} (ha : PE X e1 (lW N Wx t)) : PE X (.Compare e1 [.Is] [.Constant .none j pos'] pos) (lD N Wx (dB (dIsN t))) := PE.imp (pe_cmp (pc_isN ha)) fun σV H Q h => by
  obtain ⟨M, ρ, σ, st, k, ex, c, ht, q⟩ := Kx.open_ h
  exact isN_lift (Q := fun b H1 => Q (.bl b) H1) c ht fun b st' hb M' ρ' H' E c' => q _ _ hb _ M' ρ' H' E c' rfl
theorem e_notND {j : Nat} {pos' : Pos} {t : DW} (ha : PE X e1 (lW N Wx t)) : PE X (.Compare e1 [.IsNot] [.Constant .none j pos'] pos) (lD N Wx (dB (dNot (dIsN t)))) := PE.imp (pe_cmp (pc_notN ha)) fun σV H Q h => by
  obtain ⟨M, ρ, σ, st, k, ex, c, ht, q⟩ := Kx.open_ h
  exact isN_lift (k := fun b st1 => k (.bl (!b)) st1) (Q := fun b H1 => Q (.bl (!b)) H1) c ht fun b st' hb M' ρ' H' E c' => q _ _ hb _ M' ρ' H' E c' rfl
theorem t_isND {j : Nat} {pos' : Pos} {t : DW} (ha : PE X e1 (lW N Wx t)) : PT X (.Compare e1 [.Is] [.Constant .none j pos'] pos) (lT N Wx (dIsN t)) := PT.imp (pt_cmp (pc_isN ha)) fun σV H Q h => by
  obtain ⟨M, ρ, σ, st, k, ex, c, ht, q⟩ := Kx.open_ h
  exact isN_lift (Q := fun b H1 => ∃ c, V.bl b = .bl c ∧ Q c H1) c ht fun b st' hb M' ρ' H' E c' => ⟨b, rfl, q _ _ hb _ M' ρ' H' E c' rfl⟩
theorem t_notND {j : Nat} {pos' : Pos} {t : DW} (ha : PE X e1 (lW N Wx t)) : PT X (.Compare e1 [.IsNot] [.Constant .none j pos'] pos) (lT N Wx (dNot (dIsN t))) := PT.imp (pt_cmp (pc_notN ha)) fun σV H Q h => by
  obtain ⟨M, ρ, σ, st, k, ex, c, ht, q⟩ := Kx.open_ h
  exact isN_lift (k := fun b st1 => k (!b) st1) (Q := fun b H1 => ∃ c, V.bl (!b) = .bl c ∧ Q c H1) c ht fun b st' hb M' ρ' H' E c' => ⟨!b, rfl, q _ _ hb _ M' ρ' H' E c' rfl⟩
theorem a_nil : PA X [] (lA N Wx aNil) := ⟨fun pos pins s σ H Q I h => pa_nil.run pos pins s σ H Q I (by
  obtain ⟨M, ρ, σ, st, k, ex, c, ht, q⟩ := Kx.open_ h
  exact q _ _ ht _ M ρ H Ext.refl c rfl)⟩
theorem PA.imp {es : List Expr} {t t' : TA} (h : PA X es t) (i : ∀ σ H Q, t' σ H Q → t σ H Q) : PA X es t' := ⟨fun pos pins s σ H Q I q => h.run pos pins s σ H Q I (i σ H Q q)⟩
theorem a_cons {es : List Expr} {t : DW} {r : DA} (ha : PE X e (lW N Wx t)) (hr : PA X es (lA N Wx r)) (hs : starEach (e :: es) X.env = (false, eval e X.env) :: starEach es X.env := by rfl) : PA X (e :: es) (lA N Wx (aCons t r)) := PA.imp (pa_cons ha hr hs) fun σV H Q h => by
  obtain ⟨M, ρ, σ, st, k, ex, c, ht, q⟩ := Kx.open_ h
  exact Lf.bin c ht fun w ws st' hk v vs M' ρ' H' E c' r1 r2 => q _ _ hk _ M' ρ' H' E c' ⟨v, vs, rfl, r1, r2⟩
theorem ad_nil : PA X [] (lAD N Wx adNil) := ⟨fun pos pins s σ H Q I h => pa_nil.run pos pins s σ H Q I (by
  obtain ⟨M, ρ, σ, st, k, ex, c, ht, q⟩ := Kx.open_ h
  exact q _ _ ht _ M ρ H Ext.refl c rfl)⟩
theorem ad_cons {es : List Expr} {t : DD} {r : DAD} (ha : PE X e (lD N Wx t)) (hr : PA X es (lAD N Wx r)) (hs : starEach (e :: es) X.env = (false, eval e X.env) :: starEach es X.env := by rfl) : PA X (e :: es) (lAD N Wx (adCons t r)) := PA.imp (pa_cons ha hr hs) fun σV H Q h => by
  obtain ⟨M, ρ, σ, st, k, ex, c, ht, q⟩ := Kx.open_ h
  exact Lf.bin c ht fun w ws st' hk v vs M' ρ' H' E c' r1 r2 => q _ _ hk _ M' ρ' H' E c' ⟨v, vs, rfl, r1, r2⟩
theorem e_tup {es : List Expr} {kk : Nat} {t : DAD} (ha : PA X es (lAD N Wx t)) : PE X (.Tuple es kk pos) (lD N Wx (dTup t)) := PE.imp (pe_tup ha) fun σV H Q h => by
  obtain ⟨M, ρ, σ, st, k, ex, c, ht, q⟩ := Kx.open_ h
  refine Lf.of c ht fun ds st' hk vs M' ρ' H' E c' r => ⟨lenL6 (by rw [Rps.length r]; exact hk.1), fun p hp => ?_⟩
  obtain ⟨E2, c2⟩ := c'.new (o := .tup vs) hp
  exact q _ _ hk.2 _ _ ρ' _ (E.trans E2) c2 ⟨p, vs, rfl, .inl upd_same, Rps.ext r E2⟩
theorem e_lst {es : List Expr} {t : DAD} (ha : PA X es (lAD N Wx t)) : PE X (.List es pos) (lD N Wx (dLst t)) := PE.imp (pe_lst ha) fun σV H Q h => by
  obtain ⟨M, ρ, σ, st, k, ex, c, ht, q⟩ := Kx.open_ h
  refine Lf.of c ht fun ds st' hk vs M' ρ' H' E c' r => ⟨lenL6 (by rw [Rps.length r]; exact hk.1), fun p hp => ?_⟩
  obtain ⟨E2, c2⟩ := c'.new (o := .lst vs) hp
  exact q _ _ hk.2 _ _ ρ' _ (E.trans E2) c2 ⟨p, vs, rfl, upd_same, Rps.ext r E2⟩
theorem Rep.last {M H : Hp} {ρ : List Addr} {st : Sto} (r : Rep N M ρ st H) (p : Addr) : (ρ ++ [p])[st.length]? = some p := by rw [← r.len]; simp
theorem e_lstM {es : List Expr} {t : DAD} (ha : PA X es (lAD N Wx t)) : PE X (.List es pos) (lW N Wx (dLstM t)) := PE.imp (pe_lst ha) fun σV H Q h => by
  obtain ⟨M, ρ, σ, st, k, ex, c, ht, q⟩ := Kx.open_ h
  refine Lf.of c ht fun ds st' hk vs M' ρ' H' E c' r => ⟨lenL6 (by rw [Rps.length r]; exact hk.1), fun p hp => ?_⟩
  obtain ⟨E2, c2⟩ := c'.loc (u := .lst vs) (o := .lst ds) hp ⟨c'.rep.non hp, vs, upd_same, r⟩
  exact q _ _ hk.2 _ _ _ _ (E.trans E2) c2 ⟨p, c'.rep.last p, rfl⟩
end
end Dl
end

section
set_option maxHeartbeats 4000000
namespace Dl
open PySem PySem.Spec PyProof.Rows L2 Co
def atD (x i : D) (k : D → Prop) : Prop := match x, i with
  | .tup ds, .int j => (match atI ds j with
    | some d => k d
    | none => False)
  | .lst ds, .int j => (match atI ds j with
    | some d => k d
    | none => False)
  | .str z, .int j => z.length ≤ sizeLine ∧ (match atI z.cps.toList j with
    | some c => k (.str ⟨#[c]⟩)
    | none => False)
  | _, _ => False
def dIx (ta : DW) (ti : DD) : DD := fun σ st k ex => ta σ st (fun w st1 => ti σ st1 (fun i st2 => match seeW w st2 with
  | some x => atD x i fun d => k d st2
  | none => False) ex) ex
def getK {κ : Type} [DecidableEq κ] : List κ → List D → κ → Option D
  | a :: ks, d :: ds, q => if a = q then some d else getK ks ds q
  | _, _, _ => none
def keyD : D → Option Key
  | .int i => some (.inl i)
  | .str x => some (.inr x)
  | _ => none
def keysD : List D → Option (List Key)
  | [] => some []
  | d :: ds => match keyD d, keysD ds with
    | some q, some qs => some (q :: qs)
    | _, _ => none
def getD_ (T : Bool) (x i : D) (k : Option D → Prop) : Prop := match x with
  | .dct ks ds => (match keyD i with
    | some q => k (getK ks ds q)
    | none => False)
  | .dcT ks ds => (match i with
    | .tup es => (match keysD es with
      | some q => T = true ∧ k (getK ks ds q)
      | none => False)
    | _ => False)
  | _ => False
def dGet (T : Bool) (ta : DW) (ti : DD) : DD := fun σ st k ex => ta σ st (fun w st1 => ti σ st1 (fun i st2 => match seeW w st2 with
  | some x => getD_ T x i fun o => match o with
    | some d => k d st2
    | none => False
  | none => False) ex) ex
def isDD : Option D → Prop
  | some (.dct _ _) => True
  | some (.dcT _ _) => True
  | _ => False
def dGet2 (T : Bool) (ta : DW) (ti tz : DD) : DD := fun σ st k ex => ta σ st (fun w st1 => isDD (seeW w st1) ∧ ti σ st1 (fun i st2 => tz σ st2 (fun z st3 => match seeW w st3 with
  | some x => getD_ T x i fun o => k (o.getD z) st3
  | none => False) ex) ex) ex
def dGet1 (T : Bool) (ta : DW) (ti : DD) : DD := fun σ st k ex => ta σ st (fun w st1 => isDD (seeW w st1) ∧ ti σ st1 (fun i st2 => match seeW w st2 with
  | some x => getD_ T x i fun o => k (o.getD .non) st2
  | none => False) ex) ex
def dIn (T : Bool) (ti : DD) (ta : DW) : DT := fun σ st k ex => ti σ st (fun i st1 => ta σ st1 (fun w st2 => match seeW w st2 with
  | some x => getD_ T x i fun o => k o.isSome st2
  | none => False) ex) ex
def seeWs : List W → Sto → Option (List D)
  | [], _ => some []
  | w :: r, st => match seeW w st, seeWs r st with
    | some d, some ds => some (d :: ds)
    | _, _ => none
abbrev FL := List D → (D → Prop) → Prop
def dCB (f : FL) (ta : DA) : DD := fun σ st k ex => ta σ st (fun ws st1 => match seeWs ws st1 with
  | some ds => f ds fun d => k d st1
  | none => False) ex
def isTy (T : String) : Option D → Prop
  | some (.str _) => T = "str"
  | some (.lst _) => T = "list"
  | some (.dct _ _) => T = "dict"
  | some (.dcT _ _) => T = "dict"
  | _ => False
def dBM (T : String) (f : D → FL) (to : DW) (ta : DA) : DD := fun σ st k ex => to σ st (fun w st1 => isTy T (seeW w st1) ∧ ta σ st1 (fun ws st2 => match seeW w st2, seeWs ws st2 with
  | some x, some ds => f x ds fun d => k d st2
  | _, _ => False) ex) ex
def lenD (x : D) (k : D → Prop) : Prop := match x with
  | .str z => z.length ≤ sizeLine ∧ k (.int z.length)
  | .tup ds => k (.int ds.length)
  | .lst ds => k (.int ds.length)
  | .dct ks _ => k (.int ks.length)
  | .dcT ks _ => k (.int ks.length)
  | _ => False
def fLen : FL := fun xs k => match xs with
  | [x] => lenD x k
  | _ => False
abbrev DO := Lv (Option Int)
def dNoPart : DO := fun _ st k _ => k none st
def dPart (t : DD) : DO := fun σ st k ex => t σ st (fun x st1 => match x with
  | .int i => k (some i) st1
  | _ => False) ex
def cutD (ds : List D) (lo hi : Option Int) : List D := (ds.drop (HT.sIx ds.length 0 lo)).take (HT.sIx ds.length ds.length hi - HT.sIx ds.length 0 lo)
def sliceD (x : D) (lo hi : Option Int) (k : D → Prop) : Prop := match x with
  | .str z => z.length ≤ sizeLine ∧ k (.str (cutS z lo hi))
  | .tup ds => k (.tup (cutD ds lo hi))
  | .lst ds => k (.lst (cutD ds lo hi))
  | _ => False
def dSl (ta : DW) (tl th : DO) : DD := fun σ st k ex => ta σ st (fun w st1 => tl σ st1 (fun l st2 => th σ st2 (fun h st3 => match seeW w st3 with
  | some x => sliceD x l h fun d => k d st3
  | none => False) ex) ex) ex
def fldD (C f : Str) (w : W) (st : Sto) (k : W → Prop) : Prop := match w with
  | .im (.ins C' ns ds) => C' = C ∧ (match getK ns ds f with
    | some d => k (.im d)
    | none => False)
  | .loc n => (match st[n]? with
    | some (.ins C' fs) => C' = C ∧ (match fs.lookup f with
      | some w' => k w'
      | none => False)
    | some (.fz (.ins C' ns ds)) => C' = C ∧ (match getK ns ds f with
      | some d => k (.im d)
      | none => False)
    | _ => False)
  | _ => False
def dFld (C f : Str) (ta : DW) : DW := fun σ st k ex => ta σ st (fun w st1 => fldD C f w st1 fun w' => k w' st1) ex
section
variable {X : Cx} {b : Bool} {Wx : WX} {e e1 e2 e3 : Expr} {pos : Pos} {N : Kn}
theorem atI_rps {M : Hp} {ds : List D} {vs : List V} {j : Int} {d : D} (h : Rps N M ds vs) (e : atI ds j = some d) : ∃ v, atI vs j = some v ∧ Rp N M d v := by
  unfold atI at e ⊢
  rw [h.length]
  cases z : ixN ds.length j with
  | none => rw [z] at e; cases e
  | some n =>
    rw [z] at e
    exact h.get e
theorem e_ix {ta : DW} {ti : DD} (ha : PE X e1 (lW (XN X b) Wx ta)) (hi : PE X e2 (lD (XN X b) Wx ti)) (hs : PlainIx e2 := by exact fun _ _ => rfl) : PE X (.Subscript e1 e2 pos) (lD (XN X b) Wx (dIx ta ti)) := PE.imp (pe_ix ix_seq ha hi hs) fun σV H Q h => by
  obtain ⟨M, ρ, σ, st, k, ex, c, ht, q⟩ := Kx.open_ h
  refine Lf.bin c ht fun w i st' hk u v M' ρ' H' E c' r1 r2 => ?_
  cases hz : seeW w st' with
  | none => simp only [hz] at hk
  | some x =>
    simp only [hz] at hk
    have r := see_ok c'.rep hz r1
    have s := Fv.sub (ρ := ρ') c'.rep.sub
    cases x <;> cases i <;> try exact False.elim hk
    · rename_i z j
      cases r; cases r2
      obtain ⟨h1, h2⟩ := hk
      refine .inr (.inr ?_)
      cases hj : atI z.cps.toList j with
      | none => rw [hj] at h2; exact False.elim h2
      | some cc =>
        rw [hj] at h2
        exact ⟨z, j, cc, rfl, rfl, h1, hj, q _ _ h2 _ M' ρ' H' E c' rfl⟩
    · rename_i ds j
      obtain ⟨p, xs, rfl, h1, h2⟩ := (show Rp (XN X b) M' (.tup ds) u from r)
      cases r2
      refine .inr (.inl ?_)
      cases hj : atI ds j with
      | none => simp only [atD, hj] at hk
      | some d =>
        simp only [atD, hj] at hk
        obtain ⟨v, h3, h4⟩ := atI_rps h2 hj
        exact ⟨p, xs, j, v, rfl, rfl, c'.rep.sub.tup h1, h3, q _ _ hk _ M' ρ' H' E c' h4⟩
    · rename_i ds j
      obtain ⟨p, xs, rfl, h1, h2⟩ := r
      cases r2
      refine .inl ?_
      cases hj : atI ds j with
      | none => simp only [atD, hj] at hk
      | some d =>
        simp only [atD, hj] at hk
        obtain ⟨v, h3, h4⟩ := atI_rps h2 hj
        exact ⟨p, xs, j, v, rfl, rfl, SqL.of (s.lst1 h1), h3, q _ _ hk _ M' ρ' H' E c' h4⟩
theorem getK_val {κ : Type} [DecidableEq κ] {M : Hp} : ∀ {kvs : List (κ × V)} {ds : List D}, Rps N M ds (kvs.map (·.2)) → ∀ q, match getK (kvs.map (·.1)) ds q with
    | some d => ∃ v, valV kvs q = some v ∧ Rp N M d v
    | none => valV kvs q = none
  | [], ds, h, q => by
    have : ds = [] := List.eq_nil_of_length_eq_zero (by have := h.length; simpa using this.symm)
    subst this
    rfl
  | (a, v) :: kvs, [], h, q => by have := h.length; simp at this
  | (a, v) :: kvs, d :: ds, ⟨x, r, h1, h2, h3⟩, q => by
    cases h1
    by_cases z : a = q
    · simp only [List.map_cons, getK, if_pos z]
      exact ⟨v, valV_pos z, h2⟩
    · simp only [List.map_cons, getK, if_neg z]
      have := getK_val h3 q
      rw [valV_neg (show ¬ ((a, v) : κ × V).1 = q from z)]
      exact this
theorem keyD_rp {M : Hp} {i : D} {q : Key} {v : V} (e : keyD i = some q) (h : Rp N M i v) : v = kV q := by
  cases i <;> simp only [keyD, Option.some.injEq, reduceCtorEq] at e <;> subst e <;> exact h
theorem keysD_rp {M : Hp} : ∀ {is : List D} {qs : List Key} {vs : List V}, keysD is = some qs → Rps N M is vs → vs = qs.map kV
  | [], qs, vs, e, h => by cases e; exact h
  | d :: ds, qs, vs, e, ⟨x, r, h1, h2, h3⟩ => by
    cases h4 : keyD d with
    | none => simp only [keysD, h4] at e; cases e
    | some q =>
      cases h5 : keysD ds with
      | none => simp only [keysD, h4, h5] at e; cases e
      | some qs' =>
        simp only [keysD, h4, h5, Option.some.injEq] at e
        subst e h1
        rw [keyD_rp h4 h2, keysD_rp h5 h3]
        rfl
theorem get_ok {T : Bool} {M F H : Hp} {x i : D} {u y : V} {ko : Option D → Prop} (s : Sub F H) (sM : Sub M H) (hT : T = true → N.b = false) (h1 : RpC N M F x u) (h2 : Rp N M i y) (h : getD_ T x i ko) :
    ∃ a o, u = .ref a ∧ IsD H a ∧ (∃ ov, DGet H a y ov ∧ ko o ∧ match o with
      | some d => ∃ v, ov = some v ∧ Rp N M d v
      | none => ov = none) := by
  cases x <;> try exact False.elim h
  · rename_i ks ds
    obtain ⟨p, kvs, rfl, h3, h4, h5⟩ := h1
    subst h4
    cases hq : keyD i with
    | none => simp only [getD_, hq] at h
    | some q =>
      simp only [getD_, hq] at h
      have e := keyD_rp hq h2
      have r := s.dK h3
      have g := getK_val h5 q
      exact ⟨p, _, rfl, .inl ⟨kvs, r⟩, _, .inl ⟨kvs, q, r, e, rfl⟩, h, by
        cases z : getK (kvs.map (·.1)) ds q with
        | none => rw [z] at g; exact g
        | some d => rw [z] at g; obtain ⟨v, g1, g2⟩ := g; exact ⟨v, g1, g2⟩⟩
  · rename_i ks ds
    obtain ⟨p, kvs, rfl, h3, h4, h5⟩ := h1
    subst h4
    cases i <;> try exact False.elim h
    rename_i es
    cases hq : keysD es with
    | none => simp only [getD_, hq] at h
    | some q =>
      simp only [getD_, hq] at h
      obtain ⟨hT', h⟩ := h
      obtain ⟨t, xs, rfl, g1, g2⟩ := h2
      have e := keysD_rp hq g2
      subst e
      have g1 : M t = some (.tup (q.map kV)) := g1.elim (fun z => z) fun z => by
        have := hT hT'
        rw [this] at z
        cases z.1
      have r := s.dT h3
      have g := getK_val h5 q
      exact ⟨p, _, rfl, .inr ⟨kvs, r⟩, _, .inr ⟨kvs, q, t, r, rfl, sM.tup1 g1, rfl⟩, h, by
        cases z : getK (kvs.map (·.1)) ds q with
        | none => rw [z] at g; exact g
        | some d => rw [z] at g; obtain ⟨v, g1, g2⟩ := g; exact ⟨v, g1, g2⟩⟩
theorem e_get {T : Bool} {ta : DW} {ti : DD} (hu : X.A.units + 1 < cLine) (hT : T = true → N.b = false) (ha : PE X e1 (lW N Wx ta)) (hi : PE X e2 (lD N Wx ti)) (hs : NoSl e2 := by exact fun _ _ => rfl) : PE X (.Subscript e1 e2 pos) (lD N Wx (dGet T ta ti)) := PE.imp (pe_dget hu ha hi hs) fun σV H Q h => by
  obtain ⟨M, ρ, σ, st, k, ex, c, ht, q⟩ := Kx.open_ h
  refine Lf.bin c ht fun w i st' hk u v M' ρ' H' E c' r1 r2 => ?_
  cases hz : seeW w st' with
  | none => simp only [hz] at hk
  | some x =>
    simp only [hz] at hk
    obtain ⟨a, o, rfl, _, ov, g1, g2, g3⟩ := get_ok (Fv.sub (ρ := ρ') c'.rep.sub) c'.rep.sub hT (see_ok c'.rep hz r1) r2 hk
    cases o with
    | none => exact False.elim g2
    | some d =>
      obtain ⟨v', rfl, g4⟩ := g3
      exact ⟨a, v', rfl, g1, q _ _ g2 _ M' ρ' H' E c' g4⟩
theorem in_lift {T : Bool} {ta : DW} {ti : DD} {σV : L2.St} {H M : Hp} {ρ : List Addr} {σ : Sl} {st : Sto} {ex : DX} {k : Bool → Sto → Prop} {Q : Bool → Hp → Prop} (hT : T = true → N.b = false) (c : Kx N Wx M ρ σ st H σV ex) (ht : dIn T ti ta σ st k ex)
    (q : ∀ b st', k b st' → ∀ M' ρ' H', Ext M ρ H M' ρ' H' → Kx N Wx M' ρ' σ st' H' σV ex → Q b H') :
    lD N Wx ti σV H (fun y H1 => lW N Wx ta σV H1 (fun x H2 => ∃ a o, x = .ref a ∧ DGet H2 a y o ∧ Q o.isSome H2)) := by
  refine Lf.bin c ht fun i w st' hk u v M' ρ' H' E c' r1 r2 => ?_
  cases hz : seeW w st' with
  | none => simp only [hz] at hk
  | some x =>
    simp only [hz] at hk
    obtain ⟨a, o, rfl, _, ov, g1, g2, g3⟩ := get_ok (Fv.sub (ρ := ρ') c'.rep.sub) c'.rep.sub hT (see_ok c'.rep hz r2) r1 hk
    refine ⟨a, ov, rfl, g1, ?_⟩
    have : ov.isSome = o.isSome := by
      cases o with
      | none => rw [g3]; rfl
      | some d => obtain ⟨_, rfl, _⟩ := g3; rfl
    rw [this]
    exact q _ _ g2 M' ρ' H' E c'
theorem e_din {T : Bool} {ta : DW} {ti : DD} (hu : X.A.units + 1 < cLine) (hT : T = true → N.b = false) (hi : PE X e1 (lD N Wx ti)) (ha : PE X e2 (lW N Wx ta)) (hm : behindInMarks .In e2 = false := by first | exact nobehind _ (by decide) (by decide) | rfl) : PE X (.Compare e1 [.In] [e2] pos) (lD N Wx (dB (dIn T ti ta))) := PE.imp (pe_cmp (pc_din hu hi ha) hm) fun σV H Q h => by
  obtain ⟨M, ρ, σ, st, k, ex, c, ht, q⟩ := Kx.open_ h
  exact in_lift (Q := fun b H1 => Q (.bl b) H1) hT c ht fun b st' hb M' ρ' H' E c' => q _ _ hb _ M' ρ' H' E c' rfl
theorem e_dnotin {T : Bool} {ta : DW} {ti : DD} (hu : X.A.units + 1 < cLine) (hT : T = true → N.b = false) (hi : PE X e1 (lD N Wx ti)) (ha : PE X e2 (lW N Wx ta)) (hm : behindInMarks .NotIn e2 = false := by first | exact nobehind _ (by decide) (by decide) | rfl) : PE X (.Compare e1 [.NotIn] [e2] pos) (lD N Wx (dB (dNot (dIn T ti ta)))) := PE.imp (pe_cmp (pc_dnotin hu hi ha) hm) fun σV H Q h => by
  obtain ⟨M, ρ, σ, st, k, ex, c, ht, q⟩ := Kx.open_ h
  exact in_lift (k := fun b st1 => k (.bl (!b)) st1) (Q := fun b H1 => Q (.bl (!b)) H1) hT c ht fun b st' hb M' ρ' H' E c' => q _ _ hb _ M' ρ' H' E c' rfl
theorem t_din {T : Bool} {ta : DW} {ti : DD} (hu : X.A.units + 1 < cLine) (hT : T = true → N.b = false) (hi : PE X e1 (lD N Wx ti)) (ha : PE X e2 (lW N Wx ta)) (hm : behindInMarks .In e2 = false := by first | exact nobehind _ (by decide) (by decide) | rfl) : PT X (.Compare e1 [.In] [e2] pos) (lT N Wx (dIn T ti ta)) := PT.imp (pt_cmp (pc_din hu hi ha) hm) fun σV H Q h => by
  obtain ⟨M, ρ, σ, st, k, ex, c, ht, q⟩ := Kx.open_ h
  have z := in_lift (Q := fun b H1 => ∃ c, V.bl b = .bl c ∧ Q c H1) hT c ht fun b st' hb M' ρ' H' E c' => ⟨b, rfl, q _ _ hb _ M' ρ' H' E c' rfl⟩
  exact z
theorem t_dnotin {T : Bool} {ta : DW} {ti : DD} (hu : X.A.units + 1 < cLine) (hT : T = true → N.b = false) (hi : PE X e1 (lD N Wx ti)) (ha : PE X e2 (lW N Wx ta)) (hm : behindInMarks .NotIn e2 = false := by first | exact nobehind _ (by decide) (by decide) | rfl) : PT X (.Compare e1 [.NotIn] [e2] pos) (lT N Wx (dNot (dIn T ti ta))) := PT.imp (pt_cmp (pc_dnotin hu hi ha) hm) fun σV H Q h => by
  obtain ⟨M, ρ, σ, st, k, ex, c, ht, q⟩ := Kx.open_ h
  have z := in_lift (k := fun b st1 => k (!b) st1) (Q := fun b H1 => ∃ c, V.bl (!b) = .bl c ∧ Q c H1) hT c ht fun b st' hb M' ρ' H' E c' => ⟨!b, rfl, q _ _ hb _ M' ρ' H' E c' rfl⟩
  exact z
theorem isDD_ok {M H : Hp} {ρ : List Addr} {σ : Sl} {st : Sto} {σV : L2.St} {ex : DX} {w : W} {u : V} (c : Kx N Wx M ρ σ st H σV ex) (h : isDD (seeW w st)) (r : Rw N M ρ w u) : ∃ a, u = .ref a ∧ IsD H a := by
  cases hz : seeW w st with
  | none => rw [hz] at h; exact False.elim h
  | some x =>
    rw [hz] at h
    have g := see_ok c.rep hz r
    have s := Fv.sub (ρ := ρ) c.rep.sub
    cases x <;> try exact False.elim h
    · obtain ⟨p, kvs, rfl, h3, _⟩ := g; exact ⟨p, rfl, .inl ⟨kvs, s.dK h3⟩⟩
    · obtain ⟨p, kvs, rfl, h3, _⟩ := g; exact ⟨p, rfl, .inr ⟨kvs, s.dT h3⟩⟩
theorem e_get1 {T : Bool} {apos : Pos} {ta : DW} {ti : DD} (hu : X.A.units + 1 < cLine) (hT : T = true → N.b = false) (ha : PE X e1 (lW N Wx ta)) (hi : PE X e2 (lD N Wx ti)) (m : M1 X e1 "get" apos e2 pos := by exact ⟨rfl, rfl, rfl, rfl⟩) : PE X (.Call (.Attribute e1 "get" apos) [e2] [] pos) (lD N Wx (dGet1 T ta ti)) := PE.imp (pe_dget1 hu ha hi m) fun σV H Q h => by
  obtain ⟨M, ρ, σ, st, k, ex, c, ht, q⟩ := Kx.open_ h
  refine Lf.of c ht fun w st1 hk u M1 ρ1 H1 E1 c1 r1 => ?_
  obtain ⟨a, rfl, hd⟩ := isDD_ok c1 hk.1 r1
  refine ⟨a, rfl, hd, Lf.of c1 hk.2 fun i st2 hk2 y M2 ρ2 H2 E2 c2 r2 => ?_⟩
  cases hz : seeW w st2 with
  | none => simp only [hz] at hk2
  | some x =>
    simp only [hz] at hk2
    obtain ⟨a', o, e', _, ov, g1, g2, g3⟩ := get_ok (Fv.sub (ρ := ρ2) c2.rep.sub) c2.rep.sub hT (see_ok c2.rep hz (Rw.ext r1 E2)) r2 hk2
    cases e'
    refine ⟨ov, g1, q _ _ g2 _ M2 ρ2 H2 (E1.trans E2) c2 ?_⟩
    cases o with
    | none => rw [g3]; rfl
    | some d => obtain ⟨v, rfl, g4⟩ := g3; exact g4
theorem e_get2 {T : Bool} {apos : Pos} {ta : DW} {ti tz : DD} (hu : X.A.units + 1 < cLine) (hT : T = true → N.b = false) (ha : PE X e1 (lW N Wx ta)) (hi : PE X e2 (lD N Wx ti)) (hz : PE X e3 (lD N Wx tz)) (m : M2 X e1 "get" apos e2 e3 pos := by exact ⟨rfl, rfl, rfl, rfl⟩) : PE X (.Call (.Attribute e1 "get" apos) [e2, e3] [] pos) (lD N Wx (dGet2 T ta ti tz)) := PE.imp (pe_dget2 hu ha hi hz m) fun σV H Q h => by
  obtain ⟨M, ρ, σ, st, k, ex, c, ht, q⟩ := Kx.open_ h
  refine Lf.of c ht fun w st1 hk u M1 ρ1 H1 E1 c1 r1 => ?_
  obtain ⟨a, rfl, hd⟩ := isDD_ok c1 hk.1 r1
  refine ⟨a, rfl, hd, Lf.bin c1 hk.2 fun i z st2 hk2 y zv M2 ρ2 H2 E2 c2 r2 r3 => ?_⟩
  cases hz : seeW w st2 with
  | none => simp only [hz] at hk2
  | some x =>
    simp only [hz] at hk2
    obtain ⟨a', o, e', _, ov, g1, g2, g3⟩ := get_ok (Fv.sub (ρ := ρ2) c2.rep.sub) c2.rep.sub hT (see_ok c2.rep hz (Rw.ext r1 E2)) r2 hk2
    cases e'
    refine ⟨ov, g1, q _ _ g2 _ M2 ρ2 H2 (E1.trans E2) c2 ?_⟩
    cases o with
    | none => rw [g3]; exact r3
    | some d => obtain ⟨v, rfl, g4⟩ := g3; exact g4
def RpCs (N : Kn) (M F : Hp) : List D → List V → Prop
  | [], vs => vs = []
  | d :: ds, vs => ∃ x r, vs = x :: r ∧ RpC N M F d x ∧ RpCs N M F ds r
theorem sees_ok {M H : Hp} {ρ : List Addr} {st : Sto} (r : Rep N M ρ st H) : ∀ {ws : List W} {ds : List D} {vs : List V}, seeWs ws st = some ds → Rws N M ρ ws vs → RpCs N M (Fv M ρ H) ds vs
  | [], _, _, e, h => by cases e; exact h
  | w :: ws, ds, vs, e, ⟨x, q, h1, h2, h3⟩ => by
    cases e1 : seeW w st with
    | none => simp only [seeWs, e1] at e; cases e
    | some d =>
      cases e2 : seeWs ws st with
      | none => simp only [seeWs, e1, e2] at e; cases e
      | some ds' =>
        simp only [seeWs, e1, e2, Option.some.injEq] at e
        subst e
        exact ⟨x, q, h1, see_ok r e1 h2, sees_ok r e2 h3⟩
def CallOk (N : Kn) (r : List V → Hp → VK → Prop) (f : FL) : Prop := ∀ {Wx : WX} {M H : Hp} {ρ : List Addr} {σ : Sl} {st : Sto} {σV : L2.St} {ex : DX} {ds : List D} {us : List V} {kd : D → Prop} {Q : VK}, Kx N Wx M ρ σ st H σV ex → RpCs N M (Fv M ρ H) ds us → f ds kd →
  (∀ d, kd d → ∀ w M' H', Ext M ρ H M' ρ H' → Kx N Wx M' ρ σ st H' σV ex → Rp N M' d w → Q w H') → r us H Q
theorem cb_lift {r : List V → Hp → VK → Prop} {f : FL} {ta : DA} (ok : CallOk N r f) {σV : L2.St} {H : Hp} {Q : VK} (h : lD N Wx (dCB f ta) σV H Q) : tCB r (lA N Wx ta) σV H Q := by
  obtain ⟨M, ρ, σ, st, k, ex, c, ht, q⟩ := Kx.open_ h
  refine Lf.of c ht fun ws st' hk vs M' ρ' H' E c' r => ?_
  cases hz : seeWs ws st' with
  | none => simp only [hz] at hk
  | some ds =>
    simp only [hz] at hk
    exact ok c' (sees_ok c'.rep hz r) hk fun d hd w M2 H2 E2 c2 r2 => q _ _ hd w M2 ρ' H2 (E.trans E2) c2 r2
theorem e_cb {id : String} {r : List V → Hp → VK → Prop} {f : FL} {ta : DA} {x : Str} {p : Pos} {es : List Expr} (hc : CallR X (.builtin id) r) (ok : CallOk N r f) (hg : Gl X x) (hm : X.mg x = none) (hv : bootBuiltins x = some (.builtin id)) (ha : PA X (e :: es) (lA N Wx ta)) (hn : x ≠ "__name__" := by decide) (hdb : (x == ("__debug__" : Str)) = false := by decide)
    (he : starEach (e :: es) X.env = (false, eval e X.env) :: starEach es X.env := by rfl) (hpl : (backTo pos (starEach es X.env)).any (·.1) = false := by rfl) : PE X (.Call (.Name x p) (e :: es) [] pos) (lD N Wx (dCB f ta)) := PE.imp (pe_callB hc hg hm hv ha hn hdb he hpl) fun _ _ _ => cb_lift ok
theorem e_cty {T : String} {r : List V → Hp → VK → Prop} {f : FL} {ta : DA} {x : Str} {p : Pos} {es : List Expr} (hc : CallR X (.type T) r) (ok : CallOk N r f) (hg : Gl X x) (hm : X.mg x = none) (hv : bootBuiltins x = some (.type T)) (ha : PA X (e :: es) (lA N Wx ta)) (hn : x ≠ "__name__" := by decide) (hdb : (x == ("__debug__" : Str)) = false := by decide)
    (he : starEach (e :: es) X.env = (false, eval e X.env) :: starEach es X.env := by rfl) (hpl : (backTo pos (starEach es X.env)).any (·.1) = false := by rfl) : PE X (.Call (.Name x p) (e :: es) [] pos) (lD N Wx (dCB f ta)) := PE.imp (pe_callTy hc hg hm hv ha hn hdb he hpl) fun _ _ _ => cb_lift ok
theorem CallR.or {f : Value} {r r' : List V → Hp → VK → Prop} (h : CallR X f r) (h' : CallR X f r') : CallR X f (fun xs H Q => r xs H Q ∨ r' xs H Q) := fun pins s σ H xs us Q I rx q => q.elim (h pins s σ H xs us Q I rx) (h' pins s σ H xs us Q I rx)
theorem RpCs.one {M F : Hp} {d : D} {us : List V} (h : RpCs N M F [d] us) : ∃ u, us = [u] ∧ RpC N M F d u := by
  obtain ⟨x, r, h1, h2, h3⟩ := h
  rw [show r = [] from h3] at h1
  exact ⟨x, h1, h2⟩
theorem RpCs.two {M F : Hp} {d d' : D} {us : List V} (h : RpCs N M F [d, d'] us) : ∃ u u', us = [u, u'] ∧ RpC N M F d u ∧ RpC N M F d' u' := by
  obtain ⟨x, r, h1, h2, h3⟩ := h
  obtain ⟨u, rfl, h4⟩ := RpCs.one h3
  exact ⟨x, u, h1, h2, h4⟩
def rLenW (K : PySem.W.Frag) : List V → Hp → VK → Prop := fun xs H Q => cLenA K xs H Q ∨ (∃ a kvs, xs = [V.ref a] ∧ Rd H a (.dK kvs) ∧ Q (.int kvs.length) H) ∨ ∃ a kvs, xs = [V.ref a] ∧ Rd H a (.dT kvs) ∧ Q (.int kvs.length) H
theorem c_lenW : CallR X (.builtin "len") (rLenW X.K) := by
  intro pins s σ H xs us Q I r h
  rcases h with h | ⟨a, kvs, rfl, ha, q⟩ | ⟨p, kvs, rfl, hp, q⟩
  · exact c_lenA pins s σ H xs us Q I r h
  · obtain ⟨u, rfl, ru⟩ := vals1 r
    cases ru
    exact d_len I ha fun t s' I' => ⟨.int kvs.length, H, I', ⟨t, rfl⟩, q⟩
  · obtain ⟨u, rfl, rx⟩ := vals1 r
    obtain rfl : u = .ref p := rx
    obtain ⟨z, hd, ys, rel, dd⟩ := dt_rd I.hok hp
    have hl : kvs.length = ys.length := Paired.length rel
    refine call_len_dictH hd dd (by rw [← hl]; rw [sizeLine_eq] at z; omega) ?_
    rw [← hl]
    exact ⟨.int ((kvs.length : Nat) : Int), H, I.tok _, ⟨_, rfl⟩, q⟩
theorem ok_len : CallOk N (rLenW N.K) fLen := by
  intro Wx M H ρ σ st σV ex ds us kd Q c hd h k
  unfold fLen at h
  split at h
  · rename_i x
    obtain ⟨u, rfl, r⟩ := RpCs.one hd
    have s := Fv.sub (ρ := ρ) c.rep.sub
    cases x <;> try exact False.elim h
    · cases r; exact .inl ⟨h.1, k _ h.2 _ M H Ext.refl c rfl⟩
    · obtain ⟨p, xs, rfl, h1, h2⟩ := (show Rp N M _ u from r)
      exact .inl ⟨_, .inl ⟨xs, .inr (c.rep.sub.tup h1), rfl⟩, by rw [h2.length]; exact k _ h _ M H Ext.refl c rfl⟩
    · obtain ⟨p, xs, rfl, h1, h2⟩ := r
      exact .inl ⟨_, .inl ⟨xs, .inl (SqL.of (s.lst1 h1)), rfl⟩, by rw [h2.length]; exact k _ h _ M H Ext.refl c rfl⟩
    · obtain ⟨p, kvs, rfl, h1, h2, h3⟩ := r
      refine .inr (.inl ⟨p, kvs, rfl, s.dK h1, ?_⟩)
      rw [show (kvs.length : Int) = ((kvs.map (·.1)).length : Int) by simp, h2]
      exact k _ h _ M H Ext.refl c rfl
    · obtain ⟨p, kvs, rfl, h1, h2, h3⟩ := r
      refine .inr (.inr ⟨p, kvs, rfl, s.dT h1, ?_⟩)
      rw [show (kvs.length : Int) = ((kvs.map (·.1)).length : Int) by simp, h2]
      exact k _ h _ M H Ext.refl c rfl
  · exact h.elim
def fInt : FL := fun xs k => match xs with
  | [.int i] => k (.int i)
  | [.bl b] => k (.int (if b then 1 else 0))
  | [.str a] => ∃ n, PySem.intText? a = some n ∧ a.length ≤ 640 ∧ k (.int n)
  | _ => False
theorem c_intA : CallR X (.type "int") (fun xs H Q => cInt xs H Q ∨ cIntS xs H Q) := CallR.or c_int c_intS
theorem ok_int : CallOk N (fun xs H Q => cInt xs H Q ∨ cIntS xs H Q) fInt := by
  intro Wx M H ρ σ st σV ex ds us kd Q c hd h k
  unfold fInt at h
  split at h
  · obtain ⟨u, rfl, r⟩ := RpCs.one hd; cases r; exact .inl (k _ h _ M H Ext.refl c rfl)
  · obtain ⟨u, rfl, r⟩ := RpCs.one hd; cases r; exact .inl (k _ h _ M H Ext.refl c rfl)
  · obtain ⟨u, rfl, r⟩ := RpCs.one hd; cases r
    obtain ⟨n, h1, h2, h3⟩ := h
    exact .inr ⟨n, h1, h2, k _ h3 _ M H Ext.refl c rfl⟩
  · exact h.elim
def fStrI : FL := fun xs k => match xs with
  | [.int i] => i.natAbs.log2 < 1920 ∧ k (.str (toString i))
  | _ => False
theorem ok_strI : CallOk N cStrI fStrI := by
  intro Wx M H ρ σ st σV ex ds us kd Q c hd h k
  unfold fStrI at h
  split at h
  · obtain ⟨u, rfl, r⟩ := RpCs.one hd; cases r; exact ⟨h.1, k _ h.2 _ M H Ext.refl c rfl⟩
  · exact h.elim
def fAbs : FL := fun xs k => match xs with
  | [.int i] => k (.int (i.natAbs : Int))
  | _ => False
theorem ok_abs : CallOk N cAbs fAbs := by
  intro Wx M H ρ σ st σV ex ds us kd Q c hd h k
  unfold fAbs at h
  split at h
  · obtain ⟨u, rfl, r⟩ := RpCs.one hd; cases r; exact k _ h _ M H Ext.refl c rfl
  · exact h.elim
def fMin : FL := fun xs k => match xs with
  | [.int i, .int j] => k (.int (min i j))
  | _ => False
theorem ok_min : CallOk N cMin2 fMin := by
  intro Wx M H ρ σ st σV ex ds us kd Q c hd h k
  unfold fMin at h
  split at h
  · rename_i i j
    obtain ⟨u, u', rfl, r, r'⟩ := RpCs.two hd; cases r; cases r'
    have : (if j < i then j else i) = min i j := by split <;> omega
    show Q (.int (if j < i then j else i)) H
    rw [this]
    exact k _ h _ M H Ext.refl c rfl
  · exact h.elim
def fMax : FL := fun xs k => match xs with
  | [.int i, .int j] => k (.int (max i j))
  | _ => False
theorem ok_max : CallOk N cMax2 fMax := by
  intro Wx M H ρ σ st σV ex ds us kd Q c hd h k
  unfold fMax at h
  split at h
  · rename_i i j
    obtain ⟨u, u', rfl, r, r'⟩ := RpCs.two hd; cases r; cases r'
    have : (if j > i then j else i) = max i j := by split <;> omega
    show Q (.int (if j > i then j else i)) H
    rw [this]
    exact k _ h _ M H Ext.refl c rfl
  · exact h.elim
theorem Rps.ints {M : Hp} : ∀ {ns : List Int} {vs : List V}, Rps N M (ns.map D.int) vs → vs = ns.map V.int
  | [], _, h => h
  | n :: ns, _, ⟨x, r, h1, h2, h3⟩ => by
    subst h1
    cases h2
    rw [Rps.ints h3]
    rfl
theorem Rps.bls {M : Hp} : ∀ {ns : List Bool} {vs : List V}, Rps N M (ns.map D.bl) vs → vs = ns.map V.bl
  | [], _, h => h
  | n :: ns, _, ⟨x, r, h1, h2, h3⟩ => by
    subst h1
    cases h2
    rw [Rps.bls h3]
    rfl
theorem Rps.strs {M : Hp} : ∀ {ns : List Str} {vs : List V}, Rps N M (ns.map D.str) vs → vs = ns.map V.str
  | [], _, h => h
  | n :: ns, _, ⟨x, r, h1, h2, h3⟩ => by
    subst h1
    cases h2
    rw [Rps.strs h3]
    rfl
def fSum : FL := fun xs k => match xs with
  | [.lst ds] => ∃ ns : List Int, ds = ns.map D.int ∧ k (.int ns.sum)
  | _ => False
theorem ok_sum : CallOk N (rSum N.K) fSum := by
  intro Wx M H ρ σ st σV ex ds us kd Q c hd h k
  unfold fSum at h
  split at h
  · obtain ⟨u, rfl, p, xs, rfl, h1, h2⟩ := RpCs.one hd
    obtain ⟨ns, rfl, h⟩ := h
    have := h2.ints
    subst this
    exact ⟨p, ns, rfl, SqL.of ((Fv.sub (ρ := ρ) c.rep.sub).lst1 h1), k _ h _ M H Ext.refl c rfl⟩
  · exact h.elim
def fAll : FL := fun xs k => match xs with
  | [.lst ds] => ∃ ns : List Bool, ds = ns.map D.bl ∧ k (.bl (ns.all id))
  | _ => False
theorem ok_all : CallOk N (rAll N.K) fAll := by
  intro Wx M H ρ σ st σV ex ds us kd Q c hd h k
  unfold fAll at h
  split at h
  · obtain ⟨u, rfl, p, xs, rfl, h1, h2⟩ := RpCs.one hd
    obtain ⟨ns, rfl, h⟩ := h
    have := h2.bls
    subst this
    exact ⟨p, ns, rfl, SqL.of ((Fv.sub (ρ := ρ) c.rep.sub).lst1 h1), k _ h _ M H Ext.refl c rfl⟩
  · exact h.elim
def fAny : FL := fun xs k => match xs with
  | [.lst ds] => ∃ ns : List Bool, ds = ns.map D.bl ∧ k (.bl (ns.any id))
  | _ => False
theorem ok_any : CallOk N (rAny N.K) fAny := by
  intro Wx M H ρ σ st σV ex ds us kd Q c hd h k
  unfold fAny at h
  split at h
  · obtain ⟨u, rfl, p, xs, rfl, h1, h2⟩ := RpCs.one hd
    obtain ⟨ns, rfl, h⟩ := h
    have := h2.bls
    subst this
    exact ⟨p, ns, rfl, SqL.of ((Fv.sub (ρ := ρ) c.rep.sub).lst1 h1), k _ h _ M H Ext.refl c rfl⟩
  · exact h.elim
def fTuple : FL := fun xs k => match xs with
  | [.lst ds] => k (.tup ds)
  | [.tup ds] => k (.tup ds)
  | _ => False
def fList : FL := fun xs k => match xs with
  | [.lst ds] => k (.lst ds)
  | [.tup ds] => k (.lst ds)
  | _ => False
end
end Dl
end

section
set_option maxHeartbeats 4000000
namespace Dl
open PySem PySem.Spec PyProof.Rows L2 Co
section
variable {X : Cx} {b : Bool} {Wx : WX} {e e1 e2 e3 : Expr} {pos : Pos} {N : Kn}
theorem ok_tuple : CallOk N (rTupOf N.K) fTuple := by
  intro Wx M H ρ σ st σV ex ds us kd Q c hd h k
  unfold fTuple at h
  split at h
  · obtain ⟨u, rfl, p, xs, rfl, h1, h2⟩ := RpCs.one hd
    refine ⟨p, xs, rfl, .inl ⟨SqL.of ((Fv.sub (ρ := ρ) c.rep.sub).lst1 h1), fun l hl => ?_⟩⟩
    obtain ⟨E, c'⟩ := c.new (o := .tup xs) hl
    exact k _ h _ _ _ E c' ⟨l, xs, rfl, .inl upd_same, h2.ext E⟩
  · obtain ⟨u, rfl, p, xs, rfl, h1, h2⟩ := RpCs.one hd
    exact ⟨p, xs, rfl, .inr ⟨c.rep.sub.tup h1, k _ h _ M H Ext.refl c ⟨p, xs, rfl, h1, h2⟩⟩⟩
  · exact h.elim
theorem ok_list : CallOk N (rListOf N.K) fList := by
  intro Wx M H ρ σ st σV ex ds us kd Q c hd h k
  unfold fList at h
  split at h
  · obtain ⟨u, rfl, p, xs, rfl, h1, h2⟩ := RpCs.one hd
    refine ⟨p, xs, rfl, .inl (SqL.of ((Fv.sub (ρ := ρ) c.rep.sub).lst1 h1)), fun l hl => ?_⟩
    obtain ⟨E, c'⟩ := c.new (o := .lst xs) hl
    exact k _ h _ _ _ E c' ⟨l, xs, rfl, upd_same, h2.ext E⟩
  · obtain ⟨u, rfl, p, xs, rfl, h1, h2⟩ := RpCs.one hd
    refine ⟨p, xs, rfl, .inr (c.rep.sub.tup h1), fun l hl => ?_⟩
    obtain ⟨E, c'⟩ := c.new (o := .lst xs) hl
    exact k _ h _ _ _ E c' ⟨l, xs, rfl, upd_same, h2.ext E⟩
  · exact h.elim
def dListM (ta : DW) : DW := fun σ st k ex => ta σ st (fun w st1 => match seeW w st1 with
  | some (.lst ds) => k (.loc st1.length) (st1 ++ [.lst ds])
  | some (.tup ds) => k (.loc st1.length) (st1 ++ [.lst ds])
  | _ => False) ex
theorem e_listM {ta : DW} {x : Str} {p : Pos} (hg : Gl X x) (hm : X.mg x = none) (hv : bootBuiltins x = some (.type "list")) (ha : PE X e (lW (XN X b) Wx ta)) (hn : x ≠ "__name__" := by decide) (hdb : (x == ("__debug__" : Str)) = false := by decide)
    (he : starEach [e] X.env = (false, eval e X.env) :: starEach [] X.env := by rfl) (hpl : (backTo pos (starEach [] X.env)).any (·.1) = false := by rfl) : PE X (.Call (.Name x p) [e] [] pos) (lW (XN X b) Wx (dListM ta)) := PE.imp (pe_callTy call_list_of hg hm hv (pa_cons ha pa_nil he) hn hdb he hpl) fun σV H Q h => by
  obtain ⟨M, ρ, σ, st, k, ex, c, ht, q⟩ := Kx.open_ h
  refine Lf.of c ht fun w st' hk u M' ρ' H' E c' r => ?_
  cases hz : seeW w st' with
  | none => simp only [hz] at hk
  | some x =>
    simp only [hz] at hk
    have g := see_ok c'.rep hz r
    cases x <;> try exact False.elim hk
    · obtain ⟨p, xs, rfl, h1, h2⟩ := (show Rp (XN X b) M' _ u from g)
      refine ⟨p, xs, rfl, .inr (c'.rep.sub.tup h1), fun l hl => ?_⟩
      obtain ⟨E2, c2⟩ := c'.loc (u := .lst xs) hl (o := .lst _) ⟨c'.rep.non hl, xs, upd_same, h2⟩
      exact q _ _ hk _ _ _ _ (E.trans E2) c2 ⟨l, c'.rep.last l, rfl⟩
    · obtain ⟨p, xs, rfl, h1, h2⟩ := g
      refine ⟨p, xs, rfl, .inl (SqL.of ((Fv.sub (ρ := ρ') c'.rep.sub).lst1 h1)), fun l hl => ?_⟩
      obtain ⟨E2, c2⟩ := c'.loc (u := .lst xs) hl (o := .lst _) ⟨c'.rep.non hl, xs, upd_same, h2⟩
      exact q _ _ hk _ _ _ _ (E.trans E2) c2 ⟨l, c'.rep.last l, rfl⟩
def lO (N : Kn) (Wx : WX) (t : DO) : TO := Lf N Wx (fun _ _ (a b : Option Int) => b = a) t
instance : Mo (fun _ _ (a b : Option Int) => b = a) := ⟨fun _ h => h⟩
theorem PO.imp {eo : Option Expr} {t t' : TO} (h : PO X eo t) (i : ∀ σ H Q, t' σ H Q → t σ H Q) : PO X eo t' := ⟨fun pins s σ H Q I q => h.run pins s σ H Q I (i σ H Q q)⟩
theorem o_none : PO X none (lO N Wx dNoPart) := PO.imp po_none fun σV H Q h => by
  obtain ⟨M, ρ, σ, st, k, ex, c, ht, q⟩ := Kx.open_ h
  exact q _ _ ht _ M ρ H Ext.refl c rfl
theorem o_some {t : DD} (h : PE X e (lD N Wx t)) : PO X (some e) (lO N Wx (dPart t)) := PO.imp (po_some h) fun σV H Q h => by
  obtain ⟨M, ρ, σ, st, k, ex, c, ht, q⟩ := Kx.open_ h
  refine Lf.of c ht fun x st' hk v M' ρ' H' E c' r => ?_
  cases x <;> try exact False.elim hk
  cases r
  exact ⟨_, rfl, q _ _ hk _ M' ρ' H' E c' rfl⟩
theorem cut_rps {M : Hp} {ds : List D} {vs : List V} (h : Rps N M ds vs) (lo hi : Option Int) : Rps N M (cutD ds lo hi) (cutV vs lo hi) := by
  unfold cutD cutV
  rw [h.length]
  exact Rps.take _ (Rps.drop _ h)
theorem sl_all : SlR X (fun x lo hi H Q => rSlS x lo hi H Q ∨ rSlA X.K x lo hi H Q ∨ rSlL X.K x lo hi H Q) := SlR.or sl_str (SlR.or sl_tupA sl_list)
theorem e_sl {ta : DW} {tl th : DO} {lo hi : Option Expr} {p2 : Pos} (ha : PE X e (lW (XN X b) Wx ta)) (hl : PO X lo (lO (XN X b) Wx tl)) (hh : PO X hi (lO (XN X b) Wx th)) : PE X (.Subscript e (.Slice lo hi none p2) pos) (lD (XN X b) Wx (dSl ta tl th)) := PE.imp (pe_slice sl_all ha hl hh) fun σV H Q h => by
  obtain ⟨M, ρ, σ, st, k, ex, c, ht, q⟩ := Kx.open_ h
  refine Lf.of c ht fun w st1 hk1 u M1 ρ1 H1 E1 c1 r1 => Lf.bin c1 hk1 fun l h st' hk l' h' M' ρ' H' E c' r2 r3 => ?_
  rw [show l' = l from r2, show h' = h from r3]
  have E := E1.trans E
  have r1 := Rw.ext r1 ‹Ext M1 ρ1 H1 M' ρ' H'›
  cases hz : seeW w st' with
  | none => simp only [hz] at hk
  | some x =>
    simp only [hz] at hk
    have g := see_ok c'.rep hz r1
    cases x <;> try exact False.elim hk
    · cases g; exact .inl ⟨_, rfl, hk.1, q _ _ hk.2 _ M' ρ' H' E c' rfl⟩
    · obtain ⟨p, xs, rfl, h1, h2⟩ := (show Rp (XN X b) M' _ u from g)
      have hc := cut_rps h2 l h
      refine .inr (.inl ⟨p, xs, rfl, c'.rep.sub.tup h1, fun z => ?_, fun _ l' hl' => ?_⟩)
      · have e1 : cutV xs l h = xs := by
          unfold cutV
          rw [z.1, z.2]
          simp
        rw [e1] at hc
        exact q _ _ hk _ M' ρ' H' E c' ⟨p, xs, rfl, h1, hc⟩
      · obtain ⟨E2, c2⟩ := c'.new (o := .tup (cutV xs l h)) hl'
        exact q _ _ hk _ _ _ _ (E.trans E2) c2 ⟨l', _, rfl, .inl upd_same, hc.ext E2⟩
    · obtain ⟨p, xs, rfl, h1, h2⟩ := g
      have hc := cut_rps h2 l h
      refine .inr (.inr ⟨p, xs, rfl, SqL.of ((Fv.sub (ρ := ρ') c'.rep.sub).lst1 h1), fun l' hl' => ?_⟩)
      obtain ⟨E2, c2⟩ := c'.new (o := .lst (cutV xs l h)) hl'
      exact q _ _ hk _ _ _ _ (E.trans E2) c2 ⟨l', _, rfl, upd_same, hc.ext E2⟩
theorem lookup_rps {M : Hp} : ∀ {fs : List (Str × V)} {ds : List D} {f : Str} {d : D}, Rps N M ds (fs.map (·.2)) → getK (fs.map (·.1)) ds f = some d → ∃ v, fs.lookup f = some v ∧ Rp N M d v
  | [], _, _, _, _, e => by cases e
  | (a, v) :: fs, [], f, d, h, e => by cases e
  | (a, v) :: fs, d' :: ds, f, d, ⟨x, r, h1, h2, h3⟩, e => by
    cases h1
    by_cases z : a = f
    · simp only [List.map_cons, getK, if_pos z, Option.some.injEq] at e
      subst e
      refine ⟨v, ?_, h2⟩
      rw [List.lookup_cons, show (f == a) = true by rw [z]; exact beq_self_eq_true f]
    · simp only [List.map_cons, getK, if_neg z] at e
      obtain ⟨v', h4, h5⟩ := lookup_rps h3 e
      refine ⟨v', ?_, h5⟩
      rw [List.lookup_cons, show (f == a) = false from beq_eq_false_iff_ne.mpr fun w => z w.symm]
      exact h4
theorem lookup_rws {M : Hp} {ρ : List Addr} : ∀ {fs : List (Str × V)} {gs : List (Str × W)} {f : Str} {w : W}, fs.map (·.1) = gs.map (·.1) → Rws N M ρ (gs.map (·.2)) (fs.map (·.2)) → gs.lookup f = some w → ∃ v, fs.lookup f = some v ∧ Rw N M ρ w v
  | [], [], _, _, _, _, e => by cases e
  | [], _ :: _, _, _, e, _, _ => by cases e
  | _ :: _, [], _, _, e, _, _ => by cases e
  | (a, v) :: fs, (a', w') :: gs, f, w, e0, ⟨x, r, h1, h2, h3⟩, e => by
    cases h1
    rw [List.map_cons, List.map_cons, List.cons.injEq] at e0
    obtain ⟨e1, e2⟩ := e0
    have e1 : a = a' := e1
    subst e1
    rw [List.lookup_cons] at e ⊢
    cases z : f == a with
    | true => rw [z] at e; cases e; exact ⟨v, rfl, h2⟩
    | false =>
      rw [z] at e
      exact lookup_rws e2 h3 e
theorem fld_ok {M H : Hp} {ρ : List Addr} {st : Sto} {C f : Str} {w : W} {u : V} {k : W → Prop} (r : Rep N M ρ st H) (h : fldD C f w st k) (hr : Rw N M ρ w u) : ∃ a dx fs v w', u = .ref a ∧ H a = some (.ins (He.ga N.K C) dx fs) ∧ fs.lookup f = some v ∧ k w' ∧ Rw N M ρ w' v := by
  have im : ∀ {C' : Str} {ns : List Str} {ds : List D} {v : V}, Rp N M (.ins C' ns ds) v → (C' = C ∧ (match getK ns ds f with
      | some d => k (.im d)
      | none => False)) → ∃ a dx fs x w', v = .ref a ∧ H a = some (.ins (He.ga N.K C) dx fs) ∧ fs.lookup f = some x ∧ k w' ∧ Rw N M ρ w' x := by
    rintro C' ns ds v ⟨p, dx, fs, rfl, h1, h2, h3⟩ ⟨rfl, h4⟩
    subst h2
    cases hz : getK (fs.map (·.1)) ds f with
    | none => rw [hz] at h4; exact h4.elim
    | some d =>
      rw [hz] at h4
      obtain ⟨x, h5, h6⟩ := lookup_rps h3 hz
      exact ⟨p, dx, fs, x, .im d, rfl, r.sub.ins h1, h5, h4, h6⟩
  cases w with
  | dead => exact False.elim h
  | im d =>
    cases d <;> try exact False.elim h
    exact im hr h
  | loc n =>
    obtain ⟨a, ha, rfl⟩ := hr
    cases ho : st[n]? with
    | none => simp only [fldD, ho] at h
    | some o =>
      simp only [fldD, ho] at h
      have q := r.ob n a o ha ho
      cases o <;> try exact False.elim h
      · rename_i C' fs
        simp only at h
        obtain ⟨rfl, h⟩ := h
        cases hl : fs.lookup f with
        | none => rw [hl] at h; exact h.elim
        | some w' =>
          rw [hl] at h
          obtain ⟨hm, dx, fxs, h1, h2, h3⟩ := q
          obtain ⟨v, h4, h5⟩ := lookup_rws h2 h3 hl
          exact ⟨a, dx, fxs, v, w', rfl, h1, h4, h, h5⟩
      · rename_i d
        cases d <;> try exact False.elim h
        exact im q.1 h
theorem e_fld {C f : Str} {ta : DW} (hc : Cls X.K (He.ga X.K C)) (hn : NoAttr X.K (He.ga X.K C) f) (ha : PE X e (lW (XN X b) Wx ta)) (hb : attributeBase e f X.env (eval e X.env) = eval e X.env := by rfl) : PE X (.Attribute e f pos) (lW (XN X b) Wx (dFld C f ta)) := PE.imp (pe_fld ha hb) fun σV H Q h => by
  obtain ⟨M, ρ, σ, st, k, ex, c, ht, q⟩ := Kx.open_ h
  refine Lf.of c ht fun w st' hk u M' ρ' H' E c' r => ?_
  obtain ⟨a, dx, fs, v, w', rfl, h1, h2, h3, h4⟩ := fld_ok c'.rep hk r
  exact ⟨a, _, dx, fs, v, rfl, h1, hc, hn, h2, q _ _ h3 _ M' ρ' H' E c' h4⟩
def MtOk (N : Kn) (r : V → List V → Hp → VK → Prop) (f : D → FL) : Prop := ∀ {Wx : WX} {M H : Hp} {ρ : List Addr} {σ : Sl} {st : Sto} {σV : L2.St} {ex : DX} {x : D} {u : V} {ds : List D} {us : List V} {kd : D → Prop} {Q : VK}, Kx N Wx M ρ σ st H σV ex → RpC N M (Fv M ρ H) x u → RpCs N M (Fv M ρ H) ds us → f x ds kd →
  (∀ d, kd d → ∀ w M' H', Ext M ρ H M' ρ H' → Kx N Wx M' ρ σ st H' σV ex → Rp N M' d w → Q w H') → r u us H Q
theorem e_m1 {id : String} {name : Str} {apos : Pos} {r : V → List V → Hp → VK → Prop} {f : D → FL} {to ta : DW} (slot : Slot "str" name id) (ty : typeOf (.builtin id) = pure (.type "method_descriptor")) (rule : MtR X id r) (ok : MtOk N r f) (ho : PE X e1 (lW N Wx to)) (he : PE X e2 (lW N Wx ta))
    (hs : starEach [e2] X.env = [(false, eval e2 X.env)] := by rfl) (hbase : attributeBase e1 name X.env (eval e1 X.env) = eval e1 X.env := by rfl) (hline : (apos.endLine == pos.line) = true := by rfl) : PE X (.Call (.Attribute e1 name apos) [e2] [] pos) (lD N Wx (dBM "str" f to (aCons ta aNil))) := PE.imp (pe_m1 slot ty rule ho he hs hbase hline) fun σV H Q h => by
  obtain ⟨M, ρ, σ, st, k, ex, c, ht, q⟩ := Kx.open_ h
  refine Lf.of c ht fun w st1 hk u M1 ρ1 H1 E1 c1 r1 => ?_
  obtain ⟨ht, hk⟩ := hk
  refine ⟨?_, Lf.of c1 hk fun y st2 hk2 v M2 ρ2 H2 E2 c2 r2 => ?_⟩
  · cases hz : seeW w st1 with
    | none => rw [hz] at ht; exact False.elim ht
    | some x =>
      rw [hz] at ht
      have g := see_ok c1.rep hz r1
      cases x <;> first | exact False.elim ht | exact absurd (show "str" = "list" from ht) (by decide) | exact absurd (show "str" = "dict" from ht) (by decide) | (cases g; exact ⟨_, rfl⟩)
  · have hk2 : (match seeW w st2, seeWs [y] st2 with
      | some x, some ds => f x ds fun d => k d st2
      | _, _ => False) := hk2
    cases hz : seeW w st2 with
    | none => rw [hz] at hk2; exact False.elim hk2
    | some x =>
      cases hy : seeWs [y] st2 with
      | none => rw [hz, hy] at hk2; exact False.elim hk2
      | some ds =>
        rw [hz, hy] at hk2
        refine ok c2 (see_ok c2.rep hz (Rw.ext r1 E2)) (sees_ok c2.rep hy ⟨v, [], rfl, r2, rfl⟩) hk2 fun d hd w M3 H3 E3 c3 r3 => q _ _ hd w M3 ρ2 H3 (E1.trans (E2.trans E3)) c3 r3
theorem e_m0 {id : String} {name : Str} {apos : Pos} {r : V → List V → Hp → VK → Prop} {f : D → FL} {to : DW} (slot : Slot "str" name id) (ty : typeOf (.builtin id) = pure (.type "method_descriptor")) (rule : MtR X id r) (ok : MtOk N r f) (ho : PE X e1 (lW N Wx to))
    (hbase : attributeBase e1 name X.env (eval e1 X.env) = eval e1 X.env := by rfl) (hline : (apos.endLine == pos.line) = true := by rfl) : PE X (.Call (.Attribute e1 name apos) [] [] pos) (lD N Wx (dBM "str" f to aNil)) := PE.imp (pe_m0 slot ty rule ho hbase hline) fun σV H Q h => by
  obtain ⟨M, ρ, σ, st, k, ex, c, ht, q⟩ := Kx.open_ h
  refine Lf.of c ht fun w st1 hk u M1 ρ1 H1 E1 c1 r1 => ?_
  obtain ⟨ht, hk⟩ := hk
  have hk2 : (match seeW w st1, seeWs [] st1 with
      | some x, some ds => f x ds fun d => k d st1
      | _, _ => False) := hk
  cases hz : seeW w st1 with
  | none => rw [hz] at ht; exact False.elim ht
  | some x =>
    rw [hz] at ht hk2
    have g := see_ok c1.rep hz r1
    refine ⟨?_, ok c1 g (show RpCs N M1 _ [] [] from rfl) hk2 fun d hd w M3 H3 E3 c3 r3 => q _ _ hd w M3 ρ1 H3 (E1.trans E3) c3 r3⟩
    cases x <;> first | exact False.elim ht | exact absurd (show "str" = "list" from ht) (by decide) | exact absurd (show "str" = "dict" from ht) (by decide) | (cases g; exact ⟨_, rfl⟩)
def mJoin : D → FL := fun x xs k => match x, xs with
  | .str a, [.lst ds] => ∃ ys : List Str, ds = ys.map D.str ∧ (ys.map (·.length)).sum + ys.length * a.length ≤ 16777216 ∧ k (.str (Txt.join a ys))
  | .str a, [.tup ds] => ∃ ys : List Str, ds = ys.map D.str ∧ (ys.map (·.length)).sum + ys.length * a.length ≤ 16777216 ∧ k (.str (Txt.join a ys))
  | _, _ => False
theorem ok_join : MtOk N (rJoinS N.K) mJoin := by
  intro Wx M H ρ σ st σV ex x u ds us kd Q c hx hd h k
  unfold mJoin at h
  split at h
  · cases hx
    obtain ⟨u, rfl, p, xs, rfl, h1, h2⟩ := RpCs.one hd
    obtain ⟨ys, rfl, h3, h4⟩ := h
    have := h2.strs
    subst this
    exact ⟨ys, .inl (SqL.of ((Fv.sub (ρ := ρ) c.rep.sub).lst1 h1)), h3, k _ h4 _ M H Ext.refl c rfl⟩
  · cases hx
    obtain ⟨u, rfl, p, xs, rfl, h1, h2⟩ := RpCs.one hd
    obtain ⟨ys, rfl, h3, h4⟩ := h
    have := h2.strs
    subst this
    exact ⟨ys, .inr (c.rep.sub.tup h1), h3, k _ h4 _ M H Ext.refl c rfl⟩
  · exact h.elim
def mSS (g : Str → Str → D) : D → FL := fun x xs k => match x, xs with
  | .str a, [.str b] => k (g a b)
  | _, _ => False
def mLstrip : D → FL := fun x xs k => match x, xs with
  | .str a, [.str b] => a.length ≤ sizeLine ∧ k (.str (Txt.lstripChars a b))
  | _, _ => False
theorem ok_lstrip : MtOk N rLstripS mLstrip := by
  intro Wx M H ρ σ st σV ex x u ds us kd Q c hx hd h k
  unfold mLstrip at h
  split at h
  · cases hx
    obtain ⟨u, rfl, r⟩ := RpCs.one hd
    cases r
    exact ⟨h.1, k _ h.2 _ M H Ext.refl c rfl⟩
  · exact h.elim
end
end Dl
end

section
set_option maxHeartbeats 4000000
namespace Dl
open PySem PySem.Spec PyProof.Rows L2 Co
structure Lk (N : Kn) (Wx : WX) (M : Hp) (ρ : List Addr) (H : Hp) (D : Ends) (E : En) : Prop where
  nx : ∀ σ' st', E.nx σ' st' → ∀ M' ρ' H' σV', Ext M ρ H M' ρ' H' → Rep N M' ρ' st' H' → Rs N M' ρ' σ' σV' → D.nx σV' H'
  rt : ∀ w st', E.rt w st' → ∀ v M' ρ' H', Ext M ρ H M' ρ' H' → Rep N M' ρ' st' H' → Rw N M' ρ' w v → D.rt v H'
  ex : ∀ c fs σ' st', E.ex c fs σ' st' → ∀ o M' ρ' H' σV', Ext M ρ H M' ρ' H' → Rep N M' ρ' st' H' → Rs N M' ρ' σ' σV' → ErrOwn N M' o fs → Wx (.ref (He.ga N.K c)) o σV' H'
  bk : ∀ σ' st', E.bk σ' st' → ∀ M' ρ' H' σV', Ext M ρ H M' ρ' H' → Rep N M' ρ' st' H' → Rs N M' ρ' σ' σV' → D.bk σV' H'
  ct : ∀ σ' st', E.ct σ' st' → ∀ M' ρ' H' σV', Ext M ρ H M' ρ' H' → Rep N M' ρ' st' H' → Rs N M' ρ' σ' σV' → D.ct σV' H'
def lS (N : Kn) (Wx : WX) (t : DS) : TS := fun D σV H => ∃ M ρ σ st E, Rep N M ρ st H ∧ Rs N M ρ σ σV ∧ t E σ st ∧ Lk N Wx M ρ H D E
def exE (E : En) (σ : Sl) : DX := fun c fs st' => E.ex c fs σ st'
def sNext : DS := fun E σ st => E.nx σ st
def sSeq (t u : DS) : DS := fun E σ st => t { E with nx := fun σ' st' => u E σ' st' } σ st
def sAsg (i : Nat) (t : DW) : DS := fun E σ st => t σ st (fun w st1 => E.nx (σ.set i (some w)) st1) (exE E σ)
def sDrop (t : DW) : DS := fun E σ st => t σ st (fun _ st1 => E.nx σ st1) (exE E σ)
def sRet (t : DW) : DS := fun E σ st => t σ st (fun w st1 => E.rt w st1) (exE E σ)
def sRetN : DS := fun E _ st => E.rt (.im .non) st
def sIf (c : DT) (t u : DS) : DS := fun E σ st => c σ st (fun b st1 => two b (t E σ st1) (u E σ st1)) (exE E σ)
def sBrk : DS := fun E σ st => E.bk σ st
def sCnt : DS := fun E σ st => E.ct σ st
section
variable {N : Kn} {Wx : WX} {M H M' H' : Hp} {ρ ρ' : List Addr} {σ : Sl} {st : Sto} {σV : L2.St} {D : Ends} {E : En}
theorem Lk.step (l : Lk N Wx M ρ H D E) (e : Ext M ρ H M' ρ' H') : Lk N Wx M' ρ' H' D E :=
  ⟨fun σ' st' h M2 ρ2 H2 σV' e2 => l.nx σ' st' h M2 ρ2 H2 σV' (e.trans e2), fun w st' h v M2 ρ2 H2 e2 => l.rt w st' h v M2 ρ2 H2 (e.trans e2), fun c fs σ' st' h o M2 ρ2 H2 σV' e2 => l.ex c fs σ' st' h o M2 ρ2 H2 σV' (e.trans e2),
   fun σ' st' h M2 ρ2 H2 σV' e2 => l.bk σ' st' h M2 ρ2 H2 σV' (e.trans e2), fun σ' st' h M2 ρ2 H2 σV' e2 => l.ct σ' st' h M2 ρ2 H2 σV' (e.trans e2)⟩
theorem Lk.kx (l : Lk N Wx M ρ H D E) (r : Rep N M ρ st H) (s : Rs N M ρ σ σV) : Kx N Wx M ρ σ st H σV (exE E σ) :=
  ⟨r, s, fun c fs st' h o M' ρ' H' e r' eo => l.ex c fs σ st' h o M' ρ' H' σV e r' (s.ext e) eo⟩
theorem lS.of {t : DS} (l : Lk N Wx M ρ H D E) (r : Rep N M ρ st H) (s : Rs N M ρ σ σV) (h : t E σ st) : lS N Wx t D σV H := ⟨M, ρ, σ, st, E, r, s, h, l⟩
end
section
variable {X : Cx} {b : Bool} {Wx : WX} {e e1 e2 e3 : Expr} {pos : Pos} {N : Kn} {s s1 s2 : Stmt} {ss : List Stmt}
theorem PSs.imp {t t' : TS} (h : PSs X ss t) (i : ∀ D σ H, t' D σ H → t D σ H) : PSs X ss t' := ⟨fun pins s σ H D I q => h.run pins s σ H D I (i D σ H q)⟩
theorem ss_nil : PSs X [] (lS N Wx sNext) := PSs.imp pss_nil fun D σV H h => by
  obtain ⟨M, ρ, σ, st, E, r, s, h, l⟩ := h
  exact l.nx _ _ h M ρ H σV Ext.refl r s
theorem ss_one {t : DS} (h : PS X s (lS N Wx t)) : PSs X [s] (lS N Wx t) := pss_one h
theorem ss_cons {t u : DS} (h : PS X s (lS N Wx t)) (h2 : PSs X (s1 :: ss) (lS N Wx u)) : PSs X (s :: s1 :: ss) (lS N Wx (sSeq t u)) := PSs.imp (pss_cons h h2) fun D σV H q => by
  obtain ⟨M, ρ, σ, st, E, r, s, h, l⟩ := q
  refine lS.of (E := { E with nx := fun σ' st' => u E σ' st' }) ⟨fun σ' st' h' M' ρ' H' σV' e' r' s' => lS.of (l.step e') r' s' h', l.rt, l.ex, l.bk, l.ct⟩ r s h
theorem s_pass : PS X (.Pass pos) (lS N Wx sNext) := PS.imp ps_pass fun D σV H h => by
  obtain ⟨M, ρ, σ, st, E, r, s, h, l⟩ := h
  exact l.nx _ _ h M ρ H σV Ext.refl r s
theorem s_doc {c : Const} {k : Nat} {p1 p2 : Pos} (h : PS X (.Expr (.Constant c k p1) p2) tNext) : PS X (.Expr (.Constant c k p1) p2) (lS N Wx sNext) := PS.imp h fun D σV H h => by
  obtain ⟨M, ρ, σ, st, E, r, s, h, l⟩ := h
  exact l.nx _ _ h M ρ H σV Ext.refl r s
theorem s_brk : PS X (.Break pos) (lS N Wx sBrk) := PS.imp ps_break fun D σV H h => by
  obtain ⟨M, ρ, σ, st, E, r, s, h, l⟩ := h
  exact l.bk _ _ h M ρ H σV Ext.refl r s
theorem s_cnt : PS X (.Continue pos) (lS N Wx sCnt) := PS.imp ps_continue fun D σV H h => by
  obtain ⟨M, ρ, σ, st, E, r, s, h, l⟩ := h
  exact l.ct _ _ h M ρ H σV Ext.refl r s
theorem s_retN : PS X (.Return none pos) (lS N Wx sRetN) := PS.imp ps_retN fun D σV H h => by
  obtain ⟨M, ρ, σ, st, E, r, s, h, l⟩ := h
  exact l.rt _ _ h _ M ρ H Ext.refl r rfl
theorem s_ret {t : DW} (h : PE X e (lW N Wx t)) : PS X (.Return (some e) pos) (lS N Wx (sRet t)) := PS.imp (ps_ret h) fun D σV H h => by
  obtain ⟨M, ρ, σ, st, E, r, s, h, l⟩ := h
  exact Lf.of (l.kx r s) h fun w st' hk v M' ρ' H' e' c' rv => l.rt _ _ hk v M' ρ' H' e' c'.rep rv
theorem s_drop {t : DW} (h : PS X (.Expr e pos) (tDrop (lW N Wx t))) : PS X (.Expr e pos) (lS N Wx (sDrop t)) := PS.imp h fun D σV H h => by
  obtain ⟨M, ρ, σ, st, E, r, s, h, l⟩ := h
  exact Lf.of (l.kx r s) h fun w st' hk v M' ρ' H' e' c' rv => l.nx _ _ hk M' ρ' H' σV e' c'.rep c'.rs
theorem s_asg {t : DW} {i : Nat} (h : PS X s (tAsg (lW N Wx t) (gName i))) : PS X s (lS N Wx (sAsg i t)) := PS.imp h fun D σV H h => by
  obtain ⟨M, ρ, σ, st, E, r, s, h, l⟩ := h
  exact Lf.of (l.kx r s) h fun w st' hk v M' ρ' H' e' c' rv => l.nx _ _ hk M' ρ' H' _ e' c'.rep (c'.rs.set rv i)
theorem s_if {c : DT} {t u : DS} {p q : List Stmt} (hc : PT X e (lT N Wx c)) (ha : PSs X p (lS N Wx t)) (hb : PSs X q (lS N Wx u)) : PS X (.If e p q pos) (lS N Wx (sIf c t u)) := PS.imp (Co.s_if hc ha hb) fun D σV H h => by
  obtain ⟨M, ρ, σ, st, E, r, s, h, l⟩ := h
  refine Lf.of (l.kx r s) h fun b st' hk v M' ρ' H' e' c' rv => ?_
  rw [show v = b from rv]
  exact ⟨fun z => lS.of (l.step e') c'.rep c'.rs (hk.1 z), fun z => lS.of (l.step e') c'.rep c'.rs (hk.2 z)⟩
def putW (f : Str) (w : W) : List (Str × W) → List (Str × W)
  | [] => [(f, w)]
  | (g, x) :: r => if g = f then (g, w) :: r else (g, x) :: putW f w r
def sFldS (C f : Str) (to t : DW) : DS := fun E σ st => t σ st (fun w st1 => to σ st1 (fun o st2 => match o with
  | .loc n => (match st2[n]? with
    | some (.ins C' fs) => C' = C ∧ fs.length < 1000 ∧ E.nx σ (st2.set n (.ins C' (putW f w fs)))
    | _ => False)
  | _ => False) (exE E σ)) (exE E σ)
theorem putW_ok {M : Hp} {ρ : List Addr} {f : Str} {w : W} {v : V} (hw : Rw N M ρ w v) : ∀ {gs : List (Str × W)} {fs : List (Str × V)}, fs.map (·.1) = gs.map (·.1) → Rws N M ρ (gs.map (·.2)) (fs.map (·.2)) →
    (putF f v fs).map (·.1) = (putW f w gs).map (·.1) ∧ Rws N M ρ ((putW f w gs).map (·.2)) ((putF f v fs).map (·.2))
  | [], [], _, _ => ⟨rfl, ⟨v, [], rfl, hw, rfl⟩⟩
  | [], _ :: _, e, _ => by cases e
  | _ :: _, [], e, _ => by cases e
  | (a, x) :: gs, (a', y) :: fs, e0, ⟨x', r, h1, h2, h3⟩ => by
    cases h1
    rw [List.map_cons, List.map_cons, List.cons.injEq] at e0
    obtain ⟨e1, e2⟩ := e0
    have e1 : a' = a := e1
    subst e1
    by_cases z : a' = f
    · simp only [putF, putW, if_pos z, List.map_cons]
      exact ⟨by rw [e2], ⟨v, _, rfl, hw, h3⟩⟩
    · simp only [putF, putW, if_neg z, List.map_cons]
      obtain ⟨g1, g2⟩ := putW_ok hw e2 h3
      exact ⟨by rw [g1], ⟨y, _, rfl, h2, g2⟩⟩
theorem s_fld {C f : Str} {to t : DW} {pos' : Pos} (hc : Cls X.K (He.ga X.K C)) (hn : NoAttr X.K (He.ga X.K C) f) (ho : PE X e1 (lW (XN X b) Wx to)) (hv : PE X e2 (lW (XN X b) Wx t)) (hs : swapsWith e2 (some (.Attribute e1 f pos')) pos.line X.env = pure false := by rfl) :
    PS X (.Assign [.Attribute e1 f pos'] e2 pos) (lS (XN X b) Wx (sFldS C f to t)) := PS.imp (ps_fld ho hv hs) fun D σV H h => by
  obtain ⟨M, ρ, σ, st, E, r, s, h, l⟩ := h
  refine Lf.bin (l.kx r s) h fun w o st' hk v u M' ρ' H' e' c' rv ro => ?_
  cases o <;> try exact False.elim hk
  rename_i n
  obtain ⟨a, ha, rfl⟩ := ro
  cases hz : st'[n]? with
  | none => simp only [hz] at hk
  | some ob =>
    simp only [hz] at hk
    cases ob <;> try exact False.elim hk
    rename_i C' fs
    obtain ⟨rfl, hl, hk⟩ := hk
    obtain ⟨hm, dx, fxs, h1, h2, h3⟩ := c'.rep.ob n a _ ha hz
    obtain ⟨g1, g2⟩ := putW_ok (f := f) rv h2 h3
    refine ⟨a, _, dx, fxs, rfl, h1, hc, hn, ?_, ?_⟩
    · have := congrArg List.length h2
      rw [List.length_map, List.length_map] at this
      omega
    · obtain ⟨E2, c2⟩ := c'.wr (o := .ins C' (putW f w fs)) ha hm (u := .ins (He.ga X.K C') dx (putF f v fxs)) ⟨hm, dx, _, upd_same, g1, g2⟩
      exact l.nx _ _ hk _ _ _ σV (e'.trans E2) c2.rep c2.rs
def sApp (to : DW) (t : DD) : DS := fun E σ st => to σ st (fun o st1 => (∃ ds, seeW o st1 = some (.lst ds)) ∧ t σ st1 (fun d st2 => match o with
  | .loc n => (match st2[n]? with
    | some (.lst ds) => ds.length ≤ 1000000 ∧ E.nx σ (st2.set n (.lst (ds ++ [d])))
    | _ => False)
  | _ => False) (exE E σ)) (exE E σ)
theorem see_lst {w : W} {M H : Hp} {ρ : List Addr} {st : Sto} {ds : List D} {u : V} (r : Rep N M ρ st H) (e : seeW w st = some (.lst ds)) (h : Rw N M ρ w u) : ∃ p xs, u = .ref p ∧ H p = some (.lst xs) ∧ Rps N M ds xs := by
  obtain ⟨p, xs, h1, h2, h3⟩ := see_ok r e h
  exact ⟨p, xs, h1, (Fv.sub (ρ := ρ) r.sub).lst1 h2, h3⟩
theorem s_app {to : DW} {t : DD} (h : PS X s (tDrop (tBM X.K "list" rAppend (lW N Wx to) (tCons (lD N Wx t) tNil)))) : PS X s (lS N Wx (sApp to t)) := PS.imp h fun D σV H h => by
  obtain ⟨M, ρ, σ, st, E, r, s, h, l⟩ := h
  refine Lf.of (l.kx r s) h fun o st1 hk u M1 ρ1 H1 e1 c1 ro => ?_
  obtain ⟨⟨ds0, hs0⟩, hk⟩ := hk
  obtain ⟨p0, xs0, rfl, q1, q2⟩ := see_lst c1.rep hs0 ro
  refine ⟨.inl ⟨rfl, xs0, SqL.of q1⟩, Lf.of c1 hk fun d st2 hk v M2 ρ2 H2 e2 c2 rd => ?_⟩
  obtain ⟨n, rfl⟩ : ∃ n, o = .loc n := by cases o <;> first | exact False.elim hk | exact ⟨_, rfl⟩
  obtain ⟨a, ha, e⟩ := Rw.ext ro e2
  cases e
  cases hz : st2[n]? with
  | none => simp only [hz] at hk
  | some ob =>
    simp only [hz] at hk
    cases ob <;> try exact False.elim hk
    rename_i ds
    obtain ⟨hm, xs, h1, h2⟩ := c2.rep.ob n _ _ ha hz
    obtain ⟨hl, hk⟩ := hk
    refine ⟨_, xs, v, rfl, rfl, h1, ?_, ?_⟩
    · rw [h2.length, sizeLine_eq]; omega
    · obtain ⟨E2, c3⟩ := c2.wr (o := .lst (ds ++ [d])) ha hm (u := .lst (xs ++ [v])) ⟨hm, _, upd_same, h2.append (Rps.cons rd .nil)⟩
      exact l.nx _ _ hk _ _ _ σV ((e1.trans e2).trans E2) c3.rep c3.rs
def rExtendA (K : PySem.W.Frag) : V → List V → Hp → VK → Prop := fun x vs H Q => rExtend x vs H Q ∨ ∃ l b xs zs, x = .ref l ∧ vs = [.ref b] ∧ H l = some (.lst xs) ∧ SqT K H b zs ∧ xs.length + zs.length ≤ sizeLine ∧ Q .non (upd H l (.lst (xs ++ zs)))
theorem list_extend_tupG (l : Addr) (items : Array Value) (n : Nat) (b : Addr) (o : Obj) (items2 : Array Value) (n2 : Nat) (hs0 : ¬(!items.isEmpty && Builtin.List.listTooLong (items.size + items2.size)) = true) (hs1 : items.size ≤ sizeLine) (hs2 : items.size + items2.size ≤ sizeLine + 1) :
    Meets (Builtin.«list.extend» ⟨[.ref l, .ref b], []⟩) (fun _ R s => s.heap.get? l = some { cls := .type "list", dict := none, data := .seq items n, slots := #[] } ∧ s.heap.get? b = some o ∧ o.cls = .type "tuple" ∧ o.data = .seq items2 n2 ∧ R (.ok (.ret Value.none)) { s with heap := s.heap.update l (Obj.mapSeq fun x => x ++ items2), toks := s.toks }) :=
  .of_wp fun prog w A R s ⟨hl, hb, hc, hd, h⟩ => by
    show wpAny _ A.in1 (Builtin.List.listExtendWith (.ref l) (.ref b) .none) _ _ s
    unfold Builtin.List.listExtendWith
    refine wpAny_bind (wpAny_typeOf ⟨o, hb, hc⟩ ?_)
    have h1 : (Builtin.List.listSameRef (.ref l) (.ref b) || Value.type "tuple" == Value.type "list" || Value.type "tuple" == Value.type "tuple") = true := by simp
    simp only [h1, if_true]
    refine wpAny_bind ?_
    unfold Builtin.List.listItems
    refine wpAny_bind (wpAny_seqItems hb hd (wpAny_pure ?_))
    refine wpAny_bind ?_
    refine wpAny_bind (wpAny_seqItems hl rfl (wpAny_pure ?_))
    rw [if_neg hs0]
    show wpAny _ A.in1 (updateSeq l (· ++ items2) >>= fun _ => ret Value.none) _ _ s
    refine wpAny_bind (wpAny_updateSeq hl rfl ?_ hs1 (by rw [Array.size_append]; exact hs2))
    exact wpAny_pure ⟨_, rfl, h⟩
theorem mt_extendA : MtM X "list.extend" (rExtendA X.K) := by
  intro pins s σ H x vs v us Q I rx rv h
  rcases h with h | ⟨l, b, xs, zs, rfl, rfl, hH, hB, hz, q⟩
  · exact mt_extend pins s σ H x vs v us Q I rx rv h
  cases rx
  obtain ⟨u, rfl, ru⟩ := rv.one
  cases ru
  obtain ⟨z, its, n, r, hl, e⟩ := I.lstM hH
  obtain ⟨its2, r2, ⟨o2, e2, e3, n2, e4⟩, hl2⟩ := I.tuple hB
  have r2l := r2.length
  have hsz : its.toArray.size + its2.toArray.size ≤ sizeLine := by rw [List.size_toArray, List.size_toArray]; omega
  have hlong : ¬ (!its.toArray.isEmpty && Builtin.List.listTooLong (its.toArray.size + its2.toArray.size)) = true := by
    rw [notLongL hsz, Bool.and_false]
    exact Bool.false_ne_true
  refine call_meets F.slot_list_extend ⟨_, e, rfl⟩ F.entry_list_extend (F.args_list_extend_2 _ _)
    (list_extend_tupG l its.toArray n b o2 its2.toArray n2 hlong (by rw [List.size_toArray]; omega) (by omega)) ⟨e, e2, e3, e4, ?_⟩
  refine ⟨.non, _, I.lset (its' := its ++ its2) hH e (by simp) (r.append r2) ?_, rfl, q⟩
  rw [List.length_append]
  omega
def seqD : Option D → Option (List D)
  | some (.lst es) => some es
  | some (.tup es) => some es
  | _ => none
def sExt (to : DW) (t : DW) : DS := fun E σ st => to σ st (fun o st1 => (∃ ds, seeW o st1 = some (.lst ds)) ∧ t σ st1 (fun w st2 => match o, seqD (seeW w st2) with
  | .loc n, some es => (match st2[n]? with
    | some (.lst ds) => ds.length + es.length ≤ 1000000 ∧ E.nx σ (st2.set n (.lst (ds ++ es)))
    | _ => False)
  | _, _ => False) (exE E σ)) (exE E σ)
theorem see_tup {w : W} {M H : Hp} {ρ : List Addr} {st : Sto} {ds : List D} {u : V} (r : Rep N M ρ st H) (e : seeW w st = some (.tup ds)) (h : Rw N M ρ w u) : ∃ p xs, u = .ref p ∧ SqT N.K H p xs ∧ Rps N M ds xs := by
  obtain ⟨p, xs, h1, h2, h3⟩ := (show Rp N M _ u from see_ok r e h)
  exact ⟨p, xs, h1, r.sub.tup h2, h3⟩
theorem s_ext {to : DW} {t : DW} (h : PS X s (tDrop (tBM X.K "list" (rExtendA X.K) (lW (XN X b) Wx to) (tCons (lW (XN X b) Wx t) tNil)))) : PS X s (lS (XN X b) Wx (sExt to t)) := PS.imp h fun D σV H h => by
  obtain ⟨M, ρ, σ, st, E, r, s, h, l⟩ := h
  refine Lf.of (l.kx r s) h fun o st1 hk u M1 ρ1 H1 e1 c1 ro => ?_
  obtain ⟨⟨ds0, hs0⟩, hk⟩ := hk
  obtain ⟨p0, xs0, rfl, q1, q2⟩ := see_lst c1.rep hs0 ro
  refine ⟨.inl ⟨rfl, xs0, SqL.of q1⟩, Lf.of c1 hk fun w st2 hk v M2 ρ2 H2 e2 c2 rd => ?_⟩
  obtain ⟨n, rfl⟩ : ∃ n, o = .loc n := by cases o <;> first | exact False.elim hk | exact ⟨_, rfl⟩
  cases hy : seeW w st2 with
  | none => simp only [hy, seqD] at hk
  | some y =>
    simp only [hy] at hk
    cases y <;> try exact False.elim hk
    case lst es =>
      simp only [seqD] at hk
      obtain ⟨a, ha, e⟩ := Rw.ext ro e2
      cases e
      obtain ⟨p2, ys, rfl, w1, w2⟩ := see_lst c2.rep hy rd
      cases hz : st2[n]? with
      | none => simp only [hz] at hk
      | some ob =>
        simp only [hz] at hk
        cases ob <;> try exact False.elim hk
        rename_i ds
        obtain ⟨hm, xs, h1, h2⟩ := c2.rep.ob n _ _ ha hz
        obtain ⟨hl, hk⟩ := hk
        refine .inl ⟨_, p2, xs, ys, rfl, rfl, h1, w1, ?_, ?_⟩
        · rw [h2.length, w2.length]; exact lenL6 hl
        · obtain ⟨E2, c3⟩ := c2.wr (o := .lst (ds ++ es)) ha hm (u := .lst (xs ++ ys)) ⟨hm, _, upd_same, h2.append w2⟩
          exact l.nx _ _ hk _ _ _ σV ((e1.trans e2).trans E2) c3.rep c3.rs
    case tup es =>
      simp only [seqD] at hk
      obtain ⟨a, ha, e⟩ := Rw.ext ro e2
      cases e
      obtain ⟨p2, ys, rfl, w1, w2⟩ := see_tup c2.rep hy rd
      cases hz : st2[n]? with
      | none => simp only [hz] at hk
      | some ob =>
        simp only [hz] at hk
        cases ob <;> try exact False.elim hk
        rename_i ds
        obtain ⟨hm, xs, h1, h2⟩ := c2.rep.ob n _ _ ha hz
        obtain ⟨hl, hk⟩ := hk
        refine .inr ⟨_, p2, xs, ys, rfl, rfl, h1, w1, ?_, ?_⟩
        · rw [h2.length, w2.length]; exact lenL6 hl
        · obtain ⟨E2, c3⟩ := c2.wr (o := .lst (ds ++ es)) ha hm (u := .lst (xs ++ ys)) ⟨hm, _, upd_same, h2.append w2⟩
          exact l.nx _ _ hk _ _ _ σV ((e1.trans e2).trans E2) c3.rep c3.rs
def setK {κ : Type} [DecidableEq κ] : List κ → List D → κ → D → List D
  | a :: ks, d :: ds, q, v => (if a = q then v else d) :: setK ks ds q v
  | _, ds, _, _ => ds
def putKs {κ : Type} [DecidableEq κ] (ks : List κ) (q : κ) : List κ := if ks.any (fun a => decide (a = q)) = true then ks else ks ++ [q]
def putDs {κ : Type} [DecidableEq κ] (ks : List κ) (ds : List D) (q : κ) (v : D) : List D := if ks.any (fun a => decide (a = q)) = true then setK ks ds q v else ds ++ [v]
def sDPutS (T : Bool) (to : DW) (ti t : DD) : DS := fun E σ st => t σ st (fun v st1 => to σ st1 (fun o st2 => ti σ st2 (fun i st3 => match o with
  | .loc n => (match st3[n]? with
    | some (.dct ks ds) => (match keyD i with
      | some q => ks.length ≤ 1000000 ∧ E.nx σ (st3.set n (.dct (putKs ks q) (putDs ks ds q v)))
      | none => False)
    | some (.dcT ks ds) => (match i with
      | .tup es => (match keysD es with
        | some q => T = true ∧ ks.length ≤ 1000000 ∧ E.nx σ (st3.set n (.dcT (putKs ks q) (putDs ks ds q v)))
        | none => False)
      | _ => False)
    | _ => False)
  | _ => False) (exE E σ)) (exE E σ)) (exE E σ)
theorem setK_ok {κ : Type} [DecidableEq κ] {M : Hp} {q : κ} {d : D} {v : V} (hd : Rp N M d v) : ∀ {kvs : List (κ × V)} {ds : List D}, Rps N M ds (kvs.map (·.2)) →
    Rps N M (setK (kvs.map (·.1)) ds q d) ((kvs.map fun kv => if kv.1 = q then (kv.1, v) else kv).map (·.2))
  | [], ds, h => h
  | (a, x) :: kvs, [], h => by have := h.length; simp at this
  | (a, x) :: kvs, d' :: ds, ⟨x', r, h1, h2, h3⟩ => by
    cases h1
    have g := setK_ok (q := q) hd h3
    by_cases z : a = q
    · simp only [List.map_cons, setK, if_pos z]
      exact ⟨v, _, rfl, hd, g⟩
    · simp only [List.map_cons, setK, if_neg z]
      exact ⟨x, _, rfl, h2, g⟩
theorem putK_ok {κ : Type} [DecidableEq κ] {M : Hp} {q : κ} {d : D} {v : V} (hd : Rp N M d v) {kvs : List (κ × V)} {ds : List D} (h : Rps N M ds (kvs.map (·.2))) :
    (putK kvs q v).map (·.1) = putKs (kvs.map (·.1)) q ∧ Rps N M (putDs (kvs.map (·.1)) ds q d) ((putK kvs q v).map (·.2)) := by
  have ea : ((kvs.map (·.1)).any fun a => decide (a = q)) = kvs.any fun kv => decide (kv.1 = q) := by rw [List.any_map]; rfl
  unfold putK putKs putDs
  rw [ea]
  split
  · refine ⟨?_, setK_ok hd h⟩
    rw [List.map_map]
    refine List.map_congr_left fun p _ => ?_
    show (if p.1 = q then (p.1, v) else p).1 = p.1
    split <;> rfl
  · rw [List.map_append, List.map_append]
    exact ⟨rfl, h.append ⟨v, [], rfl, hd, rfl⟩⟩
theorem s_dput {T : Bool} {to : DW} {ti t : DD} {pos' : Pos} (hu : X.A.units + 1 < cLine) (hT : T = true → N.b = false) (ho : PE X e1 (lW N Wx to)) (hi : PE X e2 (lD N Wx ti)) (hv : PE X e3 (lD N Wx t)) (hs : swapsWith e3 (some (.Subscript e1 e2 pos')) pos.line X.env = pure false := by rfl) :
    PS X (.Assign [.Subscript e1 e2 pos'] e3 pos) (lS N Wx (sDPutS T to ti t)) := PS.imp (ps_dput hu ho hi hv hs) fun D σV H h => by
  obtain ⟨M, ρ, σ, st, E, r, s, h, l⟩ := h
  refine Lf.of (l.kx r s) h fun v st1 hk1 vv M1 ρ1 H1 E1 c1 r1 => Lf.bin c1 hk1 fun o i st3 hk u y M3 ρ3 H3 E3 c3 r2 r3 => ?_
  have r1 := Rp.ext r1 E3
  obtain ⟨n, rfl⟩ : ∃ n, o = .loc n := by cases o <;> first | exact False.elim hk | exact ⟨_, rfl⟩
  obtain ⟨a, ha, rfl⟩ := r2
  cases hz : st3[n]? with
  | none => simp only [hz] at hk
  | some ob =>
    simp only [hz] at hk
    cases ob with
    | dct ks ds =>
      simp only at hk
      cases hq : keyD i with
      | none => simp only [hq] at hk
      | some q =>
        simp only [hq] at hk
        obtain ⟨hm, kvs, h1, h2, h3⟩ := c3.rep.ob n a _ ha hz
        subst h2
        obtain ⟨g1, g2⟩ := putK_ok (q := q) r1 h3
        obtain ⟨hl, hk⟩ := hk
        refine ⟨a, _, rfl, .inl ⟨kvs, q, h1, keyD_rp hq r3, ?_, rfl⟩, ?_⟩
        · rw [List.length_map] at hl; rw [sizeLine_eq]; omega
        · obtain ⟨E4, c4⟩ := c3.wr (o := .dct (putKs (kvs.map (·.1)) q) (putDs (kvs.map (·.1)) ds q v)) ha hm (u := .dK (putK kvs q vv)) ⟨hm, _, upd_same, g1, g2⟩
          exact l.nx _ _ hk _ _ _ σV (E1.trans (E3.trans E4)) c4.rep c4.rs
    | dcT ks ds =>
      simp only at hk
      cases i with
      | tup es =>
        simp only at hk
        cases hq : keysD es with
        | none => simp only [hq] at hk
        | some q =>
          simp only [hq] at hk
          obtain ⟨hT', hl, hk⟩ := hk
          obtain ⟨t, xs, rfl, w1, w2⟩ := r3
          have e := keysD_rp hq w2
          subst e
          have w1 : M3 t = some (.tup (q.map kV)) := w1.elim (fun z => z) fun z => by
            have := hT hT'
            rw [this] at z
            cases z.1
          obtain ⟨hm, kvs, h1, h2, h3⟩ := c3.rep.ob n a _ ha hz
          subst h2
          obtain ⟨g1, g2⟩ := putK_ok (q := q) r1 h3
          refine ⟨a, _, rfl, .inr ⟨kvs, q, t, h1, rfl, c3.rep.sub.tup1 w1, ?_, rfl⟩, ?_⟩
          · rw [List.length_map] at hl; rw [sizeLine_eq]; omega
          · obtain ⟨E4, c4⟩ := c3.wr (o := .dcT (putKs (kvs.map (·.1)) q) (putDs (kvs.map (·.1)) ds q v)) ha hm (u := .dT (putK kvs q vv)) ⟨hm, _, upd_same, g1, g2⟩
            exact l.nx _ _ hk _ _ _ σV (E1.trans (E3.trans E4)) c4.rep c4.rs
      | _ => exact False.elim hk
    | _ => exact False.elim hk
end
end Dl
end

section
set_option maxHeartbeats 4000000
namespace Dl
open PySem PySem.Spec PyProof.Rows L2 Co
abbrev Pf := List W → Sto → (W → Sto → Prop) → DX → Prop
def idx (n : Nat) : List Nat → Option Nat
  | [] => none
  | m :: r => if m = n then some 0 else (idx n r).map (· + 1)
def wl : W → List Nat
  | .loc n => [n]
  | _ => []
def addN (l : List Nat) : List Nat → List Nat
  | [] => l
  | n :: r => match idx n l with
    | some _ => addN l r
    | none => addN (l ++ [n]) r
def locsO (st : Sto) (n : Nat) : List Nat := match st[n]? with
  | some (.ins _ fs) => fs.flatMap fun p => wl p.2
  | _ => []
def reach1 (st : Sto) (l : List Nat) : List Nat := addN l (l.flatMap (locsO st))
def reach (st : Sto) (ws : List W) : List Nat := match addN [] (ws.flatMap wl) with
  | [] => []
  | l => reach1 st (reach1 st (reach1 st l))
def ren (ls : List Nat) : W → W
  | .loc n => (match idx n ls with
    | some j => .loc j
    | none => .dead)
  | w => w
def renO (ls : List Nat) : Ob → Ob
  | .ins C fs => .ins C (fs.map fun p => (p.1, ren ls p.2))
  | o => o
def subS (st : Sto) : List Nat → List Nat → Sto
  | _, [] => []
  | ls, n :: r => (match st[n]? with
    | some o => renO ls o
    | none => .gone) :: subS st ls r
def unW (ls : List Nat) (n0 : Nat) : W → W
  | .loc j => (match ls[j]? with
    | some n => .loc n
    | none => .loc (n0 + (j - ls.length)))
  | w => w
def unO (ls : List Nat) (n0 : Nat) : Ob → Ob
  | .ins C fs => .ins C (fs.map fun p => (p.1, unW ls n0 p.2))
  | o => o
def backO (ls : List Nat) (n0 : Nat) (st2 : Sto) : Nat → Sto → Sto
  | _, [] => []
  | i, o :: r => (match idx i ls with
    | some j => (match st2[j]? with
      | some o2 => unO ls n0 o2
      | none => .gone)
    | none => o) :: backO ls n0 st2 (i + 1) r
def back (ls : List Nat) (st st2 : Sto) : Sto := match ls, st2 with
  | [], [] => st
  | ls, st2 => backO ls st.length st2 0 st ++ (st2.drop ls.length).map (unO ls st.length)
def lsOk (ls : List Nat) (n : Nat) : Bool := ls.all fun i => decide (i < n)
structure callD (f : Pf) (ls : List Nat) (ws : List W) (st : Sto) (k : W → Sto → Prop) (ex : DX) : Prop where
  ok : lsOk ls st.length = true
  run : f (ws.map (ren ls)) (subS st ls ls) (fun w st2 => k (unW ls st.length w) (back ls st st2)) (fun c fs st2 => ex c fs (back ls st st2))
def dCall (f : Pf) (ta : DA) : DW := fun σ st k ex => ta σ st (fun ws st1 => callD f (reach st1 ws) ws st1 k ex) ex
def dNew (C : Str) (f : Pf) (ta : DA) : DW := fun σ st k ex => ta σ st (fun ws st1 => match st1.length, st1 ++ [Ob.ins C []] with
  | n, st2 => callD f (reach st2 (.loc n :: ws)) (.loc n :: ws) st2 (fun w st3 => (match w with
    | .im .non => k (.loc n) st3
    | _ => False)) ex) ex
def clsW (C m : Str) (w : W) (st : Sto) : Prop := match w with
  | .im (.ins C' ns ds) => C' = C ∧ getK ns ds m = none
  | .loc n => (match st[n]? with
    | some (.ins C' fs) => C' = C ∧ fs.lookup m = none
    | some (.fz (.ins C' ns ds)) => C' = C ∧ getK ns ds m = none
    | _ => False)
  | _ => False
def dMeth (C m : Str) (f : Pf) (to : DW) (ta : DA) : DW := fun σ st k ex => to σ st (fun o st1 => clsW C m o st1 ∧ ta σ st1 (fun ws st2 => callD f (reach st2 (o :: ws)) (o :: ws) st2 k ex) ex) ex
def spD (N : Kn) (f : Pf) : Sp := fun vs H Q E => ∃ M ρ ws st k ex, Rep N M ρ st H ∧ Rws N M ρ ws vs ∧ f ws st k ex ∧
  (∀ w st', k w st' → ∀ v M' ρ' H', Ext M ρ H M' ρ' H' → Rep N M' ρ' st' H' → Rw N M' ρ' w v → Q v H') ∧
  (∀ c fs st', ex c fs st' → ∀ o M' ρ' H', Ext M ρ H M' ρ' H' → Rep N M' ρ' st' H' → ErrOwn N M' o fs → E (.ref (He.ga N.K c)) o H')
section
variable {N : Kn} {Wx : WX} {M H M' H' : Hp} {ρ ρ' : List Addr} {σ : Sl} {st : Sto} {σV : L2.St}
theorem idx_get : ∀ {ls : List Nat} {n j : Nat}, idx n ls = some j → ls[j]? = some n
  | [], _, _, e => by cases e
  | m :: r, n, j, e => by
    unfold idx at e
    split at e
    · rename_i h
      cases e
      rw [h]
      rfl
    · cases z : idx n r with
      | none => rw [z] at e; cases e
      | some i =>
        rw [z] at e
        cases e
        simpa using idx_get z
theorem idx_none : ∀ {ls : List Nat} {n : Nat}, idx n ls = none → n ∉ ls
  | [], _, _, h => by cases h
  | m :: r, n, e, h => by
    unfold idx at e
    split at e
    · cases e
    · rename_i hm
      rcases List.mem_cons.mp h with h | h
      · exact hm h.symm
      · refine idx_none ?_ h
        cases z : idx n r with
        | none => rfl
        | some i => rw [z] at e; cases e
def pickA (ρ : List Addr) (ls : List Nat) : List Addr := ls.map fun n => ρ.getD n 0
theorem pick_get {ls : List Nat} (hl : lsOk ls ρ.length = true) {j n : Nat} (h : ls[j]? = some n) : (pickA ρ ls)[j]? = ρ[n]? ∧ n < ρ.length := by
  have hm := List.mem_of_getElem? h
  have := of_decide_eq_true (List.all_eq_true.mp hl n hm)
  refine ⟨?_, this⟩
  unfold pickA
  rw [List.getElem?_map, h]
  simp [List.getD, this]
theorem ren_ok {ls : List Nat} (hl : lsOk ls ρ.length = true) {w : W} {v : V} (h : Rw N M ρ w v) : Rw N M (pickA ρ ls) (ren ls w) v := by
  cases w with
  | im d => exact h
  | dead => exact h
  | loc n =>
    obtain ⟨a, ha, rfl⟩ := h
    cases z : idx n ls with
    | none => simp only [ren, z]; trivial
    | some j => simp only [ren, z]; exact ⟨a, by rw [(pick_get hl (idx_get z)).1]; exact ha, rfl⟩
theorem rens_ok {ls : List Nat} (hl : lsOk ls ρ.length = true) : ∀ {ws : List W} {vs : List V}, Rws N M ρ ws vs → Rws N M (pickA ρ ls) (ws.map (ren ls)) vs
  | [], _, h => h
  | _ :: _, _, ⟨x, r, h1, h2, h3⟩ => ⟨x, r, h1, ren_ok hl h2, rens_ok hl h3⟩
theorem renO_ok {ls : List Nat} (hl : lsOk ls ρ.length = true) {o : Ob} {a : Addr} (h : RO N M ρ H o a) : RO N M (pickA ρ ls) H (renO ls o) a := by
  cases o with
  | ins C fs =>
    obtain ⟨hm, dx, fxs, h1, h2, h3⟩ := h
    refine ⟨hm, dx, fxs, h1, ?_, ?_⟩
    · rw [h2, List.map_map]; rfl
    · have := rens_ok hl h3
      rw [List.map_map] at this ⊢
      exact this
  | _ => exact h
theorem subS_get (st : Sto) (ls0 : List Nat) : ∀ (ls : List Nat) (j : Nat), (subS st ls0 ls)[j]? = ls[j]?.map fun n => match st[n]? with
    | some o => renO ls0 o
    | none => .gone
  | [], j => by simp [subS]
  | n :: r, 0 => by simp [subS]
  | n :: r, j + 1 => by simpa [subS] using subS_get st ls0 r j
theorem subS_len (st : Sto) (ls0 : List Nat) : ∀ ls : List Nat, (subS st ls0 ls).length = ls.length
  | [] => rfl
  | n :: r => by simp [subS, subS_len st ls0 r]
theorem nodup_addN : ∀ (r l : List Nat), l.Nodup → (addN l r).Nodup
  | [], l, h => h
  | n :: r, l, h => by
    unfold addN
    cases z : idx n l with
    | some j => exact nodup_addN r l h
    | none =>
      refine nodup_addN r _ ?_
      rw [List.nodup_append]
      refine ⟨h, by simp, fun a ha b hb e => ?_⟩
      rw [List.mem_singleton] at hb
      subst hb
      subst e
      exact idx_none z ha
theorem nodup_reach (st : Sto) (ws : List W) : (reach st ws).Nodup := by
  unfold reach
  split
  · exact List.nodup_nil
  · exact nodup_addN _ _ (nodup_addN _ _ (nodup_addN _ _ (nodup_addN _ _ List.nodup_nil)))
theorem nodup_get : ∀ {ls : List Nat} {i j n : Nat}, ls.Nodup → ls[i]? = some n → ls[j]? = some n → i = j := by
  intro ls i j n h h1 h2
  have hi := (List.getElem?_eq_some_iff.mp h1)
  have hj := (List.getElem?_eq_some_iff.mp h2)
  obtain ⟨a, ha⟩ := hi
  obtain ⟨b, hb⟩ := hj
  exact (List.getElem_inj h).mp (ha.trans hb.symm)
theorem Rep.pick {ls : List Nat} (r : Rep N M ρ st H) (hl : lsOk ls st.length = true) (nd : ls.Nodup) : Rep N M (pickA ρ ls) (subS st ls ls) H := by
  rw [← r.len] at hl
  refine ⟨r.sub, by rw [subS_len]; simp [pickA], fun i j a h1 h2 => ?_, fun i a o h1 h2 => ?_⟩
  · have hi : i < ls.length := by have := (List.getElem?_eq_some_iff.mp h1).1; simpa [pickA] using this
    have hj : j < ls.length := by have := (List.getElem?_eq_some_iff.mp h2).1; simpa [pickA] using this
    have e1 : ls[i]? = some ls[i] := by simp [hi]
    have e2 : ls[j]? = some ls[j] := by simp [hj]
    rw [(pick_get hl e1).1] at h1
    rw [(pick_get hl e2).1] at h2
    have := r.inj _ _ _ h1 h2
    exact nodup_get nd e1 (by rw [this]; exact e2)
  · have hi : i < ls.length := by have := (List.getElem?_eq_some_iff.mp h1).1; simpa [pickA] using this
    have e1 : ls[i]? = some ls[i] := by simp [hi]
    rw [(pick_get hl e1).1] at h1
    rw [subS_get, e1] at h2
    obtain ⟨o', h3, h4⟩ := r.at_ h1
    simp only [Option.map_some, h3, Option.some.injEq] at h2
    subst h2
    exact renO_ok hl h4
theorem backO_get (ls : List Nat) (n0 : Nat) (st2 : Sto) : ∀ (st : Sto) (i k : Nat), (backO ls n0 st2 i st)[k]? = st[k]?.map fun o => match idx (i + k) ls with
    | some j => (match st2[j]? with
      | some o2 => unO ls n0 o2
      | none => .gone)
    | none => o
  | [], i, k => by simp [backO]
  | o :: r, i, 0 => by simp [backO]
  | o :: r, i, k + 1 => by
    have := backO_get ls n0 st2 r (i + 1) k
    rw [show i + 1 + k = i + (k + 1) by omega] at this
    simpa [backO] using this
theorem backO_len (ls : List Nat) (n0 : Nat) (st2 : Sto) : ∀ (st : Sto) (i : Nat), (backO ls n0 st2 i st).length = st.length
  | [], i => rfl
  | o :: r, i => by simp [backO, backO_len ls n0 st2 r (i + 1)]
theorem back_eq (ls : List Nat) (st st2 : Sto) : back ls st st2 = backO ls st.length st2 0 st ++ (st2.drop ls.length).map (unO ls st.length) := by
  unfold back
  split
  · have : ∀ (s : Sto) (i : Nat), backO [] st.length [] i s = s := by
      intro s
      induction s with
      | nil => intro i; rfl
      | cons o r ih => intro i; simp [backO, idx, ih]
    rw [this]
    simp
  · rfl
theorem Rep.back {ls : List Nat} {st2 : Sto} {ρc : List Addr} (r : Rep N M ρ st H) (hl : lsOk ls st.length = true) (nd : ls.Nodup) (e : Ext M (pickA ρ ls) H M' ρc H') (r2 : Rep N M' ρc st2 H') :
    ∃ ρ', Ext M ρ H M' ρ' H' ∧ Rep N M' ρ' (Dl.back ls st st2) H' ∧ ∀ w v, Rw N M' ρc w v → Rw N M' ρ' (unW ls st.length w) v := by
  have hl' := hl
  rw [← r.len] at hl
  obtain ⟨mm, ⟨q, rfl⟩, fr, nw, rn⟩ := e
  have sub : ∀ a ∈ pickA ρ ls, a ∈ ρ := fun a ha => by
    obtain ⟨j, hj⟩ := List.getElem?_of_mem ha
    have hi : j < ls.length := by have := (List.getElem?_eq_some_iff.mp hj).1; simpa [pickA] using this
    have e1 : ls[j]? = some ls[j] := by simp [hi]
    rw [(pick_get hl e1).1] at hj
    exact List.mem_of_getElem? hj
  have plen : (pickA ρ ls).length = ls.length := by simp [pickA]
  have newq : ∀ (i : Nat) a, q[i]? = some a → H a = none := fun i a ha => by
    rcases rn a (List.mem_append_right _ (List.mem_of_getElem? ha)) with h | h
    · obtain ⟨j, hj⟩ := List.getElem?_of_mem h
      have hj' := (List.getElem?_eq_some_iff.mp hj).1
      have h1 : (pickA ρ ls ++ q)[j]? = some a := by rw [List.getElem?_append_left hj']; exact hj
      have h2 : (pickA ρ ls ++ q)[(pickA ρ ls).length + i]? = some a := by rw [List.getElem?_append_right (by omega)]; simpa using ha
      have := r2.inj _ _ _ h1 h2
      omega
    · exact h
  have hun : ∀ w v, Rw N M' (pickA ρ ls ++ q) w v → Rw N M' (ρ ++ q) (unW ls st.length w) v := fun w v h => by
    cases w with
    | im d => exact h
    | dead => exact h
    | loc j =>
      obtain ⟨a, ha, rfl⟩ := h
      cases z : ls[j]? with
      | some n =>
        simp only [unW, z]
        have hj := (List.getElem?_eq_some_iff.mp z).1
        rw [List.getElem?_append_left (by omega), (pick_get hl z).1] at ha
        exact ⟨a, by rw [List.getElem?_append_left (List.getElem?_eq_some_iff.mp ha).1]; exact ha, rfl⟩
      | none =>
        simp only [unW, z]
        have hj : ls.length ≤ j := List.getElem?_eq_none_iff.mp z
        rw [List.getElem?_append_right (by omega), plen] at ha
        exact ⟨a, by rw [← r.len, List.getElem?_append_right (by omega)]; simpa using ha, rfl⟩
  have hunO : ∀ o a, RO N M' (pickA ρ ls ++ q) H' o a → RO N M' (ρ ++ q) H' (unO ls st.length o) a := fun o a h => by
    cases o with
    | ins C fs =>
      obtain ⟨hm, dx, fxs, h1, h2, h3⟩ := h
      refine ⟨hm, dx, fxs, h1, by rw [h2, List.map_map]; rfl, ?_⟩
      have go : ∀ (ws : List W) (vs : List V), Rws N M' (pickA ρ ls ++ q) ws vs → Rws N M' (ρ ++ q) (ws.map (unW ls st.length)) vs := by
        intro ws
        induction ws with
        | nil => intro vs h; exact h
        | cons w ws ih =>
          rintro vs ⟨x, r, h1, h2, h3⟩
          exact ⟨x, r, h1, hun _ _ h2, ih _ h3⟩
      have := go _ _ h3
      rw [List.map_map] at this ⊢
      exact this
    | _ => exact h
  refine ⟨ρ ++ q, ⟨mm, ⟨q, rfl⟩, fun b o h1 h2 => fr b o h1 fun z => h2 (sub b z), fun a h => ?_, fun a h => ?_⟩, ?_, hun⟩
  · rcases nw a h with h | h | h
    · exact .inl h
    · exact .inr (.inl h)
    · exact .inr (.inr (sub a h))
  · rcases List.mem_append.mp h with h | h
    · exact .inl h
    · obtain ⟨i, hi⟩ := List.getElem?_of_mem h
      exact .inr (newq i a hi)
  · have len2 : st2.length = ls.length + q.length := by rw [← r2.len, List.length_append, plen]
    refine ⟨r2.sub, ?_, fun i j a h1 h2 => ?_, fun i a o h1 h2 => ?_⟩
    · rw [back_eq, List.length_append, List.length_append, backO_len, List.length_map, List.length_drop, r.len, len2]
      omega
    · by_cases hi : i < ρ.length <;> by_cases hj : j < ρ.length
      · rw [List.getElem?_append_left hi] at h1
        rw [List.getElem?_append_left hj] at h2
        exact r.inj _ _ _ h1 h2
      · rw [List.getElem?_append_left hi] at h1
        rw [List.getElem?_append_right (by omega)] at h2
        exact absurd (newq _ _ h2) (r.mem (List.mem_of_getElem? h1))
      · rw [List.getElem?_append_right (by omega)] at h1
        rw [List.getElem?_append_left hj] at h2
        exact absurd (newq _ _ h1) (r.mem (List.mem_of_getElem? h2))
      · rw [List.getElem?_append_right (by omega)] at h1 h2
        have g1 : (pickA ρ ls ++ q)[(pickA ρ ls).length + (i - ρ.length)]? = some a := by rw [List.getElem?_append_right (by omega)]; simpa using h1
        have g2 : (pickA ρ ls ++ q)[(pickA ρ ls).length + (j - ρ.length)]? = some a := by rw [List.getElem?_append_right (by omega)]; simpa using h2
        have := r2.inj _ _ _ g1 g2
        omega
    · rw [back_eq] at h2
      by_cases hi : i < ρ.length
      · rw [List.getElem?_append_left hi] at h1
        rw [List.getElem?_append_left (by rw [backO_len, ← r.len]; exact hi), backO_get, Nat.zero_add] at h2
        obtain ⟨o0, h3, h4⟩ := r.at_ h1
        rw [h3, Option.map_some] at h2
        cases z : idx i ls with
        | some j =>
          simp only [z] at h2
          have hj := idx_get z
          have hjl := (List.getElem?_eq_some_iff.mp hj).1
          have g1 : (pickA ρ ls ++ q)[j]? = some a := by
            rw [List.getElem?_append_left (by omega), (pick_get hl hj).1]
            exact h1
          obtain ⟨o2, h5, h6⟩ := r2.at_ g1
          simp only [h5, Option.some.injEq] at h2
          subst h2
          exact hunO _ _ h6
        | none =>
          simp only [z, Option.some.injEq] at h2
          subst h2
          have hna : a ∉ pickA ρ ls := fun w => by
            obtain ⟨j, hj⟩ := List.getElem?_of_mem w
            have hjl : j < ls.length := by have := (List.getElem?_eq_some_iff.mp hj).1; simpa [pickA] using this
            have e1 : ls[j]? = some ls[j] := by simp [hjl]
            rw [(pick_get hl e1).1] at hj
            have := r.inj _ _ _ h1 hj
            exact idx_none z (by rw [this]; exact List.getElem_mem hjl)
          refine h4.mono mm ⟨q, rfl⟩ (fun hm => ?_) fun u hu => fr a u hu hna
          cases hz : M' a with
          | none => rfl
          | some u =>
            rcases nw a (by rw [hz]; exact fun w => nomatch w) with w | w | w
            · exact absurd hm w
            · exact absurd w h4.there
            · exact absurd w hna
      · rw [List.getElem?_append_right (by omega)] at h1
        rw [List.getElem?_append_right (by rw [backO_len, ← r.len]; omega), backO_len, List.getElem?_map, List.getElem?_drop] at h2
        have g1 : (pickA ρ ls ++ q)[ls.length + (i - ρ.length)]? = some a := by rw [List.getElem?_append_right (by omega), plen]; simpa using h1
        obtain ⟨o2, h5, h6⟩ := r2.at_ g1
        rw [show i - st.length = i - ρ.length by rw [r.len], h5, Option.map_some, Option.some.injEq] at h2
        subst h2
        exact hunO _ _ h6
end
end Dl
end

section
set_option maxHeartbeats 4000000
namespace Dl
open PySem PySem.Spec PyProof.Rows L2 Co
section
variable {X : Cx} {b : Bool} {Wx : WX} {e e1 e2 e3 : Expr} {es : List Expr} {pos p apos : Pos} {N : Kn} {x m : Str} {k : Nat} {f C : Addr} {ps : List Str} {pf : Pf} {M H M' H' : Hp} {ρ ρ' : List Addr} {σ : Sl} {st : Sto} {σV : L2.St} {ex : DX}
theorem callD_ok {ls : List Nat} {ws : List W} {vs : List V} {kd : W → Sto → Prop} {Q : VK} (nd : ls.Nodup) (c : Kx N Wx M ρ σ st H σV ex) (h : callD pf ls ws st kd ex) (r : Rws N M ρ ws vs)
    (q : ∀ w st', kd w st' → ∀ v M' ρ' H', Ext M ρ H M' ρ' H' → Kx N Wx M' ρ' σ st' H' σV ex → Rw N M' ρ' w v → Q v H') : spD N pf vs H Q (WE Wx σV) := by
  obtain ⟨hl, hf⟩ := h
  have hl2 := hl
  rw [← c.rep.len] at hl2
  refine ⟨M, pickA ρ ls, ws.map (ren ls), subS st ls ls, _, _, c.rep.pick hl nd, rens_ok hl2 r, hf, fun w st2 hk v M2 ρ2 H2 e2 r2 rv => ?_, fun c' fs st2 hk o M2 ρ2 H2 e2 r2 eo => ?_⟩
  · obtain ⟨ρ', E', R', un⟩ := c.rep.back hl nd e2 r2
    exact q _ _ hk v M2 ρ' H2 E' (c.step E' R') (un _ _ rv)
  · obtain ⟨ρ', E', R', _⟩ := c.rep.back hl nd e2 r2
    exact c.xl _ _ _ hk o M2 ρ' H2 E' R' eo
theorem e_call {ta : DA} (d : Def X.prog X.w X.K X.mg X.base k f ps (spD N pf)) (hr : Room k X.A) (hg : Gl X x) (hm : X.mg x = some (.ref f)) (tk : ∀ σ, PassesAt (L2.CX X.prog X.w) X σ (WE Wx σ)) (ha : PA X (e :: es) (lA N Wx ta)) (hdb : (x == ("__debug__" : Str)) = false := by decide)
    (he : starEach (e :: es) X.env = (false, eval e X.env) :: starEach es X.env := by rfl) (hpl : (backTo pos (starEach es X.env)).any (·.1) = false := by rfl) : PE X (.Call (.Name x p) (e :: es) [] pos) (lW N Wx (dCall pf ta)) := PE.imp (e_callS d hr hg hm tk ha hdb he hpl) fun σV H Q h => by
  obtain ⟨M, ρ, σ, st, k, ex, c, ht, q⟩ := Kx.open_ h
  exact Lf.of c ht fun ws st' hk vs M1 ρ1 H1 E1 c1 r1 => callD_ok (nodup_reach _ _) c1 hk r1 fun w st2 hk2 v M2 ρ2 H2 E2 c2 r2 => q _ _ hk2 v M2 ρ2 H2 (E1.trans E2) c2 r2
theorem getK_none {M : Hp} : ∀ {fs : List (Str × V)} {ds : List D} {f : Str}, Rps N M ds (fs.map (·.2)) → getK (fs.map (·.1)) ds f = none → fs.lookup f = none
  | [], _, _, _, _ => rfl
  | (a, v) :: fs, [], f, h, e => by have := h.length; simp at this
  | (a, v) :: fs, d' :: ds, f, ⟨x, r, h1, h2, h3⟩, e => by
    cases h1
    by_cases z : a = f
    · simp only [List.map_cons, getK, if_pos z] at e; cases e
    · simp only [List.map_cons, getK, if_neg z] at e
      rw [List.lookup_cons, show (f == a) = false from beq_eq_false_iff_ne.mpr fun w => z w.symm]
      exact getK_none h3 e
theorem lookup_none : ∀ {fs : List (Str × V)} {gs : List (Str × W)} {f : Str}, fs.map (·.1) = gs.map (·.1) → gs.lookup f = none → fs.lookup f = none
  | [], [], _, _, _ => rfl
  | [], _ :: _, _, e, _ => by cases e
  | _ :: _, [], _, e, _ => by cases e
  | (a, v) :: fs, (a', w) :: gs, f, e0, e => by
    rw [List.map_cons, List.map_cons, List.cons.injEq] at e0
    obtain ⟨e1, e2⟩ := e0
    have e1 : a = a' := e1
    subst e1
    rw [List.lookup_cons] at e ⊢
    cases z : f == a with
    | true => rw [z] at e; cases e
    | false => rw [z] at e; exact lookup_none e2 e
theorem cls_ok {C m : Str} {o : W} {u : V} (r : Rep N M ρ st H) (h : clsW C m o st) (ro : Rw N M ρ o u) : ∃ a dx fs, u = .ref a ∧ H a = some (.ins (He.ga N.K C) dx fs) ∧ fs.lookup m = none := by
  have im : ∀ {C' : Str} {ns : List Str} {ds : List D} {v : V}, Rp N M (.ins C' ns ds) v → (C' = C ∧ getK ns ds m = none) → ∃ a dx fs, v = .ref a ∧ H a = some (.ins (He.ga N.K C) dx fs) ∧ fs.lookup m = none := by
    rintro C' ns ds v ⟨p, dx, fs, rfl, h1, h2, h3⟩ ⟨rfl, h4⟩
    subst h2
    exact ⟨p, dx, fs, rfl, r.sub.ins h1, getK_none h3 h4⟩
  cases o with
  | dead => exact False.elim h
  | im d => cases d <;> try exact False.elim h
            exact im ro h
  | loc n =>
    obtain ⟨a, ha, rfl⟩ := ro
    cases ho : st[n]? with
    | none => simp only [clsW, ho] at h
    | some ob =>
      simp only [clsW, ho] at h
      have q := r.ob n a _ ha ho
      cases ob <;> try exact False.elim h
      · rename_i C' fs
        obtain ⟨rfl, h⟩ := h
        obtain ⟨hm, dx, fxs, h1, h2, h3⟩ := q
        exact ⟨a, dx, fxs, rfl, h1, lookup_none h2 h⟩
      · rename_i d
        cases d <;> try exact False.elim h
        exact im q.1 h
theorem e_meth {C : Str} {pl : Sem Bool} {to : DW} {ta : DA} (he : PE X e1 (lW (XN X b) Wx to)) (c : Cls X.K (He.ga X.K C)) (hm : Meth X.K (He.ga X.K C) m f) (d : Def X.prog X.w X.K X.mg X.base k f ps (spD (XN X b) pf)) (hr : Room k X.A) (tk : ∀ σ, PassesAt (L2.CX X.prog X.w) X σ (WE Wx σ)) (ha : PA X (e :: es) (lA (XN X b) Wx ta))
    (hst : starEach (e :: es) X.env = (false, eval e X.env) :: starEach es X.env := by rfl) (hpl : (backTo pos (starEach es X.env)).any (·.1) = false := by rfl)
    (ht : eval (.Call (.Attribute e1 m apos) (e :: es) [] pos) X.env = (do
      let ov ← eval e1 X.env
      standAt apos.atName
      let (f, first) ← holding [ov] (getMethod ov m pl)
      callWith pos f first (backTo pos (starEach (e :: es) X.env)) (backToKw pos (keywordEach [] X.env))) := by rfl) :
    PE X (.Call (.Attribute e1 m apos) (e :: es) [] pos) (lW (XN X b) Wx (dMeth C m pf to ta)) := PE.imp (Co.e_meth he c hm d hr tk ha hst hpl ht) fun σV H Q h => by
  obtain ⟨M, ρ, σ, st, k, ex, c, ht, q⟩ := Kx.open_ h
  refine Lf.of c ht fun o st1 hk u M1 ρ1 H1 E1 c1 ro => ?_
  obtain ⟨a, dx, fs, rfl, h1, h2⟩ := cls_ok c1.rep hk.1 ro
  refine ⟨a, dx, fs, rfl, h1, h2, Lf.of c1 hk.2 fun ws st2 hk2 vs M2 ρ2 H2 E2 c2 r2 => ?_⟩
  exact callD_ok (nodup_reach _ _) c2 hk2 ⟨_, _, rfl, Rw.ext ro E2, r2⟩ fun w st3 hk3 v M3 ρ3 H3 E3 c3 r3 => q _ _ hk3 v M3 ρ3 H3 (E1.trans (E2.trans E3)) c3 r3
theorem e_meth0 {C : Str} {pl : Sem Bool} {to : DW} (he : PE X e1 (lW (XN X b) Wx to)) (c : Cls X.K (He.ga X.K C)) (hm : Meth X.K (He.ga X.K C) m f) (d : Def X.prog X.w X.K X.mg X.base k f ps (spD (XN X b) pf)) (hr : Room k X.A) (tk : ∀ σ, PassesAt (L2.CX X.prog X.w) X σ (WE Wx σ))
    (ht : eval (.Call (.Attribute e1 m apos) [] [] pos) X.env = (do
      let ov ← eval e1 X.env
      standAt apos.atName
      let (f, first) ← holding [ov] (getMethod ov m pl)
      callWith pos f first (backTo pos (starEach [] X.env)) (backToKw pos (keywordEach [] X.env))) := by rfl) :
    PE X (.Call (.Attribute e1 m apos) [] [] pos) (lW (XN X b) Wx (dMeth C m pf to aNil)) := PE.imp (Co.e_meth0 he c hm d hr tk ht) fun σV H Q h => by
  obtain ⟨M, ρ, σ, st, k, ex, c, ht, q⟩ := Kx.open_ h
  refine Lf.of c ht fun o st1 hk u M1 ρ1 H1 E1 c1 ro => ?_
  obtain ⟨a, dx, fs, rfl, h1, h2⟩ := cls_ok c1.rep hk.1 ro
  refine ⟨a, dx, fs, rfl, h1, h2, ?_⟩
  exact callD_ok (nodup_reach _ _) c1 hk.2 ⟨_, [], rfl, ro, rfl⟩ fun w st3 hk3 v M3 ρ3 H3 E3 c3 r3 => q _ _ hk3 v M3 ρ3 H3 (E1.trans E3) c3 r3
theorem run_makeS {CX : CXT} {fd : FuncData} {sp : Sp} {E : L2.St → XK} {pins : List (Addr × Obj)} {s : Shared} {Q : VK} {us : List Value} {vs : List V} {C f : Addr} (Mk' : Mk X.K C f) (F : FnOk X.prog X.w X.K X.mg X.base CX k f fd ps sp) (hr : Room (k + 1) X.A) (hb : Binds X.K fd ps [])
    (hx : PassesAt CX X σV (E σV)) (I : Inv X pins σV H s) (r : Vals vs us)
    (h : ∀ x dx, H x = none → H dx = none → dx ≠ x → sp (.ref x :: vs) (upd (upd H dx (.own x)) x (.ins C dx [])) (fun v H2 => v = .non ∧ Q (.ref x) H2) (E σV)) :
    wpAny (model X.prog X.w) X.A (call (.ref C) us) (EP X pins σV Q) X.xe s := by
  have hq := h (s.heap.objs.size + 1) s.heap.objs.size (I.hok.fresh (Nat.le_succ _)) (I.hok.fresh (Nat.le_refl _)) (Nat.ne_of_lt (Nat.lt_succ_self _))
  have I2 := Inv.made (C := C) I
  have r2 : Vals (V.ref (s.heap.objs.size + 1) :: (vs ++ [])) (Value.ref (s.heap.objs.size + 1) :: (us ++ [])) := .cons rfl (r.append .nil)
  have hl : (Value.ref (s.heap.objs.size + 1) :: us ++ []).length = ps.length := by
    have e := r2.length
    rw [List.append_nil, F.len _ _ _ _ hq] at e
    exact e.symm
  rw [List.append_nil] at r2
  have b := hb _ (Value.ref (s.heap.objs.size + 1) :: us) I2.kIn hl
  rw [List.append_nil] at r2 b
  refine wpAny_call (make_map (f := f) I.kIn Mk'.makes Mk'.init (beq_iff_eq.mp Mk'.fn) (codeAny_mono (F.run _ X.stack _ _ ⟨Value.ref (s.heap.objs.size + 1) :: us, []⟩ (Value.ref (s.heap.objs.size + 1) :: us) _ _ (E σV) (hr.make C us [])
    (I2.env0.make C us []) b r2 hq) fun r s' hq' => ?_))
  cases r with
  | error e => exact hx pins _ _ e s' I2 hq'
  | ok fl =>
    cases fl with
    | ret u =>
      obtain ⟨v, H', I3, rv, ev, q3⟩ := I2.after hq'
      subst ev
      exact ⟨rv, ⟨V.ref (s.heap.objs.size + 1), H', I3, rfl, q3⟩⟩
    | next => exact False.elim hq'
    | brk => exact False.elim hq'
    | cont => exact False.elim hq'
def uMakeS (C : Addr) (sp : Sp) (E : L2.St → XK) (t : TA) : TE := fun σ H Q => t σ H fun vs H1 => ∀ x dx, H1 x = none → H1 dx = none → dx ≠ x →
  sp (.ref x :: vs) (upd (upd H1 dx (.own x)) x (.ins C dx [])) (fun v H2 => v = .non ∧ Q (.ref x) H2) (E σ)
theorem e_makeS {sp : Sp} {E : L2.St → XK} {t : TA} (Mk' : Mk X.K C f) (d : Def X.prog X.w X.K X.mg X.base k f ps sp) (hr : Room (k + 1) X.A) (hg : Gl X x) (hm : X.mg x = some (.ref C)) (hx : ∀ σ, PassesAt (L2.CX X.prog X.w) X σ (E σ)) (ha : PA X (e :: es) t) (hdb : (x == ("__debug__" : Str)) = false := by decide)
    (he : starEach (e :: es) X.env = (false, eval e X.env) :: starEach es X.env := by rfl) (hpl : (backTo pos (starEach es X.env)).any (·.1) = false := by rfl) : PE X (.Call (.Name x p) (e :: es) [] pos) (uMakeS C sp E t) := by
  obtain ⟨fd, F, b⟩ := d.ex
  refine ⟨fun pins s σ H Q I h => ?_⟩
  refine wpAny_Call_Name_kw (ld_glob I hg hm ?_ hdb)
  exact PySem.W.callWith_K (h₀ := X.base) I.ok.mod.kin Mk'.kp (thn (ha.run pos pins s σ H _ I h) fun us s1 ⟨vs, H1, I1, r, q⟩ => ⟨I1.kIn, run_makeS Mk' F hr b (hx σ) I1 r q⟩) he hpl
theorem e_makeS0 {sp : Sp} {E : L2.St → XK} (Mk' : Mk X.K C f) (d : Def X.prog X.w X.K X.mg X.base k f ps sp) (hr : Room (k + 1) X.A) (hg : Gl X x) (hm : X.mg x = some (.ref C)) (hx : ∀ σ, PassesAt (L2.CX X.prog X.w) X σ (E σ)) (hdb : (x == ("__debug__" : Str)) = false := by decide) : PE X (.Call (.Name x p) [] [] pos) (uMakeS C sp E tNil) := by
  obtain ⟨fd, F, b⟩ := d.ex
  refine ⟨fun pins s σ H Q I h => ?_⟩
  refine wpAny_Call_Name_kw (ld_glob I hg hm ?_ hdb)
  exact PySem.W.callWith_K0 I.kIn Mk'.kp (run_makeS (us := []) Mk' F hr b (hx σ) I .nil h)
theorem new_ok {C : Str} {ws : List W} {vs : List V} {kd : W → Sto → Prop} {Q : VK} (c : Kx N Wx M ρ σ st H σV ex)
    (h : (match st.length, st ++ [Ob.ins C []] with
      | n, st2 => callD pf (reach st2 (.loc n :: ws)) (.loc n :: ws) st2 (fun w st3 => (match w with
        | .im .non => kd (.loc n) st3
        | _ => False)) ex)) (r : Rws N M ρ ws vs)
    (q : ∀ w st', kd w st' → ∀ v M' ρ' H', Ext M ρ H M' ρ' H' → Kx N Wx M' ρ' σ st' H' σV ex → Rw N M' ρ' w v → Q v H') {xa dx : Addr} (h1 : H xa = none) (h2 : H dx = none) (ne : dx ≠ xa) :
    spD N pf (.ref xa :: vs) (upd (upd H dx (.own xa)) xa (.ins (He.ga N.K C) dx [])) (fun v H2 => v = .non ∧ Q (.ref xa) H2) (WE Wx σV) := by
  obtain ⟨E1, c1⟩ := c.new (o := .own xa) h2
  have h1' : upd H dx (.own xa) xa = none := by rw [upd_ne ne.symm]; exact h1
  obtain ⟨E2, c2⟩ := c1.loc (u := .ins (He.ga N.K C) dx []) (o := .ins C []) h1' ⟨c1.rep.non h1', dx, [], upd_same, rfl, rfl⟩
  refine callD_ok (kd := fun w st3 => (match w with
        | .im .non => kd (.loc st.length) st3
        | _ => False)) (nodup_reach _ _) c2 h ⟨_, vs, rfl, ⟨xa, c1.rep.last xa, rfl⟩, Rws.mono E2.mm E2.pre (Rws.ext r E1)⟩ fun w st3 hk v M3 ρ3 H3 E3 c3 r3 => ?_
  cases w with
  | im d =>
    cases d <;> try exact False.elim hk
    cases r3
    exact ⟨rfl, q _ _ hk _ M3 ρ3 H3 (E1.trans (E2.trans E3)) c3 ⟨xa, E3.pre.get (c1.rep.last xa), rfl⟩⟩
  | _ => exact False.elim hk
theorem e_new {C : Str} {ta : DA} (Mk' : Mk X.K (He.ga X.K C) f) (d : Def X.prog X.w X.K X.mg X.base k f ps (spD (XN X b) pf)) (hr : Room (k + 1) X.A) (hg : Gl X x) (hm : X.mg x = some (.ref (He.ga X.K C))) (tk : ∀ σ, PassesAt (L2.CX X.prog X.w) X σ (WE Wx σ)) (ha : PA X (e :: es) (lA (XN X b) Wx ta)) (hdb : (x == ("__debug__" : Str)) = false := by decide)
    (he : starEach (e :: es) X.env = (false, eval e X.env) :: starEach es X.env := by rfl) (hpl : (backTo pos (starEach es X.env)).any (·.1) = false := by rfl) : PE X (.Call (.Name x p) (e :: es) [] pos) (lW (XN X b) Wx (dNew C pf ta)) := PE.imp (e_makeS Mk' d hr hg hm tk ha hdb he hpl) fun σV H Q h => by
  obtain ⟨M, ρ, σ, st, k, ex, c, ht, q⟩ := Kx.open_ h
  refine Lf.of c ht fun ws st1 hk vs M1 ρ1 H1 E1 c1 r1 => fun xa dx h1 h2 ne => ?_
  exact new_ok (N := XN X b) c1 hk r1 (fun w st2 hk2 v M2 ρ2 H2 E2 c2 r2 => q _ _ hk2 v M2 ρ2 H2 (E1.trans E2) c2 r2) h1 h2 ne
theorem e_new0 {C : Str} (Mk' : Mk X.K (He.ga X.K C) f) (d : Def X.prog X.w X.K X.mg X.base k f ps (spD (XN X b) pf)) (hr : Room (k + 1) X.A) (hg : Gl X x) (hm : X.mg x = some (.ref (He.ga X.K C))) (tk : ∀ σ, PassesAt (L2.CX X.prog X.w) X σ (WE Wx σ)) (hdb : (x == ("__debug__" : Str)) = false := by decide) : PE X (.Call (.Name x p) [] [] pos) (lW (XN X b) Wx (dNew C pf aNil)) := PE.imp (e_makeS0 Mk' d hr hg hm tk hdb) fun σV H Q h => by
  obtain ⟨M, ρ, σ, st, k, ex, c, ht, q⟩ := Kx.open_ h
  intro xa dx h1 h2 ne
  exact new_ok (N := XN X b) c ht (vs := []) rfl (fun w st2 hk2 v M2 ρ2 H2 E2 c2 r2 => q _ _ hk2 v M2 ρ2 H2 E2 c2 r2) h1 h2 ne
end
def trW (n0 : Nat) : W → W
  | .loc n => if n < n0 then .loc n else .dead
  | w => w
def trO (n0 : Nat) : Ob → Ob
  | .ins C fs => .ins C (fs.map fun p => (p.1, trW n0 p.2))
  | o => o
def trS (n0 : Nat) (st : Sto) : Sto := (st.take n0).map (trO n0)
def fin (kp : Bool) (n0 : Nat) (k : W → Sto → Prop) (w : W) (st : Sto) : Prop := match kp with
  | true => k w st
  | false => match w with
    | .im d => k (.im d) (trS n0 st)
    | .loc n => if n < n0 then k (.loc n) (trS n0 st) else (match toD (.loc n) st with
      | some (d, st') => k (.im d) (trS n0 st')
      | none => False)
    | .dead => False
def EnD (kp : Bool) (n0 : Nat) (k : W → Sto → Prop) (ex : DX) : En :=
  { nx := fun _ st => fin kp n0 k (.im .non) st, rt := fun w st => fin kp n0 k w st, ex := fun c fs _ st => match kp with
    | true => ex c fs st
    | false => ex c fs (trS n0 st) }
def startD (N : List Str) (ws : List W) : Sl := ws.map some ++ List.replicate (N.length - ws.length) none
section
variable {N : Kn} {M H M' H' : Hp} {ρ ρ' : List Addr} {st : Sto}
theorem trW_ok {n0 : Nat} {w : W} {v : V} (h : Rw N M ρ w v) : Rw N M (ρ.take n0) (trW n0 w) v := by
  cases w with
  | im d => exact h
  | dead => exact h
  | loc n =>
    obtain ⟨a, ha, rfl⟩ := h
    by_cases z : n < n0
    · simp only [trW, if_pos z]
      exact ⟨a, by rw [List.getElem?_take_of_lt z]; exact ha, rfl⟩
    · simp only [trW, if_neg z]; trivial
theorem trWs_ok {n0 : Nat} : ∀ {ws : List W} {vs : List V}, Rws N M ρ ws vs → Rws N M (ρ.take n0) (ws.map (trW n0)) vs
  | [], _, h => h
  | _ :: _, _, ⟨x, r, h1, h2, h3⟩ => ⟨x, r, h1, trW_ok h2, trWs_ok h3⟩
theorem Rep.tr (r : Rep N M ρ st H) (n0 : Nat) : Rep N M (ρ.take n0) (trS n0 st) H := by
  refine ⟨r.sub, by simp [trS, r.len], fun i j a h1 h2 => ?_, fun i a o h1 h2 => ?_⟩
  · have hi := (List.getElem?_eq_some_iff.mp h1).1
    have hj := (List.getElem?_eq_some_iff.mp h2).1
    rw [List.length_take] at hi hj
    rw [List.getElem?_take_of_lt (by omega)] at h1 h2
    exact r.inj _ _ _ h1 h2
  · have hi := (List.getElem?_eq_some_iff.mp h1).1
    rw [List.length_take] at hi
    rw [List.getElem?_take_of_lt (by omega)] at h1
    unfold trS at h2
    rw [List.getElem?_map, List.getElem?_take_of_lt (by omega)] at h2
    obtain ⟨o', h3, h4⟩ := r.at_ h1
    rw [h3, Option.map_some, Option.some.injEq] at h2
    subst h2
    cases o' with
    | ins C fs =>
      obtain ⟨hm, dx, fxs, g1, g2, g3⟩ := h4
      refine ⟨hm, dx, fxs, g1, by rw [g2, List.map_map]; rfl, ?_⟩
      have := trWs_ok (n0 := n0) g3
      rw [List.map_map] at this ⊢
      exact this
    | _ => exact h4
theorem Ext.tr (e : Ext M ρ H M' ρ' H') : Ext M ρ H M' (ρ'.take ρ.length) H' := by
  have : ρ'.take ρ.length = ρ := by
    obtain ⟨r, rfl⟩ := e.pre
    simp
  rw [this]
  exact ⟨e.mm, Pre.refl _, e.fr, e.nw, fun a h => .inl h⟩
theorem Rs.start {Nm : List Str} {ws : List W} {vs : List V} (h : Rws N M ρ ws vs) : Rs N M ρ (startD Nm ws) (L2.start Nm vs) := by
  have hl := Rws.length h
  refine ⟨by simp [startD, L2.start, hl], fun i w e => ?_⟩
  unfold startD at e
  unfold L2.start
  by_cases z : i < ws.length
  · rw [List.getElem?_append_left (by simpa using z), List.getElem?_map] at e
    rw [List.getElem?_append_left (by simpa [hl] using z), List.getElem?_map]
    cases z2 : ws[i]? with
    | none => rw [z2] at e; cases e
    | some w' =>
      rw [z2] at e
      cases e
      obtain ⟨v, h1, h2⟩ := Rws.get h z2
      exact ⟨v, by rw [h1]; rfl, h2⟩
  · rw [List.getElem?_append_right (by simpa using z), List.getElem?_replicate] at e
    split at e <;> cases e
theorem fin_ok {kp : Bool} {k : W → Sto → Prop} {w : W} {st' : Sto} {v : V} {Q : VK} (hρ : ρ.length = st.length) (h : fin kp st.length k w st') (e : Ext M ρ H M' ρ' H') (r : Rep N M' ρ' st' H') (rw : Rw N M' ρ' w v)
    (q : ∀ w st', k w st' → ∀ v M' ρ' H', Ext M ρ H M' ρ' H' → Rep N M' ρ' st' H' → Rw N M' ρ' w v → Q v H') : Q v H' := by
  cases kp with
  | true => exact q _ _ h v M' ρ' H' e r rw
  | false =>
    have R := r.tr st.length
    have E := e.tr
    rw [hρ] at E
    cases w with
    | dead => exact False.elim h
    | im d => exact q _ _ (show k (.im d) (trS st.length st') from h) v M' _ H' E R rw
    | loc n =>
      have h : (if n < st.length then k (.loc n) (trS st.length st') else (match toD (.loc n) st' with
      | some (d, st2) => k (.im d) (trS st.length st2)
      | none => False)) := h
      split at h
      · rename_i hn
        refine q _ _ h v M' _ H' E R ?_
        obtain ⟨a, ha, rfl⟩ := rw
        exact ⟨a, by rw [List.getElem?_take_of_lt hn]; exact ha, rfl⟩
      · cases hz : toD (.loc n) st' with
        | none => rw [hz] at h; exact False.elim h
        | some p =>
          obtain ⟨d, st2⟩ := p
          rw [hz] at h
          obtain ⟨M2, E2, R2, r2⟩ := toD_ok r hz rw
          have E3 := (e.trans E2).tr
          rw [hρ] at E3
          exact q _ _ h v M2 _ H' E3 (R2.tr st.length) r2
theorem body_ok {Nm : List Str} {pf : Pf} {t : DS} {kp : Bool} {vs : List V} {Q : VK} {E : XK} (hr : ∀ ws st k ex, pf ws st k ex → t (EnD kp st.length k ex) (startD Nm ws) st) (h : spD N pf vs H Q E) :
    lS N (fun cls d _ H => E cls d H) t { nx := fun _ H' => Q .non H', rt := Q } (start Nm vs) H := by
  obtain ⟨M, ρ, ws, st, k, ex, r, rw, hf, hk, hx⟩ := h
  refine ⟨M, ρ, startD Nm ws, st, _, r, Rs.start rw, hr _ _ _ _ hf, ⟨fun σ' st' h M' ρ' H' σV' e r' s' => fin_ok r.len h e r' (show Rw N M' ρ' (.im .non) .non from rfl) hk, fun w st' h v M' ρ' H' e r' rv => fin_ok r.len h e r' rv hk, fun c fs σ' st' h o M' ρ' H' σV' e r' s' eo => ?_, fun _ _ h => False.elim h, fun _ _ h => False.elim h⟩⟩
  cases kp with
  | true => exact hx _ _ _ h o M' ρ' H' e r' eo
  | false =>
    have E := e.tr
    rw [r.len] at E
    exact hx _ _ _ h o M' _ H' E (r'.tr st.length) eo
theorem spD_len {pf : Pf} {n : Nat} (h : ∀ ws st k ex, pf ws st k ex → ws.length = n) : ∀ vs H Q E, spD N pf vs H Q E → vs.length = n := fun vs H Q E q => by
  obtain ⟨M, ρ, ws, st, k, ex, r, rw, hf, _⟩ := q
  rw [Rws.length rw]
  exact h _ _ _ _ hf
end
end Dl
end

section
set_option maxHeartbeats 4000000
namespace Dl
open PySem PySem.Spec PyProof.Rows L2 Co
abbrev DG := D → Sl → (Sl → Prop) → Prop
def gN (i : Nat) : DG := fun d σ k => k (σ.set i (some (.im d)))
def gAll : List DG → List D → Sl → (Sl → Prop) → Prop
  | [], [], σ, k => k σ
  | g :: gs, d :: ds, σ, k => g d σ fun σ' => gAll gs ds σ' k
  | _, _, _, _ => False
def gT (gs : List DG) : DG := fun d σ k => match d with
  | .tup ds => ds.length = gs.length ∧ gAll gs ds σ k
  | _ => False
structure GOk (N : Kn) (vs : List Nat) (g : DG) (gV : TG) : Prop where
  ok : ∀ {d : D} {v : V} {M H : Hp} {ρ : List Addr} {σ : Sl} {σV : L2.St} {k : Sl → Prop} {Q : L2.St → Hp → Prop}, Rp N M d v → Sub M H → Rs N M ρ σ σV → g d σ k → (∀ σ', k σ' → ∀ σV', Rs N M ρ σ' σV' → wipe σV' vs = wipe σV vs → Q σV' H) → gV v σV H Q
structure GsOk (N : Kn) (vs : List Nat) (gs : List DG) (gV : TGs) : Prop where
  ok : ∀ {ds : List D} {us : List V} {M H : Hp} {ρ : List Addr} {σ : Sl} {σV : L2.St} {k : Sl → Prop} {Q : L2.St → Hp → Prop}, Rps N M ds us → Sub M H → Rs N M ρ σ σV → gAll gs ds σ k → (∀ σ', k σ' → ∀ σV', Rs N M ρ σ' σV' → wipe σV' vs = wipe σV vs → Q σV' H) → gV us σV H Q
structure PGD (N : Kn) (X : Cx) (tg : Expr) (vs : List Nat) (g : DG) : Prop where
  ex : ∃ gV, PG X tg gV ∧ GOk N vs g gV
structure PGDs (N : Kn) (X : Cx) (ts : List Expr) (vs : List Nat) (gs : List DG) : Prop where
  ex : ∃ gV, PGs X ts gV ∧ GsOk N vs gs gV
theorem wipe_get {σ : L2.St} {j : Nat} : ∀ {vs : List Nat}, j ∈ vs → j < σ.length → (wipe σ vs)[j]? = some none
  | [], h, _ => by cases h
  | v :: vs, h, hj => by
    unfold wipe
    by_cases z : v = j
    · subst z
      rw [List.getElem?_set_self (by rw [wipe_length]; exact hj)]
    · rw [List.getElem?_set_ne z]
      exact wipe_get ((List.mem_cons.mp h).elim (fun w => absurd w.symm z) fun w => w) hj
theorem wipe_set {σ : L2.St} {i : Nat} {o : Option V} {vs : List Nat} (h : i ∈ vs) : wipe (σ.set i o) vs = wipe σ vs := by
  apply List.ext_getElem?
  intro j
  by_cases z : j ∈ vs
  · by_cases hj : j < σ.length
    · rw [wipe_get z hj, wipe_get z (by rw [List.length_set]; exact hj)]
    · rw [List.getElem?_eq_none (by rw [wipe_length, List.length_set]; omega), List.getElem?_eq_none (by rw [wipe_length]; omega)]
  · rw [wipe_out z, wipe_out z, List.getElem?_set_ne (fun w => z (by rw [← w]; exact h))]
theorem wipe_wipe {σ : L2.St} {vs : List Nat} : wipe (wipe σ vs) vs = wipe σ vs := by
  apply List.ext_getElem?
  intro j
  by_cases z : j ∈ vs
  · by_cases hj : j < σ.length
    · rw [wipe_get z hj, wipe_get z (by rw [wipe_length]; exact hj)]
    · rw [List.getElem?_eq_none (by rw [wipe_length, wipe_length]; omega), List.getElem?_eq_none (by rw [wipe_length]; omega)]
  · rw [wipe_out z]
theorem gok_name {N : Kn} {i : Nat} {vs : List Nat} (h : i ∈ vs) : GOk N vs (gN i) (gName i) := ⟨fun r _ rs h1 q => q _ h1 _ (rs.set (w := .im _) r i) (wipe_set h)⟩
theorem gd_name {N : Kn} {X : Cx} {i : Nat} {x : Str} {pos : Pos} {vs : List Nat} (hN : X.N.Nodup) (hi : X.N[i]? = some x) (hx : Loc X.env.scope x) (h : i ∈ vs := by decide) (hf : X.fn x = true ∨ X.env.scope.names.lookup x = some .local := by first | exact .inl rfl | exact .inr rfl | assumption) : PGD N X (.Name x pos) vs (gN i) := ⟨_, pg_name hN hi hx hf, gok_name h⟩
theorem gds_nil {N : Kn} {X : Cx} {vs : List Nat} : PGDs N X [] vs [] := ⟨_, pgs_nil, ⟨fun {ds us M H ρ σ σV k Q} r s rs h q => by
  cases ds with
  | nil => exact ⟨r, q _ h _ rs rfl⟩
  | cons _ _ => exact False.elim h⟩⟩
theorem gds_cons {N : Kn} {X : Cx} {vs : List Nat} {e : Expr} {es : List Expr} {g : DG} {gs : List DG} (h1 : PGD N X e vs g) (h2 : PGDs N X es vs gs) (hs : (assignEach (e :: es) X.env).map (·.2) = assign e X.env :: (assignEach es X.env).map (·.2) := by rfl) : PGDs N X (e :: es) vs (g :: gs) := by
  obtain ⟨gV, a1, a2⟩ := h1.ex
  obtain ⟨gsV, b1, b2⟩ := h2.ex
  refine ⟨_, pgs_cons a1 b1 hs, ⟨fun {ds us M H ρ σ σV k Q} r s rs h q => ?_⟩⟩
  cases ds with
  | nil => exact False.elim h
  | cons d ds =>
    obtain ⟨v, us', rfl, r1, r2⟩ := r
    refine ⟨v, us', rfl, a2.ok r1 s rs h fun σ1 h1 σV1 rs1 w1 => b2.ok r2 s rs1 h1 fun σ2 h2 σV2 rs2 w2 => q _ h2 _ rs2 (w2.trans w1)⟩
theorem gd_tup {N : Kn} {X : Cx} {vs : List Nat} {es : List Expr} {kk : Nat} {pos : Pos} {gs : List DG} (hK : N.K = X.K) (hc : X.calm = true) (h : PGDs N X es vs gs) (hn : (assignEach es X.env).length = gs.length := by rfl) (hst : (assignEach es X.env).findIdx? (·.1) = none := by rfl) : PGD N X (.Tuple es kk pos) vs (gT gs) := by
  obtain ⟨gV, b1, b2⟩ := h.ex
  refine ⟨_, pg_tup (n := gs.length) hc b1 hn hst, ⟨fun {d v M H ρ σ σV k Q} r s rs h q => ?_⟩⟩
  cases d <;> try exact False.elim h
  rename_i ds
  obtain ⟨p, xs, rfl, h1, h2⟩ := r
  exact ⟨p, xs, rfl, by rw [← hK]; exact s.tup h1, by rw [h2.length]; exact h.1, b2.ok h2 s rs h.2 q⟩
structure GoD (N : Kn) (J : It) (M0 : Hp) (ds : List D) : Prop where
  stop : ∀ (i : Nat) (M H : Hp), Same M0 M → Sub M H → ds.length ≤ i → J.stop i H
  go : ∀ (i : Nat) (M H : Hp), Same M0 M → Sub M H → i < ds.length → J.go i H
  yld : ∀ (i : Nat) (M H : Hp) (v : V) (H' : Hp), Same M0 M → Sub M H → i < ds.length → J.yld i H v H' → ∃ d, ds[i]? = some d ∧ ((H' = H ∧ Rp N M d v) ∨ ∃ T xs es, H T = none ∧ H' = upd H T (.tup xs) ∧ v = .ref T ∧ d = .tup es ∧ Rps N M es xs)
def lI (N : Kn) (Wx : WX) (t : Lv (List D)) : TI := fun σV H R => ∃ M ρ σ st k ex, Kx N Wx M ρ σ st H σV ex ∧ t σ st k ex ∧ ∀ ds st', k ds st' → ∀ J M' ρ' H', Ext M ρ H M' ρ' H' → Rep N M' ρ' st' H' → GoD N J M' ds → R J H'
section
variable {N : Kn} {Wx : WX} {M H : Hp} {ρ : List Addr} {σ : Sl} {st : Sto} {σV : L2.St} {ex : DX}
theorem lI.open_ {t : Lv (List D)} {R : It → Hp → Prop} (h : lI N Wx t σV H R) : ∃ M ρ σ st k ex, Kx N Wx M ρ σ st H σV ex ∧ t σ st k ex ∧ ∀ ds st', k ds st' → ∀ J M' ρ' H', Ext M ρ H M' ρ' H' → Rep N M' ρ' st' H' → GoD N J M' ds → R J H' := h
def iSq (t : DD) : Lv (List D) := fun σ st k ex => t σ st (fun d st1 => match d with
  | .tup ds => k ds st1
  | .lst ds => k ds st1
  | _ => False) ex
def chD (z : Str) : List D := z.cps.toList.map fun c => .str ⟨#[c]⟩
def iSt (t : DD) : Lv (List D) := fun σ st k ex => t σ st (fun d st1 => match d with
  | .str z => k (chD z) st1
  | _ => False) ex
def rgD (lo : Int) (n : Nat) : List D := (List.range n).map fun (i : Nat) => D.int (lo + (i : Int))
def iRg1 (t : DD) : Lv (List D) := fun σ st k ex => t σ st (fun d st1 => match d with
  | .int j => -(2 ^ 62) ≤ j ∧ j < 2 ^ 62 ∧ k (rgD 0 j.toNat) st1
  | _ => False) ex
def iRg2 (t u : DD) : Lv (List D) := fun σ st k ex => t σ st (fun d st1 => u σ st1 (fun d' st2 => match d, d' with
  | .int i, .int j => (-(2 ^ 62) ≤ i ∧ i < 2 ^ 62 ∧ -(2 ^ 62) ≤ j ∧ j < 2 ^ 62) ∧ k (rgD i (j - i).toNat) st2
  | _, _ => False) ex) ex
def enD : Nat → List D → List D
  | _, [] => []
  | i, d :: ds => .tup [.int (i : Int), d] :: enD (i + 1) ds
def iEn (t : DD) : Lv (List D) := fun σ st k ex => t σ st (fun d st1 => match d with
  | .tup ds => k (enD 0 ds) st1
  | .lst ds => k (enD 0 ds) st1
  | _ => False) ex
def zpD : List D → List D → List D
  | a :: as, b :: bs => .tup [a, b] :: zpD as bs
  | _, _ => []
def iZp (t u : DD) : Lv (List D) := fun σ st k ex => t σ st (fun d st1 => u σ st1 (fun d' st2 => match d, d' with
  | .lst as, .lst bs => k (zpD as bs) st2
  | _, _ => False) ex) ex
def iRv (t : DD) : Lv (List D) := fun σ st k ex => t σ st (fun d st1 => match d with
  | .lst ds => k ds.reverse st1
  | _ => False) ex
theorem lsts {M M' H : Hp} {a : Addr} {xs : List V} {K : PySem.W.Frag} (s : Same M M') (u : Sub M' H) (h : M a = some (.lst xs)) : SqL K H a xs := SqL.of (u.lst1 (s _ _ h))
theorem sq_inj {K : PySem.W.Frag} {H : Hp} {a : Addr} {xs ys : List V} (h : H a = some (.lst xs)) (hy : SqL K H a ys) : xs = ys ∨ ∃ (o : Obj) (its : Array Value) (n : Nat), K.lookup a = some o ∧ o.cls = .type "list" ∧ o.dict = none ∧ o.data = .seq its n ∧ its.size ≤ sizeLine ∧ Vals ys its.toList := by
  rcases hy with (hy | ⟨o, hy⟩) | hy
  · rw [h] at hy; cases hy; exact .inl rfl
  · rw [h] at hy; cases hy
  · exact .inr hy
theorem go_list {a : Addr} {xs : List V} {ds : List D} (h : M a = some (.lst xs)) (r : Rps N M ds xs) : GoD N (Itl N.K a) M ds where
  stop := fun i M' H s u hi => ⟨xs, lsts s u h, by rw [r.length]; exact hi⟩
  go := fun i M' H s u hi => ⟨xs, xs[i]'(by rw [r.length]; exact hi), lsts s u h, by simp [r.length, hi]⟩
  yld := fun i M' H v H' s u hi y => by
    obtain ⟨rfl, y⟩ := y
    obtain ⟨d, h1, h2⟩ := Rps.get2 r (y xs (lsts s u h))
    exact ⟨d, h1, .inl ⟨rfl, h2.mono s⟩⟩
theorem go_tup {a : Addr} {xs : List V} {ds : List D} (h : SqC N M a xs) (r : Rps N M ds xs) : GoD N (Itt N.K a) M ds where
  stop := fun i M' H s u hi => ⟨xs, u.tup (h.mono s), by rw [r.length]; exact hi⟩
  go := fun i M' H s u hi => ⟨xs, xs[i]'(by rw [r.length]; exact hi), u.tup (h.mono s), by simp [r.length, hi]⟩
  yld := fun i M' H v H' s u hi y => by
    obtain ⟨rfl, y⟩ := y
    obtain ⟨d, h1, h2⟩ := Rps.get2 r (y xs (u.tup (h.mono s)))
    exact ⟨d, h1, .inl ⟨rfl, h2.mono s⟩⟩
theorem go_str {z : Str} : GoD N (Its z) M (chD z) where
  stop := fun i M' H s u hi => by simpa [chD, Its] using hi
  go := fun i M' H s u hi => by simpa [chD, Its] using hi
  yld := fun i M' H v H' s u hi y => by
    obtain ⟨rfl, c, h1, rfl⟩ := y
    refine ⟨.str ⟨#[c]⟩, ?_, .inl ⟨rfl, rfl⟩⟩
    have : z.cps.toList[i]? = some c := by simpa using h1
    simp [chD, this]
theorem go_rng {lo : Int} {n : Nat} : GoD N (Itr lo n) M (rgD lo n) where
  stop := fun i M' H s u hi => by simpa [rgD, Itr] using hi
  go := fun i M' H s u hi => by simpa [rgD, Itr] using hi
  yld := fun i M' H v H' s u hi y => by
    obtain ⟨rfl, rfl⟩ := y
    have hi : i < n := by simpa [rgD] using hi
    exact ⟨.int (lo + i), by simp [rgD, hi], .inl ⟨rfl, rfl⟩⟩
theorem enD_get : ∀ (ds : List D) (j i : Nat), (enD j ds)[i]? = ds[i]?.map fun d => .tup [.int ((j + i : Nat) : Int), d]
  | [], j, i => by simp [enD]
  | d :: ds, j, 0 => by simp [enD]
  | d :: ds, j, i + 1 => by
    have := enD_get ds (j + 1) i
    rw [show j + 1 + i = j + (i + 1) by omega] at this
    simpa [enD] using this
theorem enD_len : ∀ (ds : List D) (j : Nat), (enD j ds).length = ds.length
  | [], j => rfl
  | d :: ds, j => by simp [enD, enD_len ds (j + 1)]
theorem go_en {a : Addr} {xs : List V} {ds : List D} (h : M a = some (.lst xs)) (r : Rps N M ds xs) : GoD N (Ite N.K a) M (enD 0 ds) where
  stop := fun i M' H s u hi => ⟨xs, lsts s u h, by rw [r.length]; rwa [enD_len] at hi⟩
  go := fun i M' H s u hi => by
    rw [enD_len] at hi
    exact ⟨xs, xs[i]'(by rw [r.length]; exact hi), lsts s u h, by simp [r.length, hi]⟩
  yld := fun i M' H v H' s u hi y => by
    obtain ⟨T, x, rfl, hT, rfl, y⟩ := y
    obtain ⟨d, h1, h2⟩ := Rps.get2 r (y xs (lsts s u h))
    exact ⟨.tup [.int (i : Int), d], by rw [enD_get, h1, Nat.zero_add]; rfl, .inr ⟨T, _, [.int (i : Int), d], hT, rfl, rfl, rfl, ⟨_, _, rfl, rfl, _, _, rfl, h2.mono s, rfl⟩⟩⟩
theorem go_enT {a : Addr} {xs : List V} {ds : List D} (h : SqC N M a xs) (r : Rps N M ds xs) : GoD N (IteT N.K a) M (enD 0 ds) where
  stop := fun i M' H s u hi => ⟨xs, u.tup (h.mono s), by rw [r.length]; rwa [enD_len] at hi⟩
  go := fun i M' H s u hi => by
    rw [enD_len] at hi
    exact ⟨xs, xs[i]'(by rw [r.length]; exact hi), u.tup (h.mono s), by simp [r.length, hi]⟩
  yld := fun i M' H v H' s u hi y => by
    obtain ⟨T, x, rfl, hT, rfl, y⟩ := y
    obtain ⟨d, h1, h2⟩ := Rps.get2 r (y xs (u.tup (h.mono s)))
    exact ⟨.tup [.int (i : Int), d], by rw [enD_get, h1, Nat.zero_add]; rfl, .inr ⟨T, _, [.int (i : Int), d], hT, rfl, rfl, rfl, ⟨_, _, rfl, rfl, _, _, rfl, h2.mono s, rfl⟩⟩⟩
theorem zpD_get : ∀ (as bs : List D) (i : Nat), (zpD as bs)[i]? = match as[i]?, bs[i]? with
    | some a, some b => some (.tup [a, b])
    | _, _ => none
  | [], bs, i => by simp [zpD]
  | a :: as, [], i => by cases i <;> simp [zpD] <;> split <;> simp_all
  | a :: as, b :: bs, 0 => by simp [zpD]
  | a :: as, b :: bs, i + 1 => by simpa [zpD] using zpD_get as bs i
theorem zpD_len : ∀ (as bs : List D), (zpD as bs).length = min as.length bs.length
  | [], bs => by simp [zpD]
  | a :: as, [] => by simp [zpD]
  | a :: as, b :: bs => by simp [zpD, zpD_len as bs, Nat.succ_min_succ]
theorem go_zp {a b : Addr} {xs ys : List V} {as bs : List D} (h : M a = some (.lst xs)) (r : Rps N M as xs) (h' : M b = some (.lst ys)) (r' : Rps N M bs ys) : GoD N (Itz N.K a b) M (zpD as bs) where
  stop := fun i M' H s u hi => ⟨xs, ys, lsts s u h, lsts s u h', by rw [r.length, r'.length]; rw [zpD_len] at hi; omega⟩
  go := fun i M' H s u hi => by
    rw [zpD_len] at hi
    exact ⟨xs, ys, xs[i]'(by rw [r.length]; omega), ys[i]'(by rw [r'.length]; omega), lsts s u h, lsts s u h', by simp, by simp⟩
  yld := fun i M' H v H' s u hi y => by
    obtain ⟨T, x, y', rfl, hT, rfl, y1, y2⟩ := y
    obtain ⟨d, h1, h2⟩ := Rps.get2 r (y1 xs (lsts s u h))
    obtain ⟨d', h1', h2'⟩ := Rps.get2 r' (y2 ys (lsts s u h'))
    exact ⟨.tup [d, d'], by rw [zpD_get, h1, h1'], .inr ⟨T, _, [d, d'], hT, rfl, rfl, rfl, ⟨_, _, rfl, h2.mono s, _, _, rfl, h2'.mono s, rfl⟩⟩⟩
theorem go_rv {a : Addr} {xs : List V} {ds : List D} (h : M a = some (.lst xs)) (r : Rps N M ds xs) : GoD N (Itv N.K a xs.length) M ds.reverse where
  stop := fun i M' H s u hi => by
    rw [List.length_reverse, ← r.length] at hi
    exact hi
  go := fun i M' H s u hi => by
    rw [List.length_reverse, ← r.length] at hi
    exact ⟨hi, xs, xs[xs.length - 1 - i]'(by omega), lsts s u h, by simp⟩
  yld := fun i M' H v H' s u hi y => by
    rw [List.length_reverse] at hi
    obtain ⟨rfl, y⟩ := y
    obtain ⟨d, h1, h2⟩ := Rps.get2 r (y xs (lsts s u h))
    refine ⟨d, ?_, .inl ⟨rfl, h2.mono s⟩⟩
    rw [List.getElem?_reverse hi, ← r.length]
    exact h1
end
section
variable {X : Cx} {b : Bool} {Wx : WX} {e e1 e2 e3 tg : Expr} {es : List Expr} {pos p tpos : Pos} {x : Str} {kk : Nat} {elts : List Expr}
theorem PI.imp {t t' : TI} (h : PI X tg e t) (i : ∀ σ H R, t' σ H R → t σ H R) : PI X tg e t' := ⟨fun pins s σ H R I q => h.run pins s σ H R I (i σ H R q)⟩
theorem i_sq {t : DD} (h : PE X e (lD (XN X b) Wx t)) : PI X tg e (lI (XN X b) Wx (iSq t)) := PI.imp (pi_seq h) fun σV H R q => by
  obtain ⟨M, ρ, σ, st, k, ex, c, ht, q⟩ := lI.open_ q
  refine Lf.of c ht fun d st' hk v M' ρ' H' E c' r => ?_
  cases d <;> try exact False.elim hk
  · obtain ⟨a, xs, rfl, h1, h2⟩ := r
    exact ⟨a, rfl, .inr ⟨⟨xs, c'.rep.sub.tup h1⟩, q _ _ hk _ M' ρ' H' E c'.rep (go_tup h1 h2)⟩⟩
  · obtain ⟨a, xs, rfl, h1, h2⟩ := r
    exact ⟨a, rfl, .inl ⟨⟨xs, SqL.of (c'.rep.sub.lst1 h1)⟩, q _ _ hk _ M' ρ' H' E c'.rep (go_list (N := XN X b) h1 h2)⟩⟩
variable {N : Kn}
theorem i_st {t : DD} (h : PE X e (lD N Wx t)) : PI X tg e (lI N Wx (iSt t)) := PI.imp (pi_str h) fun σV H R q => by
  obtain ⟨M, ρ, σ, st, k, ex, c, ht, q⟩ := lI.open_ q
  refine Lf.of c ht fun d st' hk v M' ρ' H' E c' r => ?_
  cases d <;> try exact False.elim hk
  cases r
  exact ⟨_, rfl, q _ _ hk _ M' ρ' H' E c'.rep go_str⟩
theorem i_rg1 {t : DD} (hg : Gl X "range") (hm : X.mg "range" = none) (h : PA X [e] (tCons (lD N Wx t) tNil)) (hs : starEach [e] X.env = [(false, eval e X.env)] := by rfl) : PI X tg (.Call (.Name "range" p) [e] [] pos) (lI N Wx (iRg1 t)) := PI.imp (pi_range1 hg hm h hs) fun σV H R q => by
  obtain ⟨M, ρ, σ, st, k, ex, c, ht, q⟩ := lI.open_ q
  refine Lf.of c ht fun d st' hk v M' ρ' H' E c' r => ?_
  cases d <;> try exact False.elim hk
  cases r
  exact ⟨_, rfl, hk.1, hk.2.1, q _ _ hk.2.2 _ M' ρ' H' E c'.rep go_rng⟩
theorem i_rg2 {t u : DD} (hg : Gl X "range") (hm : X.mg "range" = none) (h : PA X [e1, e2] (tCons (lD N Wx t) (tCons (lD N Wx u) tNil))) (hs : starEach [e1, e2] X.env = [(false, eval e1 X.env), (false, eval e2 X.env)] := by rfl) (hpl : starEach [e2] X.env = [(false, eval e2 X.env)] := by rfl) : PI X tg (.Call (.Name "range" p) [e1, e2] [] pos) (lI N Wx (iRg2 t u)) := PI.imp (pi_range2 hg hm h hs hpl) fun σV H R q => by
  obtain ⟨M, ρ, σ, st, k, ex, c, ht, q⟩ := lI.open_ q
  refine Lf.bin c ht fun d d' st' hk v v' M' ρ' H' E c' r r' => ?_
  cases d <;> cases d' <;> try exact False.elim hk
  cases r; cases r'
  exact ⟨_, _, rfl, hk.1, q _ _ hk.2 _ M' ρ' H' E c'.rep go_rng⟩
theorem i_en {t : DD} (hg : Gl X "enumerate") (hm : X.mg "enumerate" = none) (h : PA X [e] (tCons (lD (XN X b) Wx t) tNil)) (hs : starEach [e] X.env = [(false, eval e X.env)] := by rfl) : PI X (.Tuple elts kk tpos) (.Call (.Name "enumerate" p) [e] [] pos) (lI (XN X b) Wx (iEn t)) := PI.imp (pi_enumA hg hm h hs) fun σV H R q => by
  obtain ⟨M, ρ, σ, st, k, ex, c, ht, q⟩ := lI.open_ q
  refine Lf.of c ht fun d st' hk v M' ρ' H' E c' r => ?_
  cases d <;> try exact False.elim hk
  · obtain ⟨a, xs, rfl, h1, h2⟩ := r
    exact ⟨a, rfl, .inr ⟨⟨xs, c'.rep.sub.tup h1⟩, q _ _ hk _ M' ρ' H' E c'.rep (go_enT h1 h2)⟩⟩
  · obtain ⟨a, xs, rfl, h1, h2⟩ := r
    exact ⟨a, rfl, .inl ⟨⟨xs, SqL.of (c'.rep.sub.lst1 h1)⟩, q _ _ hk _ M' ρ' H' E c'.rep (go_en (N := XN X b) h1 h2)⟩⟩
theorem i_zp {t u : DD} (hg : Gl X "zip") (hm : X.mg "zip" = none) (h : PA X [e1, e2] (tCons (lD (XN X b) Wx t) (tCons (lD (XN X b) Wx u) tNil))) (hs : starEach [e1, e2] X.env = (false, eval e1 X.env) :: starEach [e2] X.env := by rfl) (hpl : (backTo pos (starEach [e2] X.env)).any (·.1) = false := by rfl) :
    PI X (.Tuple elts kk tpos) (.Call (.Name "zip" p) [e1, e2] [] pos) (lI (XN X b) Wx (iZp t u)) := PI.imp (pi_zip hg hm h hs hpl) fun σV H R q => by
  obtain ⟨M, ρ, σ, st, k, ex, c, ht, q⟩ := lI.open_ q
  refine Lf.bin c ht fun d d' st' hk v v' M' ρ' H' E c' r r' => ?_
  cases d <;> cases d' <;> try exact False.elim hk
  obtain ⟨a, xs, rfl, h1, h2⟩ := r
  obtain ⟨a', xs', rfl, h1', h2'⟩ := r'
  exact ⟨a, a', xs, xs', rfl, SqL.of (c'.rep.sub.lst1 h1), SqL.of (c'.rep.sub.lst1 h1'), q _ _ hk _ M' ρ' H' E c'.rep (go_zp (N := XN X b) h1 h2 h1' h2')⟩
theorem i_rv {t : DD} (hg : Gl X "reversed") (hm : X.mg "reversed" = none) (h : PA X [e] (tCons (lD (XN X b) Wx t) tNil)) (hs : starEach [e] X.env = [(false, eval e X.env)] := by rfl) : PI X tg (.Call (.Name "reversed" p) [e] [] pos) (lI (XN X b) Wx (iRv t)) := PI.imp (pi_reversed hg hm h hs) fun σV H R q => by
  obtain ⟨M, ρ, σ, st, k, ex, c, ht, q⟩ := lI.open_ q
  refine Lf.of c ht fun d st' hk v M' ρ' H' E c' r => ?_
  cases d <;> try exact False.elim hk
  obtain ⟨a, xs, rfl, h1, h2⟩ := r
  exact ⟨a, xs, rfl, SqL.of (c'.rep.sub.lst1 h1), q _ _ hk _ M' ρ' H' E c'.rep (go_rv (N := XN X b) h1 h2)⟩
end
end Dl
end

section
set_option maxHeartbeats 4000000
namespace Dl
open PySem PySem.Spec PyProof.Rows L2 Co
def trSl (n0 : Nat) (σ : Sl) : Sl := σ.map fun o => match o with
  | some (.loc n) => if n < n0 then some (.loc n) else none
  | o => o
def sFor (it : Lv (List D)) (g : DG) (tb : DS) : DS := fun E σ st => it σ st (fun ds st1 => ∃ I : Nat → Sl → Sto → Prop, I 0 σ st1 ∧
  (∀ (i : Nat) d σ' st', ds[i]? = some d → I i σ' st' → st'.length = st1.length → g d σ' fun σ2 => tb { E with nx := fun σ3 st3 => I (i + 1) (trSl st1.length σ3) (trS st1.length st3), ct := fun σ3 st3 => I (i + 1) (trSl st1.length σ3) (trS st1.length st3), bk := E.nx } σ2 st') ∧
  ∀ σ' st', I ds.length σ' st' → st'.length = st1.length → E.nx σ' st') (exE E σ)
def sWhile (c : DT) (tb : DS) : DS := fun E σ st => ∃ I : Nat → Sl → Sto → Prop, (∃ m, I m σ st) ∧
  ∀ m σ' st', I m σ' st' → st'.length = st.length → c σ' st' (fun b st2 => two b (tb { E with nx := fun σ3 st3 => ∃ m', m' < m ∧ I m' (trSl st.length σ3) (trS st.length st3), ct := fun σ3 st3 => ∃ m', m' < m ∧ I m' (trSl st.length σ3) (trS st.length st3), bk := E.nx } σ' st2) (E.nx σ' st2)) (exE E σ')
def sAsgG (t : DD) (g : DG) : DS := fun E σ st => t σ st (fun d st1 => g d σ fun σ' => E.nx σ' st1) (exE E σ)
def sAug (f : F2) (i : Nat) (t : DD) : DS := fun E σ st => match σ[i]? with
  | some (some (.im x)) => t σ st (fun y st1 => f x y fun d => E.nx (σ.set i (some (.im d))) st1) (exE E σ)
  | _ => False
def wipeD (σ : Sl) : List Nat → Sl
  | [] => σ
  | v :: vs => (wipeD σ vs).set v none
def dYes : DT := fun _ st k _ => k true st
def exF : DX := fun _ _ _ => False
def lcB (ds : List D) (g : DG) (tt : DT) (te : DD) (vs : List Nat) (σ : Sl) (st : Sto) (k : List D → Sto → Prop) : Prop := ∃ I : Nat → List D → Sto → Prop, I 0 [] st ∧
  (∀ (i : Nat) d acc st', ds[i]? = some d → I i acc st' → st'.length = st.length → g d (wipeD σ vs) fun σ2 => tt σ2 st' (fun b st2 => two b (te σ2 st2 (fun y st3 => acc.length ≤ 1000000 ∧ I (i + 1) (acc ++ [y]) (trS st.length st3)) exF) (I (i + 1) acc (trS st.length st2))) exF) ∧
  ∀ acc st', I ds.length acc st' → st'.length = st.length → k acc st'
def dLc (it : Lv (List D)) (g : DG) (tt : DT) (te : DD) (vs : List Nat) : DD := fun σ st k ex => it σ st (fun ds st1 => lcB ds g tt te vs σ st1 fun acc st' => k (.lst acc) st') ex
def dLcM (it : Lv (List D)) (g : DG) (tt : DT) (te : DD) (vs : List Nat) : DW := fun σ st k ex => it σ st (fun ds st1 => lcB ds g tt te vs σ st1 fun acc st' => k (.loc st'.length) (st' ++ [.lst acc])) ex
abbrev W0 : WX := fun _ _ _ _ => False
section
variable {N : Kn} {Wx : WX} {M H M' H' : Hp} {ρ ρ' : List Addr} {σ : Sl} {st : Sto} {σV : L2.St} {ex : DX}
theorem trSl_ok {n0 : Nat} (h : Rs N M ρ σ σV) : Rs N M (ρ.take n0) (trSl n0 σ) σV := by
  refine ⟨by simp [trSl, h.1], fun i w e => ?_⟩
  unfold trSl at e
  rw [List.getElem?_map] at e
  cases z : σ[i]? with
  | none => rw [z] at e; cases e
  | some o =>
    rw [z, Option.map_some, Option.some.injEq] at e
    cases o with
    | none => cases e
    | some w' =>
      obtain ⟨v, h1, h2⟩ := h.2 i w' z
      refine ⟨v, h1, ?_⟩
      cases w' with
      | im d => cases e; exact h2
      | dead => cases e; exact h2
      | loc n =>
        simp only at e
        split at e
        · rename_i hn
          cases e
          obtain ⟨a, ha, rfl⟩ := h2
          exact ⟨a, by rw [List.getElem?_take_of_lt hn]; exact ha, rfl⟩
        · cases e
theorem trS_len (n0 : Nat) (h : n0 ≤ st.length) : (trS n0 st).length = n0 := by
  simp [trS, h]
theorem GoD.item {J : It} {ds : List D} {M1 H1 : Hp} {ρ1 : List Addr} (g : GoD N J M ds) (e : Ext M ρ H M1 ρ1 H1) (r : Rep N M1 ρ1 st H1) {i : Nat} {v : V} {H2 : Hp} (hi : i < ds.length) (y : J.yld i H1 v H2) :
    ∃ d M2, ds[i]? = some d ∧ Ext M1 ρ1 H1 M2 ρ1 H2 ∧ Rep N M2 ρ1 st H2 ∧ Rp N M2 d v := by
  obtain ⟨d, h1, h2⟩ := g.yld i M1 H1 v H2 e.mm r.sub hi y
  rcases h2 with ⟨rfl, h2⟩ | ⟨T, xs, es, hT, rfl, rfl, rfl, h2⟩
  · exact ⟨d, M1, h1, Ext.refl, r, h2⟩
  · exact ⟨_, _, h1, Ext.new r.sub hT, r.new hT, ⟨T, xs, rfl, .inl upd_same, h2.ext (Ext.new (ρ := ρ1) (o := .tup xs) r.sub hT)⟩⟩
end
section
variable {X : Cx} {b : Bool} {Wx : WX} {e e1 e2 e3 tg : Expr} {pos : Pos} {N : Kn}
theorem Ext.cut {M H M' H' : Hp} {ρ ρ' : List Addr} {n : Nat} (e : Ext M ρ H M' ρ' H') (h : ρ.length = n) : Ext M ρ H M' ρ H' ∧ ρ'.take n = ρ := by
  subst h
  have := e.tr
  have e2 : ρ'.take ρ.length = ρ := by
    obtain ⟨r, rfl⟩ := e.pre
    simp
  rw [e2] at this
  exact ⟨this, e2⟩
theorem s_for {it : Lv (List D)} {vs : List Nat} {g : DG} {gV : TG} {tb : DS} {body : List Stmt} (g2 : GOk N vs g gV) (hp : PassesOwn (model X.prog X.w) X.A X.env X.xe) (hc : X.calm = true) (hi : PI X tg e (lI N Wx it)) (g1 : PG X tg gV) (hb : PSs X body (lS N Wx tb))
    (hs : ∀ x, foldedSetIterable e X.env x = pure x := by intro _; rfl) : PS X (.For tg e body [] pos) (lS N Wx (sFor it g tb)) := by
  refine PS.imp (ps_for hp hc hi g1 hb hs) fun D σV H h => ?_
  obtain ⟨M, ρ, σ, st, E, r, s, h, l⟩ := h
  refine ⟨M, ρ, σ, st, _, _, l.kx r s, h, fun ds st1 hk J M1 ρ1 H1 E1 r1 gd => ?_⟩
  obtain ⟨I, h0, hstep, hend⟩ := hk
  have l1 := l.step E1
  have hρ1 := r1.len
  refine ⟨fun i m σV' H' => m = ds.length - i ∧ i ≤ ds.length ∧ ∃ M' σ' st', Ext M1 ρ1 H1 M' ρ1 H' ∧ Rep N M' ρ1 st' H' ∧ Rs N M' ρ1 σ' σV' ∧ I i σ' st', ⟨ds.length, by simp, Nat.zero_le _, M1, σ, st1, Ext.refl, r1, s.ext E1, h0⟩, ?_⟩
  rintro i m σV' H' ⟨rfl, hi, M', σ', st', E', r', s', hI⟩
  have hlen : st'.length = st1.length := by rw [← r'.len, r1.len]
  by_cases hlt : i < ds.length
  · refine .inr ⟨gd.go i M' H' E'.mm r'.sub hlt, fun σV3 H3 => ∃ M3 σ3 st3, Ext M1 ρ1 H1 M3 ρ1 H3 ∧ Rep N M3 ρ1 st3 H3 ∧ Rs N M3 ρ1 σ3 σV3 ∧ I (i + 1) σ3 st3, fun σV3 H3 q => ⟨ds.length - (i + 1), by omega, rfl, hlt, q⟩, fun v H2 y => ?_⟩
    obtain ⟨d, M2, hd, E2, r2, rd⟩ := gd.item E' r' hlt y
    refine g2.ok rd r2.sub (s'.ext E2) (hstep i d σ' st' hd hI hlen) fun σ2 h2 σV2 s2 _ => ?_
    have E12 := E'.trans E2
    have l2 := l1.step E12
    have turn : ∀ σ3 st3, I (i + 1) (trSl st1.length σ3) (trS st1.length st3) → ∀ M3 ρ3 H3 σV3, Ext M2 ρ1 H2 M3 ρ3 H3 → Rep N M3 ρ3 st3 H3 → Rs N M3 ρ3 σ3 σV3 → ∃ M3 σ3 st3, Ext M1 ρ1 H1 M3 ρ1 H3 ∧ Rep N M3 ρ1 st3 H3 ∧ Rs N M3 ρ1 σ3 σV3 ∧ I (i + 1) σ3 st3 := fun σ3 st3 hI3 M3 ρ3 H3 σV3 E3 r3 s3 => by
      obtain ⟨E4, e4⟩ := (E12.trans E3).cut hρ1
      have q1 := r3.tr st1.length
      have q2 := trSl_ok (n0 := st1.length) s3
      rw [e4] at q1 q2
      exact ⟨M3, _, _, E4, q1, q2, hI3⟩
    exact lS.of (E := { E with nx := fun σ3 st3 => I (i + 1) (trSl st1.length σ3) (trS st1.length st3), ct := fun σ3 st3 => I (i + 1) (trSl st1.length σ3) (trS st1.length st3), bk := E.nx })
      ⟨turn, l2.rt, l2.ex, l2.nx, turn⟩ r2 s2 h2
  · have e : i = ds.length := by omega
    subst e
    exact .inl ⟨gd.stop _ M' H' E'.mm r'.sub (Nat.le_refl _), l1.nx _ _ (hend σ' st' hI hlen) M' ρ1 H' σV' E' r' s'⟩
theorem s_while {c : DT} {tb : DS} {body : List Stmt} (hp : PassesOwn (model X.prog X.w) X.A X.env X.xe) (hc : PT X e (lT N Wx c)) (hb : PSs X body (lS N Wx tb)) : PS X (.While e body [] pos) (lS N Wx (sWhile c tb)) := PS.imp (Co.s_while hp hc hb) fun D σV H h => by
  obtain ⟨M, ρ, σ, st, E, r, s, ⟨I, ⟨m0, h0⟩, hstep⟩, l⟩ := h
  refine ⟨fun m σV' H' => ∃ M' σ' st', Ext M ρ H M' ρ H' ∧ Rep N M' ρ st' H' ∧ Rs N M' ρ σ' σV' ∧ I m σ' st', ⟨m0, M, σ, st, Ext.refl, r, s, h0⟩, ?_⟩
  rintro m σV' H' ⟨M', σ', st', E', r', s', hI⟩
  have hlen : st'.length = st.length := by rw [← r'.len, r.len]
  have l' := l.step E'
  refine Lf.of (l'.kx r' s') (hstep m σ' st' hI hlen) fun b st2 hk v M2 ρ2 H2 E2 c2 rv => ?_
  rw [show v = b from rv]
  refine ⟨fun z => ?_, fun z => l'.nx _ _ (hk.2 z) M2 ρ2 H2 σV' E2 c2.rep c2.rs⟩
  have l2 := l'.step E2
  have E12 := E'.trans E2
  have turn : ∀ σ3 st3, (∃ m', m' < m ∧ I m' (trSl st.length σ3) (trS st.length st3)) → ∀ M3 ρ3 H3 σV3, Ext M2 ρ2 H2 M3 ρ3 H3 → Rep N M3 ρ3 st3 H3 → Rs N M3 ρ3 σ3 σV3 → ∃ m', m' < m ∧ ∃ M' σ' st', Ext M ρ H M' ρ H3 ∧ Rep N M' ρ st' H3 ∧ Rs N M' ρ σ' σV3 ∧ I m' σ' st' := fun σ3 st3 ⟨m', hm, hI3⟩ M3 ρ3 H3 σV3 E3 r3 s3 => by
    obtain ⟨E4, e4⟩ := (E12.trans E3).cut r.len
    have q1 := r3.tr st.length
    have q2 := trSl_ok (n0 := st.length) s3
    rw [e4] at q1 q2
    exact ⟨m', hm, M3, _, _, E4, q1, q2, hI3⟩
  exact lS.of (E := { E with nx := fun σ3 st3 => ∃ m', m' < m ∧ I m' (trSl st.length σ3) (trS st.length st3), ct := fun σ3 st3 => ∃ m', m' < m ∧ I m' (trSl st.length σ3) (trS st.length st3), bk := E.nx })
    ⟨turn, l2.rt, l2.ex, l2.nx, turn⟩ c2.rep c2.rs (hk.1 z)
theorem s_asgG {t : DD} {g : DG} {gV : TG} {vs : List Nat} (g2 : GOk N vs g gV) (h : PS X (.Assign [tg] e pos) (tAsg (lD N Wx t) gV)) : PS X (.Assign [tg] e pos) (lS N Wx (sAsgG t g)) := by
  refine PS.imp h fun D σV H h => ?_
  obtain ⟨M, ρ, σ, st, E, r, s, h, l⟩ := h
  refine Lf.of (l.kx r s) h fun d st' hk v M' ρ' H' e' c' rv => ?_
  exact g2.ok rv c'.rep.sub c'.rs hk fun σ2 h2 σV2 s2 _ => l.nx _ _ h2 M' ρ' H' σV2 e' c'.rep s2
theorem PIp_or {op : Operator} {t t' : TIp} (h : PIp X op t) (h' : PIp X op t') : PIp X op (fun x y H Q => t x y H Q ∨ t' x y H Q) := fun pins s σ H x y v u Q I rx ry q => q.elim (h pins s σ H x y v u Q I rx ry) (h' pins s σ H x y v u Q I rx ry)
theorem s_aug {op : Operator} {f : F2} {i : Nat} {x : Str} {t : DD} {pos' : Pos} {r : TIp} (hN : X.N.Nodup) (hi : X.N[i]? = some x) (hx : Loc X.env.scope x) (hop : PIp X op r) (ok : ∀ {M H : Hp} {a c : D} {u v : V} {kd : D → Prop} {Q : VK}, Rp N M a u → Rp N M c v → f a c kd → (∀ d, kd d → ∀ w, Rp N M d w → Q w H) → r u v H Q)
    (he : PE X e (lD N Wx t)) (hf : X.fn x = true ∨ X.env.scope.names.lookup x = some .local := by first | exact .inl rfl | exact .inr rfl | assumption) : PS X (.AugAssign (.Name x pos') op e pos) (lS N Wx (sAug f i t)) := PS.imp (ps_aug hN hi hx he hop hf) fun D σV H h => by
  obtain ⟨M, ρ, σ, st, E, rr, s, h, l⟩ := h
  unfold sAug at h
  split at h
  · rename_i xd hx
    obtain ⟨u, h1, h2⟩ := s.2 i _ hx
    refine ⟨u, h1, Lf.of (l.kx rr s) h fun y st' hk v M' ρ' H' e' c' rv => ?_⟩
    exact ok (Rp.ext h2 e') rv hk fun d hd w hw => l.nx _ _ hd M' ρ' H' _ e' c'.rep (c'.rs.set (w := .im d) hw i)
  · exact False.elim h
theorem ok_iadd {M H : Hp} {a c : D} {u v : V} {kd : D → Prop} {Q : VK} (ha : Rp N M a u) (hc : Rp N M c v) (h : fAdd a c kd) (hi : ∃ i j, a = .int i ∧ c = .int j) (k : ∀ d, kd d → ∀ w, Rp N M d w → Q w H) : (ipI fun i j => i + j) u v H Q := by
  obtain ⟨i, j, rfl, rfl⟩ := hi
  cases ha; cases hc
  exact ⟨i, j, rfl, rfl, k _ h _ rfl⟩
def fAddI : F2 := fun x y k => match x, y with
  | .int i, .int j => k (.int (i + j))
  | _, _ => False
theorem s_augadd {i : Nat} {x : Str} {t : DD} {pos' : Pos} (hN : X.N.Nodup) (hi : X.N[i]? = some x) (hx : Loc X.env.scope x) (he : PE X e (lD N Wx t)) (hf : X.fn x = true ∨ X.env.scope.names.lookup x = some .local := by first | exact .inl rfl | exact .inr rfl | assumption) : PS X (.AugAssign (.Name x pos') .Add e pos) (lS N Wx (sAug fAddI i t)) :=
  s_aug hN hi hx ip_add (fun {M H a c u v kd Q} ha hc h k => by
    cases a <;> cases c <;> try exact False.elim h
    cases ha; cases hc
    exact ⟨_, _, rfl, rfl, k _ h _ rfl⟩) he hf
theorem s_augsub {i : Nat} {x : Str} {t : DD} {pos' : Pos} (hN : X.N.Nodup) (hi : X.N[i]? = some x) (hx : Loc X.env.scope x) (he : PE X e (lD N Wx t)) (hf : X.fn x = true ∨ X.env.scope.names.lookup x = some .local := by first | exact .inl rfl | exact .inr rfl | assumption) : PS X (.AugAssign (.Name x pos') .Sub e pos) (lS N Wx (sAug fSub i t)) :=
  s_aug hN hi hx ip_sub (fun {M H a c u v kd Q} ha hc h k => by
    cases a <;> cases c <;> try exact False.elim h
    cases ha; cases hc
    exact ⟨_, _, rfl, rfl, k _ h _ rfl⟩) he hf
theorem wipe_rs {M : Hp} {ρ : List Addr} {σ : Sl} {σV : L2.St} (h : Rs N M ρ σ σV) : ∀ vs : List Nat, Rs N M ρ (wipeD σ vs) (wipe σV vs)
  | [] => h
  | v :: vs => (wipe_rs h vs).unset v none
theorem lc_lift {it : Lv (List D)} {g : DG} {gV : TG} {tt : DT} {te : DD} {vs : List Nat} {K : List D → Sto → Prop} {σV : L2.St} {H : Hp} {Q : VK} {M : Hp} {ρ : List Addr} {σ : Sl} {st : Sto} {ex : DX} (g2 : GOk N vs g gV) (c : Kx N Wx M ρ σ st H σV ex)
    (ht : it σ st (fun ds st1 => lcB ds g tt te vs σ st1 K) ex)
    (q : ∀ acc st', K acc st' → ∀ p M' ρ' H' xs, Ext M ρ H M' ρ' H' → Rep N M' ρ' st' H' → M' p = none → p ∉ ρ' → H p = none → H' p = some (.lst xs) → Rps N M' acc xs → Q (.ref p) H') :
    uLc (lI N Wx it) gV (lT N W0 tt) (lD N W0 te) vs σV H Q := by
  refine ⟨M, ρ, σ, st, _, _, c, ht, fun ds st1 hk J M1 ρ1 H1 E1 r1 gd D hD => ?_⟩
  obtain ⟨I, h0, hstep, hend⟩ := hk
  have hm1 := r1.non hD
  have hn1 : D ∉ ρ1 := fun z => r1.mem z hD
  have hH : H D = none := by
    cases z : H D with
    | none => rfl
    | some o =>
      by_cases w : D ∈ ρ
      · exact absurd (E1.pre.mem w) hn1
      · rw [E1.fr D o z w] at hD; cases hD
  have rD : ∀ {M' : Hp} {st' : Sto} {H' : Hp} {xs : List V}, Rep N M' ρ1 st' H' → M' D = none → Rep N M' ρ1 st' (upd H' D (.lst xs)) := fun {M' st' H' xs} r hm => by
    refine ⟨fun b u z => ?_, r.len, r.inj, fun i a o h1 h2 => ?_⟩
    · have hb : b ≠ D := fun w => by rw [w, hm] at z; cases z
      rw [upd_ne hb]
      exact r.sub b u z
    · have q := r.ob i a o h1 h2
      have ha : a ≠ D := fun w => hn1 (by rw [← w]; exact List.mem_of_getElem? h1)
      exact q.mono (Same.refl _) (Pre.refl _) (fun z => z) fun u hu => by rw [upd_ne ha]; exact hu
  refine ⟨fun i m H' => m = ds.length - i ∧ i ≤ ds.length ∧ ∃ M' st' acc xs, Ext M1 ρ1 H1 M' ρ1 H' ∧ Rep N M' ρ1 st' H' ∧ M' D = none ∧ H' D = some (.lst xs) ∧ Rps N M' acc xs ∧ I i acc st',
    ⟨ds.length, by simp, Nat.zero_le _, M1, st1, [], [], ⟨Same.refl _, Pre.refl _, (Fr.refl _ _).new hD, fun _ h => .inl h, fun _ h => .inl h⟩, rD r1 hm1, hm1, upd_same, rfl, h0⟩, ?_⟩
  rintro i m H' ⟨rfl, hi, M', st', acc, xs, E', r', hm', hD', ra, hI⟩
  have hlen : st'.length = st1.length := by rw [← r'.len, r1.len]
  by_cases hlt : i < ds.length
  · refine .inr ⟨gd.go i M' H' E'.mm r'.sub hlt, fun H3 => ∃ M3 st3 acc xs, Ext M1 ρ1 H1 M3 ρ1 H3 ∧ Rep N M3 ρ1 st3 H3 ∧ M3 D = none ∧ H3 D = some (.lst xs) ∧ Rps N M3 acc xs ∧ I (i + 1) acc st3, fun H3 q => ⟨ds.length - (i + 1), by omega, rfl, hlt, q⟩, fun v H2 y => ?_⟩
    obtain ⟨d, M2, hd, E2, r2, rd⟩ := gd.item E' r' hlt y
    have keep : ∀ {M3 : Hp} {ρ3 : List Addr} {H3 : Hp}, Ext M' ρ1 H' M3 ρ3 H3 → H3 D = some (.lst xs) ∧ M3 D = none := fun {M3 ρ3 H3} E3 => ⟨E3.fr D _ hD' hn1, by
      cases z : M3 D with
      | none => rfl
      | some u =>
        rcases E3.nw D (by rw [z]; exact fun w => nomatch w) with w | w | w
        · exact absurd hm' w
        · rw [hD'] at w; cases w
        · exact absurd w hn1⟩
    refine g2.ok rd r2.sub (wipe_rs (c.rs.ext (E1.trans (E'.trans E2))) vs) (hstep i d acc st' hd hI hlen) fun σ2 h2 σV2 s2 hw => ⟨by rw [hw, wipe_wipe], ?_⟩
    have k2 : Kx N W0 M2 ρ1 σ2 st' H2 σV2 exF := ⟨r2, s2, fun _ _ _ h => False.elim h⟩
    refine Lf.of k2 h2 fun bb st2 hk2 v2 M3 ρ3 H3 E3 c3 r3 => ?_
    rw [show v2 = bb from r3]
    refine ⟨fun z => Lf.of c3 (hk2.1 z) fun y st3 hk3 yv M4 ρ4 H4 E4 c4 r4 => ?_, fun z => ?_⟩
    · have EE := E2.trans (E3.trans E4)
      obtain ⟨g3, g4⟩ := keep EE
      obtain ⟨E5, e5⟩ := (E'.trans EE).cut r1.len
      have q1 := c4.rep.tr st1.length
      rw [e5] at q1
      have ra4 := (Rps.ext ra EE).append (Rps.cons r4 .nil)
      refine ⟨xs, g3, by rw [ra.length, sizeLine_eq]; omega, M4, _, _, _, ⟨E5.mm, E5.pre, E5.fr.loc hD, E5.nw, E5.rn⟩, rD q1 g4, g4, upd_same, ra4, hk3.2⟩
    · have EE := E2.trans E3
      obtain ⟨g3, g4⟩ := keep EE
      obtain ⟨E5, e5⟩ := (E'.trans EE).cut r1.len
      have q1 := c3.rep.tr st1.length
      rw [e5] at q1
      exact ⟨M3, _, _, xs, E5, q1, g4, g3, Rps.ext ra EE, hk2.2 z⟩
  · have e : i = ds.length := by omega
    subst e
    exact .inl ⟨gd.stop _ M' H' E'.mm r'.sub (Nat.le_refl _), q _ _ (hend acc st' hI hlen) D M' ρ1 H' xs (E1.trans E') r' hm' hn1 hH hD' ra⟩
theorem gsok_nil {vs : List Nat} : GsOk N vs [] gNil := ⟨fun {ds us M H ρ σ σV k Q} r s rs h q => by
  cases ds with
  | nil => exact ⟨r, q _ h _ rs rfl⟩
  | cons _ _ => exact False.elim h⟩
theorem gsok_cons {vs : List Nat} {g : DG} {gs : List DG} {gV : TG} {gsV : TGs} (a2 : GOk N vs g gV) (b2 : GsOk N vs gs gsV) : GsOk N vs (g :: gs) (gCons gV gsV) := ⟨fun {ds us M H ρ σ σV k Q} r s rs h q => by
  cases ds with
  | nil => exact False.elim h
  | cons d ds =>
    obtain ⟨v, us', rfl, r1, r2⟩ := r
    refine ⟨v, us', rfl, a2.ok r1 s rs h fun σ1 h1 σV1 rs1 w1 => b2.ok r2 s rs1 h1 fun σ2 h2 σV2 rs2 w2 => q _ h2 _ rs2 (w2.trans w1)⟩⟩
theorem gok_tup {vs : List Nat} {gs : List DG} {gsV : TGs} {n : Nat} (b2 : GsOk N vs gs gsV) (hn : gs.length = n := by rfl) : GOk N vs (gT gs) (gTup N.K n gsV) := ⟨fun {d v M H ρ σ σV k Q} r s rs h q => by
  subst hn
  cases d <;> try exact False.elim h
  obtain ⟨p, xs, rfl, h1, h2⟩ := r
  exact ⟨p, xs, rfl, s.tup h1, by rw [h2.length]; exact h.1, b2.ok h2 s rs h.2 q⟩⟩
theorem Rep.adopt {M H : Hp} {ρ : List Addr} {st : Sto} (r : Rep N M ρ st H) {p : Addr} {u : HO} (hm : M p = Option.none) (hn : p ∉ ρ) (hu : H p = some u) : Rep N (upd M p u) ρ st H := by
  refine ⟨fun b u' e => ?_, r.len, r.inj, fun i a o h1 h2 => ?_⟩
  · by_cases z : b = p
    · subst z
      rw [upd_same] at e
      cases e
      exact .inl hu
    · rw [upd_ne z] at e
      exact r.sub b u' e
  · have ha : a ≠ p := fun w => hn (by rw [← w]; exact List.mem_of_getElem? h1)
    exact (r.ob i a o h1 h2).mono (same_grow0 hm) (Pre.refl _) (fun z => by rw [upd_ne ha]; exact z) fun u hu => hu
theorem Rep.adoptL {M H : Hp} {ρ : List Addr} {st : Sto} (r : Rep N M ρ st H) {p : Addr} {o : Ob} (hn : p ∉ ρ) (ho : RO N M (ρ ++ [p]) H o p) : Rep N M (ρ ++ [p]) (st ++ [o]) H := by
  refine ⟨r.sub, by rw [List.length_append, List.length_append, r.len]; rfl, fun i j a e1 e2 => ?_, fun i a o' e1 e2 => ?_⟩
  · rw [List.getElem?_append] at e1 e2
    split at e1 <;> split at e2
    · exact r.inj i j a e1 e2
    · exfalso
      have : a = p := by
        cases z : j - ρ.length with
        | zero => rw [z] at e2; simpa using e2.symm
        | succ n => rw [z] at e2; simp at e2
      rw [this] at e1
      exact hn (List.mem_of_getElem? e1)
    · exfalso
      have : a = p := by
        cases z : i - ρ.length with
        | zero => rw [z] at e1; simpa using e1.symm
        | succ n => rw [z] at e1; simp at e1
      rw [this] at e2
      exact hn (List.mem_of_getElem? e2)
    · rename_i h1 h2
      have k1 : i - ρ.length = 0 := by
        have := (List.getElem?_eq_some_iff.mp e1).1
        simpa using this
      have k2 : j - ρ.length = 0 := by
        have := (List.getElem?_eq_some_iff.mp e2).1
        simpa using this
      omega
  · rw [List.getElem?_append] at e1 e2
    split at e1
    · rename_i h1
      rw [if_pos (by rw [← r.len]; exact h1)] at e2
      exact (r.ob i a o' e1 e2).mono (Same.refl _) ⟨[p], rfl⟩ (fun h => h) fun u hu => hu
    · rename_i h1
      rw [if_neg (by rw [← r.len]; exact h1)] at e2
      have k1 : i - ρ.length = 0 := by
        have := (List.getElem?_eq_some_iff.mp e1).1
        simpa using this
      rw [k1] at e1
      rw [← r.len, k1] at e2
      cases e1
      cases e2
      exact ho
theorem lc_D {it : Lv (List D)} {g : DG} {gV : TG} {tt : DT} {te : DD} {vs : List Nat} {σV : L2.St} {H : Hp} {Q : VK} (g2 : GOk N vs g gV) (h : lD N Wx (dLc it g tt te vs) σV H Q) : uLc (lI N Wx it) gV (lT N W0 tt) (lD N W0 te) vs σV H Q := by
  obtain ⟨M, ρ, σ, st, k, ex, c, ht, q⟩ := Kx.open_ h
  refine lc_lift g2 c ht fun acc st' hk p M' ρ' H' xs E r hm hn hH hp ra => ?_
  have E2 : Ext M ρ H (upd M' p (.lst xs)) ρ' H' := ⟨E.mm.trans (same_grow0 hm), E.pre, E.fr, fun a z => by
    by_cases w : a = p
    · exact .inr (.inl (by rw [w]; exact hH))
    · rw [upd_ne w] at z; exact E.nw a z, E.rn⟩
  exact q _ _ hk _ _ ρ' H' E2 (c.step E2 (r.adopt hm hn hp)) ⟨p, xs, rfl, upd_same, ra.mono (same_grow0 hm)⟩
theorem lc_M {it : Lv (List D)} {g : DG} {gV : TG} {tt : DT} {te : DD} {vs : List Nat} {σV : L2.St} {H : Hp} {Q : VK} (g2 : GOk N vs g gV) (h : lW N Wx (dLcM it g tt te vs) σV H Q) : uLc (lI N Wx it) gV (lT N W0 tt) (lD N W0 te) vs σV H Q := by
  obtain ⟨M, ρ, σ, st, k, ex, c, ht, q⟩ := Kx.open_ h
  refine lc_lift g2 c ht fun acc st' hk p M' ρ' H' xs E r hm hn hH hp ra => ?_
  have R := r.adoptL (o := .lst acc) hn ⟨hm, xs, hp, ra⟩
  have E2 : Ext M ρ H M' (ρ' ++ [p]) H' := ⟨E.mm, E.pre.trans ⟨[p], rfl⟩, E.fr, E.nw, fun a z => by
    rcases List.mem_append.mp z with z | z
    · exact E.rn a z
    · rw [List.mem_singleton] at z; rw [z]; exact .inr hH⟩
  exact q _ _ hk _ _ _ H' E2 (c.step E2 R) ⟨p, r.last p, rfl⟩
theorem lW_I {t : DD} {σV : L2.St} {H : Hp} {Q : VK} (h : lW N Wx (dI t) σV H Q) : lD N Wx t σV H Q := by
  obtain ⟨M, ρ, σ, st, k, ex, c, ht, q⟩ := Kx.open_ h
  exact Lf.of c ht fun d st' hk v M' ρ' H' E c' r => q _ _ hk v M' ρ' H' E c' r
theorem yes_ok {N : Kn} : ∀ σV H Q, lT N W0 dYes σV H Q → tYes σV H Q := fun σV H Q h => by
  obtain ⟨M, ρ, σ, st, k, ex, c, ht, q⟩ := Kx.open_ h
  exact q _ _ ht _ M ρ H Ext.refl c rfl
theorem PTs.imp {es : List Expr} {t t' : TT} (h : PTs X es t) (i : ∀ σ H Q, t' σ H Q → t σ H Q) : PTs X es t' := ⟨fun pins s σ H Q I q => h.run pins s σ H Q I (i σ H Q q)⟩
theorem ts_nil {N : Kn} : PTs X [] (lT N W0 dYes) := PTs.imp pts_nil yes_ok
theorem ts_one {N : Kn} {t : DT} (h : PT X e (lT N W0 t)) : PTs X [e] (lT N W0 t) := pts_one h
section
variable {elt iter : Expr} {ifs : List Expr} {scope : Scope} {own : List (Str × Nat)} {it : Lv (List D)} {g : DG} {gV : TG} {tt : DT} {te : DD}
theorem e_lcD (g2 : GOk N (own.map (·.2)) g gV) (hc : X.calm = true) (hN : X.N.Nodup) (hi : PI X tg iter (lI N Wx it)) (ok : BlkOk X.N X.env.scope scope own)
    (hg : ∀ (s : Shared) (H : Hp) (C : Addr) (cl : List (Str × Addr)) (fp : List Addr), PG (X.blk s H scope (compEnvC scope cl C X.env) fp) tg gV) (ht : ∀ (s : Shared) (H : Hp) (C : Addr) (cl : List (Str × Addr)) (fp : List Addr), PTs (X.blk s H scope (compEnvC scope cl C X.env) fp) ifs (lT N W0 tt))
    (he : ∀ (s : Shared) (H : Hp) (C : Addr) (cl : List (Str × Addr)) (fp : List Addr), PE (X.blk s H scope (compEnvC scope cl C X.env) fp) elt (lD N W0 te)) (hs : ∀ x, foldedSetIterable iter X.env x = pure x := by intro _; rfl) :
    PE X (.ListComp elt [⟨tg, iter, ifs, 0⟩] scope pos) (lD N Wx (dLc it g tt te (own.map (·.2)))) := PE.imp (Co.e_lc hc hN hi ok hg ht he hs) fun _ _ _ => lc_D g2
theorem e_lcM (g2 : GOk N (own.map (·.2)) g gV) (hc : X.calm = true) (hN : X.N.Nodup) (hi : PI X tg iter (lI N Wx it)) (ok : BlkOk X.N X.env.scope scope own)
    (hg : ∀ (s : Shared) (H : Hp) (C : Addr) (cl : List (Str × Addr)) (fp : List Addr), PG (X.blk s H scope (compEnvC scope cl C X.env) fp) tg gV) (ht : ∀ (s : Shared) (H : Hp) (C : Addr) (cl : List (Str × Addr)) (fp : List Addr), PTs (X.blk s H scope (compEnvC scope cl C X.env) fp) ifs (lT N W0 tt))
    (he : ∀ (s : Shared) (H : Hp) (C : Addr) (cl : List (Str × Addr)) (fp : List Addr), PE (X.blk s H scope (compEnvC scope cl C X.env) fp) elt (lD N W0 te)) (hs : ∀ x, foldedSetIterable iter X.env x = pure x := by intro _; rfl) :
    PE X (.ListComp elt [⟨tg, iter, ifs, 0⟩] scope pos) (lW N Wx (dLcM it g tt te (own.map (·.2)))) := PE.imp (Co.e_lc hc hN hi ok hg ht he hs) fun _ _ _ => lc_M g2
variable {i : Nat} {y : Str} {py spos : Pos}
theorem s_setLcD (g2 : GOk N (own.map (·.2)) g gV) (hc : X.calm = true) (hN : X.N.Nodup) (hy : X.N[i]? = some y) (hyl : X.env.scope.names.lookup y = some .local)
    (hsw : swapsWith (.ListComp elt [⟨tg, iter, ifs, 0⟩] scope pos) (some (.Name y py)) spos.line X.env = pure true) (hi : PI X tg iter (lI N Wx it)) (ok : BlkOk X.N X.env.scope scope own)
    (hg : ∀ (s : Shared) (H : Hp) (C : Addr) (cl : List (Str × Addr)) (fp : List Addr), PG (X.blk s H scope (compEnvC scope cl C X.env) fp) tg gV) (ht : ∀ (s : Shared) (H : Hp) (C : Addr) (cl : List (Str × Addr)) (fp : List Addr), PTs (X.blk s H scope (compEnvC scope cl C X.env) fp) ifs (lT N W0 tt))
    (he : ∀ (s : Shared) (H : Hp) (C : Addr) (cl : List (Str × Addr)) (fp : List Addr), PE (X.blk s H scope (compEnvC scope cl C X.env) fp) elt (lD N W0 te)) (hs : ∀ x, foldedSetIterable iter X.env x = pure x := by intro _; rfl) :
    PS X (.Assign [.Name y py] (.ListComp elt [⟨tg, iter, ifs, 0⟩] scope pos) spos) (lS N Wx (sAsg i (dI (dLc it g tt te (own.map (·.2)))))) := s_asg (PS.imp (Co.s_setLc hc hN hy hyl hsw hi ok hg ht he hs) fun _ _ _ h => lc_D g2 (lW_I h))
theorem s_setLcM (g2 : GOk N (own.map (·.2)) g gV) (hc : X.calm = true) (hN : X.N.Nodup) (hy : X.N[i]? = some y) (hyl : X.env.scope.names.lookup y = some .local)
    (hsw : swapsWith (.ListComp elt [⟨tg, iter, ifs, 0⟩] scope pos) (some (.Name y py)) spos.line X.env = pure true) (hi : PI X tg iter (lI N Wx it)) (ok : BlkOk X.N X.env.scope scope own)
    (hg : ∀ (s : Shared) (H : Hp) (C : Addr) (cl : List (Str × Addr)) (fp : List Addr), PG (X.blk s H scope (compEnvC scope cl C X.env) fp) tg gV) (ht : ∀ (s : Shared) (H : Hp) (C : Addr) (cl : List (Str × Addr)) (fp : List Addr), PTs (X.blk s H scope (compEnvC scope cl C X.env) fp) ifs (lT N W0 tt))
    (he : ∀ (s : Shared) (H : Hp) (C : Addr) (cl : List (Str × Addr)) (fp : List Addr), PE (X.blk s H scope (compEnvC scope cl C X.env) fp) elt (lD N W0 te)) (hs : ∀ x, foldedSetIterable iter X.env x = pure x := by intro _; rfl) :
    PS X (.Assign [.Name y py] (.ListComp elt [⟨tg, iter, ifs, 0⟩] scope pos) spos) (lS N Wx (sAsg i (dLcM it g tt te (own.map (·.2))))) := s_asg (PS.imp (Co.s_setLc hc hN hy hyl hsw hi ok hg ht he hs) fun _ _ _ h => lc_M g2 h)
end
end
end Dl
end

section
set_option maxHeartbeats 4000000
namespace Dl
open PySem PySem.Spec PyProof.Rows L2 Co
mutual
def eqvD : D → D → Bool
  | .non, .non => true
  | .bl a, .bl b => a == b
  | .bl a, .int j => (if a then 1 else 0) == j
  | .int i, .bl b => i == (if b then 1 else 0)
  | .int i, .int j => i == j
  | .str x, .str y => x == y
  | .lst xs, .lst ys => eqvDs xs ys
  | .tup xs, .tup ys => eqvDs xs ys
  | _, _ => false
def eqvDs : List D → List D → Bool
  | [], [] => true
  | x :: xs, y :: ys => eqvD x y && eqvDs xs ys
  | _, _ => false
end
def shp : Nat → D → Bool
  | _, .non => true
  | _, .bl _ => true
  | _, .int _ => true
  | _, .str _ => true
  | n + 1, .tup ds => ds.all (shp n)
  | n + 1, .lst ds => ds.all (shp n)
  | _, _ => false
theorem shp_mono : ∀ (n : Nat) (d : D), shp n d = true → shp (n + 1) d = true
  | n, .non, _ => rfl
  | n, .bl _, _ => rfl
  | n, .int _, _ => rfl
  | n, .str _, _ => rfl
  | 0, .tup ds, h => by cases h
  | 0, .lst ds, h => by cases h
  | n + 1, .tup ds, h => List.all_eq_true.mpr fun d hd => shp_mono n d (List.all_eq_true.mp h d hd)
  | n + 1, .lst ds, h => List.all_eq_true.mpr fun d hd => shp_mono n d (List.all_eq_true.mp h d hd)
  | 0, .ty _, h => by cases h
  | n + 1, .ty _, h => by cases h
  | 0, .glo _, h => by cases h
  | n + 1, .glo _, h => by cases h
  | 0, .scr _, h => by cases h
  | n + 1, .scr _, h => by cases h
  | 0, .dct _ _, h => by cases h
  | n + 1, .dct _ _, h => by cases h
  | 0, .dcT _ _, h => by cases h
  | n + 1, .dcT _ _, h => by cases h
  | 0, .ins _ _ _, h => by cases h
  | 0, .exc _ _ _ _ _, h => by cases h
  | n + 1, .ins _ _ _, h => by cases h
  | n + 1, .exc _ _ _ _ _, h => by cases h
mutual
theorem eqvD_refl : ∀ (d : D) (n : Nat), shp n d = true → eqvD d d = true
  | .non, _, _ => rfl
  | .bl b, _, _ => by simp [eqvD]
  | .int i, _, _ => by simp [eqvD]
  | .str x, _, _ => by simp [eqvD]
  | .tup ds, 0, h => by cases h
  | .lst ds, 0, h => by cases h
  | .tup ds, n + 1, h => by rw [eqvD]; exact eqvDs_refl ds n h
  | .lst ds, n + 1, h => by rw [eqvD]; exact eqvDs_refl ds n h
  | .ty _, n, h => by cases n <;> cases h
  | .glo _, n, h => by cases n <;> cases h
  | .scr _, n, h => by cases n <;> cases h
  | .dct _ _, n, h => by cases n <;> cases h
  | .dcT _ _, n, h => by cases n <;> cases h
  | .ins _ _ _, n, h => by cases n <;> cases h
  | .exc _ _ _ _ _, n, h => by cases n <;> cases h
theorem eqvDs_refl : ∀ (ds : List D) (n : Nat), ds.all (shp n) = true → eqvDs ds ds = true
  | [], _, _ => rfl
  | d :: ds, n, h => by
    rw [List.all_cons, Bool.and_eq_true] at h
    rw [eqvDs, eqvD_refl d n h.1, eqvDs_refl ds n h.2]
    rfl
end
theorem eqvDs_at : ∀ (xs ys : List D), eqvDs xs ys = ((List.range (min xs.length ys.length)).all (fun j => eqvD (xs.getD j .non) (ys.getD j .non)) && xs.length == ys.length)
  | [], [] => rfl
  | [], y :: ys => by simp [eqvDs]
  | x :: xs, [] => by simp [eqvDs]
  | x :: xs, y :: ys => by
    rw [eqvDs, eqvDs_at xs ys, List.length_cons, List.length_cons, Nat.succ_min_succ, List.range_succ_eq_map, List.all_cons, List.all_map]
    have e1 : ((fun j => eqvD ((x :: xs).getD j .non) ((y :: ys).getD j .non)) ∘ Nat.succ) = fun j => eqvD (xs.getD j .non) (ys.getD j .non) := by
      funext j
      simp
    rw [e1]
    have e2 : (xs.length + 1 == ys.length + 1) = (xs.length == ys.length) := by
      by_cases z : xs.length = ys.length
      · simp [z]
      · rw [beq_eq_false_iff_ne.mpr z, beq_eq_false_iff_ne.mpr (by omega)]
    rw [e2, Bool.and_assoc]
    rfl
section
variable {X : Cx} {pins : List (Addr × Obj)} {σ : L2.St} {F H : Hp} {s : Shared} {N : Kn}
mutual
theorem rp_inj (I : Inv X pins σ H s) (hK : N.K = X.K) (sub : Sub F H) : ∀ (d e : D) (n : Nat) (v : V), shp n d = true → shp n e = true → Rp N F d v → Rp N F e v → d = e
  | .non, e, n, v, h1, h2, r1, r2 => by
    cases r1
    cases e <;> first | rfl | (cases r2; done) | (obtain ⟨_, _, z, _⟩ := r2; cases z; done) | (obtain ⟨_, z, _⟩ := r2; cases z; done) | (cases n <;> cases h2 <;> done)
  | .bl b, e, n, v, h1, h2, r1, r2 => by
    cases r1
    cases e <;> first | (cases r2; rfl) | (cases r2; done) | (obtain ⟨_, _, z, _⟩ := r2; cases z; done) | (obtain ⟨_, z, _⟩ := r2; cases z; done) | (cases n <;> cases h2 <;> done)
  | .int b, e, n, v, h1, h2, r1, r2 => by
    cases r1
    cases e <;> first | (cases r2; rfl) | (cases r2; done) | (obtain ⟨_, _, z, _⟩ := r2; cases z; done) | (obtain ⟨_, z, _⟩ := r2; cases z; done) | (cases n <;> cases h2 <;> done)
  | .str b, e, n, v, h1, h2, r1, r2 => by
    cases r1
    cases e <;> first | (cases r2; rfl) | (cases r2; done) | (obtain ⟨_, _, z, _⟩ := r2; cases z; done) | (obtain ⟨_, z, _⟩ := r2; cases z; done) | (cases n <;> cases h2 <;> done)
  | .tup xs, e, 0, v, h1, h2, r1, r2 => by cases h1
  | .lst xs, e, 0, v, h1, h2, r1, r2 => by cases h1
  | .tup xs, e, n + 1, v, h1, h2, r1, r2 => by
    obtain ⟨p, vs, rfl, f1, g1⟩ := r1
    cases e <;> first | (cases r2; done) | (cases h2; done) | skip
    · obtain ⟨p2, vs2, z, f2, g2⟩ := r2
      cases z
      have := I.tuple_inj (hK ▸ sub.tup f1) (hK ▸ sub.tup f2)
      subst this
      rw [rps_inj I hK sub xs _ n vs h1 h2 g1 g2]
    · obtain ⟨p2, vs2, z, f2, g2⟩ := r2
      cases z
      obtain ⟨its, _, ⟨o, ho, hc, _⟩, _⟩ := I.tuple (hK ▸ sub.tup f1)
      obtain ⟨its2, _, ⟨o2, n2, ho2, hc2, _⟩, _⟩ := I.list (SqL.of (sub.lst1 f2))
      rw [ho] at ho2
      cases ho2
      rw [hc] at hc2
      exact absurd hc2 (by decide)
  | .lst xs, e, n + 1, v, h1, h2, r1, r2 => by
    obtain ⟨p, vs, rfl, f1, g1⟩ := r1
    cases e <;> first | (cases r2; done) | (cases h2; done) | skip
    · obtain ⟨p2, vs2, z, f2, g2⟩ := r2
      cases z
      obtain ⟨its, _, ⟨o, ho, hc, _⟩, _⟩ := I.tuple (hK ▸ sub.tup f2)
      obtain ⟨its2, _, ⟨o2, n2, ho2, hc2, _⟩, _⟩ := I.list (SqL.of (sub.lst1 f1))
      rw [ho] at ho2
      cases ho2
      rw [hc] at hc2
      exact absurd hc2 (by decide)
    · obtain ⟨p2, vs2, z, f2, g2⟩ := r2
      cases z
      rw [f1] at f2
      cases f2
      rw [rps_inj I hK sub xs _ n vs h1 h2 g1 g2]
  | .ty _, e, n, v, h1, h2, r1, r2 => by cases n <;> cases h1
  | .glo _, e, n, v, h1, h2, r1, r2 => by cases n <;> cases h1
  | .scr _, e, n, v, h1, h2, r1, r2 => by cases n <;> cases h1
  | .dct _ _, e, n, v, h1, h2, r1, r2 => by cases n <;> cases h1
  | .dcT _ _, e, n, v, h1, h2, r1, r2 => by cases n <;> cases h1
  | .ins _ _ _, e, n, v, h1, h2, r1, r2 => by cases n <;> cases h1
  | .exc _ _ _ _ _, e, n, v, h1, h2, r1, r2 => by cases n <;> cases h1
theorem rps_inj (I : Inv X pins σ H s) (hK : N.K = X.K) (sub : Sub F H) : ∀ (xs ys : List D) (n : Nat) (vs : List V), xs.all (shp n) = true → ys.all (shp n) = true → Rps N F xs vs → Rps N F ys vs → xs = ys
  | [], ys, n, vs, h1, h2, r1, r2 => by
    have : vs = [] := r1
    subst this
    have := r2.length
    exact (List.eq_nil_of_length_eq_zero (by simpa using this.symm)).symm
  | x :: xs, [], n, vs, h1, h2, r1, r2 => by
    have : vs = [] := r2
    subst this
    have := r1.length
    simp at this
  | x :: xs, y :: ys, n, vs, h1, h2, ⟨v, r, e1, a1, a2⟩, ⟨v', r', e2, b1, b2⟩ => by
    rw [e1] at e2
    cases e2
    rw [List.all_cons, Bool.and_eq_true] at h1 h2
    rw [rp_inj I hK sub x y n v h1.1 h2.1 a1 b1, rps_inj I hK sub xs ys n r h1.2 h2.2 a2 b2]
end
theorem item_eq {m : Nat} (ih : ∀ k, m + 1 = k + 1 → ∀ (A : Around) (d e : D) (v w : V) (u u' : Value), shp k d = true → shp k e = true → Rp N F d v → Rp N F e w → RelV v u → RelV w u' → A.units + k < cLine → SeqAt.EqAt A s u u' (eqvD d e)) {A : Around} {xs ys : List D} {vs vs2 : List V} {its its2 : List Value}
    (g : Rps N F xs vs) (g2 : Rps N F ys vs2) (rv : Vals vs its) (rv2 : Vals vs2 its2) (s1 : xs.all (shp m) = true) (s2 : ys.all (shp m) = true) (hn : A.units + m < cLine) (j : Nat) (j1 : j < xs.length) (j2 : j < ys.length) (h1 : j < its.toArray.size := by simpa using (by have := g.length; have := rv.length; omega)) (h2 : j < its2.toArray.size := by simpa using (by have := g2.length; have := rv2.length; omega)) :
    SeqAt.EqAt A s its.toArray[j] its2.toArray[j] (eqvD (xs.getD j .non) (ys.getD j .non)) := by
  obtain ⟨v, a1, a2⟩ := g.get (i := j) (d := xs[j]) (by simp [j1])
  obtain ⟨u, a3, a4⟩ := rv.get a1
  obtain ⟨w, b1, b2⟩ := g2.get (i := j) (d := ys[j]) (by simp [j2])
  obtain ⟨u', b3, b4⟩ := rv2.get b1
  have e1 : its.toArray[j] = u := by
    have := (List.getElem?_eq_some_iff.mp a3).2
    simpa using this
  have e2 : its2.toArray[j] = u' := by
    have := (List.getElem?_eq_some_iff.mp b3).2
    simpa using this
  have e3 : xs.getD j .non = xs[j] := by simp [List.getD, j1]
  have e4 : ys.getD j .non = ys[j] := by simp [List.getD, j2]
  rw [e1, e2, e3, e4]
  exact ih m rfl A _ _ v w u u' (List.all_eq_true.mp s1 _ (List.getElem_mem j1)) (List.all_eq_true.mp s2 _ (List.getElem_mem j2)) a2 b2 a4 b4 hn
theorem eq_both (I : Inv X pins σ H s) (hK : N.K = X.K) (sub : Sub F H) (n : Nat) (ih : ∀ m, n = m + 1 → ∀ (A : Around) (d e : D) (v w : V) (u u' : Value), shp m d = true → shp m e = true → Rp N F d v → Rp N F e w → RelV v u → RelV w u' → A.units + m < cLine → SeqAt.EqAt A s u u' (eqvD d e)) :
    ∀ (A : Around) (d e : D) (v w : V) (u u' : Value), shp n d = true → shp n e = true → Rp N F d v → Rp N F e w → RelV v u → RelV w u' → A.units + n < cLine → SeqAt.EqAt A s u u' (eqvD d e) ∧ SeqAt.RcAt A s u u' (eqvD d e) ∧ SeqAt.RcNeAt A s u u' (!eqvD d e) := by
  intro A d e v w u u' s1 s2 r1 r2 q1 q2 hn
  have hu : A.units < cLine := by omega
  have K1 : ∀ {a : Addr} {vs : List V}, H a = some (.lst vs) → SqL X.K H a vs := fun h => SqL.of h
  have K2 : ∀ {a : Addr} {vs : List V}, SqT N.K H a vs → SqT X.K H a vs := fun h => hK ▸ h
  open SeqAt in
  exact match d, e, s1, s2, r1, r2 with
  | .non, .non, s1, s2, r1, r2 => by
    cases r1; cases q1; cases r2; cases q2; exact ⟨EqAt.same _, RcAt.none_none, RcNeAt.none_none⟩
  | .non, .bl y, s1, s2, r1, r2 => by
    cases r1; cases q1; cases r2; cases q2; exact ⟨EqAt.none_bool y, RcAt.none_bool y, RcNeAt.none_bool y⟩
  | .non, .int y, s1, s2, r1, r2 => by
    cases r1; cases q1; cases r2; obtain ⟨t2, rfl⟩ := q2; exact ⟨EqAt.none_int y t2, RcAt.none_int y t2, RcNeAt.none_int y t2⟩
  | .non, .str y, s1, s2, r1, r2 => by
    cases r1; cases q1; cases r2; obtain ⟨t2, rfl⟩ := q2; exact ⟨EqAt.none_str y t2, RcAt.none_str y t2, RcNeAt.none_str y t2⟩
  | .non, .lst ys, s1, s2, r1, r2 => by
    cases r1; cases q1; obtain ⟨p2, vs2, rfl, f2, g2⟩ := r2; cases q2; obtain ⟨its2, rv2, hl2, _⟩ := I.list (K1 (sub.lst1 f2)); exact ⟨EqAt.none_list hl2.isList hu, RcAt.none_list hl2.isList hu, RcNeAt.none_list hl2.isList hu⟩
  | .non, .tup ys, s1, s2, r1, r2 => by
    cases r1; cases q1; obtain ⟨p2, vs2, rfl, f2, g2⟩ := r2; cases q2; obtain ⟨its2, rv2, hl2, _⟩ := I.tuple (K2 (sub.tup f2)); exact ⟨EqAt.none_tuple hl2 hu, RcAt.none_tuple hl2 hu, RcNeAt.none_tuple hl2 hu⟩
  | .bl x, .non, s1, s2, r1, r2 => by
    cases r1; cases q1; cases r2; cases q2; exact ⟨EqAt.bool_none x, RcAt.bool_none x, RcNeAt.bool_none x⟩
  | .bl x, .bl y, s1, s2, r1, r2 => by
    cases r1; cases q1; cases r2; cases q2; exact ⟨EqAt.bool_bool x y, RcAt.bool_bool x y, RcNeAt.bool_bool x y⟩
  | .bl x, .int y, s1, s2, r1, r2 => by
    cases r1; cases q1; cases r2; obtain ⟨t2, rfl⟩ := q2; exact ⟨EqAt.bool_int x y t2, RcAt.bool_int x y t2, RcNeAt.bool_int x y t2⟩
  | .bl x, .str y, s1, s2, r1, r2 => by
    cases r1; cases q1; cases r2; obtain ⟨t2, rfl⟩ := q2; exact ⟨EqAt.bool_str x y t2, RcAt.bool_str x y t2, RcNeAt.bool_str x y t2⟩
  | .bl x, .lst ys, s1, s2, r1, r2 => by
    cases r1; cases q1; obtain ⟨p2, vs2, rfl, f2, g2⟩ := r2; cases q2; obtain ⟨its2, rv2, hl2, _⟩ := I.list (K1 (sub.lst1 f2)); exact ⟨EqAt.bool_list x hl2.isList hu, RcAt.bool_list x hl2.isList hu, RcNeAt.bool_list x hl2.isList hu⟩
  | .bl x, .tup ys, s1, s2, r1, r2 => by
    cases r1; cases q1; obtain ⟨p2, vs2, rfl, f2, g2⟩ := r2; cases q2; obtain ⟨its2, rv2, hl2, _⟩ := I.tuple (K2 (sub.tup f2)); exact ⟨EqAt.bool_tuple x hl2 hu, RcAt.bool_tuple x hl2 hu, RcNeAt.bool_tuple x hl2 hu⟩
  | .int x, .non, s1, s2, r1, r2 => by
    cases r1; obtain ⟨t, rfl⟩ := q1; cases r2; cases q2; exact ⟨EqAt.int_none x t, RcAt.int_none x t, RcNeAt.int_none x t⟩
  | .int x, .bl y, s1, s2, r1, r2 => by
    cases r1; obtain ⟨t, rfl⟩ := q1; cases r2; cases q2; exact ⟨EqAt.int_bool x t y, RcAt.int_bool x t y, RcNeAt.int_bool x t y⟩
  | .int x, .int y, s1, s2, r1, r2 => by
    cases r1; obtain ⟨t, rfl⟩ := q1; cases r2; obtain ⟨t2, rfl⟩ := q2; exact ⟨EqAt.int_int x t y t2, RcAt.int_int x t y t2, RcNeAt.int_int x t y t2⟩
  | .int x, .str y, s1, s2, r1, r2 => by
    cases r1; obtain ⟨t, rfl⟩ := q1; cases r2; obtain ⟨t2, rfl⟩ := q2; exact ⟨EqAt.int_str x t y t2, RcAt.int_str x t y t2, RcNeAt.int_str x t y t2⟩
  | .int x, .lst ys, s1, s2, r1, r2 => by
    cases r1; obtain ⟨t, rfl⟩ := q1; obtain ⟨p2, vs2, rfl, f2, g2⟩ := r2; cases q2; obtain ⟨its2, rv2, hl2, _⟩ := I.list (K1 (sub.lst1 f2)); exact ⟨EqAt.int_list x t hl2.isList hu, RcAt.int_list x t hl2.isList hu, RcNeAt.int_list x t hl2.isList hu⟩
  | .int x, .tup ys, s1, s2, r1, r2 => by
    cases r1; obtain ⟨t, rfl⟩ := q1; obtain ⟨p2, vs2, rfl, f2, g2⟩ := r2; cases q2; obtain ⟨its2, rv2, hl2, _⟩ := I.tuple (K2 (sub.tup f2)); exact ⟨EqAt.int_tuple x t hl2 hu, RcAt.int_tuple x t hl2 hu, RcNeAt.int_tuple x t hl2 hu⟩
  | .str x, .non, s1, s2, r1, r2 => by
    cases r1; obtain ⟨t, rfl⟩ := q1; cases r2; cases q2; exact ⟨EqAt.str_none x t, RcAt.str_none x t, RcNeAt.str_none x t⟩
  | .str x, .bl y, s1, s2, r1, r2 => by
    cases r1; obtain ⟨t, rfl⟩ := q1; cases r2; cases q2; exact ⟨EqAt.str_bool x t y, RcAt.str_bool x t y, RcNeAt.str_bool x t y⟩
  | .str x, .int y, s1, s2, r1, r2 => by
    cases r1; obtain ⟨t, rfl⟩ := q1; cases r2; obtain ⟨t2, rfl⟩ := q2; exact ⟨EqAt.str_int x t y t2, RcAt.str_int x t y t2, RcNeAt.str_int x t y t2⟩
  | .str x, .str y, s1, s2, r1, r2 => by
    cases r1; obtain ⟨t, rfl⟩ := q1; cases r2; obtain ⟨t2, rfl⟩ := q2; exact ⟨EqAt.str_str x t y t2, RcAt.str_str x t y t2, RcNeAt.str_str x t y t2⟩
  | .str x, .lst ys, s1, s2, r1, r2 => by
    cases r1; obtain ⟨t, rfl⟩ := q1; obtain ⟨p2, vs2, rfl, f2, g2⟩ := r2; cases q2; obtain ⟨its2, rv2, hl2, _⟩ := I.list (K1 (sub.lst1 f2)); exact ⟨EqAt.str_list x t hl2.isList hu, RcAt.str_list x t hl2.isList hu, RcNeAt.str_list x t hl2.isList hu⟩
  | .str x, .tup ys, s1, s2, r1, r2 => by
    cases r1; obtain ⟨t, rfl⟩ := q1; obtain ⟨p2, vs2, rfl, f2, g2⟩ := r2; cases q2; obtain ⟨its2, rv2, hl2, _⟩ := I.tuple (K2 (sub.tup f2)); exact ⟨EqAt.str_tuple x t hl2 hu, RcAt.str_tuple x t hl2 hu, RcNeAt.str_tuple x t hl2 hu⟩
  | .lst xs, .non, s1, s2, r1, r2 => by
    obtain ⟨p, vs, rfl, f, g⟩ := r1; cases q1; obtain ⟨its, rv, hl, _⟩ := I.list (K1 (sub.lst1 f)); cases r2; cases q2; exact ⟨EqAt.list_none hl.isList hu, RcAt.list_none hl.isList hu, RcNeAt.list_none hl.isList hu⟩
  | .lst xs, .bl y, s1, s2, r1, r2 => by
    obtain ⟨p, vs, rfl, f, g⟩ := r1; cases q1; obtain ⟨its, rv, hl, _⟩ := I.list (K1 (sub.lst1 f)); cases r2; cases q2; exact ⟨EqAt.list_bool y hl.isList hu, RcAt.list_bool y hl.isList hu, RcNeAt.list_bool y hl.isList hu⟩
  | .lst xs, .int y, s1, s2, r1, r2 => by
    obtain ⟨p, vs, rfl, f, g⟩ := r1; cases q1; obtain ⟨its, rv, hl, _⟩ := I.list (K1 (sub.lst1 f)); cases r2; obtain ⟨t2, rfl⟩ := q2; exact ⟨EqAt.list_int y t2 hl.isList hu, RcAt.list_int y t2 hl.isList hu, RcNeAt.list_int y t2 hl.isList hu⟩
  | .lst xs, .str y, s1, s2, r1, r2 => by
    obtain ⟨p, vs, rfl, f, g⟩ := r1; cases q1; obtain ⟨its, rv, hl, _⟩ := I.list (K1 (sub.lst1 f)); cases r2; obtain ⟨t2, rfl⟩ := q2; exact ⟨EqAt.list_str y t2 hl.isList hu, RcAt.list_str y t2 hl.isList hu, RcNeAt.list_str y t2 hl.isList hu⟩
  | .lst xs, .tup ys, s1, s2, r1, r2 => by
    obtain ⟨p, vs, rfl, f, g⟩ := r1; cases q1; obtain ⟨its, rv, hl, _⟩ := I.list (K1 (sub.lst1 f)); obtain ⟨p2, vs2, rfl, f2, g2⟩ := r2; cases q2; obtain ⟨its2, rv2, hl2, _⟩ := I.tuple (K2 (sub.tup f2)); exact ⟨EqAt.list_tuple hl.isList hl2 hu, RcAt.list_tuple hl.isList hl2 hu, RcNeAt.list_tuple hl.isList hl2 hu⟩
  | .tup xs, .non, s1, s2, r1, r2 => by
    obtain ⟨p, vs, rfl, f, g⟩ := r1; cases q1; obtain ⟨its, rv, hl, _⟩ := I.tuple (K2 (sub.tup f)); cases r2; cases q2; exact ⟨EqAt.tuple_none hl hu, RcAt.tuple_none hl hu, RcNeAt.tuple_none hl hu⟩
  | .tup xs, .bl y, s1, s2, r1, r2 => by
    obtain ⟨p, vs, rfl, f, g⟩ := r1; cases q1; obtain ⟨its, rv, hl, _⟩ := I.tuple (K2 (sub.tup f)); cases r2; cases q2; exact ⟨EqAt.tuple_bool y hl hu, RcAt.tuple_bool y hl hu, RcNeAt.tuple_bool y hl hu⟩
  | .tup xs, .int y, s1, s2, r1, r2 => by
    obtain ⟨p, vs, rfl, f, g⟩ := r1; cases q1; obtain ⟨its, rv, hl, _⟩ := I.tuple (K2 (sub.tup f)); cases r2; obtain ⟨t2, rfl⟩ := q2; exact ⟨EqAt.tuple_int y t2 hl hu, RcAt.tuple_int y t2 hl hu, RcNeAt.tuple_int y t2 hl hu⟩
  | .tup xs, .str y, s1, s2, r1, r2 => by
    obtain ⟨p, vs, rfl, f, g⟩ := r1; cases q1; obtain ⟨its, rv, hl, _⟩ := I.tuple (K2 (sub.tup f)); cases r2; obtain ⟨t2, rfl⟩ := q2; exact ⟨EqAt.tuple_str y t2 hl hu, RcAt.tuple_str y t2 hl hu, RcNeAt.tuple_str y t2 hl hu⟩
  | .tup xs, .lst ys, s1, s2, r1, r2 => by
    obtain ⟨p, vs, rfl, f, g⟩ := r1; cases q1; obtain ⟨its, rv, hl, _⟩ := I.tuple (K2 (sub.tup f)); obtain ⟨p2, vs2, rfl, f2, g2⟩ := r2; cases q2; obtain ⟨its2, rv2, hl2, _⟩ := I.list (K1 (sub.lst1 f2)); exact ⟨EqAt.tuple_list hl hl2.isList hu, RcAt.tuple_list hl hl2.isList hu, RcNeAt.tuple_list hl hl2.isList hu⟩
  | .lst xs, .lst ys, s1, s2, r1, r2 => by
    have R1 := r1
    have R2 := r2
    obtain ⟨p, vs, rfl, f, g⟩ := r1; cases q1; obtain ⟨its, rv, hl, _⟩ := I.list (K1 (sub.lst1 f))
    obtain ⟨p2, vs2, rfl, f2, g2⟩ := r2; cases q2; obtain ⟨its2, rv2, hl2, _⟩ := I.list (K1 (sub.lst1 f2))
    have n1 : its.toArray.size = xs.length := by rw [← g.length, rv.length]; simp
    have n2 : its2.toArray.size = ys.length := by rw [← g2.length, rv2.length]; simp
    have rc : RcAt A s (.ref p) (.ref p2) (eqvD (.lst xs) (.lst ys)) := by
      rw [eqvD, eqvDs_at]
      by_cases hsz : xs.length = ys.length
      · rw [hsz, Nat.min_self, beq_self_eq_true, Bool.and_true, ← hsz, ← n1]
        cases n with
        | zero => cases s1
        | succ m =>
          refine RcAt.lists hl.isList hl2.isList (by omega) hu fun j j1 j2 => ?_
          rw [n1] at j1
          rw [n2] at j2
          exact item_eq ih g g2 rv rv2 s1 s2 (by have : A.in1.units = A.units + 1 := rfl; omega) j j1 j2
      · rw [beq_eq_false_iff_ne.mpr hsz, Bool.and_false]
        exact RcAt.lists_lengths hl.isList hl2.isList (by rw [n1, n2]; exact bne_iff_ne.mpr hsz) hu
    have rn : RcNeAt A s (.ref p) (.ref p2) (!eqvD (.lst xs) (.lst ys)) := by
      rw [eqvD, eqvDs_at]
      by_cases hsz : xs.length = ys.length
      · rw [hsz, Nat.min_self, beq_self_eq_true, Bool.and_true, ← hsz, ← n1]
        cases n with
        | zero => cases s1
        | succ m =>
          refine RcNeAt.lists hl.isList hl2.isList (by omega) hu fun j j1 j2 => ?_
          rw [n1] at j1
          rw [n2] at j2
          exact item_eq ih g g2 rv rv2 s1 s2 (by have : A.in1.units = A.units + 1 := rfl; omega) j j1 j2
      · rw [beq_eq_false_iff_ne.mpr hsz, Bool.and_false]
        exact RcNeAt.lists_lengths hl.isList hl2.isList (by rw [n1, n2]; exact bne_iff_ne.mpr hsz) hu
    refine ⟨?_, rc, rn⟩
    by_cases hp : p = p2
    · subst hp
      rw [rp_inj I hK sub _ _ n _ s1 s2 R1 R2, eqvD_refl _ n s2]
      exact EqAt.same _
    · exact EqAt.of_refs hp rc
  | .tup xs, .tup ys, s1, s2, r1, r2 => by
    have R1 := r1
    have R2 := r2
    obtain ⟨p, vs, rfl, f, g⟩ := r1; cases q1; obtain ⟨its, rv, hl, _⟩ := I.tuple (K2 (sub.tup f))
    obtain ⟨p2, vs2, rfl, f2, g2⟩ := r2; cases q2; obtain ⟨its2, rv2, hl2, _⟩ := I.tuple (K2 (sub.tup f2))
    have n1 : its.toArray.size = xs.length := by rw [← g.length, rv.length]; simp
    have n2 : its2.toArray.size = ys.length := by rw [← g2.length, rv2.length]; simp
    have rc : RcAt A s (.ref p) (.ref p2) (eqvD (.tup xs) (.tup ys)) := by
      rw [eqvD, eqvDs_at, ← n1, ← n2]
      cases n with
      | zero => cases s1
      | succ m =>
        refine RcAt.tuples (show s.heap.IsTuple p its.toArray from hl) (show s.heap.IsTuple p2 its2.toArray from hl2) hu fun j j1 j2 => ?_
        rw [n1] at j1
        rw [n2] at j2
        exact item_eq ih g g2 rv rv2 s1 s2 (by have : A.in1.units = A.units + 1 := rfl; omega) j j1 j2
    have rn : RcNeAt A s (.ref p) (.ref p2) (!eqvD (.tup xs) (.tup ys)) := by
      rw [eqvD, eqvDs_at, ← n1, ← n2]
      cases n with
      | zero => cases s1
      | succ m =>
        refine RcNeAt.tuples (show s.heap.IsTuple p its.toArray from hl) (show s.heap.IsTuple p2 its2.toArray from hl2) hu fun j j1 j2 => ?_
        rw [n1] at j1
        rw [n2] at j2
        exact item_eq ih g g2 rv rv2 s1 s2 (by have : A.in1.units = A.units + 1 := rfl; omega) j j1 j2
    refine ⟨?_, rc, rn⟩
    by_cases hp : p = p2
    · subst hp
      rw [rp_inj I hK sub _ _ n _ s1 s2 R1 R2, eqvD_refl _ n s2]
      exact EqAt.same _
    · exact EqAt.of_refs hp rc
  | .ty _, _, s1, _, _, _ => by cases n <;> cases s1
  | .glo _, _, s1, _, _, _ => by cases n <;> cases s1
  | .scr _, _, s1, _, _, _ => by cases n <;> cases s1
  | .dct _ _, _, s1, _, _, _ => by cases n <;> cases s1
  | .dcT _ _, _, s1, _, _, _ => by cases n <;> cases s1
  | .ins _ _ _, _, s1, _, _, _ => by cases n <;> cases s1
  | .exc _ _ _ _ _, _, s1, _, _, _ => by cases n <;> cases s1
  | _, .ty _, _, s2, _, _ => by cases n <;> cases s2
  | _, .glo _, _, s2, _, _ => by cases n <;> cases s2
  | _, .scr _, _, s2, _, _ => by cases n <;> cases s2
  | _, .dct _ _, _, s2, _, _ => by cases n <;> cases s2
  | _, .dcT _ _, _, s2, _, _ => by cases n <;> cases s2
  | _, .ins _ _ _, _, s2, _, _ => by cases n <;> cases s2
  | _, .exc _ _ _ _ _, _, s2, _, _ => by cases n <;> cases s2
end
end Dl
end

section
set_option maxHeartbeats 4000000
namespace Dl
open PySem PySem.Spec PyProof.Rows L2 Co
section
variable {X : Cx} {pins : List (Addr × Obj)} {F H : Hp} {s : Shared} {N : Kn}
theorem eqAt_d {σ : L2.St} (I : Inv X pins σ H s) (hK : N.K = X.K) (sub : Sub F H) : ∀ (n : Nat) (A : Around) (d e : D) (v w : V) (u u' : Value), shp n d = true → shp n e = true → Rp N F d v → Rp N F e w → RelV v u → RelV w u' → A.units + n < cLine → SeqAt.EqAt A s u u' (eqvD d e)
  | 0 => fun A d e v w u u' s1 s2 r1 r2 q1 q2 h => (eq_both I hK sub 0 (fun m e => absurd e (by omega)) A d e v w u u' s1 s2 r1 r2 q1 q2 h).1
  | n + 1 => fun A d e v w u u' s1 s2 r1 r2 q1 q2 h => (eq_both I hK sub (n + 1) (fun m e => by cases e; exact eqAt_d I hK sub n) A d e v w u u' s1 s2 r1 r2 q1 q2 h).1
theorem rcAt_d {σ : L2.St} (I : Inv X pins σ H s) (hK : N.K = X.K) (sub : Sub F H) (n : Nat) {A : Around} {d e : D} {v w : V} {u u' : Value} (s1 : shp n d = true) (s2 : shp n e = true) (r1 : Rp N F d v) (r2 : Rp N F e w) (q1 : RelV v u) (q2 : RelV w u') (h : A.units + n < cLine) :
    SeqAt.RcAt A s u u' (eqvD d e) ∧ SeqAt.RcNeAt A s u u' (!eqvD d e) := by
  cases n with
  | zero => exact (eq_both I hK sub 0 (fun m e => absurd e (by omega)) A d e v w u u' s1 s2 r1 r2 q1 q2 h).2
  | succ n => exact (eq_both I hK sub (n + 1) (fun m e => by cases e; exact eqAt_d I hK sub n) A d e v w u u' s1 s2 r1 r2 q1 q2 h).2
end
def eqSD : D → D → Option Bool
  | .non, .non => some true | .non, .int _ => some false | .int _, .non => some false | .non, .bl _ => some false | .bl _, .non => some false | .non, .str _ => some false | .str _, .non => some false
  | .int i, .int j => some (decide (i = j)) | .bl i, .bl j => some (decide (i = j)) | .str i, .str j => some (decide (i = j))
  | .int _, .str _ => some false | .str _, .int _ => some false | .bl _, .str _ => some false | .str _, .bl _ => some false
  | _, _ => none
def cEq : C2 := fun x y k => match eqSD x y with
  | some b => k b
  | none => shp 60 x = true ∧ shp 60 y = true ∧ k (eqvD x y)
def cNe : C2 := fun x y k => match eqSD x y with
  | some b => k (!b)
  | none => shp 60 x = true ∧ shp 60 y = true ∧ k (!eqvD x y)
section
variable {X : Cx} {b : Bool} {Wx : WX} {e e1 e2 e3 : Expr} {pos : Pos} {N : Kn}
def rEqW (K : PySem.W.Frag) (neg : Bool) : R2 := fun x y H Q => ∃ (N : Kn) (F : Hp) (d e : D), N.K = K ∧ Sub F H ∧ Rp N F d x ∧ Rp N F e y ∧ shp 60 d = true ∧ shp 60 e = true ∧ Q (.bl (if neg = true then !eqvD d e else eqvD d e)) H
theorem op_eqW (hu : X.A.units + 64 < cLine) : OpR X (compareOp .Eq) (rEqW X.K false) := by
  intro pins s σ H x y v u Q I rx ry h
  obtain ⟨N, F, d, e, hK, sub, hd, he, sd, se, q⟩ := h
  exact (rcAt_d I hK sub 60 sd se hd he rx ry (by omega)).1 _ _ _ _ ⟨.bl _, H, I, rfl, q⟩
theorem op_neW (hu : X.A.units + 64 < cLine) : OpR X (compareOp .NotEq) (rEqW X.K true) := by
  intro pins s σ H x y v u Q I rx ry h
  obtain ⟨N, F, d, e, hK, sub, hd, he, sd, se, q⟩ := h
  exact (rcAt_d I hK sub 60 sd se hd he rx ry (show X.A.units + 60 < cLine by omega)).2 _ _ _ _ ⟨.bl _, H, I, rfl, q⟩
theorem eqSD_ok {F : Hp} {x y : D} {u v : V} {c : Bool} (h : eqSD x y = some c) (hx : Rp N F x u) (hy : Rp N F y v) : eqS u v = some c := by
  cases x <;> cases y <;> simp only [eqSD, Option.some.injEq, reduceCtorEq] at h <;> subst h <;> cases hx <;> cases hy <;> rfl
theorem o_eq' (hu : X.A.units + 64 < cLine) : OpR X (compareOp .Eq) (fun x y H Q => fEq x y H Q ∨ rEqW X.K false x y H Q) := OpR.or o_eq (op_eqW hu)
theorem o_ne' (hu : X.A.units + 64 < cLine) : OpR X (compareOp .NotEq) (fun x y H Q => fNe x y H Q ∨ rEqW X.K true x y H Q) := OpR.or o_ne (op_neW hu)
theorem ok_eq : CmpOk (XN X b) (fun x y H Q => fEq x y H Q ∨ rEqW X.K false x y H Q) cEq := by
  intro F H x y u v kb Q s hx hy h k
  cases z : eqSD x y with
  | some c =>
    simp only [cEq, z] at h
    refine .inl ?_
    unfold fEq
    rw [eqSD_ok z hx hy]
    exact k _ h
  | none =>
    simp only [cEq, z] at h
    exact .inr ⟨XN X b, F, x, y, rfl, s, hx, hy, h.1, h.2.1, k _ h.2.2⟩
theorem ok_ne : CmpOk (XN X b) (fun x y H Q => fNe x y H Q ∨ rEqW X.K true x y H Q) cNe := by
  intro F H x y u v kb Q s hx hy h k
  cases z : eqSD x y with
  | some c =>
    simp only [cNe, z] at h
    refine .inl ?_
    unfold fNe
    rw [eqSD_ok z hx hy]
    exact k _ h
  | none =>
    simp only [cNe, z] at h
    exact .inr ⟨XN X b, F, x, y, rfl, s, hx, hy, h.1, h.2.1, k _ h.2.2⟩
def memD (x : D) (ds : List D) : Bool := ds.any fun z => eqvD z x
def inStr (a z : Str) (k : Bool → Prop) : Prop := match a.cps.toList with
  | [c] => k (decide (c ∈ z.cps.toList))
  | _ => k (!(Builtin.Str.occurrences z a 0 z.length 1).isEmpty)
def cIn : C2 := fun x y k => match y with
  | .str z => (match x with
    | .str a => inStr a z k
    | _ => False)
  | .tup ds => shp 60 x = true ∧ ds.all (shp 60) = true ∧ k (memD x ds)
  | .lst ds => shp 60 x = true ∧ ds.all (shp 60) = true ∧ k (memD x ds)
  | _ => False
def rInW (K : PySem.W.Frag) (neg : Bool) : R2 := fun x y H Q => ∃ (N : Kn) (F : Hp) (d : D) (ds : List D), N.K = K ∧ Sub F H ∧ Rp N F d x ∧ (Rp N F (.lst ds) y ∨ Rp N F (.tup ds) y) ∧ shp 60 d = true ∧ ds.all (shp 60) = true ∧ Q (.bl (if neg = true then !memD d ds else memD d ds)) H
open Classical in
noncomputable def valEq (ds : List D) (its : List Value) (d : D) (u : Value) : Bool := if h : ∃ j : Nat, its[j]? = some u ∧ j < ds.length then eqvD (ds.getD h.choose .non) d else false
theorem any_val {pins : List (Addr × Obj)} {σ : L2.St} {F H : Hp} {s : Shared} {ds : List D} {vs : List V} {its : List Value} {d : D} (I : Inv X pins σ H s) (hK : N.K = X.K) (sub : Sub F H) (g : Rps N F ds vs) (rv : Vals vs its) (hs : ds.all (shp 60) = true) :
    its.toArray.any (valEq ds its d) = memD d ds ∧ ∀ (j : Nat) u, its[j]? = some u → ∃ e w, ds[j]? = some e ∧ Rp N F e w ∧ RelV w u ∧ valEq ds its d u = eqvD e d := by
  have n1 := g.length
  have n2 := rv.length
  have key : ∀ (j : Nat) u, its[j]? = some u → ∃ e w, ds[j]? = some e ∧ Rp N F e w ∧ RelV w u ∧ valEq ds its d u = eqvD e d := fun j u hj => by
    have hjl := (List.getElem?_eq_some_iff.mp hj).1
    have at_ : ∀ (i : Nat), its[i]? = some u → ∃ e w, ds[i]? = some e ∧ Rp N F e w ∧ RelV w u := fun i hi => by
      have hil := (List.getElem?_eq_some_iff.mp hi).1
      obtain ⟨w, a1, a2⟩ := g.get (i := i) (d := ds[i]'(by omega)) (by simp [show i < ds.length by omega])
      obtain ⟨u', a3, a4⟩ := rv.get a1
      rw [hi] at a3
      cases a3
      exact ⟨_, w, by simp [show i < ds.length by omega], a2, a4⟩
    have h : ∃ j : Nat, its[j]? = some u ∧ j < ds.length := ⟨j, hj, by omega⟩
    obtain ⟨e, w, b1, b2, b3⟩ := at_ j hj
    refine ⟨e, w, b1, b2, b3, ?_⟩
    unfold valEq
    rw [dif_pos h]
    obtain ⟨c1, c2⟩ := h.choose_spec
    obtain ⟨e', w', d1, d2, d3⟩ := at_ h.choose c1
    have ew : w' = w := by
      exact d3.inj b3
    subst ew
    have m1 := List.all_eq_true.mp hs e (List.mem_of_getElem? b1)
    have m2 := List.all_eq_true.mp hs e' (List.mem_of_getElem? d1)
    rw [show ds.getD h.choose .non = e' by simp [List.getD, d1], rp_inj I hK sub e' e 60 w' m2 m1 d2 b2]
  refine ⟨?_, key⟩
  unfold memD
  rw [← Array.any_toList]
  show its.any (valEq ds its d) = _
  have : its.map (valEq ds its d) = ds.map fun z => eqvD z d := by
    apply List.ext_getElem?
    intro j
    rw [List.getElem?_map, List.getElem?_map]
    cases z : its[j]? with
    | none =>
      have : its.length ≤ j := List.getElem?_eq_none_iff.mp z
      rw [List.getElem?_eq_none (show ds.length ≤ j by omega)]
      rfl
    | some u =>
      obtain ⟨e, w, h1, _, _, h2⟩ := key j u z
      rw [h1, Option.map_some, Option.map_some, h2]
  have a1 : its.any (valEq ds its d) = (its.map (valEq ds its d)).any id := by rw [List.any_map]; rfl
  have a2 : (ds.any fun z => eqvD z d) = (ds.map fun z => eqvD z d).any id := by rw [List.any_map]; rfl
  rw [a1, a2, this]
theorem op_inW (neg : Bool) (op : CmpOp) (hop : (op = .In ∧ neg = false) ∨ (op = .NotIn ∧ neg = true)) (hu : X.A.units + 65 < cLine) : OpR X (compareOp op) (rInW X.K neg) := by
  intro pins s σ H x y v u Q I rx ry h
  obtain ⟨N, F, d, ds, hK, sub, hd, hy, sd, sds, q⟩ := h
  have hq : ∀ c, c = memD d ds → EP X pins σ Q (.bool (if neg = true then !c else c)) s := fun c e => by
    subst e
    exact ⟨.bl _, H, I, rfl, q⟩
  rcases hy with ⟨p, vs, rfl, h1, h2⟩ | ⟨p, vs, rfl, h1, h2⟩
  · cases ry
    obtain ⟨its, rv, hl, _⟩ := I.list (SqL.of (sub.lst1 h1))
    obtain ⟨ea, key⟩ := any_val (d := d) I hK sub h2 rv sds
    have he : ∀ z, z ∈ its.toArray → SeqAt.EqAt X.A.in1 s z v (valEq ds its d z) := fun z hz => by
      obtain ⟨j, hj⟩ := List.getElem?_of_mem (show z ∈ its by simpa using hz)
      obtain ⟨e, w, k1, k2, k3, k4⟩ := key j z hj
      rw [k4]
      exact eqAt_d I hK sub 60 _ e d w x z v (List.all_eq_true.mp sds e (List.mem_of_getElem? k1)) sd k2 hd k3 rx (by have : X.A.in1.units = X.A.units + 1 := rfl; omega)
    rcases hop with ⟨rfl, rfl⟩ | ⟨rfl, rfl⟩
    · exact SeqAt.in_listAt _ hl.isList he (hq _ ea)
    · exact SeqAt.notIn_listAt _ hl.isList he (hq _ ea)
  · cases ry
    obtain ⟨its, rv, hl, _⟩ := I.tuple (hK ▸ sub.tup h1)
    obtain ⟨ea, key⟩ := any_val (d := d) I hK sub h2 rv sds
    have he : ∀ z, z ∈ its.toArray → SeqAt.EqAt X.A.in1 s z v (valEq ds its d z) := fun z hz => by
      obtain ⟨j, hj⟩ := List.getElem?_of_mem (show z ∈ its by simpa using hz)
      obtain ⟨e, w, k1, k2, k3, k4⟩ := key j z hj
      rw [k4]
      exact eqAt_d I hK sub 60 _ e d w x z v (List.all_eq_true.mp sds e (List.mem_of_getElem? k1)) sd k2 hd k3 rx (by have : X.A.in1.units = X.A.units + 1 := rfl; omega)
    rcases hop with ⟨rfl, rfl⟩ | ⟨rfl, rfl⟩
    · exact SeqAt.in_tupleAt _ (show s.heap.IsTuple p its.toArray from hl) he (hq _ ea)
    · exact SeqAt.notIn_tupleAt _ (show s.heap.IsTuple p its.toArray from hl) he (hq _ ea)
def rInSx (neg : Bool) : R2 := fun x y H Q => (∃ (c : Nat) (z : Str), x = .str ⟨#[c]⟩ ∧ y = .str z ∧ Q (.bl (if neg = true then !decide (c ∈ z.cps.toList) else decide (c ∈ z.cps.toList))) H) ∨
  ∃ i j : Str, x = .str i ∧ y = .str j ∧ Q (.bl (if neg = true then !(!(Builtin.Str.occurrences j i 0 j.length 1).isEmpty) else !(Builtin.Str.occurrences j i 0 j.length 1).isEmpty)) H
theorem op_inSx (neg : Bool) (op : CmpOp) (hop : (op = .In ∧ neg = false) ∨ (op = .NotIn ∧ neg = true)) : OpR X (compareOp op) (rInSx neg) := by
  intro pins s σ H x y v u Q I rx ry h
  rcases hop with ⟨rfl, rfl⟩ | ⟨rfl, rfl⟩
  · exact h.elim (fun h => op_in_sign pins s σ H x y v u Q I rx ry h) fun h => op_in_str pins s σ H x y v u Q I rx ry h
  · exact h.elim (fun h => op_notIn_sign pins s σ H x y v u Q I rx ry h) fun h => op_notIn_str pins s σ H x y v u Q I rx ry h
theorem in_ok (neg : Bool) {F H : Hp} {x y : D} {u v : V} {kb : Bool → Prop} {Q : VK} (s : Sub F H) (hx : Rp (XN X b) F x u) (hy : Rp (XN X b) F y v) (h : cIn x y kb) (k : ∀ c, kb c → Q (.bl (if neg = true then !c else c)) H) : rInSx neg u v H Q ∨ rInW X.K neg u v H Q := by
  cases y <;> try exact False.elim h
  · rename_i z
    cases x <;> try exact False.elim h
    rename_i a
    cases hx; cases hy
    refine .inl ?_
    have h : inStr a z kb := h
    unfold inStr at h
    split at h
    · rename_i c hc
      refine .inl ⟨c, z, ?_, rfl, k _ h⟩
      have : a = ⟨#[c]⟩ := by
        obtain ⟨⟨l⟩⟩ := a
        simp only at hc
        rw [hc]
      rw [this]
    · exact .inr ⟨a, z, rfl, rfl, k _ h⟩
  · exact .inr ⟨XN X b, F, x, _, rfl, s, hx, .inr hy, h.1, h.2.1, k _ h.2.2⟩
  · exact .inr ⟨XN X b, F, x, _, rfl, s, hx, .inl hy, h.1, h.2.1, k _ h.2.2⟩
theorem o_in (hu : X.A.units + 65 < cLine) : OpR X (compareOp .In) (fun x y H Q => rInSx false x y H Q ∨ rInW X.K false x y H Q) := OpR.or (op_inSx false .In (.inl ⟨rfl, rfl⟩)) (op_inW false .In (.inl ⟨rfl, rfl⟩) hu)
theorem o_notIn (hu : X.A.units + 65 < cLine) : OpR X (compareOp .NotIn) (fun x y H Q => rInSx true x y H Q ∨ rInW X.K true x y H Q) := OpR.or (op_inSx true .NotIn (.inr ⟨rfl, rfl⟩)) (op_inW true .NotIn (.inr ⟨rfl, rfl⟩) hu)
def cNotIn : C2 := fun x y k => cIn x y fun c => k (!c)
theorem ok_in : CmpOk (XN X b) (fun x y H Q => rInSx false x y H Q ∨ rInW X.K false x y H Q) cIn := by
  intro F H x y u v kb Q s hx hy h k
  exact in_ok false s hx hy h fun c hc => k c hc
theorem ok_notIn : CmpOk (XN X b) (fun x y H Q => rInSx true x y H Q ∨ rInW X.K true x y H Q) cNotIn := by
  intro F H x y u v kb Q s hx hy h k
  exact in_ok true s hx hy h fun c hc => k (!c) hc
def isiD : D → String → Option Bool
  | .non, c => isiS .non c
  | .bl b, c => isiS (.bl b) c
  | .int i, c => isiS (.int i) c
  | .str x, c => isiS (.str x) c
  | .tup _, c => if c = "tuple" ∨ c = "list" ∨ c = "dict" ∨ c = "int" ∨ c = "str" ∨ c = "bool" then some (decide ("tuple" = c)) else none
  | .lst _, c => if c = "tuple" ∨ c = "list" ∨ c = "dict" ∨ c = "int" ∨ c = "str" ∨ c = "bool" then some (decide ("list" = c)) else none
  | _, _ => none
def fIsi : FL := fun xs k => match xs with
  | [x, .ty c] => (match isiD x c with
    | some b => k (.bl b)
    | none => False)
  | _ => False
theorem ok_isi : CallOk (XN X b) (cIsi X.K) fIsi := by
  intro Wx M H ρ σ st σV ex ds us kd Q c hd h k
  unfold fIsi at h
  split at h
  · rename_i x cn
    obtain ⟨u, u', rfl, r, r'⟩ := RpCs.two hd
    cases r'
    cases z : isiD x cn with
    | none => simp only [z] at h
    | some bb =>
      simp only [z] at h
      have sc : ∀ v : V, isiS v cn = some bb → (∀ p, v ≠ .ref p) → cIsi X.K [v, .ty cn] H Q := fun v hv hn => by
        have q := k _ h _ M H Ext.refl c rfl
        unfold cIsi
        cases v <;> first | exact absurd rfl (hn _) | (simp only [hv]; exact q)
      cases x <;> simp only [isiD, reduceCtorEq] at z
      · cases r; exact sc _ z (fun p w => nomatch w)
      · cases r; exact sc _ z (fun p w => nomatch w)
      · cases r; exact sc _ z (fun p w => nomatch w)
      · cases r; exact sc _ z (fun p w => nomatch w)
      · obtain ⟨p, xs, rfl, h1, h2⟩ := (show Rp (XN X b) M (.tup _) u from r)
        split at z
        · rename_i hc
          simp only [Option.some.injEq] at z
          subst z
          exact isi_t (c.rep.sub.tup h1) hc (k _ h _ M H Ext.refl c rfl)
        · cases z
      · obtain ⟨p, xs, rfl, h1, h2⟩ := r
        split at z
        · rename_i hc
          simp only [Option.some.injEq] at z
          subst z
          exact isi_l (SqL.of ((Fv.sub (ρ := ρ) c.rep.sub).lst1 h1)) hc (k _ h _ M H Ext.refl c rfl)
        · cases z
  · exact h.elim
def dChain (f g : C2) (ta tb tc : DW) : DT := fun σ st k ex => ta σ st (fun x st1 => tb σ st1 (fun y st2 => match seeW x st2, seeW y st2 with
  | some d, some e => f d e fun b => two b (tc σ st2 (fun z st3 => match seeW y st3, seeW z st3 with
    | some d, some e => g d e fun b => k b st3
    | _, _ => False) ex) (k false st2)
  | _, _ => False) ex) ex
theorem chain_lift {r r' : R2} {f g : C2} {ta tb tc : DW} (ok : CmpOk N r f) (ok' : CmpOk N r' g) {σV : L2.St} {H : Hp} {Q : VK} {M : Hp} {ρ : List Addr} {σ : Sl} {st : Sto} {k : Bool → Sto → Prop} {ex : DX} (c : Kx N Wx M ρ σ st H σV ex) (ht : dChain f g ta tb tc σ st k ex)
    (q : ∀ c st', k c st' → ∀ M' ρ' H', Ext M ρ H M' ρ' H' → Kx N Wx M' ρ' σ st' H' σV ex → Q (.bl c) H') : uChain r r' (lW N Wx ta) (lW N Wx tb) (lW N Wx tc) σV H Q := by
  refine Lf.bin c ht fun x y st' hk u v M1 ρ1 H1 E1 c1 r1 r2 => ?_
  cases h1 : seeW x st' with
  | none => simp only [h1] at hk
  | some d =>
    cases h2 : seeW y st' with
    | none => simp only [h1, h2] at hk
    | some e =>
      simp only [h1, h2] at hk
      refine ok (Fv.sub c1.rep.sub) ((see_ok c1.rep h1 r1).rp (Fv.same _ _ _)) ((see_ok c1.rep h2 r2).rp (Fv.same _ _ _)) hk fun b hb => ?_
      refine ⟨fun z => Lf.of c1 (hb.1 z) fun z3 st3 hk3 v3 M3 ρ3 H3 E3 c3 r3 => ?_, fun z => q _ _ (hb.2 z) M1 ρ1 H1 E1 c1⟩
      cases h3 : seeW y st3 with
      | none => simp only [h3] at hk3
      | some d3 =>
        cases h4 : seeW z3 st3 with
        | none => simp only [h3, h4] at hk3
        | some e3 =>
          simp only [h3, h4] at hk3
          exact ok' (Fv.sub c3.rep.sub) ((see_ok c3.rep h3 (Rw.ext r2 E3)).rp (Fv.same _ _ _)) ((see_ok c3.rep h4 r3).rp (Fv.same _ _ _)) hk3 fun b' hb' => q _ _ hb' M3 ρ3 H3 (E1.trans E3) c3
theorem e_chainD {op op' : CmpOp} {r r' : R2} {f g : C2} {ta tb tc : DW} (ho : OpR X (compareOp op) r) (ho' : OpR X (compareOp op') r') (ok : CmpOk N r f) (ok' : CmpOk N r' g) (ha : PE X e1 (lW N Wx ta)) (hb : PE X e2 (lW N Wx tb)) (hc : PE X e3 (lW N Wx tc))
    (hm : lastMarks [op, op'] [e2, e3] = false := by with_unfolding_all rfl) : PE X (.Compare e1 [op, op'] [e2, e3] pos) (lD N Wx (dB (dChain f g ta tb tc))) := PE.imp (e_chain ho ho' ha hb hc hm) fun σV H Q h => by
  obtain ⟨M, ρ, σ, st, k, ex, c, ht, q⟩ := Kx.open_ h
  exact chain_lift ok ok' c ht fun b st' hb M' ρ' H' E c' => q _ _ hb _ M' ρ' H' E c' rfl
theorem t_chainD {op op' : CmpOp} {r r' : R2} {f g : C2} {ta tb tc : DW} (ho : OpR X (compareOp op) r) (ho' : OpR X (compareOp op') r') (ok : CmpOk N r f) (ok' : CmpOk N r' g) (ha : PE X e1 (lW N Wx ta)) (hb : PE X e2 (lW N Wx tb)) (hc : PE X e3 (lW N Wx tc))
    (hm : lastMarks [op, op'] [e2, e3] = false := by with_unfolding_all rfl) : PT X (.Compare e1 [op, op'] [e2, e3] pos) (lT N Wx (dChain f g ta tb tc)) := PT.imp (t_chain ho ho' ha hb hc hm) fun σV H Q h => by
  obtain ⟨M, ρ, σ, st, k, ex, c, ht, q⟩ := Kx.open_ h
  exact chain_lift (Q := fun x H1 => match x with
    | .bl c => Q c H1
    | _ => False) ok ok' c ht fun b st' hb M' ρ' H' E c' => q _ _ hb b M' ρ' H' E c' rfl
end
def pf_take : Pf := fun ws st k _ => match ws, st with
  | [.loc 0, .im (.int m)], [.pool] => 0 < m ∧ m < 2 ^ 250 ∧ ∀ r : Int, 0 ≤ r → r < m → k (.im (.int r)) [.pool]
  | _, _ => False
def pf_pool : Pf := fun ws st k _ => match ws, st with
  | [.im (.scr ns)], [] => ns.length ≤ 63 ∧ k (.loc 0) [.pool]
  | _, _ => False
section
variable {N : Kn}
theorem take_ok {vs : List V} {H : Hp} {Q : VK} {E : XK} (h : spD N pf_take vs H Q E) : sp_take 2 vs H Q E := by
  obtain ⟨M, ρ, ws, st, k, ex, r, rw, hf, hk, _⟩ := h
  unfold pf_take at hf
  split at hf
  · rename_i m
    obtain ⟨h1, h2, h3⟩ := hf
    obtain ⟨v, us, rfl, ⟨a, ha, rfl⟩, v2, us2, rfl, hv2, hus⟩ := rw
    cases hv2
    obtain rfl : us2 = [] := hus
    obtain ⟨hm, q, ns, i, d, s, p1, p2, p3, p4, p5, p6, p7⟩ := r.ob 0 a _ ha rfl
    have hne : q ≠ a := fun z => by rw [z, hm] at p1; cases p1
    refine ⟨by decide, q, ⟨ns, i, d, s, ⟨p2, r.sub.lst1 p1, hne, p3, p4, p5, p6, p7⟩, fun e => absurd e (by decide)⟩, h1, h2, fun rr H' g1 g2 ⟨ns', i', d', s', P⟩ fr => ?_⟩
    have hns : ns' = ns := by
      have e1 := fr.at1 (r.sub.lst1 p1) hne
      rw [P.hq] at e1
      have e2 := HO.lst.inj (Option.some.inj e1)
      exact (List.map_inj_right fun x y h => V.int.inj h).mp e2
    have hρ : ρ = [a] := by
      have hl := r.len
      match ρ, hl, ha with
      | [b], _, ha => simp at ha; rw [ha]
    subst hρ
    have E : Ext M [a] H M [a] H' := ⟨Same.refl _, Pre.refl _, fr, fun _ h => .inl h, fun _ h => .inl h⟩
    refine hk _ _ (h3 rr g1 g2) _ M [a] H' E ⟨fun b u e => ?_, rfl, r.inj, fun j b o h1 h2 => ?_⟩ rfl
    · have hb : b ≠ a := fun z => by rw [z, hm] at e; cases e
      rcases r.sub b u e with h | ⟨h, o, h'⟩
      · exact .inl (fr.at1 h hb)
      · exact .inr ⟨h, o, fr.at1 h' hb⟩
    · cases j with
      | zero =>
        simp at h1 h2
        subst h1 h2
        exact ⟨hm, q, ns, i', d', s', p1, P.hp, p3, P.hi, P.hd, P.hs, P.hs2⟩
      | succ j => simp at h1
  · exact hf.elim
theorem pool_ok {vs : List V} {H : Hp} {Q : VK} {E : XK} (h : spD N pf_pool vs H Q E) : sp_pool N.K vs H Q E := by
  obtain ⟨M, ρ, ws, st, k, ex, r, rw, hf, hk, _⟩ := h
  unfold pf_pool at hf
  split at hf
  · rename_i ns
    obtain ⟨h1, h2⟩ := hf
    obtain ⟨v, us, rfl, ⟨a, rfl, hs⟩, hus⟩ := rw
    obtain rfl : us = [] := hus
    refine ⟨ns, r.sub.seq hs, h1, fun p q H' hp hq ⟨ns', i', d', s', P⟩ sm => ?_⟩
    have hρ : ρ = [] := List.eq_nil_of_length_eq_zero r.len
    subst hρ
    have hMq := r.non hq
    have hMp := r.non hp
    have E : Ext M [] H (upd M q (.lst (ns'.map V.int))) ([] ++ [p]) H' := ⟨same_grow0 hMq, ⟨[p], rfl⟩, Fr.of sm, fun b h => by
      by_cases z : b = q
      · exact .inr (.inl (by rw [z]; exact hq))
      · rw [upd_ne z] at h; exact .inl h, fun b h => by
      have : b = p := by simpa using h
      exact .inr (by rw [this]; exact hp)⟩
    refine hk _ _ h2 _ _ _ H' E ⟨fun b u e => ?_, rfl, fun i j b e1 e2 => ?_, fun j b o e1 e2 => ?_⟩ ⟨p, rfl, rfl⟩
    · by_cases z : b = q
      · subst z
        rw [upd_same] at e
        cases e
        exact .inl P.hq
      · rw [upd_ne z] at e
        rcases r.sub b u e with h | ⟨h, o, h'⟩
        · exact .inl (sm _ _ h)
        · exact .inr ⟨h, o, sm _ _ h'⟩
    · have hi := (List.getElem?_eq_some_iff.mp e1).1
      have hj := (List.getElem?_eq_some_iff.mp e2).1
      simp at hi hj
      omega
    · cases j with
      | zero =>
        simp at e1 e2
        subst e1 e2
        refine ⟨by rw [upd_ne P.ne.symm]; exact hMp, q, ns', i', d', s', upd_same, P.hp, P.nn, P.hi, P.hd, P.hs, P.hs2⟩
      | succ j => simp at e1
  · exact hf.elim
def pf_law : Pf := fun ws st k _ => match ws, st with
  | [.im (.scr ns)], [] => ns.length ≤ 63 ∧ k (.im (.bl true)) []
  | _, _ => False
def sp_law (K : PySem.W.Frag) : Sp := fun vs H Q _ => match vs with
  | [.ref a] => ∃ ns : List Int, SqL K H a (ns.map V.int) ∧ ns.length ≤ 63 ∧ ∀ H', Q (.bl true) H'
  | _ => False
theorem law_ok {vs : List V} {H : Hp} {Q : VK} {E : XK} (h : sp_law N.K vs H Q E) : spD N pf_law vs H Q E := by
  unfold sp_law at h
  split at h
  · rename_i a
    obtain ⟨ns, h1, h2, h3⟩ := h
    refine ⟨H, [], [.im (.scr ns)], [], fun w st => w = .im (.bl true), fun _ _ _ => False, ⟨fun b u e => .inl e, rfl, fun i j b e => by simp at e, fun i b o e => by simp at e⟩, ⟨_, [], rfl, ⟨a, rfl, h1⟩, rfl⟩, ⟨h2, rfl⟩, fun w st' hw v M' ρ' H' e r rv => ?_, fun _ _ _ h => h.elim⟩
    subst hw
    cases rv
    exact h3 H'
  · exact h.elim
end
end Dl
end

section
set_option maxHeartbeats 4000000
namespace Dl
open PySem PySem.Spec PyProof.Rows L2 Co
section
variable {N : Kn} {Wx : WX} {M H M' H' : Hp} {ρ ρ' : List Addr} {σ : Sl} {st : Sto} {σV : L2.St} {ex : DX}
theorem Rep.hid (r : Rep N M ρ st H) {p : Addr} {o : HO} (hm : M p = Option.none) (hn : p ∉ ρ) : Rep N M ρ st (upd H p o) := by
  refine ⟨fun b u z => ?_, r.len, r.inj, fun i a o h1 h2 => ?_⟩
  · rw [upd_ne (fun w => by rw [w, hm] at z; cases z)]
    exact r.sub b u z
  · have ha : a ≠ p := fun w => hn (by rw [← w]; exact List.mem_of_getElem? h1)
    exact (r.ob i a o h1 h2).mono (Same.refl _) (Pre.refl _) (fun z => z) fun u hu => by rw [upd_ne ha]; exact hu
theorem Ext.unhid {p : Addr} {o : HO} (hp : H p = none) (e : Ext M ρ (upd H p o) M' ρ' H') : Ext M ρ H M' ρ' H' := by
  refine ⟨e.mm, e.pre, fun b u h1 h2 => e.fr b u (by rw [upd_ne (ne_of_none h1 hp)]; exact h1) h2, fun a h => ?_, fun a h => ?_⟩
  · rcases e.nw a h with h | h | h
    · exact .inl h
    · by_cases z : a = p
      · exact .inr (.inl (by rw [z]; exact hp))
      · rw [upd_ne z] at h; exact .inr (.inl h)
    · exact .inr (.inr h)
  · rcases e.rn a h with h | h
    · exact .inl h
    · by_cases z : a = p
      · exact .inr (by rw [z]; exact hp)
      · rw [upd_ne z] at h; exact .inr h
theorem Kx.hid (c : Kx N Wx M ρ σ st H σV ex) {p : Addr} {o : HO} (hp : H p = none) : Kx N Wx M ρ σ st (upd H p o) σV ex :=
  ⟨c.rep.hid (c.rep.non hp) fun z => c.rep.mem z hp, c.rs, fun c' fs st' h o' M2 ρ2 H2 e => c.xl c' fs st' h o' M2 ρ2 H2 (e.unhid hp)⟩
theorem Ext.kept {p : Addr} {o : HO} (e : Ext M ρ H M' ρ' H') (hn : p ∉ ρ) (hm : M p = Option.none) (hp : H p = some o) : H' p = some o ∧ M' p = Option.none ∧ p ∉ ρ' := by
  refine ⟨e.fr p o hp hn, ?_, fun z => ?_⟩
  · cases z : M' p with
    | none => rfl
    | some u =>
      rcases e.nw p (by rw [z]; exact fun w => nomatch w) with w | w | w
      · exact absurd hm w
      · rw [hp] at w; cases w
      · exact absurd w hn
  · rcases e.rn p z with w | w
    · exact hn w
    · rw [hp] at w; cases w
theorem Kx.adopt (c : Kx N Wx M ρ σ st H σV ex) {p : Addr} {u : HO} (hm : M p = Option.none) (hn : p ∉ ρ) (hu : H p = some u) : Same M (upd M p u) ∧ Rep N (upd M p u) ρ st H := ⟨same_grow0 hm, c.rep.adopt hm hn hu⟩
end
def dPairs : List (DD × DD) → Lv (List (D × D))
  | [] => fun _ st k _ => k [] st
  | (a, b) :: r => fun σ st k ex => a σ st (fun x st1 => b σ st1 (fun y st2 => dPairs r σ st2 (fun ps st3 => k ((x, y) :: ps) st3) ex) ex) ex
def mergeD : List (D × D) → List Key → List D → Option (List Key × List D)
  | [], ks, ds => some (ks, ds)
  | (x, y) :: r, ks, ds => match keyD x with
    | some q => mergeD r (putKs ks q) (putDs ks ds q y)
    | none => none
def dDispD (prs : List (DD × DD)) : DD := fun σ st k ex => dPairs prs σ st (fun ps st1 => ps.length ≤ 15 ∧ match mergeD ps [] [] with
  | some (ks, ds) => k (.dct ks ds) st1
  | none => False) ex
def dDispM (prs : List (DD × DD)) : DW := fun σ st k ex => dPairs prs σ st (fun ps st1 => ps.length ≤ 15 ∧ match mergeD ps [] [] with
  | some (ks, ds) => k (.loc st1.length) (st1 ++ [.dct ks ds])
  | none => False) ex
def dNewKD : DD := fun _ st k _ => k (.dct [] []) st
def dNewTD : DD := fun _ st k _ => k (.dcT [] []) st
def dNewKM : DW := fun _ st k _ => k (.loc st.length) (st ++ [.dct [] []])
def dNewTM : DW := fun _ st k _ => k (.loc st.length) (st ++ [.dcT [] []])
section
variable {X : Cx} {b : Bool} {Wx : WX} {e e1 e2 e3 : Expr} {pos : Pos} {N : Kn}
def lPs (N : Kn) (Wx : WX) (prs : List (DD × DD)) : List (TE × TE) := prs.map fun p => (lD N Wx p.1, lD N Wx p.2)
def Rpp (N : Kn) (M : Hp) : List (D × D) → List (V × V) → Prop
  | [], vs => vs = []
  | (x, y) :: r, vs => ∃ u v r', vs = (u, v) :: r' ∧ Rp N M x u ∧ Rp N M y v ∧ Rpp N M r r'
theorem Rpp.mono {M M' : Hp} (e : Same M M') : ∀ {ps : List (D × D)} {vs : List (V × V)}, Rpp N M ps vs → Rpp N M' ps vs
  | [], _, h => h
  | (_, _) :: _, _, ⟨u, v, r', h1, h2, h3, h4⟩ => ⟨u, v, r', h1, h2.mono e, h3.mono e, Rpp.mono e h4⟩
theorem dp_nil : PPs X pos [] [] (lPs N Wx []) := pps_nil
theorem dp_cons {k v : Expr} {ks : List (Option Expr)} {vs : List Expr} {a c : DD} {prs : List (DD × DD)} (hk : PE X k (lD N Wx a)) (hv : PE X v (lD N Wx c)) (hr : PPs X pos ks vs (lPs N Wx prs)) : PPs X pos (some k :: ks) (v :: vs) (lPs N Wx ((a, c) :: prs)) := pps_cons hk hv hr
theorem pairs_lift : ∀ {prs : List (DD × DD)} {M H : Hp} {ρ : List Addr} {σ : Sl} {st : Sto} {σV : L2.St} {ex : DX} {k : List (D × D) → Sto → Prop} {Q : List (V × V) → Hp → Prop}, Kx N Wx M ρ σ st H σV ex → dPairs prs σ st k ex →
    (∀ ps st', k ps st' → ∀ vs M' ρ' H', Ext M ρ H M' ρ' H' → Kx N Wx M' ρ' σ st' H' σV ex → Rpp N M' ps vs → Q vs H') → tPairs (lPs N Wx prs) σV H Q
  | [], M, H, ρ, σ, st, σV, ex, k, Q, c, ht, q => q _ _ ht _ M ρ H Ext.refl c rfl
  | (a, d) :: r, M, H, ρ, σ, st, σV, ex, k, Q, c, ht, q => by
    refine Lf.of c ht fun x st1 h1 u M1 ρ1 H1 E1 c1 r1 => Lf.of c1 h1 fun y st2 h2 v M2 ρ2 H2 E2 c2 r2 => ?_
    exact pairs_lift c2 h2 fun ps st3 h3 vs M3 ρ3 H3 E3 c3 r3 => q _ _ h3 _ M3 ρ3 H3 (E1.trans (E2.trans E3)) c3 ⟨u, v, vs, rfl, Rp.ext r1 (E2.trans E3), Rp.ext r2 E3, r3⟩
theorem merge_ok {M : Hp} : ∀ {ps : List (D × D)} {vs : List (V × V)} {kvs : List (Key × V)} {ds ds' : List D} {ks' : List Key}, Rpp N M ps vs → Rps N M ds (kvs.map (·.2)) → mergeD ps (kvs.map (·.1)) ds = some (ks', ds') →
    ∃ more : List (Key × V), vs = more.map (fun kv => (kV kv.1, kv.2)) ∧ more.length = ps.length ∧ (mergeK kvs more).map (·.1) = ks' ∧ Rps N M ds' ((mergeK kvs more).map (·.2))
  | [], _, kvs, _, _, _, h, hd, e => by
    cases e
    exact ⟨[], h, rfl, rfl, hd⟩
  | (x, y) :: r, _, kvs, ds, ds', ks', ⟨u, v, r', h1, h2, h3, h4⟩, hd, e => by
    cases hq : keyD x with
    | none => simp only [mergeD, hq] at e; cases e
    | some q =>
      simp only [mergeD, hq] at e
      obtain ⟨g1, g2⟩ := putK_ok (q := q) h3 hd
      rw [← g1] at e
      obtain ⟨more, m1, m2, m3, m4⟩ := merge_ok h4 g2 e
      exact ⟨(q, v) :: more, by rw [h1, keyD_rp hq h2, m1]; rfl, by simp [m2], m3, m4⟩
theorem disp_lift {prs : List (DD × DD)} {M H : Hp} {ρ : List Addr} {σ : Sl} {st : Sto} {σV : L2.St} {ex : DX} {K : List Key → List D → Sto → Prop} {Q : VK} (c : Kx N Wx M ρ σ st H σV ex) (ht : dPairs prs σ st (fun ps st1 => ps.length ≤ 15 ∧ match mergeD ps [] [] with
      | some (ks, ds) => K ks ds st1
      | none => False) ex)
    (q : ∀ ks ds st', K ks ds st' → ∀ p M' ρ' H' kvs, Ext M ρ H M' ρ' H' → Rep N M' ρ' st' H' → M' p = none → p ∉ ρ' → H p = none → H' p = some (.dK kvs) → kvs.map (·.1) = ks → Rps N M' ds (kvs.map (·.2)) → Q (.ref p) H') : tDisp (lPs N Wx prs) σV H Q := by
  intro p hp
  have hm := c.rep.non hp
  have hn : p ∉ ρ := fun z => c.rep.mem z hp
  refine pairs_lift (c.hid (o := .dK []) hp) ht fun ps st' hk vs M' ρ' H' E c' r => ?_
  obtain ⟨k1, k2, k3⟩ := E.kept hn hm upd_same
  refine ⟨k1, ?_⟩
  cases hz : mergeD ps [] [] with
  | none => simp only [hz] at hk; exact hk.2.elim
  | some z =>
    obtain ⟨ks, ds⟩ := z
    simp only [hz] at hk
    obtain ⟨more, m1, m2, m3, m4⟩ := merge_ok (kvs := []) r (show Rps N M' [] [] from rfl) hz
    refine ⟨more, m1, by rw [m2]; exact hk.1, ?_⟩
    have E2 := E.unhid hp
    refine q _ _ _ hk.2 p M' ρ' _ _ ⟨E2.mm, E2.pre, E2.fr.loc hp, E2.nw, E2.rn⟩ (c'.rep.hid k2 k3) k2 k3 hp upd_same m3 m4
theorem adoptE {M H M' H' : Hp} {ρ ρ' : List Addr} {p : Addr} {u : HO} (E : Ext M ρ H M' ρ' H') (hm : M' p = none) (hH : H p = none) : Ext M ρ H (upd M' p u) ρ' H' := ⟨E.mm.trans (same_grow0 hm), E.pre, E.fr, fun a z => by
    by_cases w : a = p
    · exact .inr (.inl (by rw [w]; exact hH))
    · rw [upd_ne w] at z; exact E.nw a z, E.rn⟩
theorem adoptEL {M H M' H' : Hp} {ρ ρ' : List Addr} {p : Addr} (E : Ext M ρ H M' ρ' H') (hH : H p = none) : Ext M ρ H M' (ρ' ++ [p]) H' := ⟨E.mm, E.pre.trans ⟨[p], rfl⟩, E.fr, E.nw, fun a z => by
    rcases List.mem_append.mp z with z | z
    · exact E.rn a z
    · rw [List.mem_singleton] at z; rw [z]; exact .inr hH⟩
theorem e_dispD {keys : List (Option Expr)} {values : List Expr} {prs : List (DD × DD)} (h : PPs X pos keys values (lPs N Wx prs)) (hall : keys.all (·.isSome) = true) (hl : keys.length = values.length) (h0 : keys ≠ []) (h15 : keys.length ≤ 15) : PE X (.Dict keys values pos) (lD N Wx (dDispD prs)) := PE.imp (pe_disp h hall hl h0 h15) fun σV H Q h => by
  obtain ⟨M, ρ, σ, st, k, ex, c, ht, q⟩ := Kx.open_ h
  refine disp_lift (K := fun ks ds st1 => k (.dct ks ds) st1) c ht fun ks ds st' hk p M' ρ' H' kvs E r hm hn hH hp e1 ra => ?_
  exact q _ _ hk _ _ ρ' H' (adoptE E hm hH) (c.step (adoptE E hm hH) (r.adopt hm hn hp)) ⟨p, kvs, rfl, upd_same, e1, ra.mono (same_grow0 hm)⟩
theorem e_dispM {keys : List (Option Expr)} {values : List Expr} {prs : List (DD × DD)} (h : PPs X pos keys values (lPs N Wx prs)) (hall : keys.all (·.isSome) = true) (hl : keys.length = values.length) (h0 : keys ≠ []) (h15 : keys.length ≤ 15) : PE X (.Dict keys values pos) (lW N Wx (dDispM prs)) := PE.imp (pe_disp h hall hl h0 h15) fun σV H Q h => by
  obtain ⟨M, ρ, σ, st, k, ex, c, ht, q⟩ := Kx.open_ h
  refine disp_lift (K := fun ks ds st1 => k (W.loc st1.length) (st1 ++ [Ob.dct ks ds])) c ht fun ks ds st' hk p M' ρ' H' kvs E r hm hn hH hp e1 ra => ?_
  exact q _ _ hk _ _ _ H' (adoptEL E hH) (c.step (adoptEL E hH) (r.adoptL hn ⟨hm, kvs, hp, e1, ra⟩)) ⟨p, r.last p, rfl⟩
theorem e_dnewKD : PE X (.Dict [] [] pos) (lD N Wx dNewKD) := PE.imp pe_dnewK fun σV H Q h => by
  obtain ⟨M, ρ, σ, st, k, ex, c, ht, q⟩ := Kx.open_ h
  intro p hp
  obtain ⟨E, c'⟩ := c.new (o := .dK []) hp
  exact q _ _ ht _ _ ρ _ E c' ⟨p, [], rfl, upd_same, rfl, rfl⟩
theorem e_dnewTD : PE X (.Dict [] [] pos) (lD N Wx dNewTD) := PE.imp pe_dnewT fun σV H Q h => by
  obtain ⟨M, ρ, σ, st, k, ex, c, ht, q⟩ := Kx.open_ h
  intro p hp
  obtain ⟨E, c'⟩ := c.new (o := .dT []) hp
  exact q _ _ ht _ _ ρ _ E c' ⟨p, [], rfl, upd_same, rfl, rfl⟩
theorem e_dnewKM : PE X (.Dict [] [] pos) (lW N Wx dNewKM) := PE.imp pe_dnewK fun σV H Q h => by
  obtain ⟨M, ρ, σ, st, k, ex, c, ht, q⟩ := Kx.open_ h
  intro p hp
  obtain ⟨E, c'⟩ := c.loc (u := .dK []) (o := .dct [] []) hp ⟨c.rep.non hp, [], upd_same, rfl, rfl⟩
  exact q _ _ ht _ _ _ _ E c' ⟨p, c.rep.last p, rfl⟩
theorem e_dnewTM : PE X (.Dict [] [] pos) (lW N Wx dNewTM) := PE.imp pe_dnewT fun σV H Q h => by
  obtain ⟨M, ρ, σ, st, k, ex, c, ht, q⟩ := Kx.open_ h
  intro p hp
  obtain ⟨E, c'⟩ := c.loc (u := .dT []) (o := .dcT [] []) hp ⟨c.rep.non hp, [], upd_same, rfl, rfl⟩
  exact q _ _ ht _ _ _ _ E c' ⟨p, c.rep.last p, rfl⟩
def sSetL (to : DW) (ti t : DD) : DS := fun E σ st => t σ st (fun v st1 => to σ st1 (fun o st2 => ti σ st2 (fun i st3 => match o, i with
  | .loc n, .int j => (match st3[n]? with
    | some (.lst ds) => (match ixN ds.length j with
      | some m => E.nx σ (st3.set n (.lst (ds.set m v)))
      | none => False)
    | _ => False)
  | _, _ => False) (exE E σ)) (exE E σ)) (exE E σ)
theorem s_setL {s : Stmt} {to : DW} {ti t : DD} (h : PS X s (tAsg (lD N Wx t) (gSub (lW N Wx to) (lD N Wx ti) rSetL))) : PS X s (lS N Wx (sSetL to ti t)) := PS.imp h fun D σV H h => by
  obtain ⟨M, ρ, σ, st, E, r, s, h, l⟩ := h
  refine Lf.of (l.kx r s) h fun v st1 hk1 vv M1 ρ1 H1 E1 c1 r1 => Lf.bin c1 hk1 fun o i st3 hk u y M3 ρ3 H3 E3 c3 r2 r3 => ?_
  obtain ⟨n, rfl⟩ : ∃ n, o = .loc n := by cases o <;> first | exact False.elim hk | exact ⟨_, rfl⟩
  obtain ⟨j, rfl⟩ : ∃ j, i = .int j := by cases i <;> first | exact False.elim hk | exact ⟨_, rfl⟩
  obtain ⟨a, ha, rfl⟩ := r2
  cases r3
  cases hz : st3[n]? with
  | none => simp only [hz] at hk
  | some ob =>
    simp only [hz] at hk
    cases ob <;> try exact False.elim hk
    rename_i ds
    cases hm : ixN ds.length j with
    | none => simp only [hm] at hk
    | some m =>
      simp only [hm] at hk
      obtain ⟨hM, xs, h1, h2⟩ := c3.rep.ob n a _ ha hz
      refine ⟨a, xs, j, m, rfl, rfl, h1, by rw [h2.length]; exact hm, ?_⟩
      obtain ⟨E4, c4⟩ := c3.wr (o := .lst (ds.set m v)) ha hM (u := .lst (xs.set m vv)) ⟨hM, _, upd_same, h2.set m (Rp.ext r1 E3)⟩
      exact l.nx _ _ hk _ _ _ σV (E1.trans (E3.trans E4)) c4.rep c4.rs
def sFldAug (C f : Str) (g : F2) (to : DW) (t : DD) : DS := fun E σ st => to σ st (fun o st1 => (match o with
  | .loc n => (match st1[n]? with
    | some (.ins C' fs) => C' = C ∧ (match fs.lookup f with
      | some (.im x) => t σ st1 (fun y st2 => g x y fun d => (match st2[n]? with
        | some (.ins C'' fs') => C'' = C ∧ fs'.length < 1000 ∧ E.nx σ (st2.set n (.ins C'' (putW f (.im d) fs')))
        | _ => False)) (exE E σ)
      | _ => False)
    | _ => False)
  | _ => False)) (exE E σ)
theorem s_fldaug {C f : Str} {op : Operator} {g : F2} {rd : V → V → Hp → VK → Prop} {to : DW} {t : DD} {tpos : Pos} (hc : Cls X.K (He.ga X.K C)) (hn : NoAttr X.K (He.ga X.K C) f) (ho : PE X e1 (lW (XN X b) Wx to)) (hv : PE X e2 (lD (XN X b) Wx t)) (hop : InOp X op rd)
    (ok : ∀ {M H : Hp} {a c : D} {u v : V} {kd : D → Prop} {Q : VK}, Rp (XN X b) M a u → Rp (XN X b) M c v → g a c kd → (∀ d, kd d → ∀ w, Rp (XN X b) M d w → Q w H) → rd u v H Q) : PS X (.AugAssign (.Attribute e1 f tpos) op e2 pos) (lS (XN X b) Wx (sFldAug C f g to t)) := PS.imp (ps_fldaug ho hv hop) fun D σV H h => by
  obtain ⟨M, ρ, σ, st, E, r, s, h, l⟩ := h
  refine Lf.of (l.kx r s) h fun o st1 hk u M1 ρ1 H1 E1 c1 ro => ?_
  obtain ⟨n, rfl⟩ : ∃ n, o = .loc n := by cases o <;> first | exact False.elim hk | exact ⟨_, rfl⟩
  obtain ⟨a, ha, rfl⟩ := ro
  cases hz : st1[n]? with
  | none => simp only [hz] at hk
  | some ob =>
    simp only [hz] at hk
    cases ob <;> try exact False.elim hk
    rename_i C' fs
    simp only at hk
    obtain ⟨rfl, hk⟩ := hk
    cases hl : fs.lookup f with
    | none => simp only [hl] at hk
    | some w =>
      simp only [hl] at hk
      obtain ⟨x, rfl⟩ : ∃ x, w = .im x := by cases w <;> first | exact False.elim hk | exact ⟨_, rfl⟩
      obtain ⟨hm, dx, fxs, h1, h2, h3⟩ := c1.rep.ob n a _ ha hz
      obtain ⟨v, h4, h5⟩ := lookup_rws h2 h3 hl
      refine ⟨a, _, dx, fxs, v, rfl, h1, hc, hn, h4, Lf.of c1 hk fun y st2 hk2 yv M2 ρ2 H2 E2 c2 r2 => ?_⟩
      refine ok (Rp.ext (show Rp (XN X b) M1 x v from h5) E2) r2 hk2 fun d hd zv hzv => ?_
      cases hz2 : st2[n]? with
      | none => simp only [hz2] at hd
      | some ob2 =>
        simp only [hz2] at hd
        cases ob2 <;> try exact False.elim hd
        rename_i C2 fs2
        simp only at hd
        obtain ⟨rfl, hl2, hd⟩ := hd
        have ha2 := E2.pre.get ha
        obtain ⟨hm2, dx2, fxs2, g1, g2, g3⟩ := c2.rep.ob n a _ ha2 hz2
        refine ⟨dx2, fxs2, g1, ?_, ?_⟩
        · have := congrArg List.length g2
          rw [List.length_map, List.length_map] at this
          omega
        · obtain ⟨q1, q2⟩ := putW_ok (N := XN X b) (ρ := ρ2) (f := f) (w := .im d) hzv g2 g3
          obtain ⟨E3, c3⟩ := c2.wr (o := .ins C2 (putW f (.im d) fs2)) ha2 hm2 (u := .ins (He.ga X.K C2) dx2 (putF f zv fxs2)) ⟨hm2, dx2, _, upd_same, q1, q2⟩
          exact l.nx _ _ hd _ _ _ σV (E1.trans (E2.trans E3)) c3.rep c3.rs
theorem ok_inadd {M H : Hp} {a c : D} {u v : V} {kd : D → Prop} {Q : VK} (ha : Rp N M a u) (hc : Rp N M c v) (h : fAddI a c kd) (k : ∀ d, kd d → ∀ w, Rp N M d w → Q w H) : rAdd u v H Q := by
  cases a <;> cases c <;> try exact False.elim h
  cases ha; cases hc
  exact ⟨_, _, rfl, rfl, k _ h _ rfl⟩
theorem ok_insub {M H : Hp} {a c : D} {u v : V} {kd : D → Prop} {Q : VK} (ha : Rp N M a u) (hc : Rp N M c v) (h : Dl.fSub a c kd) (k : ∀ d, kd d → ∀ w, Rp N M d w → Q w H) : rSub u v H Q := by
  cases a <;> cases c <;> try exact False.elim h
  cases ha; cases hc
  exact ⟨_, _, rfl, rfl, k _ h _ rfl⟩
end
end Dl
end

section
set_option maxHeartbeats 4000000
namespace Dl
open PySem PySem.Spec PyProof.Rows L2 Co
theorem getD_take {α : Type} {l : List α} {i : Nat} {a : α} (h : l[i]? = some a) : l.take (i + 1) = l.take i ++ [a] := by
  rw [List.take_add_one, h]
  rfl
theorem lc_map {n : Nat} {ds : List D} {te : DD} {vs : List Nat} {σ : Sl} {st : Sto} {K : List D → Sto → Prop} (f : Nat → D → D) (hl : ds.length ≤ 1000000) (hst : trS st.length st = st)
    (hs : ∀ (i : Nat) d, ds[i]? = some d → ∀ Q : D → Sto → Prop, Q (f i d) st → te ((wipeD σ vs).set n (some (.im d))) st Q exF) (hk : ∀ ys : List D, ys.length = ds.length → (∀ (i : Nat) d, ds[i]? = some d → ys[i]? = some (f i d)) → K ys st) : lcB ds (gN n) dYes te vs σ st K := by
  refine ⟨fun i acc st' => st' = st ∧ acc.length = i ∧ i ≤ ds.length ∧ ∀ (j : Nat) d, j < i → ds[j]? = some d → acc[j]? = some (f j d), ⟨rfl, rfl, Nat.zero_le _, fun j d h => absurd h (by omega)⟩, ?_, ?_⟩
  · rintro i d acc st' hd ⟨rfl, ha, _, hj⟩ -
    have hi := (List.getElem?_eq_some_iff.mp hd).1
    refine twoT (hs i d hd _ ⟨by omega, hst, by simp [ha], hi, fun j d' h1 h2 => ?_⟩)
    by_cases z : j = i
    · subst z
      rw [hd] at h2
      cases h2
      rw [List.getElem?_append_right (by omega), ha, Nat.sub_self]
      rfl
    · rw [List.getElem?_append_left (by omega)]
      exact hj j d' (by omega) h2
  · rintro acc st' ⟨rfl, ha, _, hj⟩ -
    exact hk acc ha fun i d h => hj i d (List.getElem?_eq_some_iff.mp h).1 h
theorem lc_fn {α β : Type} {n : Nat} {as : List α} {a : α → D} {b : β → D} {te : DD} {vs : List Nat} {σ : Sl} {st : Sto} {K : List D → Sto → Prop} (f : α → β) (hl : as.length ≤ 1000000) (hst : trS st.length st = st)
    (hs : ∀ x ∈ as, ∀ Q : D → Sto → Prop, Q (b (f x)) st → te ((wipeD σ vs).set n (some (.im (a x)))) st Q exF) (hk : K ((as.map f).map b) st) : lcB (as.map a) (gN n) dYes te vs σ st K := by
  refine lc_map (fun i _ => match as[i]? with
    | some x => b (f x)
    | none => .non) (by simpa using hl) hst (fun i d hd Q q => ?_) fun ys h1 h2 => ?_
  · rw [List.getElem?_map] at hd
    cases hx : as[i]? with
    | none => rw [hx] at hd; cases hd
    | some x =>
      rw [hx] at hd q
      cases hd
      exact hs x (List.mem_of_getElem? hx) Q q
  · have : ys = (as.map f).map b := by
      apply List.ext_getElem?
      intro i
      cases hx : as[i]? with
      | none =>
        have := List.getElem?_eq_none_iff.mp hx
        rw [List.getElem?_eq_none (by rw [h1]; simpa using this), List.getElem?_eq_none (by simpa using this)]
      | some x =>
        rw [h2 i (a x) (by rw [List.getElem?_map, hx]; rfl)]
        simp [hx]
    rw [this]
    exact hk
theorem lc_all {n : Nat} {ds : List D} {te : DD} {vs : List Nat} {σ : Sl} {st : Sto} {K : List D → Sto → Prop} (P : Nat → D → Prop) (hl : ds.length ≤ 1000000) (hst : trS st.length st = st)
    (hs : ∀ (i : Nat) d, ds[i]? = some d → ∀ Q : D → Sto → Prop, (∀ y, P i y → Q y st) → te ((wipeD σ vs).set n (some (.im d))) st Q exF) (hk : ∀ ys : List D, ys.length = ds.length → (∀ (i : Nat) y, ys[i]? = some y → P i y) → K ys st) : lcB ds (gN n) dYes te vs σ st K := by
  refine ⟨fun i acc st' => st' = st ∧ acc.length = i ∧ i ≤ ds.length ∧ ∀ (j : Nat) y, acc[j]? = some y → P j y, ⟨rfl, rfl, Nat.zero_le _, fun j d h => by simp at h⟩, ?_, ?_⟩
  · rintro i d acc st' hd ⟨rfl, ha, _, hj⟩ -
    have hi := (List.getElem?_eq_some_iff.mp hd).1
    refine twoT (hs i d hd _ fun y hy => ⟨by omega, hst, by simp [ha], hi, fun j d' h1 => ?_⟩)
    by_cases z : j < acc.length
    · rw [List.getElem?_append_left z] at h1
      exact hj j d' h1
    · rw [List.getElem?_append_right (by omega)] at h1
      have : j - acc.length = 0 := by
        have := (List.getElem?_eq_some_iff.mp h1).1
        simpa using this
      rw [this] at h1
      cases h1
      rw [show j = i by omega]
      exact hy
  · rintro acc st' ⟨rfl, ha, _, hj⟩ -
    exact hk acc ha hj
theorem chD_S (t : List Nat) : chD (S t) = t.map fun c => .str ⟨#[c]⟩ := rfl
theorem rgD_get {lo : Int} {n i : Nat} {d : D} (h : (rgD lo n)[i]? = some d) : i < n ∧ d = .int (lo + (i : Int)) := by
  unfold rgD at h
  rw [List.getElem?_map] at h
  by_cases hi : i < n
  · rw [List.getElem?_range hi] at h
    exact ⟨hi, (Option.some.inj h).symm⟩
  · rw [List.getElem?_eq_none (by simp; omega)] at h
    cases h
theorem rgD_len {lo : Int} {n : Nat} : (rgD lo n).length = n := by simp [rgD]
end Dl
end

section
set_option maxHeartbeats 4000000
namespace Dl
open PySem PySem.Spec PyProof.Rows L2 Co
section
variable {X : Cx} {b : Bool} {Wx : WX} {e e1 e2 e3 : Expr} {pos : Pos} {N : Kn} {s s1 s2 : Stmt} {ss : List Stmt}
def sRaise0 (C : Str) : DS := fun E σ st => E.ex C [] σ st
theorem s_raise0 {C : Str} (h : PS X s (Co.sRaise Wx (.ref (He.ga X.K C)))) : PS X s (lS (XN X b) Wx (sRaise0 C)) := PS.imp h fun D σV H h => by
  obtain ⟨M, ρ, σ, st, E, r, s, h, l⟩ := h
  exact l.ex _ _ _ _ h none M ρ H σV Ext.refl r s rfl
def sp_xinit1 (K : PySem.W.Frag) (f : Str) : Sp := fun vs H Q _ => match vs with
  | [.ref a, y] => ∃ C, H a = some (exo a C none) ∧ OexC K C ∧ PySem.W.findIn K (.ref C) f = some none ∧ ∀ dx, H dx = none → dx ≠ a → Q .non (upd (upd H dx (exd dx [(f, y)])) a (exo a C (some dx)))
  | _ => False
theorem r_xinit1 {K : PySem.W.Frag} {f n0 n1 : Str} {vs : List V} {H : Hp} {Q : VK} {E : XK} (h : sp_xinit1 K f vs H Q E) : tOst K f (tV 0) (tV 1) { nx := fun _ H' => Q .non H', rt := Q } (start [n0, n1] vs) H := by
  unfold sp_xinit1 at h
  split at h
  · obtain ⟨C, h1, h2, h3, h4⟩ := h
    exact ⟨_, C, rfl, h2, h3, .inl ⟨h1, h4⟩⟩
  · exact h.elim
def sRaise1 (C f : Str) (t : DD) : DS := fun E σ st => t σ st (fun d st1 => E.ex C [(f, d)] σ st1) (exE E σ)
theorem exc_heap {H : Hp} {a dx : Addr} {C : Addr} {l : List (Str × V)} (ha : H a = none) (hne : dx ≠ a) : upd (del (upd (upd (upd H a (exo a C none)) dx (exd dx l)) a (exo a C (some dx))) a) dx (.xd l) = upd H dx (.xd l) := by
  funext b
  unfold upd del
  by_cases h1 : b = dx
  · rw [if_pos h1, if_pos h1]
  · rw [if_neg h1, if_neg h1]
    by_cases h2 : b = a
    · rw [if_pos h2, h2, ha]
    · rw [if_neg h2]
      show (if b = a then _ else if b = dx then _ else if b = a then _ else H b) = H b
      rw [if_neg h2, if_neg h1, if_neg h2]
theorem s_raise1 {C f : Str} {t : DD} (h : PS X s (sRaiseO Wx (He.ga X.K C) (sp_xinit1 X.K f) (tCons (lD (XN X b) Wx t) tNil))) (o : OexC X.K (He.ga X.K C)) (n : PySem.W.findIn X.K (.ref (He.ga X.K C)) f = some none) :
    PS X s (lS (XN X b) Wx (sRaise1 C f t)) := PS.imp h fun D σV H h => by
  obtain ⟨M, ρ, σ, st, E, r, s, h, l⟩ := h
  refine Lf.of (l.kx r s) h fun d st1 hk v M1 ρ1 H1 E1 c1 rv => ⟨(by decide : 1 ≤ 1000), fun a ha => ⟨_, upd_same, o, n, fun dx hdx hne => ⟨rfl, dx, [(f, v)], upd_same, ?_, ?_, ?_⟩⟩⟩
  · rw [upd_ne hne]; exact upd_same
  · rw [upd_ne hne] at hdx; exact hdx
  · rw [exc_heap ha hne]
    rw [upd_ne hne] at hdx
    obtain ⟨e2, c2⟩ := c1.new (o := .xd [(f, v)]) hdx
    exact l.ex C [(f, d)] σ st1 hk (some dx) _ ρ1 _ σV (E1.trans e2) c2.rep c2.rs ⟨[(f, v)], upd_same, rfl, Rps.cons (Rp.ext rv e2) Rps.nil⟩
def TblOk (K : PySem.W.Frag) (C : Str) (tbl : List (Str × Bool)) : Prop := ∀ c v, tbl.lookup c = some v → PySem.W.exmOne K (.ref (He.ga K c)) (.ref (He.ga K C)) = some v
theorem tbl_nil {K : PySem.W.Frag} {C : Str} : TblOk K C [] := fun c v h => by cases h
theorem tbl_cons {K : PySem.W.Frag} {C c : Str} {v : Bool} {tbl : List (Str × Bool)} (h : PySem.W.exmOne K (.ref (He.ga K c)) (.ref (He.ga K C)) = some v) (t : TblOk K C tbl) : TblOk K C ((c, v) :: tbl) := fun c' v' e => by
  rw [List.lookup_cons] at e
  split at e
  · rename_i z
    cases e
    rw [beq_iff_eq.mp z]
    exact h
  · exact t c' v' e
def sTryAs (i : Nat) (tbl : List (Str × Bool)) (u : Addr → Addr → Str → DS) (t : DS) : DS := fun E σ st => t { E with ex := fun c fs σ' st' => match tbl.lookup c with
  | some true => fs ≠ [] ∧ ∀ a dd, u a dd c { E with nx := fun σ2 st2 => E.nx (σ2.set i none) st2, bk := fun σ2 st2 => E.bk (σ2.set i none) st2, ct := fun σ2 st2 => E.ct (σ2.set i none) st2 } (σ'.set i (some (.im (.exc a dd c (fs.map (·.1)) (fs.map (·.2)))))) st'
  | some false => E.ex c fs σ' st'
  | none => False } σ st
def tsD (N : Kn) (Wx : WX) (u : Addr → Addr → Str → DS) (a : Addr) (cls : Value) (d : Option Addr) : TS := fun D σ H => ∃ dd c, cls = .ref (He.ga N.K c) ∧ d = some dd ∧ lS N Wx (u a dd c) D σ H
section
variable {x n C : Str} {i : Nat} {body suite : List Stmt} {b₀ : Stmt} {np pos' : Pos} {t : DS} {u : Addr → Addr → Str → DS} {tbl : List (Str × Bool)}
theorem s_tryAs (hs : X.stack = X.env :: X.outer) (hf : X.env.frame = some X.env.locals) (hN : X.N.Nodup) (hi : X.N[i]? = some n) (hln : X.env.kindOf n = some .local) (hc : Names X x (.ref (He.ga X.K C))) (tk : Takes X Wx) (hx : TblOk X.K C tbl)
    (hb : ∀ (W : WX) (pn : List (Addr × Obj)) (xe : Value → Shared → Prop), Takes (X.tr pn xe) W → PassesOwn (model X.prog X.w) X.A X.env xe → PSs (X.tr pn xe) body (lS (XN X b) W t))
    (hsu : ∀ (a : Addr) (oe : Obj) (cls : Value) (d : Option Addr) (pn : List (Addr × Obj)), Zc cls d oe → (∃ vs, oe.data = .fields vs) → ∀ (dd : Addr) (c : Str), cls = .ref (He.ga X.K c) → d = some dd → PSs (X.suite a ((a, oe) :: pn)) (b₀ :: suite) (lS (XN X b) Wx (u a dd c))) :
    PS X (.Try body [.ExceptHandler (some (.Name x np)) (some n) (b₀ :: suite) pos'] [] [] pos) (lS (XN X b) Wx (sTryAs i tbl u t)) :=
  PS.imp (ps_try_as (tb := fun W => lS (XN X b) W t) (ts := tsD (XN X b) Wx u) (Wout := Wx) hs hf hN hi hln hc tk hb fun a oe cls d pn hz hfl => ⟨fun pins s σ H D I ⟨dd, c, h1, h2, h⟩ => (hsu a oe cls d pn hz hfl dd c h1 h2).run pins s σ H D I h⟩) fun D σV H h => by
    obtain ⟨M, ρ, σ, st, E, r, s, h, l⟩ := h
    refine ⟨M, ρ, σ, st, _, r, s, h, ⟨l.nx, l.rt, fun c fs σ' st' hx' o M' ρ' H' σV' e r' s' eo => ?_, l.bk, l.ct⟩⟩
    have hx' : (match tbl.lookup c with
      | some true => fs ≠ [] ∧ ∀ a dd, u a dd c { E with nx := fun σ2 st2 => E.nx (σ2.set i none) st2, bk := fun σ2 st2 => E.bk (σ2.set i none) st2, ct := fun σ2 st2 => E.ct (σ2.set i none) st2 } (σ'.set i (some (.im (.exc a dd c (fs.map (·.1)) (fs.map (·.2)))))) st'
      | some false => E.ex c fs σ' st'
      | none => False) := hx'
    cases hl : tbl.lookup c with
    | none => rw [hl] at hx'; exact False.elim hx'
    | some v =>
      cases v with
      | false =>
        rw [hl] at hx'
        exact ⟨false, hx c false hl, fun z => (nomatch z), fun _ => l.ex _ _ _ _ hx' o M' ρ' H' σV' e r' s' eo⟩
      | true =>
        rw [hl] at hx'
        obtain ⟨hne, hx'⟩ := hx'
        refine ⟨true, hx c true hl, fun _ a ha => ?_, fun z => (nomatch z)⟩
        cases o with
        | none => exact absurd (show fs = [] from eo) hne
        | some dd =>
          obtain ⟨fxs, g1, g2, g3⟩ := eo
          refine ⟨dd, c, rfl, rfl, M', ρ', _, st', { E with nx := fun σ2 st2 => E.nx (σ2.set i none) st2, bk := fun σ2 st2 => E.bk (σ2.set i none) st2, ct := fun σ2 st2 => E.ct (σ2.set i none) st2 }, r', s'.set (w := .im (.exc a dd c (fs.map (·.1)) (fs.map (·.2)))) ⟨rfl, fxs, g1, g2, g3⟩ i, hx' a dd, ⟨fun σ2 st2 h2 M2 ρ2 H2 σV2 e2 r2 s2 => l.nx _ _ h2 M2 ρ2 H2 _ (e.trans e2) r2 (s2.unset i none), fun w st2 h2 v M2 ρ2 H2 e2 r2 rv => l.rt _ _ h2 v M2 ρ2 H2 (e.trans e2) r2 rv,
            fun c2 fs2 σ2 st2 h2 o2 M2 ρ2 H2 σV2 e2 r2 s2 eo2 => l.ex _ _ _ _ h2 o2 M2 ρ2 H2 σV2 (e.trans e2) r2 s2 eo2, fun σ2 st2 h2 M2 ρ2 H2 σV2 e2 r2 s2 => l.bk _ _ h2 M2 ρ2 H2 _ (e.trans e2) r2 (s2.unset i none), fun σ2 st2 h2 M2 ρ2 H2 σV2 e2 r2 s2 => l.ct _ _ h2 M2 ρ2 H2 _ (e.trans e2) r2 (s2.unset i none)⟩⟩
def sTry (tbl : List (Str × Bool)) (u t : DS) : DS := fun E σ st => t { E with ex := fun c fs σ' st' => match tbl.lookup c with
  | some true => u E σ' st'
  | some false => E.ex c fs σ' st'
  | none => False } σ st
theorem s_try (hs : X.stack = X.env :: X.outer) (hf : X.env.frame = some X.env.locals) (hc : Names X x (.ref (He.ga X.K C))) (tk : Takes X Wx) (hx : TblOk X.K C tbl)
    (hb : ∀ (W : WX) (pn : List (Addr × Obj)) (xe : Value → Shared → Prop), Takes (X.tr pn xe) W → PassesOwn (model X.prog X.w) X.A X.env xe → PSs (X.tr pn xe) body (lS (XN X b) W t)) {u : DS}
    (hsu : ∀ (a : Addr) (oe : Obj) (cls : Value) (d : Option Addr) (pn : List (Addr × Obj)), Zc cls d oe → (∃ vs, oe.data = .fields vs) → PSs (X.suite a ((a, oe) :: pn)) (b₀ :: suite) (lS (XN X b) Wx u)) :
    PS X (.Try body [.ExceptHandler (some (.Name x np)) none (b₀ :: suite) pos'] [] [] pos) (lS (XN X b) Wx (sTry tbl u t)) :=
  PS.imp (ps_try_only (tb := fun W => lS (XN X b) W t) (ts := fun _ _ _ => lS (XN X b) Wx u) (Wout := Wx) hs hf hc tk hb hsu) fun D σV H h => by
    obtain ⟨M, ρ, σ, st, E, r, s, h, l⟩ := h
    refine ⟨M, ρ, σ, st, _, r, s, h, ⟨l.nx, l.rt, fun c fs σ' st' hx' o M' ρ' H' σV' e r' s' eo => ?_, l.bk, l.ct⟩⟩
    have hx' : (match tbl.lookup c with
      | some true => u E σ' st'
      | some false => E.ex c fs σ' st'
      | none => False) := hx'
    cases hl : tbl.lookup c with
    | none => rw [hl] at hx'; exact False.elim hx'
    | some v =>
      cases v with
      | false =>
        rw [hl] at hx'
        exact ⟨false, hx c false hl, fun z => (nomatch z), fun _ => l.ex _ _ _ _ hx' o M' ρ' H' σV' e r' s' eo⟩
      | true =>
        rw [hl] at hx'
        exact ⟨true, hx c true hl, fun _ a ha => lS.of (l.step e) r' s' hx', fun z => (nomatch z)⟩
end
theorem getK_look {M : Hp} : ∀ {fs : List (Str × V)} {ds : List D}, Rps N M ds (fs.map (·.2)) → ∀ {q : Str} {d : D}, getK (fs.map (·.1)) ds q = some d → ∃ v, fs.lookup q = some v ∧ Rp N M d v
  | [], ds, h, q, d, e => by
    cases ds <;> cases e
  | (a, v) :: fs, [], h, q, d, e => by have := h.length; simp at this
  | (a, v) :: fs, d' :: ds, ⟨x, r, h1, h2, h3⟩, q, d, e => by
    cases h1
    by_cases z : a = q
    · simp only [List.map_cons, getK, if_pos z, Option.some.injEq] at e
      subst e z
      exact ⟨v, by simp, h2⟩
    · simp only [List.map_cons, getK, if_neg z] at e
      obtain ⟨v', g1, g2⟩ := getK_look h3 e
      refine ⟨v', ?_, g2⟩
      rw [List.lookup_cons]
      have : (q == a) = false := beq_eq_false_iff_ne.mpr fun w => z w.symm
      rw [this]
      exact g1
def dXf (a dd : Addr) (c C f : Str) (t : DW) : DD := fun σ st k ex => c = C ∧ t σ st (fun w st1 => match w with
  | .im (.exc a' dd' _ ns ds) => a' = a ∧ dd' = dd ∧ (match getK ns ds f with
    | some d => k d st1
    | none => False)
  | _ => False) ex
theorem e_xf {a dd : Addr} {c C f : Str} {oe : Obj} {cls : Value} {d : Option Addr} {pn : List (Addr × Obj)} {t : DW} (T : XfC X.K (He.ga X.K C)) (hno : PySem.W.findIn X.K (.ref (He.ga X.K C)) f = some none)
    (hz : Zc cls d oe) (hf : ∃ vs, oe.data = .fields vs) (hc : cls = .ref (He.ga X.K c)) (hd : d = some dd) (he : PE (X.suite a ((a, oe) :: pn)) e (lW (XN X b) Wx t)) (hb : attributeBase e f X.env (eval e X.env) = eval e X.env := by rfl) :
    PE (X.suite a ((a, oe) :: pn)) (.Attribute e f pos) (lD (XN X b) Wx (dXf a dd c C f t)) := PE.imp (pe_xf T hno hz hf he hb) fun σV H Q h => by
  obtain ⟨M, ρ, σ, st, k, ex, cx, ⟨hcC, ht⟩, q⟩ := Kx.open_ h
  subst hcC
  refine Lf.of cx ht fun w st' hk v M' ρ' H' E c' r => ?_
  cases w with
  | loc n => exact False.elim hk
  | dead => exact False.elim hk
  | im x =>
    cases x <;> try exact False.elim hk
    rename_i a' dd' C' ns ds
    obtain ⟨rfl, rfl, hk⟩ := hk
    obtain ⟨hv, fxs, g1, g2, g3⟩ := (show Rp (XN X b) M' (.exc a' dd' C' ns ds) v from r)
    subst g2
    cases hg : getK (fxs.map (·.1)) ds f with
    | none => simp only [hg] at hk
    | some y =>
      simp only [hg] at hk
      obtain ⟨vv, l1, l2⟩ := getK_look g3 hg
      have hH : H' dd' = some (.xd fxs) := by
        rcases c'.rep.sub _ _ g1 with z | ⟨z, _⟩
        · exact z
        · cases z
      exact ⟨hv, hc, dd', fxs, vv, hd, hH, l1, q _ _ hk vv M' ρ' H' E c' l2⟩
def dIsX (a dd : Addr) (c C : Str) (v : Bool) (t : DW) : DD := fun σ st k ex => c = C ∧ t σ st (fun w st1 => match w with
  | .im (.exc a' dd' _ _ _) => a' = a ∧ dd' = dd ∧ k (.bl v) st1
  | _ => False) ex
theorem e_isX {a dd : Addr} {c C : Str} {cls : Value} {d : Option Addr} {t : DW} {v : Bool} {cV : V} {cv : Value} (h : PE X e (tCB (rIsD N.K (He.ga N.K C) a cls d) (tCons (lW N Wx t) (tCons (tC cV) tNil)))) (hc : cls = .ref (He.ga N.K c)) (hd : d = some dd)
    (hcv : ∀ u, RelV cV u → u = cv) (hk : PySem.W.kitOne N.K (.ref (He.ga N.K C)) cv = some v) : PE X e (lD N Wx (dIsX a dd c C v t)) := PE.imp h fun σV H Q h => by
  obtain ⟨M, ρ, σ, st, k, ex, cx, ⟨hcC, ht⟩, q⟩ := Kx.open_ h
  subst hcC
  refine Lf.of cx ht fun w st' hk' x M' ρ' H' E c' r => ?_
  cases w with
  | loc n => exact False.elim hk'
  | dead => exact False.elim hk'
  | im y =>
    cases y <;> try exact False.elim hk'
    rename_i a' dd' C' ns ds
    obtain ⟨rfl, rfl, hk'⟩ := hk'
    obtain ⟨hv, fxs, g1, g2, g3⟩ := (show Rp N M' (.exc a' dd' C' ns ds) x from r)
    have hH : H' dd' = some (.xd fxs) := by
      rcases c'.rep.sub _ _ g1 with z | ⟨z, _⟩
      · exact z
      · cases z
    exact ⟨cV, cv, v, dd', fxs, by rw [hv], hc, hd, hH, hcv, hk, q _ _ hk' _ M' ρ' H' E c' rfl⟩
end
end Dl
end

section
set_option maxHeartbeats 4000000
namespace Dl
open PySem PySem.Spec PyProof.Rows L2 Co
def plainDv : He.Dv → Bool
  | .non => true
  | .bl _ => true
  | .int _ => true
  | .str _ => true
  | _ => false
def dvD : He.Dv → D
  | .bl b => .bl b
  | .int i => .int i
  | .str x => .str x
  | _ => .non
theorem dvD_rp {N : Kn} {M : Hp} {K : PySem.W.Frag} {v : He.Dv} (h : plainDv v = true) : Rp N M (dvD v) (v.v K) := by
  cases v <;> first | rfl | cases h
def chkD (K : PySem.W.Frag) : List DictEntry → List (Str × He.Dv) → Bool
  | [], [] => true
  | e :: r, q :: t => (match e.key with
    | .str x _ => decide (x = q.1)
    | _ => false) && (He.relB (q.2.v K) e.val && (plainDv q.2 && chkD K r t))
  | _, _ => false
def kdB (K : PySem.W.Frag) (a : Addr) (kvs : List (Str × He.Dv)) : Bool := match K.lookup a with
  | some ⟨_, _, .dict es _, _⟩ => chkD K es.toList kvs
  | _ => false
theorem chk_find {K : PySem.W.Frag} : ∀ {l : List DictEntry} {kvs : List (Str × He.Dv)}, chkD K l kvs = true → ∀ z : Str, (match kvs.lookup z with
    | some v => plainDv v = true ∧ ∃ e, l.find? (·.key.isStr z) = some e ∧ RelV (v.v K) e.val
    | none => l.find? (·.key.isStr z) = none) ∧ l.any (·.refKey) = false
  | [], [], _, z => ⟨rfl, rfl⟩
  | [], _ :: _, h, z => by cases h
  | _ :: _, [], h, z => by cases h
  | e :: r, q :: t, h, z => by
    obtain ⟨h1, h⟩ := He.ba h
    obtain ⟨h2, h⟩ := He.ba h
    obtain ⟨h3, h4⟩ := He.ba h
    obtain ⟨i1, i2⟩ := chk_find h4 z
    obtain ⟨hs, key, val⟩ := e
    obtain ⟨k, v⟩ := q
    cases key with
    | str x tok =>
      have hx : x = k := of_decide_eq_true h1
      subst hx
      refine ⟨?_, by rw [List.any_cons, i2]; rfl⟩
      rw [List.lookup_cons, List.find?_cons]
      show match (match z == x with
        | true => some v
        | false => t.lookup z) with
        | some v => plainDv v = true ∧ ∃ e, (match x == z with
          | true => some _
          | false => r.find? (·.key.isStr z)) = some e ∧ RelV (v.v K) e.val
        | none => (match x == z with
          | true => some _
          | false => r.find? (·.key.isStr z)) = none
      by_cases w : z = x
      · subst w
        rw [beq_self_eq_true]
        exact ⟨h3, _, rfl, He.relB_ok h2⟩
      · rw [beq_eq_false_iff_ne.mpr w, beq_eq_false_iff_ne.mpr (Ne.symm w)]
        exact i1
    | _ => cases h1
theorem kdB_ok {K : PySem.W.Frag} {a : Addr} {kvs : List (Str × He.Dv)} (h : kdB K a kvs = true) (z : Str) : match kvs.lookup z with
    | some v => plainDv v = true ∧ ∃ u, PySem.W.nsIn K a z = some (some u) ∧ RelV (v.v K) u
    | none => PySem.W.nsIn K a z = some none := by
  unfold kdB at h
  split at h
  · rename_i es n sl ho
    obtain ⟨i1, i2⟩ := chk_find h z
    unfold PySem.W.nsIn
    rw [ho]
    cases hl : kvs.lookup z with
    | none =>
      rw [hl] at i1
      dsimp only
      rw [show es.toList.find? (fun x => x.key.isStr z) = none from i1]
      dsimp only
      rw [i2]
      rfl
    | some v =>
      rw [hl] at i1
      obtain ⟨p, e, h1, h2⟩ := i1
      refine ⟨p, e.val, ?_, h2⟩
      dsimp only
      rw [show es.toList.find? (fun x => x.key.isStr z) = some e from h1]
  · cases h
structure Gd (K : PySem.W.Frag) (w : World) (x : Str) (kvs : List (Str × He.Dv)) : Prop where
  kd : kdB K (He.ga K x) kvs = true
  tb : ∃ es n, KDict K w (He.ga K x) es n
def dGlIn (kvs : List (Str × He.Dv)) (t : DD) : DT := fun σ st k ex => t σ st (fun d st1 => match d with
  | .str z => k (kvs.lookup z).isSome st1
  | _ => False) ex
def dGlIx (kvs : List (Str × He.Dv)) (t : DD) : DD := fun σ st k ex => t σ st (fun d st1 => match d with
  | .str z => (match kvs.lookup z with
    | some v => k (dvD v) st1
    | none => False)
  | _ => False) ex
section
variable {X : Cx} {Wx : WX} {e e1 e2 : Expr} {pos : Pos} {N : Kn} {x : Str} {kvs : List (Str × He.Dv)} {t : DD}
theorem glIn_lift {σV : L2.St} {H M : Hp} {ρ : List Addr} {σ : Sl} {st : Sto} {ex : DX} {k : Bool → Sto → Prop} {Q : Bool → Hp → Prop} (G : Gd X.K X.w x kvs) (c : Kx N Wx M ρ σ st H σV ex) (ht : dGlIn kvs t σ st k ex)
    (q : ∀ b st', k b st' → ∀ M' ρ' H', Ext M ρ H M' ρ' H' → Kx N Wx M' ρ' σ st' H' σV ex → Q b H') :
    lD N Wx t σV H (fun y H1 => ∃ (z : Str) (r : Option Value), y = .str z ∧ V.ref (He.ga X.K x) = .ref (He.ga X.K x) ∧ PySem.W.nsIn X.K (He.ga X.K x) z = some r ∧ Q r.isSome H1) := by
  refine Lf.of c ht fun d st' hk v M' ρ' H' E c' r => ?_
  cases d <;> try exact False.elim hk
  rename_i z
  have hr : v = .str z := r
  subst hr
  have g := kdB_ok G.kd z
  cases hl : kvs.lookup z with
  | none =>
    rw [hl] at g
    have hk : k (kvs.lookup z).isSome st' := hk
    rw [hl] at hk
    exact ⟨z, none, rfl, rfl, g, q _ _ hk M' ρ' H' E c'⟩
  | some v =>
    rw [hl] at g
    obtain ⟨_, u, g1, _⟩ := g
    have hk : k (kvs.lookup z).isSome st' := hk
    rw [hl] at hk
    exact ⟨z, some u, rfl, rfl, g1, q _ _ hk M' ρ' H' E c'⟩
theorem t_glIn (G : Gd X.K X.w x kvs) (hg : PE X e2 (tC (.ref (He.ga X.K x)))) (hi : PE X e1 (lD N Wx t)) (hm : behindInMarks .In e2 = false) : PT X (.Compare e1 [.In] [e2] pos) (lT N Wx (dGlIn kvs t)) := by
  obtain ⟨es, n, D⟩ := G.tb
  refine PT.imp (t_cmp (op_in_kd D) hi hg hm) fun σV H Q h => ?_
  obtain ⟨M, ρ, σ, st, k, ex, c, ht, q⟩ := Kx.open_ h
  exact glIn_lift (Q := fun b H1 => Q b H1) G c ht fun b st' hb M' ρ' H' E c' => q _ _ hb _ M' ρ' H' E c' rfl
theorem t_glNotIn (G : Gd X.K X.w x kvs) (hg : PE X e2 (tC (.ref (He.ga X.K x)))) (hi : PE X e1 (lD N Wx t)) (hm : behindInMarks .NotIn e2 = false) : PT X (.Compare e1 [.NotIn] [e2] pos) (lT N Wx (dNot (dGlIn kvs t))) := by
  obtain ⟨es, n, D⟩ := G.tb
  refine PT.imp (t_cmp (op_notIn_kd D) hi hg hm) fun σV H Q h => ?_
  obtain ⟨M, ρ, σ, st, k, ex, c, ht, q⟩ := Kx.open_ h
  exact glIn_lift (k := fun b st1 => k (!b) st1) (Q := fun b H1 => Q (!b) H1) G c ht fun b st' hb M' ρ' H' E c' => q _ _ hb _ M' ρ' H' E c' rfl
theorem e_glIn (G : Gd X.K X.w x kvs) (hg : PE X e2 (tC (.ref (He.ga X.K x)))) (hi : PE X e1 (lD N Wx t)) (hm : behindInMarks .In e2 = false) : PE X (.Compare e1 [.In] [e2] pos) (lD N Wx (dB (dGlIn kvs t))) := by
  obtain ⟨es, n, D⟩ := G.tb
  refine PE.imp (pe_cmpR (op_in_kd D) hi hg hm) fun σV H Q h => ?_
  obtain ⟨M, ρ, σ, st, k, ex, c, ht, q⟩ := Kx.open_ h
  exact glIn_lift (Q := fun b H1 => Q (.bl b) H1) G c ht fun b st' hb M' ρ' H' E c' => q _ _ hb _ M' ρ' H' E c' rfl
theorem e_glNotIn (G : Gd X.K X.w x kvs) (hg : PE X e2 (tC (.ref (He.ga X.K x)))) (hi : PE X e1 (lD N Wx t)) (hm : behindInMarks .NotIn e2 = false) : PE X (.Compare e1 [.NotIn] [e2] pos) (lD N Wx (dB (dNot (dGlIn kvs t)))) := by
  obtain ⟨es, n, D⟩ := G.tb
  refine PE.imp (pe_cmpR (op_notIn_kd D) hi hg hm) fun σV H Q h => ?_
  obtain ⟨M, ρ, σ, st, k, ex, c, ht, q⟩ := Kx.open_ h
  exact glIn_lift (k := fun b st1 => k (.bl (!b)) st1) (Q := fun b H1 => Q (.bl (!b)) H1) G c ht fun b st' hb M' ρ' H' E c' => q _ _ hb _ M' ρ' H' E c' rfl
theorem e_glIx (G : Gd X.K X.w x kvs) (hg : PE X e1 (tC (.ref (He.ga X.K x)))) (hi : PE X e2 (lD N Wx t)) (hs : PlainIx e2) : PE X (.Subscript e1 e2 pos) (lD N Wx (dGlIx kvs t)) := by
  obtain ⟨es, n, D⟩ := G.tb
  refine PE.imp (pe_ix ix_kdict hg hi hs) fun σV H Q h => ?_
  obtain ⟨M, ρ, σ, st, k, ex, c, ht, q⟩ := Kx.open_ h
  show lD N Wx t σV H fun y H1 => rIxD X.K X.w (.ref (He.ga X.K x)) y H1 Q
  refine Lf.of c ht fun d st' hk v M' ρ' H' E c' r => ?_
  cases d <;> try exact False.elim hk
  rename_i z
  have hr : v = .str z := r
  subst hr
  have g := kdB_ok G.kd z
  cases hl : kvs.lookup z with
  | none => simp only [hl] at hk
  | some v =>
    rw [hl] at g
    obtain ⟨p, u, g1, g2⟩ := g
    simp only [hl] at hk
    exact ⟨_, z, v.v X.K, rfl, rfl, ⟨es, n, u, D.at_, D.lit, g1, g2⟩, q _ _ hk _ M' ρ' H' E c' (dvD_rp p)⟩
end
def dCall0 (f : Pf) : DW := fun _ st k _ => callD f [] [] st k (fun _ _ _ => False)
theorem e_call0 {X : Cx} {Wx : WX} {N : Kn} {k : Nat} {f : Addr} {ps : List Str} {pf : Pf} {x : Str} {p pos : Pos} (d : Def X.prog X.w X.K X.mg X.base k f ps (spD N pf)) (hr : Room k X.A) (hg : Gl X x) (hm : X.mg x = some (.ref f)) (hdb : (x == ("__debug__" : Str)) = false := by decide) :
    PE X (.Call (.Name x p) [] [] pos) (lW N Wx (dCall0 pf)) := PE.imp (Co.e_call0 (E := fun _ _ _ => False) d hr hg hm passL hdb) fun σV H Q h => by
  obtain ⟨M, ρ, σ, st, k, ex, c, ht, q⟩ := Kx.open_ h
  have c0 : Kx N (fun _ _ _ _ => False) M ρ σ st H σV (fun _ _ _ => False) := ⟨c.rep, c.rs, fun _ _ _ h => h.elim⟩
  exact callD_ok List.nodup_nil c0 ht (vs := []) rfl fun w st2 hk2 v M2 ρ2 H2 E2 c2 r2 => q _ _ hk2 v M2 ρ2 H2 E2 ⟨c2.rep, c2.rs, fun c' fs st' hx o M3 ρ3 H3 E3 => c.xl c' fs st' hx o M3 ρ3 H3 (E2.trans E3)⟩ r2
structure Fz (fa : List He.Fa) (fn : List He.DefD) (xs : List Ex) (kds : List (Str × List (Str × He.Dv))) (w : World) (K : PySem.W.Frag) (mg : Str → Option Value) : Prop extends Fy fa fn xs K mg where
  gds : ∀ p ∈ kds, Gd K w p.1 p.2
theorem Fz.gd {fa : List He.Fa} {fn : List He.DefD} {xs : List Ex} {kds : List (Str × List (Str × He.Dv))} {w : World} {K : PySem.W.Frag} {mg : Str → Option Value} (T : Fz fa fn xs kds w K mg) (i : Nat) {x : Str} {kvs : List (Str × He.Dv)} (h : kds[i]? = some (x, kvs) := by rfl) : Gd K w x kvs := T.gds _ (List.mem_of_getElem? h)
def tabD (kds : List (Str × List (Str × He.Dv))) : List He.Tab := kds.map fun p => ((fun K => He.ga K p.1), p.2.map (·.1))
theorem gds_of {fa : List He.Fa} {fn : List He.DefD} {kds : List (Str × List (Str × He.Dv))} {w : World} {K : PySem.W.Frag} (c : He.SaysT fa fn (tabD kds) w K) (h : (kds.all fun p => kdB K (He.ga K p.1) p.2) = true) : ∀ p ∈ kds, Gd K w p.1 p.2 := fun p hp => by
  refine ⟨List.all_eq_true.mp h p hp, ?_⟩
  obtain ⟨i, hi, e⟩ := List.mem_iff_getElem.mp hp
  exact c.tab i (t := ((fun K => He.ga K p.1), p.2.map (·.1))) (by unfold tabD; rw [List.getElem?_map, List.getElem?_eq_getElem hi, e]; rfl)
end Dl
end

section
set_option maxHeartbeats 4000000
namespace Dl.Pt
open PySem PySem.Spec PyProof.Rows L2 Co
inductive Pt where
  | chars (s : List Nat)
  | row (ps : List Pt)
  | either (ps : List Pt)
  | star (p : Pt)
  | plus (p : Pt)
  | maybe (p : Pt)
mutual
def eP : Pt → D
  | .chars s => .tup [.str "chars", .str (S s)]
  | .row ps => .tup [.str "row", .tup (ePs ps)]
  | .either ps => .tup [.str "either", .tup (ePs ps)]
  | .star p => .tup [.str "star", eP p]
  | .plus p => .tup [.str "plus", eP p]
  | .maybe p => .tup [.str "maybe", eP p]
def ePs : List Pt → List D
  | [] => []
  | p :: ps => eP p :: ePs ps
end
theorem ePs_eq : ∀ ps : List Pt, ePs ps = ps.map eP
  | [] => rfl
  | p :: ps => by
    show eP p :: ePs ps = _
    rw [ePs_eq ps]
    rfl
inductive Rr (α : Type) where
  | ok (a : α) (j : Nat)
  | bad (j : Nat)
  | deep
def Rr.then {α β : Type} (r : Rr α) (f : α → Nat → Rr β) : Rr β := match r with
  | .ok a j => f a j
  | .bad j => .bad j
  | .deep => .deep
def alph : List Nat := 10 :: ((List.range 95).map (· + 32)).filter fun c => c != 37
def escd : List Nat := [124, 42, 43, 63, 40, 41, 91, 93, 46, 92, 94, 45]
def insd : List Nat := [93, 94, 45, 92]
def escP (t : List Nat) (i : Nat) : Rr Nat := match t[i + 1]? with
  | none => .bad (i + 1)
  | some c => if c = 110 then .ok 10 (i + 2) else if c ∈ escd then .ok c (i + 2) else .bad (i + 1)
def mchP (t : List Nat) (i : Nat) : Rr Nat := match t[i]? with
  | none => .bad i
  | some c => if c = 92 then escP t i else if c ∈ insd then .bad i else .ok c (i + 1)
def memP (t : List Nat) (i : Nat) : Rr (Nat × Nat) := (mchP t i).then fun a j => if t[j]? = some 45 then (mchP t (j + 1)).then fun b k => if b < a then .bad (j + 1) else .ok (a, b) k else .ok (a, a) j
def memsP (t : List Nat) : Nat → List (Nat × Nat) → Nat → Rr (List (Nat × Nat))
  | 0, _, _ => .deep
  | f + 1, acc, i => if t[i]? = some 93 then .ok acc i else (memP t i).then fun m j => memsP t f (acc ++ [m]) j
def setOf (ms : List (Nat × Nat)) : List Nat := alph.filter fun c => ms.any fun m => m.1 ≤ c && c ≤ m.2
def chrP (t : List Nat) (i : Nat) : Rr Pt :=
  (memP t (if t[i]? = some 94 then i + 1 else i)).then fun m j => (memsP t (t.length + 1) [m] j).then fun ms k =>
    let s := if t[i]? = some 94 then alph.filter fun c => !decide (c ∈ setOf ms) else setOf ms
    if s = [] then .bad k else .ok (.chars s) (k + 1)
def elemP (alt : List Nat → Nat → Rr Pt) (t : List Nat) (i : Nat) : Rr Pt := match t[i]? with
  | none => .bad i
  | some c => if c = 92 then (escP t i).then fun c j => .ok (.chars [c]) j
    else if c = 40 then (alt t (i + 1)).then fun p j => if t[j]? = some 41 then .ok p (j + 1) else .bad j
    else if c ∈ [124, 42, 43, 63, 41, 93] then .bad i
    else if c = 91 then chrP t (i + 1)
    else .ok (.chars (if c = 46 then alph else [c])) (i + 1)
def partP (alt : List Nat → Nat → Rr Pt) (t : List Nat) (i : Nat) : Rr Pt := (elemP alt t i).then fun p j => match t[j]? with
  | some 42 => .ok (.star p) (j + 1)
  | some 43 => .ok (.plus p) (j + 1)
  | some 63 => .ok (.maybe p) (j + 1)
  | _ => .ok p j
def flatR : List Pt → List Pt
  | [] => []
  | .row qs :: r => qs ++ flatR r
  | p :: r => p :: flatR r
def flatE : List Pt → List Pt
  | [] => []
  | .either qs :: r => qs ++ flatE r
  | p :: r => p :: flatE r
def joinR (ps : List Pt) : Pt := match flatR ps with
  | [p] => p
  | qs => .row qs
def joinE (ps : List Pt) : Pt := match flatE ps with
  | [p] => p
  | qs => .either qs
def partsP (alt : List Nat → Nat → Rr Pt) (t : List Nat) : Nat → List Pt → Nat → Rr (List Pt)
  | 0, _, _ => .deep
  | f + 1, acc, i => match t[i]? with
    | none => .ok acc i
    | some c => if c = 124 ∨ c = 41 then .ok acc i else (partP alt t i).then fun p j => partsP alt t f (acc ++ [p]) j
def seqP (alt : List Nat → Nat → Rr Pt) (t : List Nat) (i : Nat) : Rr Pt := (partP alt t i).then fun p j => (partsP alt t (t.length + 1) [p] j).then fun ps k => .ok (joinR ps) k
def seqsP (alt : List Nat → Nat → Rr Pt) (t : List Nat) : Nat → List Pt → Nat → Rr (List Pt)
  | 0, _, _ => .deep
  | f + 1, acc, i => if t[i]? = some 124 then (seqP alt t (i + 1)).then fun p j => seqsP alt t f (acc ++ [p]) j else .ok acc i
def altP : Nat → List Nat → Nat → Rr Pt
  | 0, _, _ => .deep
  | n + 1, t, i => (seqP (altP n) t i).then fun p j => (seqsP (altP n) t (t.length + 1) [p] j).then fun ps k => .ok (joinE ps) k
def rd (t : List Nat) (i : Nat) : Ob := .ins "PatternReader" [("text", .im (.str (S t))), ("at", .im (.int (i : Nat)))]
def ansR {α : Type} (t : List Nat) (e : α → D) (r : Rr α) (k : W → Sto → Prop) (ex : DX) : Prop := match r with
  | .ok a j => k (.im (e a)) [rd t j]
  | .bad j => ∀ j' : Nat, ex "BadPattern" [("position", .int (j : Nat))] [rd t j']
  | .deep => False
def At (t : List Nat) (i : Nat) : Prop := i ≤ t.length ∧ t.length ≤ 100000
def pf_PatternReader_sign : Pf := fun ws st k _ => match ws, st with
  | [.loc 0], [o] => ∃ t i, o = rd t i ∧ At t i ∧ k (.im (.str (S ((t.drop i).take 1)))) [rd t i]
  | _, _ => False
def pf_PatternReader_escape : Pf := fun ws st k ex => match ws, st with
  | [.loc 0], [o] => ∃ t i, o = rd t i ∧ At t i ∧ i < t.length ∧ ansR t (fun c : Nat => .str ⟨#[c]⟩) (escP t i) k ex
  | _, _ => False
def pf_PatternReader_member_character : Pf := fun ws st k ex => match ws, st with
  | [.loc 0], [o] => ∃ t i, o = rd t i ∧ At t i ∧ ansR t (fun c : Nat => .str ⟨#[c]⟩) (mchP t i) k ex
  | _, _ => False
def eM (m : Nat × Nat) : D := .tup [.str ⟨#[m.1]⟩, .str ⟨#[m.2]⟩]
def pf_PatternReader_member : Pf := fun ws st k ex => match ws, st with
  | [.loc 0], [o] => ∃ t i, o = rd t i ∧ At t i ∧ ansR t eM (memP t i) k ex
  | _, _ => False
def pf_chars_of : Pf := fun ws st k _ => match ws, st with
  | [.im (.lst ds)], [] => ∃ ms : List (Nat × Nat), ds = ms.map eM ∧ ms.length ≤ 100000 ∧ k (.im (eP (.chars (setOf ms)))) []
  | _, _ => False
def pf_PatternReader_characters : Pf := fun ws st k ex => match ws, st with
  | [.loc 0], [o] => ∃ t i, o = rd t i ∧ At t i ∧ ansR t eP (chrP t i) k ex
  | _, _ => False
def pf_elem (n : Nat) : Pf := fun ws st k ex => match ws, st with
  | [.loc 0], [o] => ∃ t i, o = rd t i ∧ At t i ∧ ansR t eP (elemP (altP n) t i) k ex
  | _, _ => False
def pf_part (n : Nat) : Pf := fun ws st k ex => match ws, st with
  | [.loc 0], [o] => ∃ t i, o = rd t i ∧ At t i ∧ ansR t eP (partP (altP n) t i) k ex
  | _, _ => False
def pf_seq (n : Nat) : Pf := fun ws st k ex => match ws, st with
  | [.loc 0], [o] => ∃ t i, o = rd t i ∧ At t i ∧ ansR t eP (seqP (altP n) t i) k ex
  | _, _ => False
def pf_alts (n : Nat) : Pf := fun ws st k ex => match ws, st with
  | [.loc 0], [o] => ∃ t i, o = rd t i ∧ At t i ∧ ansR t eP (altP n t i) k ex
  | _, _ => False
theorem pf_alts0 : ∀ ws st k ex, ¬ pf_alts 0 ws st k ex := fun ws st k ex h => by
  unfold pf_alts at h
  split at h
  · obtain ⟨t, i, _, _, h⟩ := h
    exact h
  · exact h
def pf_joined : Pf := fun ws st k _ => match ws, st with
  | [.im (.str h), .im (.lst ds)], [] => ∃ ps : List Pt, ds = ps.map eP ∧ ps.length ≤ 100000 ∧ ((h = "row" ∧ (flatR ps).length ≤ 1000000 ∧ k (.im (eP (joinR ps))) []) ∨ (h = "either" ∧ (flatE ps).length ≤ 1000000 ∧ k (.im (eP (joinE ps))) []))
  | _, _ => False
def pf_PatternReader_init : Pf := fun ws st k _ => match ws, st with
  | [.loc 0, .im (.str z)], [.ins C fs] => ∃ t, z = S t ∧ C = "PatternReader" ∧ fs = [] ∧ k (.im .non) [rd t 0]
  | _, _ => False
def pf_read_pattern : Pf := fun ws st k ex => match ws, st with
  | [.im (.str z)], [] => ∃ t, z = S t ∧ t.length ≤ 100000 ∧ (match altP 20 t 0 with
    | .ok p j => if j < t.length then ex "BadPattern" [("position", .int (j : Nat))] [] else k (.im (eP p)) []
    | .bad j => ex "BadPattern" [("position", .int (j : Nat))] []
    | .deep => False)
  | _, _ => False
def told (t : List Nat) : Option Int := match altP 20 t 0 with
  | .ok _ j => if j < t.length then some (j : Nat) else some (-1)
  | .bad j => some (j : Nat)
  | .deep => none
def pf_Ltold : Pf := fun ws st k _ => match ws, st with
  | [.im (.str z)], [] => ∃ t i, z = S t ∧ t.length ≤ 100000 ∧ told t = some i ∧ k (.im (.int i)) []
  | _, _ => False
def runStep (cs : List Nat) (a : List (Nat × Nat) × Int) (k : Nat) : List (Nat × Nat) × Int := match alph[k]? with
  | some c => if c ∈ cs then (if a.2 = (k : Int) - 1 then (a.1.dropLast ++ [((a.1.getLastD (0, 0)).1, c)], (k : Int)) else (a.1 ++ [(c, c)], (k : Int))) else a
  | none => a
def runs (cs : List Nat) : List (Nat × Nat) := ((List.range 95).foldl (runStep cs) ([], -5)).1
def escL (bs : List Nat) (c : Nat) : List Nat := if c = 10 then [92, 110] else if c ∈ bs then [92, c] else [c]
def outd : List Nat := [124, 42, 43, 63, 40, 41, 91, 93, 46, 92]
def runL (m : Nat × Nat) : List Nat := escL insd m.1 ++ if m.1 = m.2 then [] else 45 :: escL insd m.2
def setL (cs : List Nat) : List Nat := match cs with
  | [c] => escL outd c
  | _ => if cs.length = 95 then [46] else 91 :: ((runs cs).flatMap runL ++ [93])
def isE : Pt → Bool
  | .either _ => true
  | _ => false
def isC : Pt → Bool
  | .chars _ => true
  | _ => false
def brk (b : Bool) (l : List Nat) : List Nat := if b = true then 40 :: (l ++ [41]) else l
mutual
def canL : Pt → List Nat
  | .chars cs => setL cs
  | .row ps => rowL ps
  | .either ps => eitL ps
  | .star p => brk (!isC p) (canL p) ++ [42]
  | .plus p => brk (!isC p) (canL p) ++ [43]
  | .maybe p => brk (!isC p) (canL p) ++ [63]
def rowL : List Pt → List Nat
  | [] => []
  | p :: ps => brk (isE p) (canL p) ++ rowL ps
def eitL : List Pt → List Nat
  | [] => []
  | [p] => canL p
  | p :: ps => canL p ++ 124 :: eitL ps
end
mutual
def dep : Pt → Nat
  | .chars _ => 0
  | .row ps => deps ps
  | .either ps => deps ps
  | .star p => dep p + 1
  | .plus p => dep p + 1
  | .maybe p => dep p + 1
def deps : List Pt → Nat
  | [] => 0
  | p :: ps => max (dep p + 1) (deps ps)
end
def SetOk (cs : List Nat) : Prop := cs ≠ [] ∧ cs.Sublist alph
def TreeOk : Nat → Pt → Prop
  | 0, p => ∃ cs, p = .chars cs ∧ SetOk cs
  | d + 1, p => (∃ cs, p = .chars cs ∧ SetOk cs) ∨ (∃ ps, (p = .row (flatR ps) ∨ p = .either (flatE ps)) ∧ (ps.length = 2 ∨ ps.length = 3) ∧ ∀ q ∈ ps, TreeOk d q) ∨ ∃ q, (p = .star q ∨ p = .plus q ∨ p = .maybe q) ∧ TreeOk d q
def pf_Lchars : Pf := fun ws st k _ => match ws, st with
  | [.loc 0], [.pool] => ∀ cs, SetOk cs → k (.im (.str (S cs))) [.pool]
  | _, _ => False
def pf_Lflat : Pf := fun ws st k _ => match ws, st with
  | [.im (.str h), .im (.lst ds)], [] => ∃ ps : List Pt, ds = ps.map eP ∧ ps.length ≤ 3 ∧ ((h = "row" ∧ (flatR ps).length ≤ 1000 ∧ k (.im (eP (.row (flatR ps)))) []) ∨ (h = "either" ∧ (flatE ps).length ≤ 1000 ∧ k (.im (eP (.either (flatE ps)))) []))
  | _, _ => False
def pf_Ltree (n : Nat) : Pf := fun ws st k _ => match ws, st with
  | [.loc 0, .im (.int d)], [.pool] => 0 ≤ d ∧ d.toNat < n ∧ d ≤ 5 ∧ ∀ p, TreeOk d.toNat p → k (.im (eP p)) [.pool]
  | _, _ => False
def pf_Lescaped : Pf := fun ws st k _ => match ws, st with
  | [.im (.str a), .im (.str z)], [] => ∃ c bs, a = ⟨#[c]⟩ ∧ z = S bs ∧ bs.length ≤ 1000 ∧ k (.im (.str (S (escL bs c)))) []
  | _, _ => False
def pf_Lruns : Pf := fun ws st k _ => match ws, st with
  | [.im (.str z)], [] => ∃ cs, z = S cs ∧ SetOk cs ∧ k (.im (.lst ((runs cs).map eM))) []
  | _, _ => False
def pf_Lset : Pf := fun ws st k _ => match ws, st with
  | [.im (.str z)], [] => ∃ cs, z = S cs ∧ SetOk cs ∧ k (.im (.str (S (setL cs)))) []
  | _, _ => False
def pf_Lcanonical (n : Nat) : Pf := fun ws st k _ => match ws, st with
  | [.im d], [] => ∃ p m, d = eP p ∧ m < n ∧ m ≤ 5 ∧ TreeOk m p ∧ k (.im (.str (S (canL p)))) []
  | _, _ => False
def ends : List (Str × Nat) := [("**", 1), ("*+b", 1), ("+?)", 1), ("|*", 1), ("||b", 1), ("|", 1), ("(", 1), ("()", 1), ("(|a)", 1), ("[]", 1), ("[^]", 2), ("[b-a]c", 3), ("[c\\n]*[d-a", 9),
  ("\\a", 1), ("\\", 1), ("[ab", 3), ("[a-", 3), ("[a-]", 3), ("[-a]", 1), ("[a^]", 2), ("[\\q]", 2), ("]", 0), ("[a-\\q]", 4), ("[", 1), ("[^", 2), ("(b|)", 3), ("[^\\n-~]", 6),
  ("(?b)", 1), ("[a-c-e]", 4), ("[^^]", 2)]
def pf_Lends : Pf := fun ws st k _ => match ws, st with
  | [], [] => k (.im (.lst (ends.map fun e => .tup [.str e.1, .int (e.2 : Nat)]))) []
  | _, _ => False
end Dl.Pt
end

section
set_option maxHeartbeats 4000000
namespace Dl
open PySem PySem.Spec PyProof.Rows L2 Co
theorem lcG_filter {α β : Type} {g : DG} {as : List α} {a : α → D} {b : β → D} {tt : DT} {te : DD} {vs : List Nat} {σ : Sl} {st : Sto} {K : List D → Sto → Prop} (sx : α → Sl) (p : α → Bool) (f : α → β) (hl : as.length ≤ 1000000) (hst : trS st.length st = st)
    (hg : ∀ x ∈ as, ∀ k : Sl → Prop, k (sx x) → g (a x) (wipeD σ vs) k)
    (ht : ∀ x ∈ as, ∀ Q : Bool → Sto → Prop, Q (p x) st → tt (sx x) st Q exF)
    (hs : ∀ x ∈ as, p x = true → ∀ Q : D → Sto → Prop, Q (b (f x)) st → te (sx x) st Q exF) (hk : K (((as.filter p).map f).map b) st) : lcB (as.map a) g tt te vs σ st K := by
  refine ⟨fun i acc st' => st' = st ∧ i ≤ as.length ∧ acc = (((as.take i).filter p).map f).map b, ⟨rfl, Nat.zero_le _, rfl⟩, ?_, ?_⟩
  · rintro i d acc st' hd ⟨rfl, hi, rfl⟩ -
    rw [List.getElem?_map] at hd
    cases hx : as[i]? with
    | none => rw [hx] at hd; cases hd
    | some x =>
      rw [hx] at hd
      cases hd
      have hm := List.mem_of_getElem? hx
      have hlt := (List.getElem?_eq_some_iff.mp hx).1
      have e : (as.take (i + 1)).filter p = (as.take i).filter p ++ if p x = true then [x] else [] := by
        rw [getD_take hx, List.filter_append]
        congr 1
        by_cases z : p x = true
        · rw [if_pos z, List.filter_cons_of_pos z]; rfl
        · rw [if_neg z, List.filter_cons_of_neg z]; rfl
      refine hg x hm _ (ht x hm _ ?_)
      cases hp : p x with
      | true =>
        refine twoT (hs x hm hp _ ⟨?_, hst, by omega, ?_⟩)
        · have := List.length_filter_le p (as.take i)
          rw [List.length_take] at this
          rw [List.length_map, List.length_map]
          omega
        · rw [e, if_pos hp, List.map_append, List.map_append]
          rfl
      | false =>
        refine twoF ⟨hst, by omega, ?_⟩
        rw [e, if_neg (by rw [hp]; decide), List.append_nil]
  · rintro acc st' ⟨rfl, _, rfl⟩ -
    rw [List.length_map, List.take_of_length_le (Nat.le_refl _)]
    exact hk
theorem lcG_fn {α β : Type} {g : DG} {as : List α} {a : α → D} {b : β → D} {te : DD} {vs : List Nat} {σ : Sl} {st : Sto} {K : List D → Sto → Prop} (sx : α → Sl) (f : α → β) (hl : as.length ≤ 1000000) (hst : trS st.length st = st)
    (hg : ∀ x ∈ as, ∀ k : Sl → Prop, k (sx x) → g (a x) (wipeD σ vs) k)
    (hs : ∀ x ∈ as, ∀ Q : D → Sto → Prop, Q (b (f x)) st → te (sx x) st Q exF) (hk : K ((as.map f).map b) st) : lcB (as.map a) g dYes te vs σ st K :=
  lcG_filter sx (fun _ => true) f hl hst hg (fun _ _ _ q => q) (fun x hx _ => hs x hx) (by
    have : as.filter (fun _ => true) = as := List.filter_eq_self.mpr fun _ _ => rfl
    rw [this]
    exact hk)
end Dl
end

section
set_option maxHeartbeats 4000000
namespace Dl
open PySem PySem.Spec PyProof.Rows L2 Co
def dAddM (ta tb : DW) : DW := fun σ st k ex => ta σ st (fun x st1 => tb σ st1 (fun y st2 => match seeW x st2, seeW y st2 with
  | some (.lst xs), some (.lst ys) => xs.length + ys.length ≤ 1000000 ∧ k (.loc st2.length) (st2 ++ [.lst (xs ++ ys)])
  | _, _ => False) ex) ex
def sForK (it : Lv (List D)) (g : DG) (tb : DS) : DS := fun E σ st => it σ st (fun ds st1 => ∃ I : Nat → Sl → Sto → Prop, I 0 σ st1 ∧
  (∀ (i : Nat) d σ' st', ds[i]? = some d → I i σ' st' → st1.length ≤ st'.length → g d σ' fun σ2 => tb { E with nx := fun σ3 st3 => I (i + 1) σ3 st3, ct := fun σ3 st3 => I (i + 1) σ3 st3, bk := E.nx } σ2 st') ∧
  ∀ σ' st', I ds.length σ' st' → st1.length ≤ st'.length → E.nx σ' st') (exE E σ)
section
variable {X : Cx} {b : Bool} {Wx : WX} {e e1 e2 e3 tg : Expr} {pos : Pos} {N : Kn}
theorem e_addM {ta tb : DW} (ha : PE X e1 (lW N Wx ta)) (hb : PE X e2 (lW N Wx tb)) : PE X (.BinOp e1 .Add e2 pos) (lW N Wx (dAddM ta tb)) := PE.imp (pe_op op_cat ha hb) fun σV H Q h => by
  obtain ⟨M, ρ, σ, st, k, ex, c, ht, q⟩ := Kx.open_ h
  refine Lf.bin c ht fun x y st' hk u v M' ρ' H' E c' r1 r2 => ?_
  cases h1 : seeW x st' with
  | none => simp only [h1] at hk
  | some d =>
    cases h2 : seeW y st' with
    | none => simp only [h1, h2] at hk
    | some e =>
      simp only [h1, h2] at hk
      cases d <;> try exact False.elim hk
      cases e <;> try exact False.elim hk
      obtain ⟨p, xs, rfl, g1, g2⟩ := see_ok c'.rep h1 r1
      obtain ⟨p2, ys, rfl, g3, g4⟩ := see_ok c'.rep h2 r2
      have s := Fv.sub (ρ := ρ') c'.rep.sub
      refine ⟨p, p2, xs, ys, rfl, rfl, s.lst1 g1, s.lst1 g3, ?_, fun l hl => ?_⟩
      · rw [g2.length, g4.length]; exact lenL6 hk.1
      · obtain ⟨E2, c2⟩ := c'.loc (u := .lst (xs ++ ys)) hl (o := .lst _) ⟨c'.rep.non hl, xs ++ ys, upd_same, g2.append g4⟩
        exact q _ _ hk.2 _ _ _ _ (E.trans E2) c2 ⟨l, c'.rep.last l, rfl⟩
theorem s_forK {it : Lv (List D)} {vs : List Nat} {g : DG} {gV : TG} {tb : DS} {body : List Stmt} (g2 : GOk N vs g gV) (hp : PassesOwn (model X.prog X.w) X.A X.env X.xe) (hc : X.calm = true) (hi : PI X tg e (lI N Wx it)) (g1 : PG X tg gV) (hb : PSs X body (lS N Wx tb))
    (hs : ∀ x, foldedSetIterable e X.env x = pure x := by intro _; rfl) : PS X (.For tg e body [] pos) (lS N Wx (sForK it g tb)) := by
  refine PS.imp (ps_for hp hc hi g1 hb hs) fun D σV H h => ?_
  obtain ⟨M, ρ, σ, st, E, r, s, h, l⟩ := h
  refine ⟨M, ρ, σ, st, _, _, l.kx r s, h, fun ds st1 hk J M1 ρ1 H1 E1 r1 gd => ?_⟩
  obtain ⟨I, h0, hstep, hend⟩ := hk
  have l1 := l.step E1
  refine ⟨fun i m σV' H' => m = ds.length - i ∧ i ≤ ds.length ∧ ∃ M' ρ' σ' st', Ext M1 ρ1 H1 M' ρ' H' ∧ Rep N M' ρ' st' H' ∧ Rs N M' ρ' σ' σV' ∧ I i σ' st', ⟨ds.length, by simp, Nat.zero_le _, M1, ρ1, σ, st1, Ext.refl, r1, s.ext E1, h0⟩, ?_⟩
  rintro i m σV' H' ⟨rfl, hi, M', ρ', σ', st', E', r', s', hI⟩
  have hlen : st1.length ≤ st'.length := by
    rw [← r'.len, ← r1.len]
    obtain ⟨z, rfl⟩ := E'.pre
    simp
  by_cases hlt : i < ds.length
  · refine .inr ⟨gd.go i M' H' E'.mm r'.sub hlt, fun σV3 H3 => ∃ M3 ρ3 σ3 st3, Ext M1 ρ1 H1 M3 ρ3 H3 ∧ Rep N M3 ρ3 st3 H3 ∧ Rs N M3 ρ3 σ3 σV3 ∧ I (i + 1) σ3 st3, fun σV3 H3 q => ⟨ds.length - (i + 1), by omega, rfl, hlt, q⟩, fun v H2 y => ?_⟩
    obtain ⟨d, M2, hd, E2, r2, rd⟩ := gd.item E' r' hlt y
    refine g2.ok rd r2.sub (s'.ext E2) (hstep i d σ' st' hd hI hlen) fun σ2 h2 σV2 s2 _ => ?_
    have E12 := E'.trans E2
    have l2 := l1.step E12
    have turn : ∀ σ3 st3, I (i + 1) σ3 st3 → ∀ M3 ρ3 H3 σV3, Ext M2 ρ' H2 M3 ρ3 H3 → Rep N M3 ρ3 st3 H3 → Rs N M3 ρ3 σ3 σV3 → ∃ M3 ρ3 σ3 st3, Ext M1 ρ1 H1 M3 ρ3 H3 ∧ Rep N M3 ρ3 st3 H3 ∧ Rs N M3 ρ3 σ3 σV3 ∧ I (i + 1) σ3 st3 := fun σ3 st3 hI3 M3 ρ3 H3 σV3 E3 r3 s3 =>
      ⟨M3, ρ3, σ3, st3, E12.trans E3, r3, s3, hI3⟩
    exact lS.of (E := { E with nx := fun σ3 st3 => I (i + 1) σ3 st3, ct := fun σ3 st3 => I (i + 1) σ3 st3, bk := E.nx })
      ⟨turn, l2.rt, l2.ex, l2.nx, turn⟩ r2 s2 h2
  · have e : i = ds.length := by omega
    subst e
    exact .inl ⟨gd.stop _ M' H' E'.mm r'.sub (Nat.le_refl _), l1.nx _ _ (hend σ' st' hI hlen) M' ρ' H' σV' E' r' s'⟩
end
end Dl
namespace Dl
open PySem PySem.Spec PyProof.Rows L2 Co
section
variable {σ : Sl} {st : Sto} {E : En} {i n : Nat} {xs ys : List D} {ex : DX}
theorem dV_at {w : W} {k : W → Sto → Prop} (h : σ[i]? = some (some w)) (hk : k w st) : dV i σ st k ex := by
  unfold dV
  rw [h]
  exact hk
theorem seeW_lst (h : st[n]? = some (.lst xs)) : seeW (.loc n) st = some (.lst xs) := by
  show (match st[n]? with | some o => flat o | none => none) = _
  rw [h]
  rfl
theorem dAddM_at {tb : DW} {k : W → Sto → Prop} (h1 : σ[i]? = some (some (.loc n))) (h2 : st[n]? = some (.lst xs)) (hb : ∀ k : W → Sto → Prop, k (.im (.lst ys)) st → tb σ st k ex) (hl : xs.length + ys.length ≤ 1000000) (hk : k (.loc st.length) (st ++ [.lst (xs ++ ys)])) : dAddM (dV i) tb σ st k ex := by
  refine dV_at h1 (hb _ ?_)
  show (match seeW (.loc n) st, seeW (.im (.lst ys)) st with | some (.lst xs), some (.lst ys) => xs.length + ys.length ≤ 1000000 ∧ k (.loc st.length) (st ++ [.lst (xs ++ ys)]) | _, _ => False)
  rw [seeW_lst h2]
  exact ⟨hl, hk⟩
theorem sApp_at {t : DD} {d : D} (h1 : σ[i]? = some (some (.loc n))) (h2 : st[n]? = some (.lst xs)) (hb : ∀ k : D → Sto → Prop, k d st → t σ st k (exE E σ)) (hl : xs.length ≤ 1000000) (hk : E.nx σ (st.set n (.lst (xs ++ [d])))) : sApp (dV i) t E σ st := by
  refine dV_at h1 ⟨⟨xs, seeW_lst h2⟩, hb _ ?_⟩
  show (match st[n]? with | some (.lst ds) => ds.length ≤ 1000000 ∧ E.nx σ (st.set n (.lst (ds ++ [d]))) | _ => False)
  rw [h2]
  exact ⟨hl, hk⟩
theorem cbTuple_at {k : D → Sto → Prop} (h1 : σ[i]? = some (some (.loc n))) (h2 : st[n]? = some (.lst xs)) (hk : k (.tup xs) st) : dCB fTuple (aCons (dV i) aNil) σ st k ex := by
  refine dV_at (ex := ex) h1 ?_
  show (match seeWs [.loc n] st with | some ds => fTuple ds fun d => k d st | none => False)
  have e : seeWs [.loc n] st = some [.lst xs] := by
    show (match seeW (.loc n) st, seeWs [] st with | some d, some ds => some (d :: ds) | _, _ => none) = _
    rw [seeW_lst h2]
    rfl
  rw [e]
  exact hk
theorem dD_at {k : D → Sto → Prop} {d : D} (h1 : σ[i]? = some (some (.im d))) (hk : k d st) : dD (dV i) σ st k ex := dV_at h1 hk
theorem tup2_at {t u : DD} {d e : D} {k : D → Sto → Prop} (h1 : ∀ k : D → Sto → Prop, k d st → t σ st k ex) (h2 : ∀ k : D → Sto → Prop, k e st → u σ st k ex) (hk : k (.tup [d, e]) st) : dTup (adCons t (adCons u adNil)) σ st k ex :=
  h1 _ (h2 _ ⟨by show 2 ≤ 1000000; decide, hk⟩)
theorem app_get (pre : Sto) (o : Ob) : (pre ++ [o])[pre.length]? = some o := by simp
theorem app_set (pre : Sto) (o o' : Ob) : (pre ++ [o]).set pre.length o' = pre ++ [o'] := by
  rw [List.set_append_right _ _ (Nat.le_refl _), Nat.sub_self]
  rfl
end
end Dl
end

section
set_option maxHeartbeats 4000000
namespace Dl.Pt
open PySem PySem.Spec PyProof.Rows L2 Co
abbrev N_BadPattern_init : List Str := ["self", "position"]
abbrev N_chars_of : List Str := ["members", "one", "first", "last"]
def t_chars_of : DS :=
 (sRet (dI (dTup (adCons (dC (.str "chars")) (adCons (dBM "str" mJoin (dI (dC (.str ""))) (aCons (dI (dLc (iSt (dC (.str "\x0a !\"#$&'()*+,-./0123456789:;<=>?@ABCDEFGHIJKLMNOPQRSTUVWXYZ[\\]^_`abcdefghijklmnopqrstuvwxyz{|}~"))) (gN 1) (dTru (dI (dCB fAny (aCons (dI (dLc (iSq (dD (dV 0))) (gT [(gN 2), (gN 3)]) dYes (dB (dChain cLe cLe (dV 2) (dV 1) (dV 3))) ([("first", 2), ("last", 3)].map (·.2)))) aNil)))) (dD (dV 1)) ([("one", 1)].map (·.2)))) aNil)) adNil)))))
abbrev N_joined : List Str := ["head", "parts", "found", "part"]
def t_joined : DS :=
 (sSeq (sAsg 2 (dLstM adNil))
 (sSeq (sFor (iSq (dD (dV 1))) (gN 3)
 (sIf (dCmp cEq (dI (dIx (dV 3) (dC (.int 0)))) (dV 0)) (sExt (dV 2) (dI (dIx (dV 3) (dC (.int 1))))) (sApp (dV 2) (dD (dV 3)))))
 (sRet (dIfE (dCmp cEq (dI (dCB fLen (aCons (dV 2) aNil))) (dI (dC (.int 1)))) (dI (dIx (dV 2) (dC (.int 0)))) (dI (dTup (adCons (dD (dV 0)) (adCons (dCB fTuple (aCons (dV 2) aNil)) adNil))))))))
abbrev N_PatternReader_init : List Str := ["self", "text"]
def t_PatternReader_init : DS :=
 (sSeq (sFldS "PatternReader" "text" (dV 0) (dV 1))
 (sFldS "PatternReader" "at" (dV 0) (dI (dC (.int 0)))))
abbrev N_PatternReader_sign : List Str := ["self"]
def t_PatternReader_sign : DS :=
 (sRet (dI (dSl (dFld "PatternReader" "text" (dV 0)) (dPart (dD (dFld "PatternReader" "at" (dV 0)))) (dPart (dOp fAdd (dD (dFld "PatternReader" "at" (dV 0))) (dC (.int 1)))))))
abbrev N_PatternReader_escape : List Str := ["self", "sign"]
def t_PatternReader_escape : DS :=
 (sSeq (sFldAug "PatternReader" "at" fAddI (dV 0) (dC (.int 1)))
 (sSeq (sAsg 1 (dMeth "PatternReader" "sign" pf_PatternReader_sign (dV 0) aNil))
 (sSeq (sIf (dOr (dCmp cEq (dV 1) (dI (dC (.str "")))) (dAnd (dCmp cNe (dV 1) (dI (dC (.str "n")))) (dCmp cNotIn (dV 1) (dI (dC (.str "|*+?()[].\\^-")))))) (sRaise1 "BadPattern" "position" (dD (dFld "PatternReader" "at" (dV 0)))) sNext)
 (sSeq (sFldAug "PatternReader" "at" fAddI (dV 0) (dC (.int 1)))
 (sRet (dIfE (dCmp cEq (dV 1) (dI (dC (.str "n")))) (dI (dC (.str "\x0a"))) (dV 1)))))))
abbrev N_PatternReader_member_character : List Str := ["self", "sign"]
def t_PatternReader_member_character : DS :=
 (sSeq (sAsg 1 (dMeth "PatternReader" "sign" pf_PatternReader_sign (dV 0) aNil))
 (sSeq (sIf (dCmp cEq (dV 1) (dI (dC (.str "\\")))) (sRet (dMeth "PatternReader" "escape" pf_PatternReader_escape (dV 0) aNil)) sNext)
 (sSeq (sIf (dOr (dCmp cEq (dV 1) (dI (dC (.str "")))) (dCmp cIn (dV 1) (dI (dC (.str "]^-\\"))))) (sRaise1 "BadPattern" "position" (dD (dFld "PatternReader" "at" (dV 0)))) sNext)
 (sSeq (sFldAug "PatternReader" "at" fAddI (dV 0) (dC (.int 1)))
 (sRet (dV 1))))))
abbrev N_PatternReader_member : List Str := ["self", "first", "place", "last"]
def t_PatternReader_member : DS :=
 (sSeq (sAsg 1 (dMeth "PatternReader" "member_character" pf_PatternReader_member_character (dV 0) aNil))
 (sSeq (sIf (dCmp cNe (dMeth "PatternReader" "sign" pf_PatternReader_sign (dV 0) aNil) (dI (dC (.str "-")))) (sRet (dI (dTup (adCons (dD (dV 1)) (adCons (dD (dV 1)) adNil))))) sNext)
 (sSeq (sFldAug "PatternReader" "at" fAddI (dV 0) (dC (.int 1)))
 (sSeq (sAsg 2 (dFld "PatternReader" "at" (dV 0)))
 (sSeq (sAsg 3 (dMeth "PatternReader" "member_character" pf_PatternReader_member_character (dV 0) aNil))
 (sSeq (sIf (dCmp cLt (dV 3) (dV 1)) (sRaise1 "BadPattern" "position" (dD (dV 2))) sNext)
 (sRet (dI (dTup (adCons (dD (dV 1)) (adCons (dD (dV 3)) adNil)))))))))))
abbrev N_PatternReader_characters : List Str := ["self", "is_without", "members", "found", "one"]
def t_PatternReader_characters : DS :=
 (sSeq (sAsg 1 (dI (dB (dCmp cEq (dMeth "PatternReader" "sign" pf_PatternReader_sign (dV 0) aNil) (dI (dC (.str "^")))))))
 (sSeq (sIf (dTru (dV 1)) (sFldAug "PatternReader" "at" fAddI (dV 0) (dC (.int 1))) sNext)
 (sSeq (sAsg 2 (dLstM (adCons (dD (dMeth "PatternReader" "member" pf_PatternReader_member (dV 0) aNil)) adNil)))
 (sSeq (sWhile (dCmp cNe (dMeth "PatternReader" "sign" pf_PatternReader_sign (dV 0) aNil) (dI (dC (.str "]"))))
 (sApp (dV 2) (dD (dMeth "PatternReader" "member" pf_PatternReader_member (dV 0) aNil))))
 (sSeq (sAsg 3 (dCall pf_chars_of (aCons (dI (dD (dV 2))) aNil)))
 (sSeq (sIf (dTru (dV 1)) (sAsg 3 (dI (dTup (adCons (dC (.str "chars")) (adCons (dBM "str" mJoin (dI (dC (.str ""))) (aCons (dI (dLc (iSt (dC (.str "\x0a !\"#$&'()*+,-./0123456789:;<=>?@ABCDEFGHIJKLMNOPQRSTUVWXYZ[\\]^_`abcdefghijklmnopqrstuvwxyz{|}~"))) (gN 4) (dCmp cNotIn (dV 4) (dI (dIx (dV 3) (dC (.int 1))))) (dD (dV 4)) ([("one", 4)].map (·.2)))) aNil)) adNil))))) sNext)
 (sSeq (sIf (dCmp cEq (dI (dIx (dV 3) (dC (.int 1)))) (dI (dC (.str "")))) (sRaise1 "BadPattern" "position" (dD (dFld "PatternReader" "at" (dV 0)))) sNext)
 (sSeq (sFldAug "PatternReader" "at" fAddI (dV 0) (dC (.int 1)))
 (sRet (dV 3))))))))))
abbrev N_PatternReader_element : List Str := ["self", "sign", "inner"]
def t_PatternReader_element (n : Nat) : DS :=
 (sSeq (sAsg 1 (dMeth "PatternReader" "sign" pf_PatternReader_sign (dV 0) aNil))
 (sSeq (sIf (dCmp cEq (dV 1) (dI (dC (.str "\\")))) (sRet (dI (dTup (adCons (dC (.str "chars")) (adCons (dD (dMeth "PatternReader" "escape" pf_PatternReader_escape (dV 0) aNil)) adNil))))) sNext)
 (sSeq (sIf (dCmp cEq (dV 1) (dI (dC (.str "(")))) (sSeq (sFldAug "PatternReader" "at" fAddI (dV 0) (dC (.int 1)))
 (sSeq (sAsg 2 (dMeth "PatternReader" "alternatives" (pf_alts n) (dV 0) aNil))
 (sSeq (sIf (dCmp cNe (dMeth "PatternReader" "sign" pf_PatternReader_sign (dV 0) aNil) (dI (dC (.str ")")))) (sRaise1 "BadPattern" "position" (dD (dFld "PatternReader" "at" (dV 0)))) sNext)
 (sSeq (sFldAug "PatternReader" "at" fAddI (dV 0) (dC (.int 1)))
 (sRet (dV 2)))))) sNext)
 (sSeq (sIf (dOr (dCmp cEq (dV 1) (dI (dC (.str "")))) (dCmp cIn (dV 1) (dI (dC (.str "|*+?)]"))))) (sRaise1 "BadPattern" "position" (dD (dFld "PatternReader" "at" (dV 0)))) sNext)
 (sSeq (sFldAug "PatternReader" "at" fAddI (dV 0) (dC (.int 1)))
 (sSeq (sIf (dCmp cEq (dV 1) (dI (dC (.str "[")))) (sRet (dMeth "PatternReader" "characters" pf_PatternReader_characters (dV 0) aNil)) sNext)
 (sRet (dI (dTup (adCons (dC (.str "chars")) (adCons (dD (dIfE (dCmp cEq (dV 1) (dI (dC (.str ".")))) (dI (dC (.str "\x0a !\"#$&'()*+,-./0123456789:;<=>?@ABCDEFGHIJKLMNOPQRSTUVWXYZ[\\]^_`abcdefghijklmnopqrstuvwxyz{|}~"))) (dV 1))) adNil)))))))))))
abbrev N_PatternReader_part : List Str := ["self", "found"]
def t_PatternReader_part (n : Nat) : DS :=
 (sSeq (sAsg 1 (dMeth "PatternReader" "element" (pf_elem n) (dV 0) aNil))
 (sSeq (sIf (dAnd (dCmp cNe (dMeth "PatternReader" "sign" pf_PatternReader_sign (dV 0) aNil) (dI (dC (.str "")))) (dGlIn [("*", .str "star"), ("+", .str "plus"), ("?", .str "maybe")] (dD (dMeth "PatternReader" "sign" pf_PatternReader_sign (dV 0) aNil)))) (sSeq (sAsg 1 (dI (dTup (adCons (dGlIx [("*", .str "star"), ("+", .str "plus"), ("?", .str "maybe")] (dD (dMeth "PatternReader" "sign" pf_PatternReader_sign (dV 0) aNil))) (adCons (dD (dV 1)) adNil)))))
 (sFldAug "PatternReader" "at" fAddI (dV 0) (dC (.int 1)))) sNext)
 (sRet (dV 1))))
abbrev N_PatternReader_sequence : List Str := ["self", "parts"]
def t_PatternReader_sequence (n : Nat) : DS :=
 (sSeq (sAsg 1 (dLstM (adCons (dD (dMeth "PatternReader" "part" (pf_part n) (dV 0) aNil)) adNil)))
 (sSeq (sWhile (dAnd (dCmp cNe (dMeth "PatternReader" "sign" pf_PatternReader_sign (dV 0) aNil) (dI (dC (.str "")))) (dCmp cNotIn (dMeth "PatternReader" "sign" pf_PatternReader_sign (dV 0) aNil) (dI (dC (.str "|)")))))
 (sApp (dV 1) (dD (dMeth "PatternReader" "part" (pf_part n) (dV 0) aNil))))
 (sRet (dCall pf_joined (aCons (dI (dC (.str "row"))) (aCons (dI (dD (dV 1))) aNil))))))
abbrev N_PatternReader_alternatives : List Str := ["self", "parts"]
def t_PatternReader_alternatives (n : Nat) : DS :=
 (sSeq (sAsg 1 (dLstM (adCons (dD (dMeth "PatternReader" "sequence" (pf_seq n) (dV 0) aNil)) adNil)))
 (sSeq (sWhile (dCmp cEq (dMeth "PatternReader" "sign" pf_PatternReader_sign (dV 0) aNil) (dI (dC (.str "|"))))
 (sSeq (sFldAug "PatternReader" "at" fAddI (dV 0) (dC (.int 1)))
 (sApp (dV 1) (dD (dMeth "PatternReader" "sequence" (pf_seq n) (dV 0) aNil)))))
 (sRet (dCall pf_joined (aCons (dI (dC (.str "either"))) (aCons (dI (dD (dV 1))) aNil))))))
abbrev N_read_pattern : List Str := ["text", "reader", "found"]
def t_read_pattern : DS :=
 (sSeq (sAsg 1 (dNew "PatternReader" pf_PatternReader_init (aCons (dV 0) aNil)))
 (sSeq (sAsg 2 (dMeth "PatternReader" "alternatives" (pf_alts 20) (dV 1) aNil))
 (sSeq (sIf (dCmp cLt (dFld "PatternReader" "at" (dV 1)) (dI (dCB fLen (aCons (dV 0) aNil)))) (sRaise1 "BadPattern" "position" (dD (dFld "PatternReader" "at" (dV 1)))) sNext)
 (sRet (dV 2)))))
abbrev N_Lchars : List Str := ["_law_pool_here", "_law_signs", "_law_kind", "_law_low", "_law_high", "_law_other"]
def t_Lchars : DS :=
 (sSeq (sAsg 1 (dI (dC (.str "\x0a !\"#$&'()*+,-./0123456789:;<=>?@ABCDEFGHIJKLMNOPQRSTUVWXYZ[\\]^_`abcdefghijklmnopqrstuvwxyz{|}~"))))
 (sSeq (sAsg 2 (dCall pf_take (aCons (dV 0) (aCons (dI (dC (.int 8))) aNil))))
 (sSeq (sIf (dCmp cEq (dV 2) (dI (dC (.int 0)))) (sRet (dV 1)) sNext)
 (sSeq (sIf (dCmp cLt (dV 2) (dI (dC (.int 5)))) (sRet (dI (dIx (dI (dC (.str "abc"))) (dD (dCall pf_take (aCons (dV 0) (aCons (dI (dC (.int 3))) aNil))))))) sNext)
 (sSeq (sIf (dCmp cEq (dV 2) (dI (dC (.int 5)))) (sRet (dI (dIx (dV 1) (dD (dCall pf_take (aCons (dV 0) (aCons (dI (dC (.int 95))) aNil))))))) sNext)
 (sSeq (sAsg 3 (dCall pf_take (aCons (dV 0) (aCons (dI (dC (.int 95))) aNil))))
 (sSeq (sAsg 4 (dI (dOp fAdd (dD (dV 3)) (dD (dCall pf_take (aCons (dV 0) (aCons (dI (dCB fMin (aCons (dI (dOp fSub (dC (.int 95)) (dD (dV 3)))) (aCons (dI (dC (.int 12))) aNil)))) aNil)))))))
 (sSeq (sIf (dCmp cEq (dV 2) (dI (dC (.int 6)))) (sRet (dI (dSl (dV 1) (dPart (dD (dV 3))) (dPart (dOp fAdd (dD (dV 4)) (dC (.int 1))))))) sNext)
 (sSeq (sAsg 5 (dCall pf_take (aCons (dV 0) (aCons (dI (dC (.int 95))) aNil))))
 (sSeq (sIf (dChain cLe cLe (dV 3) (dV 5) (dV 4)) (sRet (dI (dSl (dV 1) (dPart (dD (dV 3))) (dPart (dOp fAdd (dD (dV 4)) (dC (.int 1))))))) sNext)
 (sSeq (sIf (dCmp cLt (dV 5) (dV 3)) (sRet (dI (dOp fAdd (dIx (dV 1) (dD (dV 5))) (dSl (dV 1) (dPart (dD (dV 3))) (dPart (dOp fAdd (dD (dV 4)) (dC (.int 1)))))))) sNext)
 (sRet (dI (dOp fAdd (dSl (dV 1) (dPart (dD (dV 3))) (dPart (dOp fAdd (dD (dV 4)) (dC (.int 1))))) (dIx (dV 1) (dD (dV 5)))))))))))))))))
abbrev N_Lflat : List Str := ["_law_head", "_law_parts", "_law_row", "_law_part"]
def t_Lflat : DS :=
 (sSeq (sAsg 2 (dLstM adNil))
 (sSeq (sForK (iSq (dD (dV 1))) (gN 3)
 (sIf (dCmp cEq (dI (dIx (dV 3) (dC (.int 0)))) (dV 0)) (sAsg 2 (dAddM (dV 2) (dI (dCB fList (aCons (dI (dIx (dV 3) (dC (.int 1)))) aNil))))) (sApp (dV 2) (dD (dV 3)))))
 (sRet (dI (dTup (adCons (dD (dV 0)) (adCons (dCB fTuple (aCons (dV 2) aNil)) adNil)))))))
abbrev N_Ltree : List Str := ["_law_pool_here", "_law_deep", "_law_kind", "_law_parts", "_law_k"]
def t_Ltree (n : Nat) : DS :=
 (sSeq (sAsg 2 (dCall pf_take (aCons (dV 0) (aCons (dI (dC (.int 7))) aNil))))
 (sSeq (sIf (dOr (dCmp cLt (dV 1) (dI (dC (.int 1)))) (dCmp cLt (dV 2) (dI (dC (.int 2))))) (sRet (dI (dTup (adCons (dC (.str "chars")) (adCons (dD (dCall pf_Lchars (aCons (dV 0) aNil))) adNil))))) sNext)
 (sSeq (sIf (dCmp cLt (dV 2) (dI (dC (.int 5)))) (sSeq (sAsg 3 (dI (dLc (iRg1 (dOp fAdd (dC (.int 2)) (dD (dCall pf_take (aCons (dV 0) (aCons (dI (dC (.int 2))) aNil)))))) (gN 4) dYes (dD (dCall (pf_Ltree n) (aCons (dV 0) (aCons (dI (dOp fSub (dD (dV 1)) (dC (.int 1)))) aNil)))) ([("_law_k", 4)].map (·.2)))))
 (sRet (dCall pf_Lflat (aCons (dI (dIx (dI (dTup (adCons (dC (.str "row")) (adCons (dC (.str "row")) (adCons (dC (.str "either")) adNil))))) (dOp fSub (dD (dV 2)) (dC (.int 2))))) (aCons (dV 3) aNil))))) sNext)
 (sRet (dI (dTup (adCons (dIx (dI (dTup (adCons (dC (.str "star")) (adCons (dC (.str "plus")) (adCons (dC (.str "maybe")) adNil))))) (dD (dCall pf_take (aCons (dV 0) (aCons (dI (dC (.int 3))) aNil))))) (adCons (dD (dCall (pf_Ltree n) (aCons (dV 0) (aCons (dI (dOp fSub (dD (dV 1)) (dC (.int 1)))) aNil)))) adNil))))))))
abbrev N_Lescaped : List Str := ["_law_sign", "_law_barred"]
def t_Lescaped : DS :=
 (sSeq (sIf (dCmp cEq (dV 0) (dI (dC (.str "\x0a")))) (sRet (dI (dC (.str "\\n")))) sNext)
 (sSeq (sIf (dCmp cIn (dV 0) (dV 1)) (sRet (dI (dOp fAdd (dC (.str "\\")) (dD (dV 0))))) sNext)
 (sRet (dV 0))))
abbrev N_Lruns : List Str := ["_law_chars_here", "_law_signs", "_law_runs_here", "_law_last", "_law_k"]
def t_Lruns : DS :=
 (sSeq (sAsg 1 (dI (dC (.str "\x0a !\"#$&'()*+,-./0123456789:;<=>?@ABCDEFGHIJKLMNOPQRSTUVWXYZ[\\]^_`abcdefghijklmnopqrstuvwxyz{|}~"))))
 (sSeq (sAsg 2 (dLstM adNil))
 (sSeq (sAsg 3 (dI (dUn fNeg (dC (.int 5)))))
 (sSeq (sFor (iRg1 (dC (.int 95))) (gN 4)
 (sIf (dCmp cIn (dI (dIx (dV 1) (dD (dV 4)))) (dV 0)) (sSeq (sIf (dCmp cEq (dV 3) (dI (dOp fSub (dD (dV 4)) (dC (.int 1))))) (sSetL (dV 2) (dUn fNeg (dC (.int 1))) (dTup (adCons (dIx (dI (dIx (dV 2) (dUn fNeg (dC (.int 1))))) (dC (.int 0))) (adCons (dIx (dV 1) (dD (dV 4))) adNil)))) (sApp (dV 2) (dTup (adCons (dIx (dV 1) (dD (dV 4))) (adCons (dIx (dV 1) (dD (dV 4))) adNil)))))
 (sAsg 3 (dV 4))) sNext))
 (sRet (dV 2))))))
abbrev N_Lset : List Str := ["_law_chars_here", "_law_texts", "_law_first", "_law_last"]
def t_Lset : DS :=
 (sSeq (sIf (dCmp cEq (dI (dCB fLen (aCons (dV 0) aNil))) (dI (dC (.int 1)))) (sRet (dCall pf_Lescaped (aCons (dV 0) (aCons (dI (dC (.str "|*+?()[].\\"))) aNil)))) sNext)
 (sSeq (sIf (dCmp cEq (dI (dCB fLen (aCons (dV 0) aNil))) (dI (dC (.int 95)))) (sRet (dI (dC (.str ".")))) sNext)
 (sSeq (sAsg 1 (dLstM adNil))
 (sSeq (sFor (iSq (dD (dCall pf_Lruns (aCons (dV 0) aNil)))) (gT [(gN 2), (gN 3)])
 (sSeq (sApp (dV 1) (dD (dCall pf_Lescaped (aCons (dV 2) (aCons (dI (dC (.str "]^-\\"))) aNil)))))
 (sIf (dCmp cNe (dV 2) (dV 3)) (sApp (dV 1) (dOp fAdd (dC (.str "-")) (dD (dCall pf_Lescaped (aCons (dV 3) (aCons (dI (dC (.str "]^-\\"))) aNil)))))) sNext)))
 (sRet (dI (dOp fAdd (dOp fAdd (dC (.str "[")) (dBM "str" mJoin (dI (dC (.str ""))) (aCons (dV 1) aNil))) (dC (.str "]")))))))))
abbrev N_Lcanonical : List Str := ["_law_tree_here", "_law_head", "_law_texts", "_law_part", "_law_inner"]
def t_Lcanonical (n : Nat) : DS :=
 (sSeq (sAsg 1 (dI (dIx (dV 0) (dC (.int 0)))))
 (sSeq (sIf (dCmp cEq (dV 1) (dI (dC (.str "chars")))) (sRet (dCall pf_Lset (aCons (dI (dIx (dV 0) (dC (.int 1)))) aNil))) sNext)
 (sSeq (sIf (dCmp cEq (dV 1) (dI (dC (.str "row")))) (sSeq (sAsg 2 (dLstM adNil))
 (sSeq (sFor (iSq (dIx (dV 0) (dC (.int 1)))) (gN 3)
 (sApp (dV 2) (dD (dIfE (dCmp cEq (dI (dIx (dV 3) (dC (.int 0)))) (dI (dC (.str "either")))) (dI (dOp fAdd (dOp fAdd (dC (.str "(")) (dD (dCall (pf_Lcanonical n) (aCons (dV 3) aNil)))) (dC (.str ")")))) (dCall (pf_Lcanonical n) (aCons (dV 3) aNil))))))
 (sRet (dI (dBM "str" mJoin (dI (dC (.str ""))) (aCons (dV 2) aNil)))))) sNext)
 (sSeq (sIf (dCmp cEq (dV 1) (dI (dC (.str "either")))) (sRet (dI (dBM "str" mJoin (dI (dC (.str "|"))) (aCons (dI (dLc (iSq (dIx (dV 0) (dC (.int 1)))) (gN 3) dYes (dD (dCall (pf_Lcanonical n) (aCons (dV 3) aNil))) ([("_law_part", 3)].map (·.2)))) aNil)))) sNext)
 (sSeq (sAsg 4 (dCall (pf_Lcanonical n) (aCons (dI (dIx (dV 0) (dC (.int 1)))) aNil)))
 (sSeq (sIf (dCmp cNe (dI (dIx (dI (dIx (dV 0) (dC (.int 1)))) (dC (.int 0)))) (dI (dC (.str "chars")))) (sAsg 4 (dI (dOp fAdd (dOp fAdd (dC (.str "(")) (dD (dV 4))) (dC (.str ")"))))) sNext)
 (sRet (dI (dOp fAdd (dD (dV 4)) (dGet false (dI (dDispD [((dC (.str "star")), (dC (.str "*"))), ((dC (.str "plus")), (dC (.str "+"))), ((dC (.str "maybe")), (dC (.str "?")))])) (dD (dV 1))))))))))))
abbrev N_Lends : List Str := ["_law_rows"]
def t_Lends : DS :=
 (sSeq (sAsg 0 (dI (dLst (adCons (dTup (adCons (dC (.str "**")) (adCons (dC (.int 1)) adNil))) (adCons (dTup (adCons (dC (.str "*+b")) (adCons (dC (.int 1)) adNil))) (adCons (dTup (adCons (dC (.str "+?)")) (adCons (dC (.int 1)) adNil))) (adCons (dTup (adCons (dC (.str "|*")) (adCons (dC (.int 1)) adNil))) (adCons (dTup (adCons (dC (.str "||b")) (adCons (dC (.int 1)) adNil))) (adCons (dTup (adCons (dC (.str "|")) (adCons (dC (.int 1)) adNil))) (adCons (dTup (adCons (dC (.str "(")) (adCons (dC (.int 1)) adNil))) (adCons (dTup (adCons (dC (.str "()")) (adCons (dC (.int 1)) adNil))) (adCons (dTup (adCons (dC (.str "(|a)")) (adCons (dC (.int 1)) adNil))) adNil))))))))))))
 (sSeq (sAsg 0 (dI (dOp fAdd (dD (dV 0)) (dLst (adCons (dTup (adCons (dC (.str "[]")) (adCons (dC (.int 1)) adNil))) (adCons (dTup (adCons (dC (.str "[^]")) (adCons (dC (.int 2)) adNil))) (adCons (dTup (adCons (dC (.str "[b-a]c")) (adCons (dC (.int 3)) adNil))) (adCons (dTup (adCons (dC (.str "[c\\n]*[d-a")) (adCons (dC (.int 9)) adNil))) (adCons (dTup (adCons (dC (.str "\\a")) (adCons (dC (.int 1)) adNil))) (adCons (dTup (adCons (dC (.str "\\")) (adCons (dC (.int 1)) adNil))) (adCons (dTup (adCons (dC (.str "[ab")) (adCons (dC (.int 3)) adNil))) adNil)))))))))))
 (sSeq (sAsg 0 (dI (dOp fAdd (dD (dV 0)) (dLst (adCons (dTup (adCons (dC (.str "[a-")) (adCons (dC (.int 3)) adNil))) (adCons (dTup (adCons (dC (.str "[a-]")) (adCons (dC (.int 3)) adNil))) (adCons (dTup (adCons (dC (.str "[-a]")) (adCons (dC (.int 1)) adNil))) (adCons (dTup (adCons (dC (.str "[a^]")) (adCons (dC (.int 2)) adNil))) (adCons (dTup (adCons (dC (.str "[\\q]")) (adCons (dC (.int 2)) adNil))) (adCons (dTup (adCons (dC (.str "]")) (adCons (dC (.int 0)) adNil))) (adCons (dTup (adCons (dC (.str "[a-\\q]")) (adCons (dC (.int 4)) adNil))) (adCons (dTup (adCons (dC (.str "[")) (adCons (dC (.int 1)) adNil))) adNil))))))))))))
 (sSeq (sAsg 0 (dI (dOp fAdd (dD (dV 0)) (dLst (adCons (dTup (adCons (dC (.str "[^")) (adCons (dC (.int 2)) adNil))) (adCons (dTup (adCons (dC (.str "(b|)")) (adCons (dC (.int 3)) adNil))) (adCons (dTup (adCons (dC (.str "[^\\n-~]")) (adCons (dC (.int 6)) adNil))) (adCons (dTup (adCons (dC (.str "(?b)")) (adCons (dC (.int 1)) adNil))) (adCons (dTup (adCons (dC (.str "[a-c-e]")) (adCons (dC (.int 4)) adNil))) (adCons (dTup (adCons (dC (.str "[^^]")) (adCons (dC (.int 2)) adNil))) adNil))))))))))
 (sRet (dV 0))))))
abbrev N_Ltold : List Str := ["_law_text", "e"]
def t_Ltold : DS :=
 (sSeq (sTryAs 1 [("BadPattern", true)] (fun a dd c => (sSeq (sIf (dAnd (dTru (dI (dIsX a dd c "BadPattern" true (dV 1)))) (dTru (dI (dIsX a dd c "BadPattern" true (dV 1))))) (sRet (dI (dXf a dd c "BadPattern" "position" (dV 1)))) sNext)
 (sRet (dI (dUn fNeg (dC (.int 2))))))) (sDrop (dCall pf_read_pattern (aCons (dV 0) aNil))))
 (sRet (dI (dUn fNeg (dC (.int 1))))))
abbrev N_law : List Str := ["_law_script", "_law_pool_here", "_law_tree_here", "_law_start", "_law_opened", "_law_rows", "_law_end", "_law_place", "_law_rest", "_law_text"]
def t_law : DS :=
 (sSeq (sAsg 1 (dCall pf_pool (aCons (dV 0) aNil)))
 (sSeq (sAsg 2 (dCall (pf_Ltree 5) (aCons (dV 1) (aCons (dI (dOp fAdd (dC (.int 1)) (dD (dCall pf_take (aCons (dV 1) (aCons (dI (dC (.int 3))) aNil)))))) aNil))))
 (sSeq (sAsg 3 (dI (dOp fAdd (dD (dCall (pf_Lcanonical 5) (aCons (dV 2) aNil))) (dC (.str "a")))))
 (sSeq (sAsg 4 (dCall pf_take (aCons (dV 1) (aCons (dI (dC (.int 4))) aNil))))
 (sSeq (sAsg 5 (dCall0 pf_Lends))
 (sSeq (sAsgG (dIx (dV 5) (dD (dCall pf_take (aCons (dV 1) (aCons (dI (dCB fLen (aCons (dV 5) aNil))) aNil))))) (gT [(gN 6), (gN 7)]))
 (sSeq (sAsg 8 (dI (dC (.str ""))))
 (sSeq (sIf (dCmp cLt (dV 7) (dI (dCB fLen (aCons (dV 6) aNil)))) (sAsg 8 (dI (dIx (dI (dTup (adCons (dC (.str "")) (adCons (dC (.str "a")) (adCons (dC (.str "*)")) (adCons (dC (.str "]")) (adCons (dC (.str "\\")) (adCons (dC (.str "|[")) adNil)))))))) (dD (dCall pf_take (aCons (dV 1) (aCons (dI (dC (.int 6))) aNil))))))) sNext)
 (sSeq (sIf (dAnd (dCmp cGt (dV 4) (dI (dC (.int 0)))) (dCmp cEq (dCall pf_take (aCons (dV 1) (aCons (dI (dC (.int 4))) aNil))) (dI (dC (.int 1))))) (sSeq (sAsg 6 (dI (dC (.str ""))))
 (sSeq (sAsg 7 (dI (dC (.int 0))))
 (sAsg 8 (dI (dC (.str "")))))) sNext)
 (sSeq (sIf (dAnd (dCmp cEq (dV 4) (dI (dC (.int 0)))) (dCmp cEq (dCall pf_take (aCons (dV 1) (aCons (dI (dC (.int 6))) aNil))) (dI (dC (.int 1))))) (sSeq (sAsg 6 (dI (dC (.str ")"))))
 (sSeq (sAsg 7 (dI (dC (.int 0))))
 (sAsg 8 (dI (dIx (dI (dTup (adCons (dC (.str "")) (adCons (dC (.str "a")) (adCons (dC (.str "*")) (adCons (dC (.str "(")) adNil)))))) (dD (dCall pf_take (aCons (dV 1) (aCons (dI (dC (.int 4))) aNil))))))))) sNext)
 (sSeq (sAsg 9 (dI (dOp fAdd (dOp fAdd (dOp fAdd (dOp fMul (dC (.str "(")) (dD (dV 4))) (dD (dV 3))) (dD (dV 6))) (dD (dV 8)))))
 (sSeq (sIf (dOr (dCmp cNe (dV 6) (dI (dC (.str "")))) (dCmp cGt (dV 4) (dI (dC (.int 0))))) (sIf (dCmp cNe (dCall pf_Ltold (aCons (dV 9) aNil)) (dI (dOp fAdd (dOp fAdd (dD (dV 4)) (dCB fLen (aCons (dV 3) aNil))) (dD (dV 7))))) (sRet (dI (dC (.bl false)))) sNext) sNext)
 (sRet (dI (dB (dCmp cEq (dCall pf_Ltold (aCons (dI (dOp fAdd (dOp fAdd (dOp fMul (dC (.str "(")) (dD (dV 4))) (dD (dV 3))) (dOp fMul (dC (.str ")")) (dD (dV 4))))) aNil)) (dI (dUn fNeg (dC (.int 1))))))))))))))))))))
end Dl.Pt
end

section
set_option maxHeartbeats 4000000
namespace Dl.Pt
open PySem PySem.Spec PyProof.Rows L2 Co PySem.StrLaws
local macro_rules | `(tactic| walk_at "s") => `(tactic| first | refine twoT ?_ | refine twoF ?_ | refine yesD rfl ?_ | refine noD (by decide) ?_)
theorem S_le {t : List Nat} {n : Nat} (h : t.length ≤ n) (h2 : n ≤ 1000000) : (S t).length ≤ sizeLine := by rw [S_len, sizeLine_eq]; omega
theorem cut1 (t : List Nat) {i : Nat} (h : i ≤ t.length) : cutS (S t) (some (i : Int)) (some ((i : Int) + 1)) = S ((t.drop i).take 1) := by
  unfold cutS
  rw [show (i : Int) + 1 = ((i + 1 : Nat) : Int) from rfl, HT.sIx_nat, HT.sIx_nat, S_len, Nat.min_eq_left h]
  by_cases z : i < t.length
  · rw [Nat.min_eq_left (show i + 1 ≤ t.length by omega), show i + 1 - i = 1 by omega]
  · have e : t.drop i = [] := List.drop_eq_nil_of_le (by omega)
    show S ((t.drop i).take _) = S ((t.drop i).take 1)
    rw [e, List.take_nil, List.take_nil]
theorem r_PatternReader_sign : ∀ ws st k ex, pf_PatternReader_sign ws st k ex → t_PatternReader_sign (EnD false st.length k ex) (startD N_PatternReader_sign ws) st := by
  intro ws st k ex h
  unfold pf_PatternReader_sign at h
  split at h
  · obtain ⟨t, i, rfl, ⟨h1, h2⟩, hk⟩ := h
    rw [← cut1 t h1] at hk
    exact ⟨rfl, rfl, rfl, S_le h2 (by omega), hk⟩
  · exact h.elim
theorem r_PatternReader_init : ∀ ws st k ex, pf_PatternReader_init ws st k ex → t_PatternReader_init (EnD false st.length k ex) (startD N_PatternReader_init ws) st := by
  intro ws st k ex h
  unfold pf_PatternReader_init at h
  split at h
  · obtain ⟨t, rfl, rfl, rfl, hk⟩ := h
    exact ⟨rfl, by decide, rfl, (by show 1 < 1000; decide), hk⟩
  · exact h.elim
theorem sg_none {t : List Nat} {i : Nat} (h : t[i]? = none) : S ((t.drop i).take 1) = "" := by
  rw [List.drop_eq_nil_of_le (List.getElem?_eq_none_iff.mp h)]
  decide +kernel
theorem sg_some {t : List Nat} {i c : Nat} (h : t[i]? = some c) : S ((t.drop i).take 1) = ⟨#[c]⟩ := by
  have hi := (List.getElem?_eq_some_iff.mp h).1
  rw [List.drop_eq_getElem_cons hi]
  have : t[i] = c := (List.getElem?_eq_some_iff.mp h).2
  rw [this]
  rfl
theorem call_sign {t : List Nat} {i : Nat} {k : W → Sto → Prop} {ex : DX} (h : At t i) (hk : k (.im (.str (S ((t.drop i).take 1)))) [rd t i]) : callD pf_PatternReader_sign [0] [.loc 0] [rd t i] k ex := ⟨rfl, t, i, rfl, h, hk⟩
theorem call_escape {t : List Nat} {i : Nat} {k : W → Sto → Prop} {ex : DX} (h : At t i) (h2 : i < t.length) (hk : ansR t (fun c : Nat => .str ⟨#[c]⟩) (escP t i) k ex) : callD pf_PatternReader_escape [0] [.loc 0] [rd t i] k ex := by
  refine ⟨rfl, t, i, rfl, h, h2, ?_⟩
  cases hr : escP t i with
  | ok a j => rw [hr] at hk; exact hk
  | bad j => rw [hr] at hk; exact fun j' => hk j'
  | deep => rw [hr] at hk; exact hk
end Dl.Pt
end

section
set_option maxHeartbeats 4000000
namespace Dl.Pt
open PySem PySem.Spec PyProof.Rows L2 Co PySem.StrLaws
local macro_rules | `(tactic| walk_at "s") => `(tactic| first | refine twoT ?_ | refine twoF ?_ | refine yesD rfl ?_ | refine noD (by decide) ?_)
theorem escd_eq : ((("|*+?()[].\\^-" : Str)).cps.toList) = escd := by decide +kernel
theorem n_eq : (("n" : Str)) = ⟨#[110]⟩ := by decide +kernel
theorem one_inj {a b : Nat} (h : (⟨#[a]⟩ : Str) = ⟨#[b]⟩) : a = b := by
  have := congrArg (fun s : Str => s.cps.toList) h
  simpa using this
theorem r_PatternReader_escape : ∀ ws st k ex, pf_PatternReader_escape ws st k ex → t_PatternReader_escape (EnD false st.length k ex) (startD N_PatternReader_escape ws) st := by
  intro ws st k ex h
  unfold pf_PatternReader_escape at h
  split at h
  · obtain ⟨t, i, rfl, h, h2, hk⟩ := h
    refine ⟨rfl, rfl, (by show 2 < 1000; decide), ?_⟩
    refine ⟨⟨rfl, rfl⟩, call_sign (t := t) (i := i + 1) ⟨by omega, h.2⟩ ?_⟩
    cases hc : t[i + 1]? with
    | none =>
      have e : escP t i = .bad (i + 1) := by unfold escP; rw [hc]
      rw [e] at hk
      rw [sg_none hc]
      walk_at "s"; walk_at "s"
      exact ⟨rfl, hk (i + 1)⟩
    | some c =>
      rw [sg_some hc]
      have e : escP t i = if c = 110 then .ok 10 (i + 2) else if c ∈ escd then .ok c (i + 2) else .bad (i + 1) := by unfold escP; rw [hc]
      by_cases h1 : c = 110
      · subst h1
        rw [e, if_pos rfl] at hk
        walk_at "s"; walk_at "s"; walk_at "s"
        refine ⟨rfl, rfl, (by show 2 < 1000; decide), ?_⟩
        walk_at "s"
        exact hk
      · rw [e, if_neg h1] at hk
        have n1 : ¬ (⟨#[c]⟩ : Str) = "" := fun z => by
          have := congrArg (fun s : Str => s.cps.toList.length) z
          rw [show ((("" : Str)).cps.toList.length) = 0 by decide +kernel] at this
          simp at this
        have n2 : ¬ (⟨#[c]⟩ : Str) = "n" := fun z => h1 (one_inj (z.trans n_eq))
        refine noD n1 (notN n2 ?_)
        by_cases h3 : c ∈ escd
        · rw [if_pos h3] at hk
          refine notY (by rw [escd_eq]; exact h3) ⟨rfl, rfl, (by show 2 < 1000; decide), noD n2 ?_⟩
          exact hk
        · rw [if_neg h3] at hk
          refine notN (by rw [escd_eq]; exact h3) ⟨rfl, ?_⟩
          exact hk (i + 1)
  · exact h.elim
theorem ansR_fin {α : Type} {t : List Nat} {e : α → D} {r : Rr α} {k : W → Sto → Prop} {ex : DX} {σ : Sl} (h : ansR t e r k ex) : ansR t e r (fun w st => (EnD false 1 k ex).rt w st) (exE (EnD false 1 k ex) σ) := by
  cases r with
  | ok a j => exact h
  | bad j => exact fun j' => h j'
  | deep => exact h
theorem insd_eq : ((("]^-\\" : Str)).cps.toList) = insd := by decide +kernel
theorem bs_eq : (("\\" : Str)) = ⟨#[92]⟩ := by decide +kernel
theorem one_ne (c : Nat) : ¬ (⟨#[c]⟩ : Str) = "" := fun z => by
  have := congrArg (fun s : Str => s.cps.toList.length) z
  rw [show ((("" : Str)).cps.toList.length) = 0 by decide +kernel] at this
  simp at this
theorem r_PatternReader_member_character : ∀ ws st k ex, pf_PatternReader_member_character ws st k ex → t_PatternReader_member_character (EnD false st.length k ex) (startD N_PatternReader_member_character ws) st := by
  intro ws st k ex h
  unfold pf_PatternReader_member_character at h
  split at h
  · obtain ⟨t, i, rfl, h, hk⟩ := h
    refine ⟨⟨rfl, rfl⟩, call_sign (t := t) (i := i) h ?_⟩
    cases hc : t[i]? with
    | none =>
      have e : mchP t i = .bad i := by unfold mchP; rw [hc]
      rw [e] at hk
      rw [sg_none hc]
      walk_at "s"; walk_at "s"; walk_at "s"
      exact ⟨rfl, hk i⟩
    | some c =>
      have hi := (List.getElem?_eq_some_iff.mp hc).1
      rw [sg_some hc]
      have e : mchP t i = if c = 92 then escP t i else if c ∈ insd then .bad i else .ok c (i + 1) := by unfold mchP; rw [hc]
      by_cases h1 : c = 92
      · subst h1
        rw [e, if_pos rfl] at hk
        walk_at "s"
        exact ⟨⟨rfl, rfl⟩, call_escape h hi (ansR_fin (σ := []) hk)⟩
      · rw [e, if_neg h1] at hk
        refine noD (fun z => h1 (one_inj (z.trans bs_eq))) (noD (one_ne c) ?_)
        by_cases h3 : c ∈ insd
        · rw [if_pos h3] at hk
          exact yesD (by rw [insd_eq]; exact h3) ⟨rfl, hk i⟩
        · rw [if_neg h3] at hk
          refine noD (by rw [insd_eq]; exact h3) ⟨rfl, rfl, (by show 2 < 1000; decide), ?_⟩
          exact hk
  · exact h.elim
end Dl.Pt
end

section
set_option maxHeartbeats 4000000
namespace Dl.Pt
open PySem PySem.Spec PyProof.Rows L2 Co PySem.StrLaws
local macro_rules | `(tactic| walk_at "s") => `(tactic| first | refine twoT ?_ | refine twoF ?_ | refine yesD rfl ?_ | refine noD (by decide) ?_)
theorem escP_at {t : List Nat} {i a j : Nat} (h : escP t i = .ok a j) : i < j ∧ j ≤ t.length := by
  unfold escP at h
  cases hc : t[i + 1]? with
  | none => rw [hc] at h; cases h
  | some c =>
    rw [hc] at h
    have hi := (List.getElem?_eq_some_iff.mp hc).1
    dsimp only at h
    split at h
    · cases h; exact ⟨by omega, by omega⟩
    · split at h
      · cases h; exact ⟨by omega, by omega⟩
      · cases h
theorem mchP_at {t : List Nat} {i a j : Nat} (h : mchP t i = .ok a j) : i < j ∧ j ≤ t.length := by
  unfold mchP at h
  cases hc : t[i]? with
  | none => rw [hc] at h; cases h
  | some c =>
    rw [hc] at h
    have hi := (List.getElem?_eq_some_iff.mp hc).1
    dsimp only at h
    split at h
    · exact escP_at h
    · split at h
      · cases h
      · cases h; exact ⟨by omega, by omega⟩
theorem call_mch {t : List Nat} {i : Nat} {k : W → Sto → Prop} {ex : DX} (h : At t i) (hk : ansR t (fun c : Nat => .str ⟨#[c]⟩) (mchP t i) k ex) : callD pf_PatternReader_member_character [0] [.loc 0] [rd t i] k ex := by
  refine ⟨rfl, t, i, rfl, h, ?_⟩
  cases hr : mchP t i with
  | ok a j => rw [hr] at hk; exact hk
  | bad j => rw [hr] at hk; exact fun j' => hk j'
  | deep => rw [hr] at hk; exact hk
theorem mn_eq : (("-" : Str)) = ⟨#[45]⟩ := by decide +kernel
theorem r_PatternReader_member : ∀ ws st k ex, pf_PatternReader_member ws st k ex → t_PatternReader_member (EnD false st.length k ex) (startD N_PatternReader_member ws) st := by
  intro ws st k ex h
  unfold pf_PatternReader_member at h
  split at h
  · obtain ⟨t, i, rfl, h, hk⟩ := h
    refine ⟨⟨rfl, rfl⟩, call_mch (t := t) (i := i) h ?_⟩
    cases hr : mchP t i with
    | deep =>
      have e : memP t i = .deep := by unfold memP; rw [hr]; rfl
      rw [e] at hk
      exact hk
    | bad j =>
      have e : memP t i = .bad j := by unfold memP; rw [hr]; rfl
      rw [e] at hk
      exact fun j' => hk j'
    | ok a j =>
      have e : memP t i = if t[j]? = some 45 then (mchP t (j + 1)).then fun b k => if b < a then .bad (j + 1) else .ok (a, b) k else .ok (a, a) j := by unfold memP; rw [hr]; rfl
      rw [e] at hk
      have hj := mchP_at hr
      have hA : At t j := ⟨hj.2, h.2⟩
      refine ⟨⟨rfl, rfl⟩, call_sign (t := t) (i := j) hA ?_⟩
      by_cases hm : t[j]? = some 45
      · rw [if_pos hm] at hk
        have hi := (List.getElem?_eq_some_iff.mp hm).1
        rw [sg_some hm]
        walk_at "s"
        refine ⟨rfl, rfl, (by show 2 < 1000; decide), rfl, ⟨rfl, rfl⟩, call_mch (t := t) (i := j + 1) ⟨by omega, h.2⟩ ?_⟩
        cases hr2 : mchP t (j + 1) with
        | deep => rw [hr2] at hk; exact hk
        | bad j2 => rw [hr2] at hk; exact fun j' => hk j'
        | ok b j2 =>
          rw [hr2] at hk
          have hk : ansR t eM (if b < a then .bad (j + 1) else .ok (a, b) j2) k ex := hk
          refine oneD (fun z => ?_) (fun z => ?_)
          · have z : b < a := by simpa [List.cons_lt_cons_iff] using z
            rw [if_pos z] at hk
            exact hk j2
          · have z : ¬ b < a := by simpa [List.cons_lt_cons_iff] using z
            rw [if_neg z] at hk
            exact ⟨by simp, hk⟩
      · rw [if_neg hm] at hk
        have n1 : ¬ S ((t.drop j).take 1) = "-" := fun z => by
          cases hc : t[j]? with
          | none => rw [sg_none hc] at z; exact absurd z (by decide +kernel)
          | some c => rw [sg_some hc] at z; exact hm (by rw [hc, one_inj (z.trans mn_eq)])
        refine notN n1 ⟨by simp, hk⟩
  · exact h.elim
end Dl.Pt
end

section
set_option maxHeartbeats 4000000
namespace Dl.Pt
open PySem PySem.Spec PyProof.Rows L2 Co PySem.StrLaws
theorem alph_eq : (("\n !\"#$&'()*+,-./0123456789:;<=>?@ABCDEFGHIJKLMNOPQRSTUVWXYZ[\\]^_`abcdefghijklmnopqrstuvwxyz{|}~" : Str)) = S alph := by decide +kernel
theorem flat_one : ∀ cs : List Nat, (cs.map fun c => [c]).flatten = cs
  | [] => rfl
  | c :: cs => by
    show c :: (cs.map fun c => [c]).flatten = c :: cs
    rw [flat_one cs]
theorem sum_one : ∀ cs : List Nat, ((((cs.map fun c => [c]).map S).map (·.length))).sum = cs.length
  | [] => rfl
  | c :: cs => by
    rw [List.map_cons, List.map_cons, List.map_cons, List.sum_cons, sum_one cs]
    show 1 + cs.length = cs.length + 1
    omega
theorem le_one {a b : Nat} : (!decide ([b] < [a])) = decide (a ≤ b) := by
  by_cases z : b < a
  · have h1 : [b] < [a] := by simpa [List.cons_lt_cons_iff] using z
    rw [decide_eq_true h1, decide_eq_false (by omega)]
    rfl
  · have h1 : ¬ [b] < [a] := by simpa [List.cons_lt_cons_iff] using z
    rw [decide_eq_false h1, decide_eq_true (by omega)]
    rfl
theorem r_chars_of : ∀ ws st k ex, pf_chars_of ws st k ex → t_chars_of (EnD false st.length k ex) (startD N_chars_of ws) st := by
  intro ws st k ex h
  unfold pf_chars_of at h
  split at h
  · obtain ⟨ms, rfl, hl, hk⟩ := h
    unfold t_chars_of
    rw [alph_eq]
    refine ⟨rfl, lcG_filter (as := alph) (a := fun c => D.str ⟨#[c]⟩) (b := fun c => D.str ⟨#[c]⟩) (fun c => [some (.im (.lst (ms.map eM))), some (.im (.str ⟨#[c]⟩)), none, none]) (fun c => ms.any fun m => m.1 ≤ c && c ≤ m.2) id (by decide) rfl (fun c _ k q => q) (fun c _ Q q => ?_) (fun c _ _ Q q => q) ?_⟩
    · refine lcG_fn (as := ms) (a := eM) (b := D.bl) (fun m => [some (.im (.lst (ms.map eM))), some (.im (.str ⟨#[c]⟩)), some (.im (.str ⟨#[m.1]⟩)), some (.im (.str ⟨#[m.2]⟩))]) (fun m => decide (m.1 ≤ c) && decide (c ≤ m.2)) (by omega) rfl (fun m _ k q => ⟨rfl, q⟩) (fun m _ Q q => ?_) ⟨_, rfl, ?_⟩
      · show two (!decide ([c] < [m.1])) _ _
        rw [le_one]
        cases h1 : decide (m.1 ≤ c) with
        | true =>
          rw [h1, Bool.true_and] at q
          refine twoT ?_
          show Q (.bl (!decide ([m.2] < [c]))) []
          rw [le_one]
          exact q
        | false =>
          rw [h1, Bool.false_and] at q
          exact twoF q
      · show Q ((ms.map fun m => decide (m.1 ≤ c) && decide (c ≤ m.2)).any id) []
        rw [List.any_map]
        exact q
    · have hn : ((alph.filter fun c => ms.any fun m => m.1 ≤ c && c ≤ m.2).map id) = setOf ms := by
        rw [List.map_id]
        rfl
      rw [hn]
      have hle : (setOf ms).length ≤ 95 := Nat.le_trans (List.length_filter_le _ _) (by decide)
      have hj : Txt.join "" (((setOf ms).map fun c => [c]).map S) = S (setOf ms) := by
        rw [show (("" : Str)) = S [] by decide +kernel, joinT]
        congr 1
        exact flat_one _
      refine ⟨((setOf ms).map fun c => [c]).map S, by rw [List.map_map, List.map_map]; rfl, ?_, ?_⟩
      · rw [sum_one, List.length_map, List.length_map]
        show (setOf ms).length + (setOf ms).length * 0 ≤ _
        omega
      · have go : ∀ z : Str, z = S (setOf ms) → ([D.str "chars", D.str z] : List D).length ≤ 1000000 ∧ fin false 0 k (.im (.tup [.str "chars", .str z])) [] := by
          rintro z rfl
          exact ⟨by simp, hk⟩
        exact go _ hj
  · exact h.elim
end Dl.Pt
end

section
set_option maxHeartbeats 4000000
namespace Dl.Pt
open PySem PySem.Spec PyProof.Rows L2 Co PySem.StrLaws
local macro_rules | `(tactic| walk_at "s") => `(tactic| first | refine twoT ?_ | refine twoF ?_ | refine yesD rfl ?_ | refine noD (by decide) ?_)
theorem flatR_app : ∀ a b : List Pt, flatR (a ++ b) = flatR a ++ flatR b
  | [], b => rfl
  | p :: a, b => by
    have ih := flatR_app a b
    cases p with
    | row qs => show qs ++ flatR (a ++ b) = (qs ++ flatR a) ++ flatR b; rw [ih, List.append_assoc]
    | chars s => show _ :: flatR (a ++ b) = (_ :: flatR a) ++ flatR b; rw [ih]; rfl
    | either s => show _ :: flatR (a ++ b) = (_ :: flatR a) ++ flatR b; rw [ih]; rfl
    | star s => show _ :: flatR (a ++ b) = (_ :: flatR a) ++ flatR b; rw [ih]; rfl
    | plus s => show _ :: flatR (a ++ b) = (_ :: flatR a) ++ flatR b; rw [ih]; rfl
    | maybe s => show _ :: flatR (a ++ b) = (_ :: flatR a) ++ flatR b; rw [ih]; rfl
theorem flatE_app : ∀ a b : List Pt, flatE (a ++ b) = flatE a ++ flatE b
  | [], b => rfl
  | p :: a, b => by
    have ih := flatE_app a b
    cases p with
    | either qs => show qs ++ flatE (a ++ b) = (qs ++ flatE a) ++ flatE b; rw [ih, List.append_assoc]
    | chars s => show _ :: flatE (a ++ b) = (_ :: flatE a) ++ flatE b; rw [ih]; rfl
    | row s => show _ :: flatE (a ++ b) = (_ :: flatE a) ++ flatE b; rw [ih]; rfl
    | star s => show _ :: flatE (a ++ b) = (_ :: flatE a) ++ flatE b; rw [ih]; rfl
    | plus s => show _ :: flatE (a ++ b) = (_ :: flatE a) ++ flatE b; rw [ih]; rfl
    | maybe s => show _ :: flatE (a ++ b) = (_ :: flatE a) ++ flatE b; rw [ih]; rfl
theorem flat_le {fl : List Pt → List Pt} (app : ∀ a b, fl (a ++ b) = fl a ++ fl b) (ps : List Pt) (i : Nat) : (fl (ps.take i)).length ≤ (fl ps).length := by
  have := app (ps.take i) (ps.drop i)
  rw [List.take_append_drop] at this
  rw [this, List.length_append]
  omega
theorem joined_run {fl : List Pt → List Pt} {mk : List Pt → Pt} {hd : Str} (app : ∀ a b, fl (a ++ b) = fl a ++ fl b) (nil : fl [] = []) (hmk : ∀ qs, eP (mk qs) = .tup [.str hd, .tup (ePs qs)])
    (step : ∀ (p : Pt) (acc : List D) (pre : D) (E : En) (z : Option W), acc.length + (fl [p]).length ≤ 1000000 → E.nx [some (.im (.str hd)), some (.im pre), some (.loc 0), some (.im (eP p))] [.lst (acc ++ (fl [p]).map eP)] →
      (sIf (dCmp cEq (dI (dIx (dV 3) (dC (.int 0)))) (dV 0)) (sExt (dV 2) (dI (dIx (dV 3) (dC (.int 1))))) (sApp (dV 2) (dD (dV 3)))) E [some (.im (.str hd)), some (.im pre), some (.loc 0), some (.im (eP p))] [.lst acc])
    {ps : List Pt} {k : W → Sto → Prop} {ex : DX} (hl : (fl ps).length ≤ 1000000) (hk : k (.im (eP (match fl ps with | [p] => p | qs => mk qs))) []) :
    t_joined (EnD false 0 k ex) (startD N_joined [.im (.str hd), .im (.lst (ps.map eP))]) [] := by
  refine ⟨by simp, fun i σ' st' => ∃ z, σ' = [some (.im (.str hd)), some (.im (.lst (ps.map eP))), some (.loc 0), z] ∧ st' = [.lst ((fl (ps.take i)).map eP)], ⟨none, rfl, by rw [List.take_zero, nil]; rfl⟩, ?_, ?_⟩
  · rintro i d σ' st' hd' ⟨z, rfl, rfl⟩ -
    rw [List.getElem?_map] at hd'
    cases hb : ps[i]? with
    | none => rw [hb] at hd'; cases hd'
    | some p =>
      rw [hb] at hd'
      cases hd'
      have e := app (ps.take i) [p]
      rw [← getD_take hb] at e
      have l := flat_le app ps (i + 1)
      rw [e, List.length_append] at l
      refine step p _ _ _ z (by rw [List.length_map]; omega) ⟨some (.im (eP p)), rfl, ?_⟩
      rw [e, List.map_append]
      rfl
  · rintro σ' st' ⟨z, rfl, rfl⟩ -
    rw [List.length_map, List.take_length]
    cases hf : fl ps with
    | nil =>
      rw [hf] at hk
      refine noD (by decide) ⟨by simp, ?_⟩
      rw [hmk] at hk
      exact hk
    | cons p r =>
      cases r with
      | nil =>
        rw [hf] at hk
        walk_at "s"
        exact hk
      | cons q r =>
        rw [hf] at hk
        have hk : k (.im (eP (mk (p :: q :: r)))) [] := hk
        refine noD (p := ((((p :: q :: r).map eP).length : Nat) : Int) = 1) (by simp; omega) ⟨by simp, ?_⟩
        rw [hmk, ePs_eq] at hk
        exact hk
theorem r_joined : ∀ ws st k ex, pf_joined ws st k ex → t_joined (EnD false st.length k ex) (startD N_joined ws) st := by
  intro ws st k ex h
  unfold pf_joined at h
  split at h
  · obtain ⟨ps, rfl, hl, ⟨rfl, h1, hk⟩ | ⟨rfl, h1, hk⟩⟩ := h
    · refine joined_run (fl := flatR) (mk := .row) flatR_app rfl (fun qs => rfl) (fun p acc pre E z hle hE => ?_) h1 hk
      cases p with
      | row qs =>
        have e : flatR [.row qs] = qs := List.append_nil _
        rw [e] at hle hE
        walk_at "s"
        refine ⟨⟨_, rfl⟩, ?_, ?_⟩
        · rw [ePs_eq, List.length_map]; exact hle
        · rw [ePs_eq]; exact hE
      | _ =>
        walk_at "s"
        exact ⟨⟨_, rfl⟩, by have : acc.length + 1 ≤ 1000000 := hle; omega, hE⟩
    · refine joined_run (fl := flatE) (mk := .either) flatE_app rfl (fun qs => rfl) (fun p acc pre E z hle hE => ?_) h1 hk
      cases p with
      | either qs =>
        have e : flatE [.either qs] = qs := List.append_nil _
        rw [e] at hle hE
        walk_at "s"
        refine ⟨⟨_, rfl⟩, ?_, ?_⟩
        · rw [ePs_eq, List.length_map]; exact hle
        · rw [ePs_eq]; exact hE
      | _ =>
        walk_at "s"
        exact ⟨⟨_, rfl⟩, by have : acc.length + 1 ≤ 1000000 := hle; omega, hE⟩
  · exact h.elim
end Dl.Pt
end

section
set_option maxHeartbeats 4000000
namespace Dl.Pt
open PySem PySem.Spec PyProof.Rows L2 Co PySem.StrLaws
local macro_rules | `(tactic| walk_at "s") => `(tactic| first | refine twoT ?_ | refine twoF ?_ | refine yesD rfl ?_ | refine noD (by decide) ?_)
def ansRr {α : Type} (t : List Nat) (rest : Sto) (e : α → D) (r : Rr α) (k : W → Sto → Prop) (ex : DX) : Prop := match r with
  | .ok a j => k (.im (e a)) (rd t j :: rest)
  | .bad j => ∀ j' : Nat, ex "BadPattern" [("position", .int (j : Nat))] (rd t j' :: rest)
  | .deep => False
theorem ans_cases {α : Type} {t : List Nat} {rest : Sto} {e : α → D} {r : Rr α} {k : W → Sto → Prop} {ex : DX} (hd : r = .deep → False) (hb : ∀ q : Nat, r = .bad q → ∀ j' : Nat, ex "BadPattern" [("position", .int (q : Nat))] (rd t j' :: rest)) (ho : ∀ a j, r = .ok a j → k (.im (e a)) (rd t j :: rest)) : ansRr t rest e r k ex := by
  cases r with
  | ok a j => exact ho a j rfl
  | bad q => exact hb q rfl
  | deep => exact hd rfl
theorem backAux (o2 : Ob) (n0 : Nat) : ∀ (i : Nat) (r : Sto), 1 ≤ i → backO [0] n0 [o2] i r = r
  | i, [], h => rfl
  | i, o :: r, h => by
    show (match idx i [0] with | some j => _ | none => o) :: backO [0] n0 [o2] (i + 1) r = o :: r
    rw [backAux o2 n0 (i + 1) r (by omega)]
    have : idx i [0] = none := by
      show (if 0 = i then some 0 else (idx i []).map (· + 1)) = none
      rw [if_neg (by omega)]
      rfl
    rw [this]
theorem backR (t : List Nat) (i j : Nat) (r : Sto) : back [0] (rd t i :: r) [rd t j] = rd t j :: r := by
  show (unO [0] _ (rd t j) :: backO [0] _ [rd t j] 1 r) ++ _ = _
  rw [backAux _ _ _ _ (Nat.le_refl _)]
  exact List.append_nil _
theorem call_any {α : Type} {t : List Nat} {i : Nat} {rest : Sto} {e : α → D} {r : Rr α} {pf : Pf} {k : W → Sto → Prop} {ex : DX} (h : ∀ k ex, ansR t e r k ex → pf [.loc 0] [rd t i] k ex) (hk : ansRr t rest e r k ex) : callD pf [0] [.loc 0] (rd t i :: rest) k ex := by
  refine ⟨rfl, h _ _ ?_⟩
  cases r with
  | ok a j => show k (.im (e a)) (back [0] (rd t i :: rest) [rd t j]); rw [backR]; exact hk
  | bad q => intro j'; show ex _ _ (back [0] (rd t i :: rest) [rd t j']); rw [backR]; exact hk j'
  | deep => exact hk
theorem call_sign2 {t : List Nat} {i : Nat} {rest : Sto} {k : W → Sto → Prop} {ex : DX} (h : At t i) (hk : k (.im (.str (S ((t.drop i).take 1)))) (rd t i :: rest)) : callD pf_PatternReader_sign [0] [.loc 0] (rd t i :: rest) k ex := by
  refine ⟨rfl, t, i, rfl, h, ?_⟩
  show k _ (back [0] (rd t i :: rest) [rd t i])
  rw [backR]
  exact hk
theorem call_esc2 {t : List Nat} {i : Nat} {rest : Sto} {k : W → Sto → Prop} {ex : DX} (h : At t i) (hi : i < t.length) (hk : ansRr t rest (fun c : Nat => .str ⟨#[c]⟩) (escP t i) k ex) : callD pf_PatternReader_escape [0] [.loc 0] (rd t i :: rest) k ex := call_any (fun k ex q => ⟨t, i, rfl, h, hi, q⟩) hk
theorem call_mem2 {t : List Nat} {i : Nat} {rest : Sto} {k : W → Sto → Prop} {ex : DX} (h : At t i) (hk : ansRr t rest eM (memP t i) k ex) : callD pf_PatternReader_member [0] [.loc 0] (rd t i :: rest) k ex := call_any (fun k ex q => ⟨t, i, rfl, h, q⟩) hk
theorem call_chr2 {t : List Nat} {i : Nat} {rest : Sto} {k : W → Sto → Prop} {ex : DX} (h : At t i) (hk : ansRr t rest eP (chrP t i) k ex) : callD pf_PatternReader_characters [0] [.loc 0] (rd t i :: rest) k ex := call_any (fun k ex q => ⟨t, i, rfl, h, q⟩) hk
theorem call_elem2 {n : Nat} {t : List Nat} {i : Nat} {rest : Sto} {k : W → Sto → Prop} {ex : DX} (h : At t i) (hk : ansRr t rest eP (elemP (altP n) t i) k ex) : callD (pf_elem n) [0] [.loc 0] (rd t i :: rest) k ex := call_any (fun k ex q => ⟨t, i, rfl, h, q⟩) hk
theorem call_part2 {n : Nat} {t : List Nat} {i : Nat} {rest : Sto} {k : W → Sto → Prop} {ex : DX} (h : At t i) (hk : ansRr t rest eP (partP (altP n) t i) k ex) : callD (pf_part n) [0] [.loc 0] (rd t i :: rest) k ex := call_any (fun k ex q => ⟨t, i, rfl, h, q⟩) hk
theorem call_seq2 {n : Nat} {t : List Nat} {i : Nat} {rest : Sto} {k : W → Sto → Prop} {ex : DX} (h : At t i) (hk : ansRr t rest eP (seqP (altP n) t i) k ex) : callD (pf_seq n) [0] [.loc 0] (rd t i :: rest) k ex := call_any (fun k ex q => ⟨t, i, rfl, h, q⟩) hk
theorem call_alt2 {n : Nat} {t : List Nat} {i : Nat} {rest : Sto} {k : W → Sto → Prop} {ex : DX} (h : At t i) (hk : ansRr t rest eP (altP n t i) k ex) : callD (pf_alts n) [0] [.loc 0] (rd t i :: rest) k ex := call_any (fun k ex q => ⟨t, i, rfl, h, q⟩) hk
theorem memP_at {t : List Nat} {i j : Nat} {a : Nat × Nat} (h : memP t i = .ok a j) : i < j ∧ j ≤ t.length := by
  unfold memP at h
  cases hr : mchP t i with
  | deep => rw [hr] at h; cases h
  | bad q => rw [hr] at h; cases h
  | ok b j1 =>
    rw [hr] at h
    have h1 := mchP_at hr
    have h : (if t[j1]? = some 45 then (mchP t (j1 + 1)).then fun c k => if c < b then .bad (j1 + 1) else .ok (b, c) k else .ok (b, b) j1) = Rr.ok a j := h
    split at h
    · cases hr2 : mchP t (j1 + 1) with
      | deep => rw [hr2] at h; cases h
      | bad q => rw [hr2] at h; cases h
      | ok c j2 =>
        rw [hr2] at h
        have h2 := mchP_at hr2
        have h : (if c < b then Rr.bad (j1 + 1) else .ok (b, c) j2) = Rr.ok a j := h
        split at h
        · cases h
        · cases h; exact ⟨by omega, by omega⟩
    · cases h; exact ⟨by omega, by omega⟩
theorem S_nil {s : List Nat} (h : S s = "") : s = [] := by
  have e : (("" : Str)) = S [] := by decide +kernel
  rw [e] at h
  exact S_inj h
def chrC : DS :=
 (sSeq (sIf (dCmp cEq (dI (dIx (dV 3) (dC (.int 1)))) (dI (dC (.str "")))) (sRaise1 "BadPattern" "position" (dD (dFld "PatternReader" "at" (dV 0)))) sNext)
 (sSeq (sFldAug "PatternReader" "at" fAddI (dV 0) (dC (.int 1)))
 (sRet (dV 3))))
def chrB : DS :=
 (sSeq (sAsg 3 (dCall pf_chars_of (aCons (dI (dD (dV 2))) aNil)))
 (sSeq (sIf (dTru (dV 1)) (sAsg 3 (dI (dTup (adCons (dC (.str "chars")) (adCons (dBM "str" mJoin (dI (dC (.str ""))) (aCons (dI (dLc (iSt (dC (.str "\n !\"#$&'()*+,-./0123456789:;<=>?@ABCDEFGHIJKLMNOPQRSTUVWXYZ[\\]^_`abcdefghijklmnopqrstuvwxyz{|}~"))) (gN 4) (dCmp cNotIn (dV 4) (dI (dIx (dV 3) (dC (.int 1))))) (dD (dV 4)) ([("one", 4)].map (·.2)))) aNil)) adNil))))) sNext)
 chrC))
theorem chrC_ok {t : List Nat} {j : Nat} {s : List Nat} {k : W → Sto → Prop} {ex : DX} {w1 w2 w4 : Option W} {o : Ob} (hA : At t j) (hk : ansR t eP (if s = [] then .bad j else .ok (.chars s) (j + 1)) k ex) :
    chrC (EnD false 1 k ex) [some (.loc 0), w1, w2, some (.im (eP (.chars s))), w4] [rd t j, o] := by
  refine oneD (p := S s = "") (fun z => ?_) (fun z => ?_)
  · rw [if_pos (S_nil z)] at hk
    exact ⟨rfl, hk j⟩
  · rw [if_neg (fun w => z (by rw [w]; decide +kernel))] at hk
    refine ⟨rfl, rfl, (by show 2 < 1000; decide), ?_⟩
    exact hk
theorem chrB_ok {t : List Nat} {j : Nat} {ms : List (Nat × Nat)} {b : Bool} {k : W → Sto → Prop} {ex : DX} {w3 w4 : Option W} (hA : At t j) (hl : ms.length ≤ 100000)
    (hk : ansR t eP (if (if b = true then alph.filter fun c => !decide (c ∈ setOf ms) else setOf ms) = [] then .bad j else .ok (.chars (if b = true then alph.filter fun c => !decide (c ∈ setOf ms) else setOf ms)) (j + 1)) k ex) :
    chrB (EnD false 1 k ex) [some (.loc 0), some (.im (.bl b)), some (.loc 1), w3, w4] [rd t j, .lst (ms.map eM)] := by
  refine ⟨rfl, ms, rfl, hl, ?_⟩
  cases b with
  | false =>
    walk_at "s"
    exact chrC_ok hA hk
  | true =>
    have hk : ansR t eP (if (alph.filter fun c => !decide (c ∈ setOf ms)) = [] then .bad j else .ok (.chars (alph.filter fun c => !decide (c ∈ setOf ms))) (j + 1)) k ex := hk
    generalize hs : (alph.filter fun c => !decide (c ∈ setOf ms)) = s at hk
    walk_at "s"
    unfold chrC at *
    rw [alph_eq]
    refine ⟨rfl, lcG_filter (as := alph) (a := fun c => D.str ⟨#[c]⟩) (b := fun c => D.str ⟨#[c]⟩) (fun c => [some (.loc 0), some (.im (.bl true)), some (.loc 1), some (.im (eP (.chars (setOf ms)))), some (.im (.str ⟨#[c]⟩))]) (fun c => !decide (c ∈ setOf ms)) id (by decide) rfl (fun c _ k q => q) (fun c _ Q q => ?_) (fun c _ _ Q q => q) ?_⟩
    · exact q
    · rw [hs, List.map_id]
      have hle : s.length ≤ 95 := by rw [← hs]; exact Nat.le_trans (List.length_filter_le _ _) (by decide)
      have hj : Txt.join "" ((s.map fun c => [c]).map S) = S s := by
        rw [show (("" : Str)) = S [] by decide +kernel, joinT]
        congr 1
        exact flat_one _
      refine ⟨(s.map fun c => [c]).map S, by rw [List.map_map, List.map_map]; rfl, ?_, ?_⟩
      · rw [sum_one, List.length_map, List.length_map]
        show s.length + s.length * 0 ≤ _
        omega
      · rw [hj]
        exact ⟨by simp, chrC_ok hA hk⟩
end Dl.Pt
end

section
set_option maxHeartbeats 4000000
namespace Dl.Pt
open PySem PySem.Spec PyProof.Rows L2 Co PySem.StrLaws
local macro_rules | `(tactic| walk_at "s") => `(tactic| first | refine twoT ?_ | refine twoF ?_ | refine yesD rfl ?_ | refine noD (by decide) ?_)
theorem sg_is {t : List Nat} {j c : Nat} {z : Str} (hz : z = ⟨#[c]⟩) (hne : ¬ z = "") : (S ((t.drop j).take 1) = z) ↔ t[j]? = some c := by
  constructor
  · intro h
    cases hc : t[j]? with
    | none => rw [sg_none hc] at h; exact absurd h.symm hne
    | some d => rw [sg_some hc, hz] at h; rw [one_inj h]
  · intro h
    rw [sg_some h, hz]
theorem caret_eq : (("^" : Str)) = ⟨#[94]⟩ := by decide +kernel
theorem close_eq : (("]" : Str)) = ⟨#[93]⟩ := by decide +kernel
theorem sg_caret {t : List Nat} {j : Nat} : (S ((t.drop j).take 1) = "^") ↔ t[j]? = some 94 := sg_is caret_eq (by decide +kernel)
theorem sg_close {t : List Nat} {j : Nat} : (S ((t.drop j).take 1) = "]") ↔ t[j]? = some 93 := sg_is close_eq (by decide +kernel)
theorem dec_iff {p q : Prop} [Decidable p] [Decidable q] (h : p ↔ q) : decide p = decide q := by
  by_cases z : q
  · rw [decide_eq_true z, decide_eq_true (h.mpr z)]
  · rw [decide_eq_false z, decide_eq_false (fun w => z (h.mp w))]
def chrW : DS :=
 (sSeq (sAsg 2 (dLstM (adCons (dD (dMeth "PatternReader" "member" pf_PatternReader_member (dV 0) aNil)) adNil)))
 (sSeq (sWhile (dCmp cNe (dMeth "PatternReader" "sign" pf_PatternReader_sign (dV 0) aNil) (dI (dC (.str "]"))))
 (sApp (dV 2) (dD (dMeth "PatternReader" "member" pf_PatternReader_member (dV 0) aNil))))
 chrB))
theorem chrW_ok {t : List Nat} {i : Nat} {b : Bool} {k : W → Sto → Prop} {ex : DX} (hA : At t i)
    (hk : ansR t eP ((memP t i).then fun m j => (memsP t (t.length + 1) [m] j).then fun ms k =>
      if (if b = true then alph.filter fun c => !decide (c ∈ setOf ms) else setOf ms) = [] then .bad k else .ok (.chars (if b = true then alph.filter fun c => !decide (c ∈ setOf ms) else setOf ms)) (k + 1)) k ex) :
    chrW (EnD false 1 k ex) [some (.loc 0), some (.im (.bl b)), none, none, none] [rd t i] := by
  refine ⟨⟨rfl, rfl⟩, call_mem2 hA (ans_cases (fun z => ?_) (fun q z => ?_) fun m j z => ?_)⟩
  · rw [z] at hk; exact hk
  · rw [z] at hk; exact fun j' => hk j'
  · rw [z] at hk
    have hj := memP_at z
    have hk : ansR t eP ((memsP t (t.length + 1) [m] j).then fun ms k => if (if b = true then alph.filter fun c => !decide (c ∈ setOf ms) else setOf ms) = [] then .bad k else .ok (.chars (if b = true then alph.filter fun c => !decide (c ∈ setOf ms) else setOf ms)) (k + 1)) k ex := hk
    refine ⟨by simp, fun f σ' st' => ∃ acc j', memsP t f acc j' = memsP t (t.length + 1) [m] j ∧ At t j' ∧ acc.length ≤ j' ∧ σ' = [some (.loc 0), some (.im (.bl b)), some (.loc 1), none, none] ∧ st' = [rd t j', .lst (acc.map eM)], ⟨t.length + 1, [m], j, rfl, ⟨hj.2, hA.2⟩, by show 1 ≤ j; omega, rfl, rfl⟩, ?_⟩
    rintro f σ' st' ⟨acc, j', hR, hA', hle, rfl, rfl⟩ -
    rw [← hR] at hk
    refine ⟨⟨rfl, rfl⟩, call_sign2 hA' ?_⟩
    cases f with
    | zero => exact hk.elim
    | succ f =>
      have e : memsP t (f + 1) acc j' = if t[j']? = some 93 then .ok acc j' else (memP t j').then fun m j => memsP t f (acc ++ [m]) j := rfl
      rw [e] at hk hR
      show two (!decide (S ((t.drop j').take 1) = "]")) _ _
      rw [dec_iff sg_close]
      by_cases hc : t[j']? = some 93
      · rw [if_pos hc] at hk
        refine notY hc ?_
        exact chrB_ok hA' (Nat.le_trans hle (Nat.le_trans hA'.1 hA'.2)) hk
      · rw [if_neg hc] at hk hR
        refine notN hc ⟨⟨_, rfl⟩, ⟨rfl, rfl⟩, call_mem2 hA' (ans_cases (fun z => ?_) (fun q z => ?_) fun m' j2 z => ?_)⟩
        · rw [z] at hk; exact hk
        · rw [z] at hk; exact fun j' => hk j'
        · rw [z] at hk hR
          have hj2 := memP_at z
          refine ⟨by rw [List.length_map]; exact Nat.le_trans hle (Nat.le_trans hA'.1 (Nat.le_trans hA'.2 (by omega))), f, Nat.lt_succ_self f, acc ++ [m'], j2, hR, ⟨hj2.2, hA.2⟩, by rw [List.length_append]; show acc.length + 1 ≤ j2; omega, rfl, ?_⟩
          rw [List.map_append]
          rfl
def chrV : DS :=
 (sSeq (sIf (dTru (dV 1)) (sFldAug "PatternReader" "at" fAddI (dV 0) (dC (.int 1))) sNext) chrW)
theorem r_PatternReader_characters : ∀ ws st k ex, pf_PatternReader_characters ws st k ex → t_PatternReader_characters (EnD false st.length k ex) (startD N_PatternReader_characters ws) st := by
  intro ws st k ex h
  unfold pf_PatternReader_characters at h
  split at h
  · obtain ⟨t, i, rfl, hA, hk⟩ := h
    refine ⟨⟨rfl, rfl⟩, call_sign2 hA ?_⟩
    show chrV (EnD false 1 k ex) [some (.loc 0), some (.im (.bl (decide (S ((t.drop i).take 1) = "^")))), none, none, none] [rd t i]
    rw [dec_iff sg_caret]
    unfold chrP at hk
    by_cases hc : t[i]? = some 94
    · have hi := (List.getElem?_eq_some_iff.mp hc).1
      rw [if_pos hc] at hk
      rw [decide_eq_true hc]
      walk_at "s"
      refine ⟨rfl, rfl, (by show 2 < 1000; decide), ?_⟩
      refine chrW_ok (i := i + 1) (b := true) ⟨by omega, hA.2⟩ ?_
      simp only [hc, if_true] at hk ⊢
      exact hk
    · rw [if_neg hc] at hk
      rw [decide_eq_false hc]
      walk_at "s"
      refine chrW_ok (b := false) hA ?_
      simp only [if_neg hc] at hk
      exact hk
  · exact h.elim
theorem memsP_at {t : List Nat} : ∀ {f : Nat} {acc ms : List (Nat × Nat)} {i j : Nat}, memsP t f acc i = .ok ms j → i ≤ j ∧ (i ≤ t.length → j < t.length)
  | 0, _, _, _, _, h => by cases h
  | f + 1, acc, ms, i, j, h => by
    have h : (if t[i]? = some 93 then .ok acc i else (memP t i).then fun m j => memsP t f (acc ++ [m]) j) = Rr.ok ms j := h
    split at h
    · rename_i hc
      cases h
      exact ⟨Nat.le_refl _, fun _ => (List.getElem?_eq_some_iff.mp hc).1⟩
    · cases hr : memP t i with
      | deep => rw [hr] at h; cases h
      | bad q => rw [hr] at h; cases h
      | ok m j1 =>
        rw [hr] at h
        have h1 := memP_at hr
        have h2 := memsP_at (f := f) h
        exact ⟨by omega, fun _ => h2.2 h1.2⟩
theorem chrP_at {t : List Nat} {i j : Nat} {p : Pt} (h : chrP t i = .ok p j) : i < j ∧ j ≤ t.length := by
  unfold chrP at h
  have key : ∀ i' (sf : List (Nat × Nat) → List Nat), i ≤ i' → ((memP t i').then fun m j => (memsP t (t.length + 1) [m] j).then fun ms k =>
    if sf ms = [] then .bad k else .ok (.chars (sf ms)) (k + 1)) = Rr.ok p j → i < j ∧ j ≤ t.length := fun i' sf hi h => by
    cases hr : memP t i' with
    | deep => rw [hr] at h; cases h
    | bad q => rw [hr] at h; cases h
    | ok m j1 =>
      rw [hr] at h
      have h1 := memP_at hr
      have h : ((memsP t (t.length + 1) [m] j1).then fun ms k => if sf ms = [] then Rr.bad k else .ok (.chars (sf ms)) (k + 1)) = Rr.ok p j := h
      cases hr2 : memsP t (t.length + 1) [m] j1 with
      | deep => rw [hr2] at h; cases h
      | bad q => rw [hr2] at h; cases h
      | ok ms j2 =>
        rw [hr2] at h
        have h2 := memsP_at hr2
        have h3 := h2.2 h1.2
        have h : (if sf ms = [] then Rr.bad j2 else .ok (.chars (sf ms)) (j2 + 1)) = Rr.ok p j := h
        by_cases z : sf ms = []
        · rw [if_pos z] at h; cases h
        · rw [if_neg z] at h; cases h; exact ⟨by omega, by omega⟩
  by_cases hc : t[i]? = some 94
  · simp only [if_pos hc] at h
    exact key _ (fun ms => alph.filter fun c => !decide (c ∈ setOf ms)) (Nat.le_succ i) h
  · simp only [if_neg hc] at h
    exact key _ setOf (Nat.le_refl i) h
end Dl.Pt
end

section
set_option maxHeartbeats 4000000
namespace Dl.Pt
open PySem PySem.Spec PyProof.Rows L2 Co PySem.StrLaws
local macro_rules | `(tactic| walk_at "s") => `(tactic| first | refine twoT ?_ | refine twoF ?_ | refine yesD rfl ?_ | refine noD (by decide) ?_)
def AltAt (alt : List Nat → Nat → Rr Pt) : Prop := ∀ t i p j, alt t i = .ok p j → i < j ∧ j ≤ t.length
theorem elemP_at {alt : List Nat → Nat → Rr Pt} (ha : AltAt alt) {t : List Nat} {i j : Nat} {p : Pt} (h : elemP alt t i = .ok p j) : i < j ∧ j ≤ t.length := by
  unfold elemP at h
  cases hc : t[i]? with
  | none => rw [hc] at h; cases h
  | some c =>
    rw [hc] at h
    have hi := (List.getElem?_eq_some_iff.mp hc).1
    dsimp only at h
    split at h
    · cases hr : escP t i with
      | deep => rw [hr] at h; cases h
      | bad q => rw [hr] at h; cases h
      | ok a j1 => rw [hr] at h; cases h; exact escP_at hr
    · split at h
      · cases hr : alt t (i + 1) with
        | deep => rw [hr] at h; cases h
        | bad q => rw [hr] at h; cases h
        | ok a j1 =>
          rw [hr] at h
          have h1 := ha _ _ _ _ hr
          have h : (if t[j1]? = some 41 then Rr.ok a (j1 + 1) else .bad j1) = .ok p j := h
          split at h
          · rename_i hc2
            have := (List.getElem?_eq_some_iff.mp hc2).1
            cases h; exact ⟨by omega, by omega⟩
          · cases h
      · split at h
        · cases h
        · split at h
          · have := chrP_at h; exact ⟨by omega, this.2⟩
          · cases h; exact ⟨by omega, by omega⟩
theorem partP_at {alt : List Nat → Nat → Rr Pt} (ha : AltAt alt) {t : List Nat} {i j : Nat} {p : Pt} (h : partP alt t i = .ok p j) : i < j ∧ j ≤ t.length := by
  unfold partP at h
  cases hr : elemP alt t i with
  | deep => rw [hr] at h; cases h
  | bad q => rw [hr] at h; cases h
  | ok a j1 =>
    rw [hr] at h
    have h1 := elemP_at ha hr
    have h : ((match t[j1]? with | some 42 => Rr.ok (.star a) (j1 + 1) | some 43 => .ok (.plus a) (j1 + 1) | some 63 => .ok (.maybe a) (j1 + 1) | _ => .ok a j1 : Rr Pt)) = .ok p j := h
    have lt : ∀ c, t[j1]? = some c → j1 < t.length := fun c hc => (List.getElem?_eq_some_iff.mp hc).1
    split at h
    · rename_i hc; have := lt _ hc; cases h; exact ⟨by omega, by omega⟩
    · rename_i hc; have := lt _ hc; cases h; exact ⟨by omega, by omega⟩
    · rename_i hc; have := lt _ hc; cases h; exact ⟨by omega, by omega⟩
    · cases h; exact h1
theorem partsP_at {alt : List Nat → Nat → Rr Pt} (ha : AltAt alt) {t : List Nat} : ∀ {f : Nat} {acc ps : List Pt} {i j : Nat}, partsP alt t f acc i = .ok ps j → i ≤ j ∧ (i ≤ t.length → j ≤ t.length)
  | 0, _, _, _, _, h => by cases h
  | f + 1, acc, ps, i, j, h => by
    unfold partsP at h
    cases hc : t[i]? with
    | none => rw [hc] at h; cases h; exact ⟨Nat.le_refl _, fun h => h⟩
    | some c =>
      rw [hc] at h
      dsimp only at h
      split at h
      · cases h; exact ⟨Nat.le_refl _, fun h => h⟩
      · cases hr : partP alt t i with
        | deep => rw [hr] at h; cases h
        | bad q => rw [hr] at h; cases h
        | ok a j1 =>
          rw [hr] at h
          have h1 := partP_at ha hr
          have h2 := partsP_at ha (f := f) h
          exact ⟨by omega, fun _ => h2.2 h1.2⟩
theorem seqP_at {alt : List Nat → Nat → Rr Pt} (ha : AltAt alt) {t : List Nat} {i j : Nat} {p : Pt} (h : seqP alt t i = .ok p j) : i < j ∧ j ≤ t.length := by
  unfold seqP at h
  cases hr : partP alt t i with
  | deep => rw [hr] at h; cases h
  | bad q => rw [hr] at h; cases h
  | ok a j1 =>
    rw [hr] at h
    have h1 := partP_at ha hr
    have h : ((partsP alt t (t.length + 1) [a] j1).then fun ps k => Rr.ok (joinR ps) k) = .ok p j := h
    cases hr2 : partsP alt t (t.length + 1) [a] j1 with
    | deep => rw [hr2] at h; cases h
    | bad q => rw [hr2] at h; cases h
    | ok ps j2 =>
      rw [hr2] at h
      have h2 := partsP_at ha hr2
      cases h
      exact ⟨by omega, h2.2 h1.2⟩
theorem seqsP_at {alt : List Nat → Nat → Rr Pt} (ha : AltAt alt) {t : List Nat} : ∀ {f : Nat} {acc ps : List Pt} {i j : Nat}, seqsP alt t f acc i = .ok ps j → i ≤ j ∧ (i ≤ t.length → j ≤ t.length)
  | 0, _, _, _, _, h => by cases h
  | f + 1, acc, ps, i, j, h => by
    have h : (if t[i]? = some 124 then (seqP alt t (i + 1)).then fun p j => seqsP alt t f (acc ++ [p]) j else .ok acc i) = Rr.ok ps j := h
    split at h
    · cases hr : seqP alt t (i + 1) with
      | deep => rw [hr] at h; cases h
      | bad q => rw [hr] at h; cases h
      | ok a j1 =>
        rw [hr] at h
        have h1 := seqP_at ha hr
        have h2 := seqsP_at ha (f := f) h
        exact ⟨by omega, fun _ => h2.2 h1.2⟩
    · cases h; exact ⟨Nat.le_refl _, fun h => h⟩
theorem altP_at : ∀ n, AltAt (altP n)
  | 0 => fun t i p j h => by cases h
  | n + 1 => fun t i p j h => by
    have ha := altP_at n
    have h : ((seqP (altP n) t i).then fun p j => (seqsP (altP n) t (t.length + 1) [p] j).then fun ps k => Rr.ok (joinE ps) k) = .ok p j := h
    cases hr : seqP (altP n) t i with
    | deep => rw [hr] at h; cases h
    | bad q => rw [hr] at h; cases h
    | ok a j1 =>
      rw [hr] at h
      have h1 := seqP_at ha hr
      have h : ((seqsP (altP n) t (t.length + 1) [a] j1).then fun ps k => Rr.ok (joinE ps) k) = .ok p j := h
      cases hr2 : seqsP (altP n) t (t.length + 1) [a] j1 with
      | deep => rw [hr2] at h; cases h
      | bad q => rw [hr2] at h; cases h
      | ok ps j2 =>
        rw [hr2] at h
        have h2 := seqsP_at ha hr2
        cases h
        exact ⟨by omega, h2.2 h1.2⟩
theorem open_eq : (("(" : Str)) = ⟨#[40]⟩ := by decide +kernel
theorem shut_eq : ((")" : Str)) = ⟨#[41]⟩ := by decide +kernel
theorem bar_eq : (("|" : Str)) = ⟨#[124]⟩ := by decide +kernel
theorem brk_eq : (("[" : Str)) = ⟨#[91]⟩ := by decide +kernel
theorem dot_eq : (("." : Str)) = ⟨#[46]⟩ := by decide +kernel
theorem sg_shut {t : List Nat} {j : Nat} : (S ((t.drop j).take 1) = ")") ↔ t[j]? = some 41 := sg_is shut_eq (by decide +kernel)
theorem sg_bar {t : List Nat} {j : Nat} : (S ((t.drop j).take 1) = "|") ↔ t[j]? = some 124 := sg_is bar_eq (by decide +kernel)
theorem unfit_eq : ((("|*+?)]" : Str)).cps.toList) = [124, 42, 43, 63, 41, 93] := by decide +kernel
theorem ends_eq : ((("|)" : Str)).cps.toList) = [124, 41] := by decide +kernel
theorem ansR_map {t : List Nat} {e : Nat → D} {f : Nat → Pt} {r : Rr Nat} {k : W → Sto → Prop} {ex : DX} (h : ansR t eP (r.then fun c j => .ok (f c) j) k ex) : ansR t (fun c => eP (f c)) r k ex := by
  cases r with
  | ok a j => exact h
  | bad j => exact h
  | deep => exact h
def elemT : DS :=
 (sSeq (sIf (dCmp cEq (dV 1) (dI (dC (.str "[")))) (sRet (dMeth "PatternReader" "characters" pf_PatternReader_characters (dV 0) aNil)) sNext)
 (sRet (dI (dTup (adCons (dC (.str "chars")) (adCons (dD (dIfE (dCmp cEq (dV 1) (dI (dC (.str ".")))) (dI (dC (.str "\n !\"#$&'()*+,-./0123456789:;<=>?@ABCDEFGHIJKLMNOPQRSTUVWXYZ[\\]^_`abcdefghijklmnopqrstuvwxyz{|}~"))) (dV 1))) adNil))))))
theorem elemT_ok {t : List Nat} {i c : Nat} {k : W → Sto → Prop} {ex : DX} {w2 : Option W} (hA : At t (i + 1)) (hk : ansR t eP (if c = 91 then chrP t (i + 1) else .ok (.chars (if c = 46 then alph else [c])) (i + 1)) k ex) :
    elemT (EnD false 1 k ex) [some (.loc 0), some (.im (.str ⟨#[c]⟩)), w2] [rd t (i + 1)] := by
  by_cases h4 : c = 91
  · subst h4
    rw [if_pos rfl] at hk
    walk_at "s"
    refine ⟨⟨rfl, rfl⟩, call_chr2 hA (ans_cases (fun z => ?_) (fun q z => ?_) fun a j z => ?_)⟩
    · rw [z] at hk; exact hk
    · rw [z] at hk; exact fun j' => hk j'
    · rw [z] at hk; exact hk
  · rw [if_neg h4] at hk
    refine noD (fun z => h4 (one_inj (z.trans brk_eq))) ?_
    by_cases h5 : c = 46
    · subst h5
      rw [if_pos rfl] at hk
      unfold EnD
      rw [alph_eq]
      walk_at "s"
      exact ⟨by simp, hk⟩
    · rw [if_neg h5] at hk
      refine noD (fun z => h5 (one_inj (z.trans dot_eq))) ⟨by simp, hk⟩
theorem r_PatternReader_element {n : Nat} : ∀ ws st k ex, pf_elem n ws st k ex → (t_PatternReader_element n) (EnD false st.length k ex) (startD N_PatternReader_element ws) st := by
  intro ws st k ex h
  unfold pf_elem at h
  split at h
  · obtain ⟨t, i, rfl, hA, hk⟩ := h
    refine ⟨⟨rfl, rfl⟩, call_sign2 hA ?_⟩
    cases hc : t[i]? with
    | none =>
      have e : elemP (altP n) t i = .bad i := by unfold elemP; rw [hc]
      rw [e] at hk
      rw [sg_none hc]
      walk_at "s"; walk_at "s"; walk_at "s"; walk_at "s"
      exact ⟨rfl, hk i⟩
    | some c =>
      have hi := (List.getElem?_eq_some_iff.mp hc).1
      rw [sg_some hc]
      have e : elemP (altP n) t i = if c = 92 then (escP t i).then fun c j => .ok (.chars [c]) j
    else if c = 40 then (altP n t (i + 1)).then fun p j => if t[j]? = some 41 then .ok p (j + 1) else .bad j
    else if c ∈ [124, 42, 43, 63, 41, 93] then .bad i
    else if c = 91 then chrP t (i + 1)
    else .ok (.chars (if c = 46 then alph else [c])) (i + 1) := by unfold elemP; rw [hc]
      rw [e] at hk
      by_cases h1 : c = 92
      · subst h1
        rw [if_pos rfl] at hk
        walk_at "s"
        refine ⟨⟨rfl, rfl⟩, call_esc2 hA hi (ans_cases (fun z => ?_) (fun q z => ?_) fun a j z => ?_)⟩
        · rw [z] at hk; exact hk
        · rw [z] at hk; exact fun j' => hk j'
        · rw [z] at hk; exact ⟨by simp, hk⟩
      · rw [if_neg h1] at hk
        refine noD (fun z => h1 (one_inj (z.trans bs_eq))) ?_
        by_cases h2 : c = 40
        · subst h2
          rw [if_pos rfl] at hk
          have hA2 : At t (i + 1) := ⟨by omega, hA.2⟩
          walk_at "s"
          refine ⟨rfl, rfl, (by show 2 < 1000; decide), ⟨rfl, rfl⟩, call_alt2 hA2 (ans_cases (fun z => ?_) (fun q z => ?_) fun a j z => ?_)⟩
          · rw [z] at hk; exact hk
          · rw [z] at hk; exact fun j' => hk j'
          · rw [z] at hk
            have hk : ansR t eP (if t[j]? = some 41 then .ok a (j + 1) else .bad j) k ex := hk
            have hj := altP_at n _ _ _ _ z
            have hA3 : At t j := ⟨hj.2, hA.2⟩
            refine ⟨⟨rfl, rfl⟩, call_sign2 hA3 ?_⟩
            show two (!decide (S ((t.drop j).take 1) = ")")) _ _
            rw [dec_iff sg_shut]
            by_cases h3 : t[j]? = some 41
            · rw [if_pos h3] at hk
              refine notY h3 ⟨rfl, rfl, (by show 2 < 1000; decide), ?_⟩
              exact hk
            · rw [if_neg h3] at hk
              refine notN h3 ⟨rfl, ?_⟩
              exact hk j
        · rw [if_neg h2] at hk
          refine noD (fun z => h2 (one_inj (z.trans open_eq))) (noD (one_ne c) ?_)
          by_cases h3 : c ∈ [124, 42, 43, 63, 41, 93]
          · rw [if_pos h3] at hk
            exact yesD (by rw [unfit_eq]; exact h3) ⟨rfl, hk i⟩
          · rw [if_neg h3] at hk
            refine noD (by rw [unfit_eq]; exact h3) ⟨rfl, rfl, (by show 2 < 1000; decide), ?_⟩
            exact elemT_ok ⟨by omega, hA.2⟩ hk
  · exact h.elim
end Dl.Pt
end

section
set_option maxHeartbeats 4000000
namespace Dl.Pt
open PySem PySem.Spec PyProof.Rows L2 Co PySem.StrLaws
local macro_rules | `(tactic| walk_at "s") => `(tactic| first | refine twoT ?_ | refine twoF ?_ | refine yesD rfl ?_ | refine noD (by decide) ?_)
abbrev repT : List (Str × He.Dv) := [("*", .str "star"), ("+", .str "plus"), ("?", .str "maybe")]
theorem rep_no {c : Nat} (h1 : c ≠ 42) (h2 : c ≠ 43) (h3 : c ≠ 63) : repT.lookup (⟨#[c]⟩ : Str) = none := by
  have e1 : (("*" : Str)) = ⟨#[42]⟩ := by decide +kernel
  have e2 : (("+" : Str)) = ⟨#[43]⟩ := by decide +kernel
  have e3 : (("?" : Str)) = ⟨#[63]⟩ := by decide +kernel
  have n1 : ((⟨#[c]⟩ : Str) == "*") = false := by rw [e1]; exact beq_false_of_ne fun z => h1 (one_inj z)
  have n2 : ((⟨#[c]⟩ : Str) == "+") = false := by rw [e2]; exact beq_false_of_ne fun z => h2 (one_inj z)
  have n3 : ((⟨#[c]⟩ : Str) == "?") = false := by rw [e3]; exact beq_false_of_ne fun z => h3 (one_inj z)
  unfold repT
  rw [List.lookup_cons, n1, List.lookup_cons, n2, List.lookup_cons, n3]
  rfl
theorem rep_yes : repT.lookup (⟨#[42]⟩ : Str) = some (.str "star") ∧ repT.lookup (⟨#[43]⟩ : Str) = some (.str "plus") ∧ repT.lookup (⟨#[63]⟩ : Str) = some (.str "maybe") := by
  have e1 : (("*" : Str)) = ⟨#[42]⟩ := by decide +kernel
  have e2 : (("+" : Str)) = ⟨#[43]⟩ := by decide +kernel
  have e3 : (("?" : Str)) = ⟨#[63]⟩ := by decide +kernel
  unfold repT
  rw [e1, e2, e3]
  exact ⟨rfl, rfl, rfl⟩
def partB : DS := (sSeq (sAsg 1 (dI (dTup (adCons (dGlIx repT (dD (dMeth "PatternReader" "sign" pf_PatternReader_sign (dV 0) aNil))) (adCons (dD (dV 1)) adNil)))))
 (sFldAug "PatternReader" "at" fAddI (dV 0) (dC (.int 1))))
def partT : DS :=
 (sSeq (sIf (dAnd (dCmp cNe (dMeth "PatternReader" "sign" pf_PatternReader_sign (dV 0) aNil) (dI (dC (.str "")))) (dGlIn repT (dD (dMeth "PatternReader" "sign" pf_PatternReader_sign (dV 0) aNil)))) partB sNext)
 (sRet (dV 1)))
theorem partT_ok {t : List Nat} {p : Pt} {j : Nat} {k : W → Sto → Prop} {ex : DX} (hA : At t j)
    (hk : ansR t eP ((match t[j]? with | some 42 => Rr.ok (.star p) (j + 1) | some 43 => .ok (.plus p) (j + 1) | some 63 => .ok (.maybe p) (j + 1) | _ => .ok p j : Rr Pt)) k ex) :
    partT (EnD false 1 k ex) [some (.loc 0), some (.im (eP p))] [rd t j] := by
  refine ⟨⟨rfl, rfl⟩, call_sign2 hA ?_⟩
  cases hc : t[j]? with
  | none =>
    rw [hc] at hk
    rw [sg_none hc]
    walk_at "s"
    walk_at "s"
    exact hk
  | some c =>
    rw [hc] at hk
    rw [sg_some hc]
    refine notN (one_ne c) ⟨⟨rfl, rfl⟩, call_sign2 hA ?_⟩
    rw [sg_some hc]
    have hit : ∀ (z : Str) (q : Pt), repT.lookup (⟨#[c]⟩ : Str) = some (.str z) → eP q = .tup [.str z, eP p] → k (.im (eP q)) [rd t (j + 1)] →
        two (repT.lookup (⟨#[c]⟩ : Str)).isSome (partB { EnD false 1 k ex with nx := fun σ' st' => sRet (dV 1) (EnD false 1 k ex) σ' st' } [some (.loc 0), some (.im (eP p))] [rd t j]) (k (.im (eP p)) [rd t j]) := fun z q hz hq hk => by
      rw [hz]
      refine twoT ⟨⟨rfl, rfl⟩, call_sign2 hA ?_⟩
      rw [sg_some hc]
      show (match repT.lookup (⟨#[c]⟩ : Str) with | some v => _ | none => False)
      rw [hz]
      rw [hq] at hk
      refine ⟨by simp, rfl, rfl, (by show 2 < 1000; decide), ?_⟩
      exact hk
    by_cases h1 : c = 42
    · subst h1
      exact hit "star" (.star p) rep_yes.1 rfl hk
    · by_cases h2 : c = 43
      · subst h2
        exact hit "plus" (.plus p) rep_yes.2.1 rfl hk
      · by_cases h3 : c = 63
        · subst h3
          exact hit "maybe" (.maybe p) rep_yes.2.2 rfl hk
        · have e : ((match some c with | some 42 => Rr.ok (.star p) (j + 1) | some 43 => .ok (.plus p) (j + 1) | some 63 => .ok (.maybe p) (j + 1) | _ => .ok p j : Rr Pt)) = .ok p j := by
            split
            · rename_i h; cases h; exact absurd rfl h1
            · rename_i h; cases h; exact absurd rfl h2
            · rename_i h; cases h; exact absurd rfl h3
            · rfl
          rw [e] at hk
          show two (repT.lookup (⟨#[c]⟩ : Str)).isSome _ _
          rw [rep_no h1 h2 h3]
          exact twoF hk
theorem r_PatternReader_part {n : Nat} : ∀ ws st k ex, pf_part n ws st k ex → (t_PatternReader_part n) (EnD false st.length k ex) (startD N_PatternReader_part ws) st := by
  intro ws st k ex h
  unfold pf_part at h
  split at h
  · obtain ⟨t, i, rfl, hA, hk⟩ := h
    unfold partP at hk
    refine ⟨⟨rfl, rfl⟩, call_elem2 hA (ans_cases (fun z => ?_) (fun q z => ?_) fun a j z => ?_)⟩
    · rw [z] at hk; exact hk
    · rw [z] at hk; exact fun j' => hk j'
    · rw [z] at hk
      have hj := elemP_at (altP_at n) z
      exact partT_ok ⟨hj.2, hA.2⟩ hk
  · exact h.elim
theorem call_joined {hd : Str} {ps : List Pt} {q : Pt} {st : Sto} {k : W → Sto → Prop} {ex : DX} (hl : ps.length ≤ 100000) (h : (hd = "row" ∧ (flatR ps).length ≤ 1000000 ∧ q = joinR ps) ∨ (hd = "either" ∧ (flatE ps).length ≤ 1000000 ∧ q = joinE ps)) (hk : k (.im (eP q)) st) :
    callD pf_joined [] [.im (.str hd), .im (.lst (ps.map eP))] st k ex := by
  refine ⟨rfl, ps, rfl, hl, ?_⟩
  rcases h with ⟨h1, h2, rfl⟩ | ⟨h1, h2, rfl⟩
  · exact .inl ⟨h1, h2, hk⟩
  · exact .inr ⟨h1, h2, hk⟩
end Dl.Pt
end

section
set_option maxHeartbeats 4000000
namespace Dl.Pt
open PySem PySem.Spec PyProof.Rows L2 Co PySem.StrLaws
local macro_rules | `(tactic| walk_at "s") => `(tactic| first | refine twoT ?_ | refine twoF ?_ | refine yesD rfl ?_ | refine noD (by decide) ?_)
mutual
def lv : Pt → Nat
  | .chars _ => 1
  | .row ps => max 1 (lvs ps)
  | .either ps => max 1 (lvs ps)
  | .star p => lv p
  | .plus p => lv p
  | .maybe p => lv p
def lvs : List Pt → Nat
  | [] => 0
  | p :: ps => lv p + lvs ps
end
theorem lv_pos : ∀ p : Pt, 1 ≤ lv p
  | .chars _ => Nat.le_refl _
  | .row ps => Nat.le_max_left _ _
  | .either ps => Nat.le_max_left _ _
  | .star p => lv_pos p
  | .plus p => lv_pos p
  | .maybe p => lv_pos p
theorem lvs_app : ∀ a b : List Pt, lvs (a ++ b) = lvs a + lvs b
  | [], b => by show lvs b = 0 + lvs b; omega
  | p :: a, b => by show lv p + lvs (a ++ b) = (lv p + lvs a) + lvs b; rw [lvs_app a b]; omega
theorem lvs_len : ∀ a : List Pt, a.length ≤ lvs a
  | [] => Nat.le_refl _
  | p :: a => by
    have := lvs_len a
    have := lv_pos p
    show a.length + 1 ≤ lv p + lvs a
    omega
theorem lvs_R : ∀ ps : List Pt, lvs (flatR ps) ≤ lvs ps
  | [] => Nat.le_refl _
  | p :: ps => by
    have ih := lvs_R ps
    cases p with
    | row qs =>
      show lvs (qs ++ flatR ps) ≤ max 1 (lvs qs) + lvs ps
      rw [lvs_app]
      omega
    | _ => exact Nat.add_le_add_left ih _
theorem lvs_E : ∀ ps : List Pt, lvs (flatE ps) ≤ lvs ps
  | [] => Nat.le_refl _
  | p :: ps => by
    have ih := lvs_E ps
    cases p with
    | either qs =>
      show lvs (qs ++ flatE ps) ≤ max 1 (lvs qs) + lvs ps
      rw [lvs_app]
      omega
    | _ => exact Nat.add_le_add_left ih _
theorem lv_joinR (ps : List Pt) (h : 1 ≤ lvs ps) : lv (joinR ps) ≤ lvs ps := by
  have := lvs_R ps
  unfold joinR
  split
  · rename_i p e
    rw [e] at this
    have e2 : lvs [p] = lv p + 0 := rfl
    omega
  · show max 1 (lvs (flatR ps)) ≤ _
    omega
theorem lv_joinE (ps : List Pt) (h : 1 ≤ lvs ps) : lv (joinE ps) ≤ lvs ps := by
  have := lvs_E ps
  unfold joinE
  split
  · rename_i p e
    rw [e] at this
    have e2 : lvs [p] = lv p + 0 := rfl
    omega
  · show max 1 (lvs (flatE ps)) ≤ _
    omega
theorem len_R (ps : List Pt) : (flatR ps).length ≤ lvs ps := Nat.le_trans (lvs_len _) (lvs_R ps)
theorem len_E (ps : List Pt) : (flatE ps).length ≤ lvs ps := Nat.le_trans (lvs_len _) (lvs_E ps)
def AltLv (alt : List Nat → Nat → Rr Pt) : Prop := ∀ t i p j, alt t i = .ok p j → lv p + i ≤ j
theorem elemP_lv {alt : List Nat → Nat → Rr Pt} (hl : AltLv alt) {t : List Nat} {i j : Nat} {p : Pt} (h : elemP alt t i = .ok p j) : lv p + i ≤ j := by
  unfold elemP at h
  cases hc : t[i]? with
  | none => rw [hc] at h; cases h
  | some c =>
    rw [hc] at h
    dsimp only at h
    split at h
    · cases hr : escP t i with
      | deep => rw [hr] at h; cases h
      | bad q => rw [hr] at h; cases h
      | ok a j1 =>
        rw [hr] at h
        have := escP_at hr
        cases h
        show 1 + i ≤ j
        omega
    · split at h
      · cases hr : alt t (i + 1) with
        | deep => rw [hr] at h; cases h
        | bad q => rw [hr] at h; cases h
        | ok a j1 =>
          rw [hr] at h
          have h1 := hl _ _ _ _ hr
          have h : (if t[j1]? = some 41 then Rr.ok a (j1 + 1) else .bad j1) = .ok p j := h
          split at h
          · cases h; omega
          · cases h
      · split at h
        · cases h
        · split at h
          · have h2 := chrP_at h
            have e : lv p = 1 := by
              unfold chrP at h
              cases hr : memP t (if t[i + 1]? = some 94 then i + 1 + 1 else i + 1) with
              | deep => rw [hr] at h; cases h
              | bad q => rw [hr] at h; cases h
              | ok m j1 =>
                rw [hr] at h
                have h : ((memsP t (t.length + 1) [m] j1).then fun ms k => if (if t[i + 1]? = some 94 then alph.filter fun c => !decide (c ∈ setOf ms) else setOf ms) = [] then Rr.bad k else .ok (.chars (if t[i + 1]? = some 94 then alph.filter fun c => !decide (c ∈ setOf ms) else setOf ms)) (k + 1)) = Rr.ok p j := h
                cases hr2 : memsP t (t.length + 1) [m] j1 with
                | deep => rw [hr2] at h; cases h
                | bad q => rw [hr2] at h; cases h
                | ok ms j2 =>
                  rw [hr2] at h
                  have h : (if (if t[i + 1]? = some 94 then alph.filter fun c => !decide (c ∈ setOf ms) else setOf ms) = [] then Rr.bad j2 else .ok (.chars (if t[i + 1]? = some 94 then alph.filter fun c => !decide (c ∈ setOf ms) else setOf ms)) (j2 + 1)) = Rr.ok p j := h
                  generalize (if t[i + 1]? = some 94 then alph.filter fun c => !decide (c ∈ setOf ms) else setOf ms) = s at h
                  by_cases z : s = []
                  · rw [if_pos z] at h; cases h
                  · rw [if_neg z] at h; cases h; rfl
            omega
          · cases h
            show 1 + i ≤ i + 1
            omega
theorem partP_lv {alt : List Nat → Nat → Rr Pt} (hl : AltLv alt) {t : List Nat} {i j : Nat} {p : Pt} (h : partP alt t i = .ok p j) : lv p + i ≤ j := by
  unfold partP at h
  cases hr : elemP alt t i with
  | deep => rw [hr] at h; cases h
  | bad q => rw [hr] at h; cases h
  | ok a j1 =>
    rw [hr] at h
    have h1 := elemP_lv hl hr
    have h : ((match t[j1]? with | some 42 => Rr.ok (.star a) (j1 + 1) | some 43 => .ok (.plus a) (j1 + 1) | some 63 => .ok (.maybe a) (j1 + 1) | _ => .ok a j1 : Rr Pt)) = .ok p j := h
    have e1 : lv (.star a) = lv a := rfl
    have e2 : lv (.plus a) = lv a := rfl
    have e3 : lv (.maybe a) = lv a := rfl
    split at h <;> (cases h; omega)
theorem partsP_lv {alt : List Nat → Nat → Rr Pt} (hl : AltLv alt) {t : List Nat} : ∀ {f : Nat} {acc ps : List Pt} {i j : Nat}, partsP alt t f acc i = .ok ps j → lvs ps + i ≤ lvs acc + j ∧ 1 ≤ j + 1
  | 0, _, _, _, _, h => by cases h
  | f + 1, acc, ps, i, j, h => by
    unfold partsP at h
    cases hc : t[i]? with
    | none => rw [hc] at h; cases h; exact ⟨Nat.le_refl _, by omega⟩
    | some c =>
      rw [hc] at h
      dsimp only at h
      split at h
      · cases h; exact ⟨Nat.le_refl _, by omega⟩
      · cases hr : partP alt t i with
        | deep => rw [hr] at h; cases h
        | bad q => rw [hr] at h; cases h
        | ok a j1 =>
          rw [hr] at h
          have h1 := partP_lv hl hr
          have h2 := (partsP_lv hl (f := f) h).1
          rw [lvs_app] at h2
          have e : lvs [a] = lv a + 0 := rfl
          exact ⟨by omega, by omega⟩
theorem partsP_pos {alt : List Nat → Nat → Rr Pt} {t : List Nat} : ∀ {f : Nat} {acc ps : List Pt} {i j : Nat}, partsP alt t f acc i = .ok ps j → acc.length ≤ ps.length
  | 0, _, _, _, _, h => by cases h
  | f + 1, acc, ps, i, j, h => by
    unfold partsP at h
    cases hc : t[i]? with
    | none => rw [hc] at h; cases h; exact Nat.le_refl _
    | some c =>
      rw [hc] at h
      dsimp only at h
      split at h
      · cases h; exact Nat.le_refl _
      · cases hr : partP alt t i with
        | deep => rw [hr] at h; cases h
        | bad q => rw [hr] at h; cases h
        | ok a j1 =>
          rw [hr] at h
          have h2 := partsP_pos (f := f) h
          rw [List.length_append] at h2
          omega
theorem seqP_lv {alt : List Nat → Nat → Rr Pt} (hl : AltLv alt) {t : List Nat} {i j : Nat} {p : Pt} (h : seqP alt t i = .ok p j) : lv p + i ≤ j := by
  unfold seqP at h
  cases hr : partP alt t i with
  | deep => rw [hr] at h; cases h
  | bad q => rw [hr] at h; cases h
  | ok a j1 =>
    rw [hr] at h
    have h1 := partP_lv hl hr
    have h : ((partsP alt t (t.length + 1) [a] j1).then fun ps k => Rr.ok (joinR ps) k) = .ok p j := h
    cases hr2 : partsP alt t (t.length + 1) [a] j1 with
    | deep => rw [hr2] at h; cases h
    | bad q => rw [hr2] at h; cases h
    | ok ps j2 =>
      rw [hr2] at h
      have h2 := (partsP_lv hl hr2).1
      have h3 := partsP_pos hr2
      have h4 := lvs_len ps
      have e : lvs [a] = lv a + 0 := rfl
      cases h
      have h3 : 1 ≤ ps.length := h3
      have := lv_joinR ps (by omega)
      omega
theorem seqsP_lv {alt : List Nat → Nat → Rr Pt} (hl : AltLv alt) {t : List Nat} : ∀ {f : Nat} {acc ps : List Pt} {i j : Nat}, seqsP alt t f acc i = .ok ps j → lvs ps + i ≤ lvs acc + j ∧ acc.length ≤ ps.length
  | 0, _, _, _, _, h => by cases h
  | f + 1, acc, ps, i, j, h => by
    have h : (if t[i]? = some 124 then (seqP alt t (i + 1)).then fun p j => seqsP alt t f (acc ++ [p]) j else .ok acc i) = Rr.ok ps j := h
    split at h
    · cases hr : seqP alt t (i + 1) with
      | deep => rw [hr] at h; cases h
      | bad q => rw [hr] at h; cases h
      | ok a j1 =>
        rw [hr] at h
        have h1 := seqP_lv hl hr
        have h2 := seqsP_lv hl (f := f) h
        rw [lvs_app, List.length_append] at h2
        have e : lvs [a] = lv a + 0 := rfl
        exact ⟨by omega, by omega⟩
    · cases h; exact ⟨Nat.le_refl _, Nat.le_refl _⟩
theorem altP_lv : ∀ n, AltLv (altP n)
  | 0 => fun t i p j h => by cases h
  | n + 1 => fun t i p j h => by
    have hl := altP_lv n
    have h : ((seqP (altP n) t i).then fun p j => (seqsP (altP n) t (t.length + 1) [p] j).then fun ps k => Rr.ok (joinE ps) k) = .ok p j := h
    cases hr : seqP (altP n) t i with
    | deep => rw [hr] at h; cases h
    | bad q => rw [hr] at h; cases h
    | ok a j1 =>
      rw [hr] at h
      have h1 := seqP_lv hl hr
      have h : ((seqsP (altP n) t (t.length + 1) [a] j1).then fun ps k => Rr.ok (joinE ps) k) = .ok p j := h
      cases hr2 : seqsP (altP n) t (t.length + 1) [a] j1 with
      | deep => rw [hr2] at h; cases h
      | bad q => rw [hr2] at h; cases h
      | ok ps j2 =>
        rw [hr2] at h
        have h2 := seqsP_lv hl hr2
        have h4 := lvs_len ps
        have e : lvs [a] = lv a + 0 := rfl
        have h3 : 1 ≤ ps.length := h2.2
        cases h
        have := lv_joinE ps (by omega)
        omega
theorem partsP_succ {alt : List Nat → Nat → Rr Pt} {t : List Nat} {f : Nat} {acc : List Pt} {i : Nat} : partsP alt t (f + 1) acc i = match t[i]? with
    | none => .ok acc i
    | some c => if c = 124 ∨ c = 41 then .ok acc i else (partP alt t i).then fun p j => partsP alt t f (acc ++ [p]) j := rfl
theorem sg_two {t : List Nat} {j : Nat} : (¬ S ((t.drop j).take 1) = "") ↔ t[j]? ≠ none := by
  cases hc : t[j]? with
  | none => rw [sg_none hc]; simp
  | some c => rw [sg_some hc]; exact ⟨fun _ z => (nomatch z), fun _ => one_ne c⟩
theorem r_PatternReader_sequence {n : Nat} : ∀ ws st k ex, pf_seq n ws st k ex → (t_PatternReader_sequence n) (EnD false st.length k ex) (startD N_PatternReader_sequence ws) st := by
  intro ws st k ex h
  unfold pf_seq at h
  split at h
  · obtain ⟨t, i, rfl, hA, hk⟩ := h
    unfold seqP at hk
    refine ⟨⟨rfl, rfl⟩, call_part2 hA (ans_cases (fun z => ?_) (fun q z => ?_) fun a j z => ?_)⟩
    · rw [z] at hk; exact hk
    · rw [z] at hk; exact fun j' => hk j'
    · rw [z] at hk
      have hk : ansR t eP ((partsP (altP n) t (t.length + 1) [a] j).then fun ps k => Rr.ok (joinR ps) k) k ex := hk
      have hj := partP_at (altP_at n) z
      have hl := partP_lv (altP_lv n) z
      refine ⟨by simp, fun f σ' st' => ∃ acc j', partsP (altP n) t f acc j' = partsP (altP n) t (t.length + 1) [a] j ∧ At t j' ∧ lvs acc ≤ j' ∧ σ' = [some (.loc 0), some (.loc 1)] ∧ st' = [rd t j', .lst (acc.map eP)], ⟨t.length + 1, [a], j, rfl, ⟨hj.2, hA.2⟩, by show lv a + 0 ≤ j; omega, rfl, rfl⟩, ?_⟩
      rintro f σ' st' ⟨acc, j', hR, hA', hle, rfl, rfl⟩ -
      rw [← hR] at hk
      refine ⟨⟨rfl, rfl⟩, call_sign2 hA' ?_⟩
      cases f with
      | zero => exact hk.elim
      | succ f =>
        have done : ansR t eP (.ok (joinR acc) j') k ex → sRet (dCall pf_joined (aCons (dI (dC (.str "row"))) (aCons (dI (dD (dV 1))) aNil))) (EnD false 1 k ex) [some (.loc 0), some (.loc 1)] [rd t j', .lst (acc.map eP)] := fun hk => by
          have h1 := len_R acc
          have h2 := lvs_len acc
          have h3 := hA'.1
          have h4 := hA'.2
          exact call_joined (hd := "row") (by omega) (.inl ⟨rfl, by omega, rfl⟩) hk
        cases hc : t[j']? with
        | none =>
          have e : partsP (altP n) t (f + 1) acc j' = .ok acc j' := by rw [partsP_succ, hc]
          rw [e] at hk
          rw [sg_none hc]
          walk_at "s"
          walk_at "s"
          exact done hk
        | some c =>
          have e : partsP (altP n) t (f + 1) acc j' = if c = 124 ∨ c = 41 then .ok acc j' else (partP (altP n) t j').then fun p j => partsP (altP n) t f (acc ++ [p]) j := by rw [partsP_succ, hc]
          rw [e] at hk hR
          rw [sg_some hc]
          refine notN (one_ne c) ⟨⟨rfl, rfl⟩, call_sign2 hA' ?_⟩
          rw [sg_some hc]
          by_cases h3 : c = 124 ∨ c = 41
          · rw [if_pos h3] at hk
            refine notY (p := c ∈ ((("|)" : Str)).cps.toList)) (by rw [ends_eq]; simpa using h3) ?_
            exact done hk
          · rw [if_neg h3] at hk hR
            refine notN (p := c ∈ ((("|)" : Str)).cps.toList)) (by rw [ends_eq]; simpa using h3) ⟨⟨_, rfl⟩, ⟨rfl, rfl⟩, call_part2 hA' (ans_cases (fun z => ?_) (fun q z => ?_) fun m' j2 z => ?_)⟩
            · rw [z] at hk; exact hk
            · rw [z] at hk; exact fun j' => hk j'
            · rw [z] at hk hR
              have hj2 := partP_at (altP_at n) z
              have hl2 := partP_lv (altP_lv n) z
              have hla := lvs_len acc
              have h4 := hA'.1
              have h5 := hA'.2
              refine ⟨by rw [List.length_map]; omega, f, Nat.lt_succ_self f, acc ++ [m'], j2, hR, ⟨hj2.2, hA.2⟩, by rw [lvs_app]; show lvs acc + (lv m' + 0) ≤ j2; omega, rfl, ?_⟩
              rw [List.map_append]
              rfl
  · exact h.elim
theorem r_PatternReader_alternatives {n : Nat} : ∀ ws st k ex, pf_alts (n + 1) ws st k ex → (t_PatternReader_alternatives n) (EnD false st.length k ex) (startD N_PatternReader_alternatives ws) st := by
  intro ws st k ex h
  unfold pf_alts at h
  split at h
  · obtain ⟨t, i, rfl, hA, hk⟩ := h
    have hk : ansR t eP ((seqP (altP n) t i).then fun p j => (seqsP (altP n) t (t.length + 1) [p] j).then fun ps k => Rr.ok (joinE ps) k) k ex := hk
    refine ⟨⟨rfl, rfl⟩, call_seq2 hA (ans_cases (fun z => ?_) (fun q z => ?_) fun a j z => ?_)⟩
    · rw [z] at hk; exact hk
    · rw [z] at hk; exact fun j' => hk j'
    · rw [z] at hk
      have hk : ansR t eP ((seqsP (altP n) t (t.length + 1) [a] j).then fun ps k => Rr.ok (joinE ps) k) k ex := hk
      have hj := seqP_at (altP_at n) z
      have hl := seqP_lv (altP_lv n) z
      refine ⟨by simp, fun f σ' st' => ∃ acc j', seqsP (altP n) t f acc j' = seqsP (altP n) t (t.length + 1) [a] j ∧ At t j' ∧ lvs acc ≤ j' ∧ σ' = [some (.loc 0), some (.loc 1)] ∧ st' = [rd t j', .lst (acc.map eP)], ⟨t.length + 1, [a], j, rfl, ⟨hj.2, hA.2⟩, by show lv a + 0 ≤ j; omega, rfl, rfl⟩, ?_⟩
      rintro f σ' st' ⟨acc, j', hR, hA', hle, rfl, rfl⟩ -
      rw [← hR] at hk
      refine ⟨⟨rfl, rfl⟩, call_sign2 hA' ?_⟩
      have h1 := len_E acc
      have h2 := lvs_len acc
      have h3 := hA'.1
      have h4 := hA'.2
      cases f with
      | zero => exact hk.elim
      | succ f =>
        have e : seqsP (altP n) t (f + 1) acc j' = if t[j']? = some 124 then (seqP (altP n) t (j' + 1)).then fun p j => seqsP (altP n) t f (acc ++ [p]) j else .ok acc j' := rfl
        rw [e] at hk hR
        show two (decide (S ((t.drop j').take 1) = "|")) _ _
        rw [dec_iff sg_bar]
        by_cases hc : t[j']? = some 124
        · have hi := (List.getElem?_eq_some_iff.mp hc).1
          rw [if_pos hc] at hk hR
          refine yesD hc ⟨rfl, rfl, (by show 2 < 1000; decide), ⟨_, rfl⟩, ⟨rfl, rfl⟩, call_seq2 (i := j' + 1) ⟨by omega, hA.2⟩ (ans_cases (fun z => ?_) (fun q z => ?_) fun m' j2 z => ?_)⟩
          · rw [z] at hk; exact hk
          · rw [z] at hk; exact fun j' => hk j'
          · rw [z] at hk hR
            have hj2 := seqP_at (altP_at n) z
            have hl2 := seqP_lv (altP_lv n) z
            refine ⟨by rw [List.length_map]; omega, f, Nat.lt_succ_self f, acc ++ [m'], j2, hR, ⟨hj2.2, hA.2⟩, by rw [lvs_app]; show lvs acc + (lv m' + 0) ≤ j2; omega, rfl, ?_⟩
            rw [List.map_append]
            rfl
        · rw [if_neg hc] at hk
          refine noD hc ?_
          exact call_joined (hd := "either") (by omega) (.inr ⟨rfl, by omega, rfl⟩) hk
  · exact h.elim
def rpT : DS :=
 (sSeq (sIf (dCmp cLt (dFld "PatternReader" "at" (dV 1)) (dI (dCB fLen (aCons (dV 0) aNil)))) (sRaise1 "BadPattern" "position" (dD (dFld "PatternReader" "at" (dV 1)))) sNext)
 (sRet (dV 2)))
theorem rpT_ok {t : List Nat} {a : Pt} {j : Nat} {k : W → Sto → Prop} {ex : DX} (hl : t.length ≤ 100000) (hk : if j < t.length then ex "BadPattern" [("position", .int (j : Nat))] [] else k (.im (eP a)) []) :
    rpT (EnD false 0 k ex) [some (.im (.str (S t))), some (.loc 0), some (.im (eP a))] [rd t j] := by
  refine ⟨rfl, S_le hl (by omega), ?_⟩
  show two (decide ((j : Int) < ((S t).length : Int))) _ _
  rw [S_len, dec_iff (q := j < t.length) (by omega)]
  by_cases z2 : j < t.length
  · rw [if_pos z2] at hk
    exact yesD z2 ⟨rfl, hk⟩
  · rw [if_neg z2] at hk
    exact noD z2 hk
theorem r_read_pattern : ∀ ws st k ex, pf_read_pattern ws st k ex → t_read_pattern (EnD false st.length k ex) (startD N_read_pattern ws) st := by
  intro ws st k ex h
  unfold pf_read_pattern at h
  split at h
  · obtain ⟨t, rfl, hl, hk⟩ := h
    have hA : At t 0 := ⟨Nat.zero_le _, hl⟩
    have key : (sSeq (sAsg 2 (dMeth "PatternReader" "alternatives" (pf_alts 20) (dV 1) aNil)) rpT) (EnD false 0 k ex) [some (.im (.str (S t))), some (.loc 0), none] [rd t 0] := by
      refine ⟨⟨rfl, rfl⟩, call_alt2 hA (ans_cases (fun z => ?_) (fun q z => ?_) fun a j z => ?_)⟩
      · rw [z] at hk; exact hk
      · rw [z] at hk; exact fun _ => hk
      · rw [z] at hk
        exact rpT_ok hl hk
    exact ⟨rfl, t, rfl, rfl, rfl, key⟩
  · exact h.elim
end Dl.Pt
end

section
set_option maxHeartbeats 4000000
namespace Dl.Pt
open PySem PySem.Spec PyProof.Rows L2 Co PySem.StrLaws
local macro_rules | `(tactic| walk_at "s") => `(tactic| first | refine twoT ?_ | refine twoF ?_ | refine yesD rfl ?_ | refine noD (by decide) ?_)
def flT : DS := (sRet (dI (dTup (adCons (dD (dV 0)) (adCons (dCB fTuple (aCons (dV 2) aNil)) adNil)))))
def flB : DS := (sIf (dCmp cEq (dI (dIx (dV 3) (dC (.int 0)))) (dV 0)) (sAsg 2 (dAddM (dV 2) (dI (dCB fList (aCons (dI (dIx (dV 3) (dC (.int 1)))) aNil))))) (sApp (dV 2) (dD (dV 3))))
theorem flat_run {fl : List Pt → List Pt} {mk : List Pt → Pt} {hd : Str} (app : ∀ a b, fl (a ++ b) = fl a ++ fl b) (nil : fl [] = []) (hmk : ∀ qs, eP (mk qs) = .tup [.str hd, .tup (ePs qs)])
    (step : ∀ (p : Pt) (acc : List D) (pre : Sto) (par : D) (E : En), acc.length + (fl [p]).length ≤ 1000 → (∀ pre', E.nx [some (.im (.str hd)), some (.im par), some (.loc pre'.length), some (.im (eP p))] (pre' ++ [.lst (acc ++ (fl [p]).map eP)])) →
      flB E [some (.im (.str hd)), some (.im par), some (.loc pre.length), some (.im (eP p))] (pre ++ [.lst acc]))
    {ps : List Pt} {k : W → Sto → Prop} {ex : DX} (hl : (fl ps).length ≤ 1000) (hk : k (.im (eP (mk (fl ps)))) []) :
    t_Lflat (EnD false 0 k ex) (startD N_Lflat [.im (.str hd), .im (.lst (ps.map eP))]) [] := by
  refine ⟨by simp, fun i σ' st' => ∃ z pre, σ' = [some (.im (.str hd)), some (.im (.lst (ps.map eP))), some (.loc pre.length), z] ∧ st' = pre ++ [.lst ((fl (ps.take i)).map eP)], ⟨none, [], rfl, by rw [List.take_zero, nil]; rfl⟩, ?_, ?_⟩
  · rintro i d σ' st' hd' ⟨z, pre, rfl, rfl⟩ -
    rw [List.getElem?_map] at hd'
    cases hb : ps[i]? with
    | none => rw [hb] at hd'; cases hd'
    | some p =>
      rw [hb] at hd'
      cases hd'
      have e := app (ps.take i) [p]
      rw [← getD_take hb] at e
      have l := flat_le app ps (i + 1)
      rw [e, List.length_append] at l
      refine step p _ pre _ _ (by rw [List.length_map]; omega) fun pre' => ⟨some (.im (eP p)), pre', rfl, ?_⟩
      rw [e, List.map_append]
  · rintro σ' st' ⟨z, pre, rfl, rfl⟩ -
    rw [List.length_map, List.take_length]
    rw [hmk, ePs_eq] at hk
    show flT (EnD false 0 k ex) [some (.im (.str hd)), some (.im (.lst (ps.map eP))), some (.loc pre.length), z] (pre ++ [.lst ((fl ps).map eP)])
    refine tup2_at (k := fun d st1 => (EnD false 0 k ex).rt (.im d) st1) (d := .str hd) (e := .tup ((fl ps).map eP)) (fun k hk => hk) (fun k hk => cbTuple_at (n := pre.length) rfl (app_get _ _) hk) ?_
    exact hk
theorem flB_app {acc : List D} {pre : Sto} {par : D} {E : En} {p : Pt} {hd : Str} (hl : acc.length + 1 ≤ 1000) (hk : ∀ pre', E.nx [some (.im (.str hd)), some (.im par), some (.loc pre'.length), some (.im (eP p))] (pre' ++ [.lst (acc ++ [eP p])])) :
    sApp (dV 2) (dD (dV 3)) E [some (.im (.str hd)), some (.im par), some (.loc pre.length), some (.im (eP p))] (pre ++ [.lst acc]) := by
  refine sApp_at (n := pre.length) (d := eP p) rfl (app_get _ _) (fun k hk => hk) (by omega) ?_
  rw [app_set]
  exact hk pre
theorem flB_ext {acc : List D} {pre : Sto} {par : D} {E : En} {p : Pt} {qs : List Pt} {hd h2 : Str} (hp : eP p = .tup [.str h2, .tup (ePs qs)]) (hl : acc.length + qs.length ≤ 1000) (hk : ∀ pre', E.nx [some (.im (.str hd)), some (.im par), some (.loc pre'.length), some (.im (eP p))] (pre' ++ [.lst (acc ++ qs.map eP)])) :
    sAsg 2 (dAddM (dV 2) (dI (dCB fList (aCons (dI (dIx (dV 3) (dC (.int 1)))) aNil)))) E [some (.im (.str hd)), some (.im par), some (.loc pre.length), some (.im (eP p))] (pre ++ [.lst acc]) := by
  refine dAddM_at (n := pre.length) (ys := qs.map eP) rfl (app_get _ _) (fun k hk => ?_) (by rw [List.length_map]; omega) ?_
  · rw [hp, ePs_eq]
    exact hk
  · exact hk (pre ++ [.lst acc])
theorem r_Lflat : ∀ ws st k ex, pf_Lflat ws st k ex → t_Lflat (EnD false st.length k ex) (startD N_Lflat ws) st := by
  intro ws st k ex h
  unfold pf_Lflat at h
  split at h
  · obtain ⟨ps, rfl, hl, ⟨rfl, h1, hk⟩ | ⟨rfl, h1, hk⟩⟩ := h
    · refine flat_run (fl := flatR) (mk := .row) flatR_app rfl (fun qs => rfl) (fun p acc pre par E hle hE => ?_) h1 hk
      cases p with
      | row qs =>
        have e : flatR [.row qs] = qs := List.append_nil _
        rw [e] at hle hE
        refine twoT (flB_ext rfl hle hE)
      | _ => exact twoF (flB_app hle hE)
    · refine flat_run (fl := flatE) (mk := .either) flatE_app rfl (fun qs => rfl) (fun p acc pre par E hle hE => ?_) h1 hk
      cases p with
      | either qs =>
        have e : flatE [.either qs] = qs := List.append_nil _
        rw [e] at hle hE
        refine twoT (flB_ext rfl hle hE)
      | _ => exact twoF (flB_app hle hE)
  · exact h.elim
end Dl.Pt
end

section
set_option maxHeartbeats 4000000
namespace Dl
open PySem PySem.Spec PyProof.Rows L2 Co
section
variable {σ : Sl} {st : Sto} {E : En} {ex : DX}
theorem sIf_of {c : DT} {t u : DS} (h : c σ st (fun b st1 => two b (t E σ st1) (u E σ st1)) (exE E σ)) : sIf c t u E σ st := h
theorem sSeq_of {t u : DS} (h : t { E with nx := fun σ' st' => u E σ' st' } σ st) : sSeq t u E σ st := h
theorem sAsg_of {i : Nat} {t : DW} (h : t σ st (fun w st1 => E.nx (σ.set i (some w)) st1) (exE E σ)) : sAsg i t E σ st := h
theorem sAsgG_of {t : DD} {g : DG} (h : t σ st (fun d st1 => g d σ fun σ' => E.nx σ' st1) (exE E σ)) : sAsgG t g E σ st := h
theorem sRet_of {t : DW} (h : t σ st (fun w st1 => E.rt w st1) (exE E σ)) : sRet t E σ st := h
theorem sDrop_of {t : DW} (h : t σ st (fun _ st1 => E.nx σ st1) (exE E σ)) : sDrop t E σ st := h
theorem dI_of {t : DD} {k : W → Sto → Prop} (h : t σ st (fun d st1 => k (.im d) st1) ex) : dI t σ st k ex := h
theorem dC_of {d : D} {k : D → Sto → Prop} (h : k d st) : dC d σ st k ex := h
theorem dCmp_of {f : C2} {ta tb : DW} {k : Bool → Sto → Prop} (h : ta σ st (fun x st1 => tb σ st1 (fun y st2 => match seeW x st2, seeW y st2 with
  | some d, some e => f d e fun b => k b st2
  | _, _ => False) ex) ex) : dCmp f ta tb σ st k ex := h
theorem dIx_of {ta : DW} {ti : DD} {k : D → Sto → Prop} (h : ta σ st (fun w st1 => ti σ st1 (fun i st2 => match seeW w st2 with
  | some x => atD x i fun d => k d st2
  | none => False) ex) ex) : dIx ta ti σ st k ex := h
theorem dOp_of {f : F2} {ta tb : DD} {k : D → Sto → Prop} (h : ta σ st (fun x st1 => tb σ st1 (fun y st2 => f x y fun d => k d st2) ex) ex) : dOp f ta tb σ st k ex := h
theorem dUn_of {f : D → (D → Prop) → Prop} {ta : DD} {k : D → Sto → Prop} (h : ta σ st (fun x st1 => f x fun d => k d st1) ex) : dUn f ta σ st k ex := h
theorem dB_of {t : DT} {k : D → Sto → Prop} (h : t σ st (fun b st1 => k (.bl b) st1) ex) : dB t σ st k ex := h
theorem dNot_of {t : DT} {k : Bool → Sto → Prop} (h : t σ st (fun b st1 => k (!b) st1) ex) : dNot t σ st k ex := h
theorem dAnd_of {t u : DT} {k : Bool → Sto → Prop} (h : t σ st (fun b st1 => two b (u σ st1 k ex) (k false st1)) ex) : dAnd t u σ st k ex := h
theorem dOr_of {t u : DT} {k : Bool → Sto → Prop} (h : t σ st (fun b st1 => two b (k true st1) (u σ st1 k ex)) ex) : dOr t u σ st k ex := h
theorem dIfE_of {α : Type} {c : DT} {t u : Lv α} {k : α → Sto → Prop} (h : c σ st (fun b st1 => two b (t σ st1 k ex) (u σ st1 k ex)) ex) : dIfE c t u σ st k ex := h
theorem dTup_of {t : DAD} {k : D → Sto → Prop} (h : t σ st (fun ds st1 => ds.length ≤ 1000000 ∧ k (.tup ds) st1) ex) : dTup t σ st k ex := h
theorem dLst_of {t : DAD} {k : D → Sto → Prop} (h : t σ st (fun ds st1 => ds.length ≤ 1000000 ∧ k (.lst ds) st1) ex) : dLst t σ st k ex := h
theorem dLstM_of {t : DAD} {k : W → Sto → Prop} (h : t σ st (fun ds st1 => ds.length ≤ 1000000 ∧ k (.loc st1.length) (st1 ++ [.lst ds])) ex) : dLstM t σ st k ex := h
theorem adCons_of {t : DD} {r : DAD} {k : List D → Sto → Prop} (h : t σ st (fun w st1 => r σ st1 (fun ws st2 => k (w :: ws) st2) ex) ex) : adCons t r σ st k ex := h
theorem adNil_of {k : List D → Sto → Prop} (h : k [] st) : adNil σ st k ex := h
theorem aCons_of {t : DW} {r : DA} {k : List W → Sto → Prop} (h : t σ st (fun w st1 => r σ st1 (fun ws st2 => k (w :: ws) st2) ex) ex) : aCons t r σ st k ex := h
theorem aNil_of {k : List W → Sto → Prop} (h : k [] st) : aNil σ st k ex := h
theorem dCall_of {f : Pf} {ta : DA} {k : W → Sto → Prop} (h : ta σ st (fun ws st1 => callD f (reach st1 ws) ws st1 k ex) ex) : dCall f ta σ st k ex := h
theorem dTru_of {t : DW} {k : Bool → Sto → Prop} (h : t σ st (fun w st1 => match seeW w st1 with
  | some d => truD d fun b => k b st1
  | none => False) ex) : dTru t σ st k ex := h
theorem dCB_of {f : FL} {ta : DA} {k : D → Sto → Prop} (h : ta σ st (fun ws st1 => match seeWs ws st1 with
  | some ds => f ds fun d => k d st1
  | none => False) ex) : dCB f ta σ st k ex := h
end
end Dl
namespace Dl
open PySem PySem.Spec PyProof.Rows L2 Co
section
variable {σ : Sl} {st : Sto} {E : En} {ex : DX}
theorem sSetL_of {to : DW} {ti t : DD} (h : t σ st (fun v st1 => to σ st1 (fun o st2 => ti σ st2 (fun i st3 => match o, i with
  | .loc n, .int j => (match st3[n]? with
    | some (.lst ds) => (match ixN ds.length j with
      | some m => E.nx σ (st3.set n (.lst (ds.set m v)))
      | none => False)
    | _ => False)
  | _, _ => False) (exE E σ)) (exE E σ)) (exE E σ)) : sSetL to ti t E σ st := h
theorem sApp_of {to : DW} {t : DD} (h : to σ st (fun o st1 => (∃ ds, seeW o st1 = some (.lst ds)) ∧ t σ st1 (fun d st2 => match o with
  | .loc n => (match st2[n]? with
    | some (.lst ds) => ds.length ≤ 1000000 ∧ E.nx σ (st2.set n (.lst (ds ++ [d])))
    | _ => False)
  | _ => False) (exE E σ)) (exE E σ)) : sApp to t E σ st := h
theorem ixN_last {α : Type} (l : List α) (x : α) : ixN (l ++ [x]).length (-1) = some l.length := by
  unfold ixN
  rw [List.length_append, List.length_singleton, if_neg (by omega), if_pos (by omega)]
  congr 1
  omega
theorem atI_last {α : Type} (l : List α) (x : α) : atI (l ++ [x]) (-1) = some x := by
  unfold atI
  rw [ixN_last]
  show (l ++ [x])[l.length]? = some x
  simp
theorem set_last {α : Type} (l : List α) (x y : α) : (l ++ [x]).set l.length y = l ++ [y] := by
  rw [List.set_append_right _ _ (Nat.le_refl _), Nat.sub_self]
  rfl
theorem atD_last {l : List D} {x : D} {k : D → Prop} (hk : k x) : atD (.lst (l ++ [x])) (.int (-1)) k := by
  show (match atI (l ++ [x]) (-1) with | some d => k d | none => False)
  rw [atI_last]
  exact hk
end
end Dl
namespace Dl
open PySem PySem.Spec PyProof.Rows L2 Co
theorem atT0 {x : D} {r : List D} {k : D → Prop} (h : k x) : atD (.tup (x :: r)) (.int 0) k := by
  show (match atI (x :: r) ((0 : Nat) : Int) with | some d => k d | none => False)
  rw [atI_nat (v := x) rfl]
  exact h
theorem atT1 {x y : D} {r : List D} {k : D → Prop} (h : k y) : atD (.tup (x :: y :: r)) (.int 1) k := by
  show (match atI (x :: y :: r) ((1 : Nat) : Int) with | some d => k d | none => False)
  rw [atI_nat (v := y) rfl]
  exact h
end Dl
namespace Dl
theorem sNext_of {E : En} {σ : Sl} {st : Sto} (h : E.nx σ st) : sNext E σ st := h
theorem sNext_seq {u : DS} {E : En} {σ : Sl} {st : Sto} (h : u E σ st) : sNext { E with nx := fun σ' st' => u E σ' st' } σ st := h
end Dl
end

section
set_option maxHeartbeats 4000000
namespace Dl.Pt
open PySem PySem.Spec PyProof.Rows L2 Co PySem.StrLaws
local macro_rules | `(tactic| walk_at "s") => `(tactic| first | refine twoT ?_ | refine twoF ?_ | refine yesD rfl ?_ | refine noD (by decide) ?_)
theorem nl_eq : (("\n" : Str)) = ⟨#[10]⟩ := by decide +kernel
theorem bsn_eq : (("\\n" : Str)) = S [92, 110] := by decide +kernel
theorem S_one (c : Nat) : (⟨#[c]⟩ : Str) = S [c] := rfl
theorem sz1000 : 1000 ≤ sizeLine := by rw [sizeLine_eq]; decide
theorem r_Lescaped : ∀ ws st k ex, pf_Lescaped ws st k ex → t_Lescaped (EnD false st.length k ex) (startD N_Lescaped ws) st := by
  intro ws st k ex h
  unfold pf_Lescaped at h
  split at h
  · obtain ⟨c, bs, rfl, rfl, hl, hk⟩ := h
    unfold escL at hk
    by_cases h1 : c = 10
    · subst h1
      rw [if_pos rfl, ← bsn_eq] at hk
      walk_at "s"
      exact hk
    · rw [if_neg h1] at hk
      refine noD (fun z => h1 (one_inj (z.trans nl_eq))) ?_
      by_cases h2 : c ∈ bs
      · rw [if_pos h2] at hk
        have e : (("\\" : Str)) ++ (⟨#[c]⟩ : Str) = S [92, c] := by rw [bs_eq]; exact S_app [92] [c]
        rw [← e] at hk
        refine yesD (p := c ∈ bs) h2 ⟨?_, hk⟩
        rw [bs_eq]
        exact Nat.le_trans (show 1 + 1 ≤ 1000 by decide) sz1000
      · rw [if_neg h2] at hk
        exact noD (p := c ∈ bs) h2 hk
  · exact h.elim
theorem call_esc {c : Nat} {bs : List Nat} {st : Sto} {k : W → Sto → Prop} {ex : DX} (hl : bs.length ≤ 1000) (hk : k (.im (.str (S (escL bs c)))) st) : callD pf_Lescaped [] [.im (.str ⟨#[c]⟩), .im (.str (S bs))] st k ex := ⟨rfl, c, bs, rfl, rfl, hl, hk⟩
theorem alph_sz : (S alph).length ≤ sizeLine := Nat.le_trans (show 95 ≤ 1000 by decide) sz1000
theorem alph_at {r : Int} (h0 : 0 ≤ r) (h1 : r < 95) {k : D → Prop} (hk : ∀ c, alph[r.toNat]? = some c → k (.str ⟨#[c]⟩)) : atD (.str (S alph)) (.int r) k := by
  have hl : alph.length = 95 := by decide
  have hi : r.toNat < alph.length := by omega
  refine ⟨alph_sz, ?_⟩
  show (match atI alph r with | some c => k (.str ⟨#[c]⟩) | none => False)
  rw [atNat h0 (List.getElem?_eq_getElem hi)]
  exact hk _ (List.getElem?_eq_getElem hi)
def RunI (i : Nat) (a : List (Nat × Nat) × Int) : Prop := a.1.length ≤ i ∧ (a.2 = -5 ∨ (0 ≤ a.2 ∧ a.2 < i ∧ a.1 ≠ []))
def runB : DS := (sIf (dCmp cIn (dI (dIx (dV 1) (dD (dV 4)))) (dV 0)) (sSeq (sIf (dCmp cEq (dV 3) (dI (dOp fSub (dD (dV 4)) (dC (.int 1))))) (sSetL (dV 2) (dUn fNeg (dC (.int 1))) (dTup (adCons (dIx (dI (dIx (dV 2) (dUn fNeg (dC (.int 1))))) (dC (.int 0))) (adCons (dIx (dV 1) (dD (dV 4))) adNil)))) (sApp (dV 2) (dTup (adCons (dIx (dV 1) (dD (dV 4))) (adCons (dIx (dV 1) (dD (dV 4))) adNil)))))
 (sAsg 3 (dV 4))) sNext)
theorem runB_ok {cs : List Nat} {a : List (Nat × Nat) × Int} {i : Nat} {E : En} (hi : i < 95) (hI : RunI i a)
    (hk : RunI (i + 1) (runStep cs a i) → E.nx [some (.im (.str (S cs))), some (.im (.str (S alph))), some (.loc 0), some (.im (.int (runStep cs a i).2)), some (.im (.int (i : Int)))] [.lst ((runStep cs a i).1.map eM)]) :
    runB E [some (.im (.str (S cs))), some (.im (.str (S alph))), some (.loc 0), some (.im (.int a.2)), some (.im (.int (i : Int)))] [.lst (a.1.map eM)] := by
  obtain ⟨rs, last⟩ := a
  have at_ : ∀ {k : D → Prop} (c : Nat), alph[i]? = some c → k (.str ⟨#[c]⟩) → atD (.str (S alph)) (.int (i : Int)) k := fun c hc hk => alph_at (by omega) (by omega) fun c' hc' => by
    have hc' : alph[i]? = some c' := hc'
    rw [hc] at hc'
    cases hc'
    exact hk
  have hl : alph.length = 95 := by decide
  cases hc : alph[i]? with
  | none => exact absurd hc (by rw [List.getElem?_eq_getElem (by omega)]; exact fun z => nomatch z)
  | some c =>
    have e : runStep cs (rs, last) i = if c ∈ cs then (if last = (i : Int) - 1 then (rs.dropLast ++ [((rs.getLastD (0, 0)).1, c)], (i : Int)) else (rs ++ [(c, c)], (i : Int))) else (rs, last) := by unfold runStep; rw [hc]
    rw [e] at hk
    obtain ⟨h1, h2⟩ := hI
    have h1 : rs.length ≤ i := h1
    refine sIf_of (dCmp_of (dI_of (dIx_of (dV_at rfl (dD_at rfl ?_)))))
    show atD (.str (S alph)) (.int (i : Int)) _
    refine at_ c hc ?_
    by_cases hm : c ∈ cs
    · rw [if_pos hm] at hk
      refine yesD (p := c ∈ cs) hm ?_
      by_cases hl : last = (i : Int) - 1
      · rw [if_pos hl] at hk
        refine yesD hl ?_
        have hne : rs ≠ [] := by
          rcases h2 with h2 | ⟨_, _, h2⟩
          · have h2 : last = -5 := h2
            omega
          · exact h2
        obtain ⟨r0, m, rfl⟩ : ∃ r0 m, rs = r0 ++ [m] := ⟨rs.dropLast, rs.getLast hne, (List.dropLast_concat_getLast hne).symm⟩
        have e1 : (r0 ++ [m]).dropLast = r0 := by simp
        have e2 : (r0 ++ [m]).getLastD (0, 0) = m := by simp
        rw [e1, e2] at hk
        rw [List.length_append, List.length_singleton] at h1
        rw [List.map_append]
        refine sSetL_of (dTup_of (adCons_of (dIx_of (dI_of (dIx_of (dV_at rfl (dUn_of (dC_of ?_))))))))
        show atD (.lst (r0.map eM ++ [eM m])) (.int (-1)) _
        refine atD_last (dC_of ?_)
        show atD (eM m) (.int 0) _
        refine atT0 ?_
        refine adCons_of (dIx_of (dV_at rfl (dD_at rfl ?_)))
        show atD (.str (S alph)) (.int (i : Int)) _
        refine at_ c hc ⟨by show 2 ≤ 1000000; decide, ?_⟩
        show (match ixN (r0.map eM ++ [eM m]).length (-1) with | some j => _ | none => False)
        rw [ixN_last]
        have := hk ⟨by show (r0 ++ [_]).length ≤ _; rw [List.length_append, List.length_singleton]; omega, .inr ⟨Int.natCast_nonneg i, (show (i : Int) < ((i + 1 : Nat) : Int) from by omega), by simp⟩⟩
        rw [List.map_append] at this
        show E.nx _ [.lst ((r0.map eM ++ [eM m]).set (r0.map eM).length _)]
        rw [set_last]
        exact this
      · rw [if_neg hl] at hk
        refine noD hl ⟨⟨_, rfl⟩, dTup_of (adCons_of (dIx_of (dV_at rfl (dD_at rfl ?_))))⟩
        show atD (.str (S alph)) (.int (i : Int)) _
        refine at_ c hc (adCons_of (dIx_of (dV_at rfl (dD_at rfl ?_))))
        show atD (.str (S alph)) (.int (i : Int)) _
        refine at_ c hc ⟨by show 2 ≤ 1000000; decide, ?_, ?_⟩
        · rw [List.length_map]; omega
        · have := hk ⟨by show (rs ++ [_]).length ≤ _; rw [List.length_append, List.length_singleton]; omega, .inr ⟨Int.natCast_nonneg i, (show (i : Int) < ((i + 1 : Nat) : Int) from by omega), by simp⟩⟩
          rw [List.map_append] at this
          exact this
    · rw [if_neg hm] at hk
      refine noD (p := c ∈ cs) hm ?_
      refine hk ⟨Nat.le_succ_of_le h1, ?_⟩
      rcases h2 with h2 | ⟨a1, a2, a3⟩
      · exact .inl h2
      · exact .inr ⟨a1, Int.lt_trans a2 (by omega), a3⟩
def runT : DS :=
 (sSeq (sAsg 2 (dLstM adNil))
 (sSeq (sAsg 3 (dI (dUn fNeg (dC (.int 5)))))
 (sSeq (sFor (iRg1 (dC (.int 95))) (gN 4)
 runB)
 (sRet (dV 2)))))
theorem runs_step (cs : List Nat) (i : Nat) : ((List.range (i + 1)).foldl (runStep cs) ([], -5)) = runStep cs ((List.range i).foldl (runStep cs) ([], -5)) i := by
  rw [List.range_succ, List.foldl_append]
  rfl
end Dl.Pt
end

section
set_option maxHeartbeats 4000000
namespace Dl.Pt
open PySem PySem.Spec PyProof.Rows L2 Co PySem.StrLaws
local macro_rules | `(tactic| walk_at "s") => `(tactic| first | refine twoT ?_ | refine twoF ?_ | refine yesD rfl ?_ | refine noD (by decide) ?_)
theorem runI_all (cs : List Nat) : ∀ i, RunI i ((List.range i).foldl (runStep cs) ([], -5))
  | 0 => ⟨Nat.le_refl _, .inl rfl⟩
  | i + 1 => by
    rw [runs_step]
    obtain ⟨h1, h2⟩ := runI_all cs i
    generalize (List.range i).foldl (runStep cs) ([], -5) = a at h1 h2
    obtain ⟨rs, last⟩ := a
    have h1 : rs.length ≤ i := h1
    have h0 : (0 : Int) ≤ (i : Nat) := Int.natCast_nonneg i
    have hi : ((i : Nat) : Int) < ((i + 1 : Nat) : Int) := by omega
    unfold runStep
    cases hc : alph[i]? with
    | none =>
      refine ⟨Nat.le_succ_of_le h1, ?_⟩
      rcases h2 with h2 | ⟨a1, a2, a3⟩
      · exact .inl h2
      · exact .inr ⟨a1, Int.lt_trans a2 hi, a3⟩
    | some c =>
      dsimp only
      by_cases hm : c ∈ cs
      · rw [if_pos hm]
        by_cases hl : last = (i : Int) - 1
        · rw [if_pos hl]
          refine ⟨?_, .inr ⟨h0, hi, by simp⟩⟩
          show (rs.dropLast ++ [_]).length ≤ i + 1
          rw [List.length_append, List.length_dropLast, List.length_singleton]
          omega
        · rw [if_neg hl]
          refine ⟨?_, .inr ⟨h0, hi, by simp⟩⟩
          show (rs ++ [_]).length ≤ i + 1
          rw [List.length_append, List.length_singleton]
          omega
      · rw [if_neg hm]
        refine ⟨Nat.le_succ_of_le h1, ?_⟩
        rcases h2 with h2 | ⟨a1, a2, a3⟩
        · exact .inl h2
        · exact .inr ⟨a1, Int.lt_trans a2 hi, a3⟩
theorem runs_le (cs : List Nat) : (runs cs).length ≤ 95 := (runI_all cs 95).1
theorem runT_ok {cs : List Nat} {k : W → Sto → Prop} {ex : DX} (hk : k (.im (.lst ((runs cs).map eM))) []) :
    runT (EnD false 0 k ex) [some (.im (.str (S cs))), some (.im (.str (S alph))), none, none, none] [] := by
  refine ⟨by simp, ?_⟩
  refine ⟨by decide, by decide, fun i σ' st' => ∃ z, σ' = [some (.im (.str (S cs))), some (.im (.str (S alph))), some (.loc 0), some (.im (.int ((List.range i).foldl (runStep cs) ([], -5)).2)), z] ∧ st' = [.lst (((List.range i).foldl (runStep cs) ([], -5)).1.map eM)], ⟨none, rfl, rfl⟩, ?_, ?_⟩
  · rintro i d σ' st' hd' ⟨z, rfl, rfl⟩ -
    obtain ⟨hi, rfl⟩ := rgD_get hd'
    have hi : i < 95 := hi
    rw [Int.zero_add]
    refine runB_ok hi (runI_all cs i) fun _ => ?_
    refine ⟨some (.im (.int (i : Int))), ?_, ?_⟩
    · rw [runs_step]
      rfl
    · rw [runs_step]
      rfl
  · rintro σ' st' ⟨z, rfl, rfl⟩ -
    exact hk
theorem r_Lruns : ∀ ws st k ex, pf_Lruns ws st k ex → t_Lruns (EnD false st.length k ex) (startD N_Lruns ws) st := by
  intro ws st k ex h
  unfold pf_Lruns at h
  split at h
  · obtain ⟨cs, rfl, hs, hk⟩ := h
    show runT (EnD false 0 k ex) [some (.im (.str (S cs))), some (.im (.str "\n !\"#$&'()*+,-./0123456789:;<=>?@ABCDEFGHIJKLMNOPQRSTUVWXYZ[\\]^_`abcdefghijklmnopqrstuvwxyz{|}~")), none, none, none] []
    rw [alph_eq]
    exact runT_ok hk
  · exact h.elim
theorem outd_eq : (("|*+?()[].\\" : Str)) = S outd := by decide +kernel
theorem insdS_eq : (("]^-\\" : Str)) = S insd := by decide +kernel
theorem lbr_eq : (("[" : Str)) = S [91] := by decide +kernel
theorem rbr_eq : (("]" : Str)) = S [93] := by decide +kernel
theorem mns_eq : (("-" : Str)) = S [45] := by decide +kernel
theorem dotS_eq : (("." : Str)) = S [46] := by decide +kernel
theorem empS_eq : (("" : Str)) = S [] := by decide +kernel
def runTs (m : Nat × Nat) : List (List Nat) := escL insd m.1 :: if m.1 = m.2 then [] else [45 :: escL insd m.2]
theorem runTs_flat (m : Nat × Nat) : (runTs m).flatten = runL m := by
  unfold runTs runL
  by_cases h : m.1 = m.2
  · rw [if_pos h, if_pos h]; rfl
  · rw [if_neg h, if_neg h]
    show escL insd m.1 ++ ((45 :: escL insd m.2) ++ []) = _
    rw [List.append_nil]
theorem escL_len (bs : List Nat) (c : Nat) : (escL bs c).length ≤ 2 := by
  unfold escL
  split
  · exact Nat.le_refl _
  · split
    · exact Nat.le_refl _
    · exact Nat.le_succ 1
theorem runL_len (m : Nat × Nat) : (runL m).length ≤ 5 := by
  unfold runL
  have h1 := escL_len insd m.1
  have h2 := escL_len insd m.2
  rw [List.length_append]
  split
  · show _ + 0 ≤ 5; omega
  · show _ + ((escL insd m.2).length + 1) ≤ 5; omega
theorem flat_runTs : ∀ rs : List (Nat × Nat), (rs.flatMap runTs).flatten = rs.flatMap runL
  | [] => rfl
  | m :: rs => by rw [List.flatMap_cons, List.flatMap_cons, List.flatten_append, runTs_flat, flat_runTs rs]
theorem flatMap_len {α β : Type} (f : α → List β) (n : Nat) (h : ∀ a, (f a).length ≤ n) : ∀ l : List α, (l.flatMap f).length ≤ n * l.length
  | [] => Nat.le_refl _
  | a :: l => by
    have := flatMap_len f n h l
    have := h a
    rw [List.flatMap_cons, List.length_append, List.length_cons, Nat.mul_succ]
    omega
theorem runTs_len (m : Nat × Nat) : (runTs m).length ≤ 2 := by
  unfold runTs
  split
  · exact Nat.le_succ 1
  · exact Nat.le_refl 2
theorem sum_S : ∀ ls : List (List Nat), ((ls.map S).map (·.length)).sum = ls.flatten.length
  | [] => rfl
  | l :: ls => by
    rw [List.map_cons, List.map_cons, List.sum_cons, sum_S ls, List.flatten_cons, List.length_append, S_len]
def setT : DS := (sRet (dI (dOp fAdd (dOp fAdd (dC (.str "[")) (dBM "str" mJoin (dI (dC (.str ""))) (aCons (dV 1) aNil))) (dC (.str "]")))))
theorem setT_ok {ls : List (List Nat)} {k : W → Sto → Prop} {ex : DX} {w0 w2 w3 : Option W} (hl : ls.length ≤ 1000) (hs : ls.flatten.length ≤ 1000) (hk : k (.im (.str (S (91 :: (ls.flatten ++ [93]))))) []) :
    setT (EnD false 0 k ex) [w0, some (.loc 0), w2, w3] [.lst ((ls.map S).map D.str)] := by
  refine ⟨rfl, (ls.map S), rfl, ?_, ?_⟩
  · rw [sum_S, empS_eq]
    show ls.flatten.length + (ls.map S).length * 0 ≤ _
    omega
  · rw [empS_eq, joinT, lbr_eq, rbr_eq]
    refine ⟨?_, ?_⟩
    · rw [S_len, S_len, sizeLine_eq]
      show 1 + _ ≤ _
      omega
    · rw [S_app]
      show (S ([91] ++ ls.flatten)).length + (S [93]).length ≤ sizeLine ∧ k (.im (.str (S ([91] ++ ls.flatten) ++ S [93]))) []
      rw [S_app]
      refine ⟨?_, hk⟩
      rw [S_len, S_len, sizeLine_eq, List.length_append]
      show 1 + ls.flatten.length + 1 ≤ _
      omega
def setW : DS := (sSeq (sApp (dV 1) (dD (dCall pf_Lescaped (aCons (dV 2) (aCons (dI (dC (.str "]^-\\"))) aNil)))))
 (sIf (dCmp cNe (dV 2) (dV 3)) (sApp (dV 1) (dOp fAdd (dC (.str "-")) (dD (dCall pf_Lescaped (aCons (dV 3) (aCons (dI (dC (.str "]^-\\"))) aNil)))))) sNext))
theorem setW_ok {ls : List (List Nat)} {m : Nat × Nat} {w0 : Option W} {E : En} (hl : ls.length ≤ 1000) (hk : E.nx [w0, some (.loc 0), some (.im (.str ⟨#[m.1]⟩)), some (.im (.str ⟨#[m.2]⟩))] [.lst (((ls ++ runTs m).map S).map D.str)]) :
    setW E [w0, some (.loc 0), some (.im (.str ⟨#[m.1]⟩)), some (.im (.str ⟨#[m.2]⟩))] [.lst ((ls.map S).map D.str)] := by
  unfold setW
  rw [insdS_eq]
  have hi : insd.length ≤ 1000 := by decide
  refine ⟨⟨_, rfl⟩, call_esc hi ⟨by rw [List.length_map, List.length_map]; omega, ?_⟩⟩
  unfold runTs at hk
  by_cases h : m.1 = m.2
  · rw [if_pos h] at hk
    refine notY (by rw [h]) ?_
    rw [List.map_append, List.map_append] at hk
    exact hk
  · rw [if_neg h] at hk
    refine notN (fun z => h (one_inj z)) ⟨⟨_, rfl⟩, call_esc hi ?_⟩
    rw [mns_eq]
    refine ⟨?_, ?_, ?_⟩
    · have := escL_len insd m.2
      rw [S_len, S_len, sizeLine_eq]
      show 1 + _ ≤ _
      omega
    · rw [List.length_append, List.length_map, List.length_map]
      show ls.length + 1 ≤ _
      omega
    · rw [S_app, List.append_assoc]
      rw [List.map_append, List.map_append] at hk
      exact hk
theorem setL_two {cs : List Nat} (h : cs.length ≠ 1) : setL cs = if cs.length = 95 then [46] else 91 :: ((runs cs).flatMap runL ++ [93]) := by
  cases cs with
  | nil => rfl
  | cons a r =>
    cases r with
    | nil => exact absurd rfl h
    | cons b r => rfl
theorem r_Lset : ∀ ws st k ex, pf_Lset ws st k ex → t_Lset (EnD false st.length k ex) (startD N_Lset ws) st := by
  intro ws st k ex h
  unfold pf_Lset at h
  split at h
  · obtain ⟨cs, rfl, hs, hk⟩ := h
    have hle : cs.length ≤ 95 := Nat.le_trans hs.2.length_le (by decide)
    have hsz : (S cs).length ≤ sizeLine := by rw [S_len, sizeLine_eq]; omega
    refine ⟨hsz, ?_⟩
    rw [S_len]
    by_cases h1 : cs.length = 1
    · obtain ⟨c, rfl⟩ := List.length_eq_one_iff.mp h1
      refine yesD rfl ?_
      show callD pf_Lescaped [] [.im (.str ⟨#[c]⟩), .im (.str "|*+?()[].\\")] [] _ _
      rw [outd_eq]
      exact call_esc (by decide) hk
    · refine noD (by omega) ⟨hsz, ?_⟩
      rw [S_len]
      rw [setL_two h1] at hk
      by_cases h2 : cs.length = 95
      · rw [if_pos h2, ← dotS_eq] at hk
        refine yesD (by omega) ?_
        exact hk
      · rw [if_neg h2] at hk
        refine noD (by omega) ⟨by simp, ?_⟩
        refine ⟨rfl, cs, rfl, hs, fun i σ' st' => ∃ w2 w3, σ' = [some (.im (.str (S cs))), some (.loc 0), w2, w3] ∧ st' = [.lst (((((runs cs).take i).flatMap runTs).map S).map D.str)], ⟨none, none, rfl, rfl⟩, ?_, ?_⟩
        · rintro i d σ' st' hd' ⟨w2, w3, rfl, rfl⟩ -
          rw [List.getElem?_map] at hd'
          cases hb : (runs cs)[i]? with
          | none => rw [hb] at hd'; cases hd'
          | some m =>
            rw [hb] at hd'
            cases hd'
            refine ⟨rfl, ?_⟩
            refine setW_ok (m := m) ?_ ⟨_, _, rfl, ?_⟩
            · have a1 := flatMap_len runTs 2 runTs_len ((runs cs).take i)
              have a2 := runs_le cs
              rw [List.length_take] at a1
              omega
            · rw [getD_take hb, List.flatMap_append, List.flatMap_singleton]
              rfl
        · rintro σ' st' ⟨w2, w3, rfl, rfl⟩ -
          rw [List.length_map, List.take_length]
          refine setT_ok ?_ ?_ ?_
          · have a1 := flatMap_len runTs 2 runTs_len (runs cs)
            have a2 := runs_le cs
            omega
          · rw [flat_runTs]
            have a1 := flatMap_len runL 5 runL_len (runs cs)
            have a2 := runs_le cs
            omega
          · rw [flat_runTs]
            exact hk
  · exact h.elim
end Dl.Pt
end

section
set_option maxHeartbeats 4000000
namespace Dl.Pt
open PySem PySem.Spec PyProof.Rows L2 Co PySem.StrLaws
local macro_rules | `(tactic| walk_at "s") => `(tactic| first | refine twoT ?_ | refine twoF ?_ | refine yesD rfl ?_ | refine noD (by decide) ?_)
theorem flatR_mem : ∀ {ps : List Pt} {q : Pt}, q ∈ flatR ps → (q ∈ ps ∧ ∀ qs, q ≠ .row qs) ∨ ∃ qs, .row qs ∈ ps ∧ q ∈ qs
  | [], q, h => by cases h
  | p :: ps, q, h => by
    have go : q ∈ flatR ps → (q ∈ p :: ps ∧ ∀ qs, q ≠ .row qs) ∨ ∃ qs, .row qs ∈ p :: ps ∧ q ∈ qs := fun h => by
      rcases flatR_mem h with ⟨a, b⟩ | ⟨qs, a, b⟩
      · exact .inl ⟨List.mem_cons_of_mem _ a, b⟩
      · exact .inr ⟨qs, List.mem_cons_of_mem _ a, b⟩
    cases p with
    | row qs =>
      rcases List.mem_append.mp (show q ∈ qs ++ flatR ps from h) with h | h
      · exact .inr ⟨qs, List.mem_cons_self, h⟩
      · exact go h
    | _ =>
      rcases List.mem_cons.mp (show q ∈ _ :: flatR ps from h) with h | h
      · exact .inl ⟨by rw [h]; exact List.mem_cons_self, fun qs z => by rw [h] at z; cases z⟩
      · exact go h
theorem flatE_mem : ∀ {ps : List Pt} {q : Pt}, q ∈ flatE ps → (q ∈ ps ∧ ∀ qs, q ≠ .either qs) ∨ ∃ qs, .either qs ∈ ps ∧ q ∈ qs
  | [], q, h => by cases h
  | p :: ps, q, h => by
    have go : q ∈ flatE ps → (q ∈ p :: ps ∧ ∀ qs, q ≠ .either qs) ∨ ∃ qs, .either qs ∈ p :: ps ∧ q ∈ qs := fun h => by
      rcases flatE_mem h with ⟨a, b⟩ | ⟨qs, a, b⟩
      · exact .inl ⟨List.mem_cons_of_mem _ a, b⟩
      · exact .inr ⟨qs, List.mem_cons_of_mem _ a, b⟩
    cases p with
    | either qs =>
      rcases List.mem_append.mp (show q ∈ qs ++ flatE ps from h) with h | h
      · exact .inr ⟨qs, List.mem_cons_self, h⟩
      · exact go h
    | _ =>
      rcases List.mem_cons.mp (show q ∈ _ :: flatE ps from h) with h | h
      · exact .inl ⟨by rw [h]; exact List.mem_cons_self, fun qs z => by rw [h] at z; cases z⟩
      · exact go h
def PartsOk (d : Nat) (qs : List Pt) (rw_ : Bool) : Prop := 2 ≤ qs.length ∧ ∀ q ∈ qs, (∃ m, m < d ∧ TreeOk m q) ∧ (if rw_ = true then ∀ rs, q ≠ .row rs else ∀ rs, q ≠ .either rs)
theorem flatR_ge : ∀ ps : List Pt, (∀ qs, .row qs ∈ ps → 2 ≤ qs.length) → ps.length ≤ (flatR ps).length
  | [], _ => Nat.le_refl _
  | p :: ps, h => by
    have ih := flatR_ge ps fun qs hq => h qs (List.mem_cons_of_mem _ hq)
    cases p with
    | row qs =>
      have := h qs List.mem_cons_self
      show ps.length + 1 ≤ (qs ++ flatR ps).length
      rw [List.length_append]
      omega
    | _ => exact Nat.succ_le_succ ih
theorem flatE_ge : ∀ ps : List Pt, (∀ qs, .either qs ∈ ps → 2 ≤ qs.length) → ps.length ≤ (flatE ps).length
  | [], _ => Nat.le_refl _
  | p :: ps, h => by
    have ih := flatE_ge ps fun qs hq => h qs (List.mem_cons_of_mem _ hq)
    cases p with
    | either qs =>
      have := h qs List.mem_cons_self
      show ps.length + 1 ≤ (qs ++ flatE ps).length
      rw [List.length_append]
      omega
    | _ => exact Nat.succ_le_succ ih
theorem tree_parts : ∀ (d : Nat) (p : Pt), TreeOk d p → match p with
    | .row qs => PartsOk d qs true
    | .either qs => PartsOk d qs false
    | .chars cs => SetOk cs
    | .star q => ∃ m, m < d ∧ TreeOk m q
    | .plus q => ∃ m, m < d ∧ TreeOk m q
    | .maybe q => ∃ m, m < d ∧ TreeOk m q
  | 0, p, h => by
    obtain ⟨cs, rfl, h⟩ := h
    exact h
  | d + 1, p, h => by
    rcases h with ⟨cs, rfl, h⟩ | ⟨ps, h, hl, hp⟩ | ⟨q, h, hq⟩
    · exact h
    · have row2 : ∀ qs, .row qs ∈ ps → PartsOk d qs true := fun qs hq => tree_parts d (.row qs) (hp _ hq)
      have eit2 : ∀ qs, .either qs ∈ ps → PartsOk d qs false := fun qs hq => tree_parts d (.either qs) (hp _ hq)
      rcases h with rfl | rfl
      · refine ⟨Nat.le_trans (by omega) (flatR_ge ps fun qs hq => (row2 qs hq).1), fun q hq => ?_⟩
        rcases flatR_mem hq with ⟨a, b⟩ | ⟨qs, a, b⟩
        · exact ⟨⟨d, Nat.lt_succ_self d, hp q a⟩, b⟩
        · obtain ⟨⟨m, h1, h2⟩, h3⟩ := (row2 qs a).2 q b
          exact ⟨⟨m, Nat.lt_succ_of_lt h1, h2⟩, h3⟩
      · refine ⟨Nat.le_trans (by omega) (flatE_ge ps fun qs hq => (eit2 qs hq).1), fun q hq => ?_⟩
        rcases flatE_mem hq with ⟨a, b⟩ | ⟨qs, a, b⟩
        · exact ⟨⟨d, Nat.lt_succ_self d, hp q a⟩, b⟩
        · obtain ⟨⟨m, h1, h2⟩, h3⟩ := (eit2 qs a).2 q b
          exact ⟨⟨m, Nat.lt_succ_of_lt h1, h2⟩, h3⟩
    · rcases h with rfl | rfl | rfl <;> exact ⟨d, Nat.lt_succ_self d, hq⟩
theorem setL_len {cs : List Nat} (h : SetOk cs) : (setL cs).length ≤ 477 := by
  by_cases h1 : cs.length = 1
  · obtain ⟨c, rfl⟩ := List.length_eq_one_iff.mp h1
    exact Nat.le_trans (escL_len outd c) (by decide)
  · rw [setL_two h1]
    split
    · decide
    · have a1 := flatMap_len runL 5 runL_len (runs cs)
      have a2 := runs_le cs
      show (_ ++ [93]).length + 1 ≤ _
      rw [List.length_append, List.length_singleton]
      omega
theorem brk_len (b : Bool) (l : List Nat) : (brk b l).length ≤ l.length + 2 := by
  cases b with
  | true => show (40 :: (l ++ [41])).length ≤ _; rw [List.length_cons, List.length_append, List.length_singleton]; exact Nat.le_refl _
  | false => exact Nat.le_add_right _ _
theorem rowL_app : ∀ a b : List Pt, rowL (a ++ b) = rowL a ++ rowL b
  | [], b => rfl
  | p :: a, b => by
    show brk (isE p) (canL p) ++ rowL (a ++ b) = (brk (isE p) (canL p) ++ rowL a) ++ rowL b
    rw [rowL_app a b, List.append_assoc]
theorem rowL_flat : ∀ (ps : List Pt) (n : Nat), (∀ p ∈ ps, (canL p).length + 3 ≤ n) → (rowL (flatR ps)).length + ps.length ≤ n * ps.length
  | [], n, _ => by show 0 + 0 ≤ n * 0; omega
  | p :: ps, n, h => by
    have ih := rowL_flat ps n fun q hq => h q (List.mem_cons_of_mem _ hq)
    have hp := h p List.mem_cons_self
    rw [List.length_cons, Nat.mul_succ]
    cases p with
    | row qs =>
      show (rowL (qs ++ flatR ps)).length + (ps.length + 1) ≤ _
      rw [rowL_app, List.length_append]
      have : (canL (.row qs)).length = (rowL qs).length := rfl
      omega
    | _ =>
      show (brk _ (canL _) ++ rowL (flatR ps)).length + (ps.length + 1) ≤ _
      rw [List.length_append]
      refine Nat.le_trans ?_ (Nat.add_le_add ih hp)
      refine Nat.le_trans (Nat.add_le_add_right (Nat.add_le_add_right (brk_len _ _) _) _) ?_
      omega
def jl : List Pt → Nat
  | [] => 0
  | p :: ps => (canL p).length + 1 + jl ps
theorem jl_app : ∀ a b : List Pt, jl (a ++ b) = jl a + jl b
  | [], b => by show jl b = 0 + jl b; omega
  | p :: a, b => by show _ + 1 + jl (a ++ b) = (_ + 1 + jl a) + jl b; rw [jl_app a b]; omega
theorem eit_len : ∀ qs : List Pt, qs ≠ [] → (eitL qs).length + 1 = jl qs
  | [], h => absurd rfl h
  | [p], _ => rfl
  | p :: q :: r, _ => by
    have ih := eit_len (q :: r) (by simp)
    show (canL p ++ 124 :: eitL (q :: r)).length + 1 = (canL p).length + 1 + jl (q :: r)
    rw [List.length_append, List.length_cons]
    omega
theorem jl_flat : ∀ ps : List Pt, (∀ qs, .either qs ∈ ps → 2 ≤ qs.length) → jl (flatE ps) = jl ps
  | [], _ => rfl
  | p :: ps, h => by
    have ih := jl_flat ps fun qs hq => h qs (List.mem_cons_of_mem _ hq)
    cases p with
    | either qs =>
      have h2 := h qs List.mem_cons_self
      have := eit_len qs (fun z => by rw [z] at h2; cases h2)
      show jl (qs ++ flatE ps) = (eitL qs).length + 1 + jl ps
      rw [jl_app]
      omega
    | _ =>
      show _ + 1 + jl (flatE ps) = _ + 1 + jl ps
      rw [ih]
theorem jl_le : ∀ (ps : List Pt) (n : Nat), (∀ p ∈ ps, (canL p).length + 3 ≤ n) → jl ps + 2 * ps.length ≤ n * ps.length
  | [], n, _ => by show 0 + 2 * 0 ≤ n * 0; omega
  | p :: ps, n, h => by
    have ih := jl_le ps n fun q hq => h q (List.mem_cons_of_mem _ hq)
    have hp := h p List.mem_cons_self
    rw [List.length_cons, Nat.mul_succ, Nat.mul_succ]
    show (canL p).length + 1 + jl ps + _ ≤ _
    omega
theorem tree_len : ∀ (d : Nat) (p : Pt), TreeOk d p → (canL p).length + 3 ≤ 480 * 3 ^ d
  | 0, p, h => by
    obtain ⟨cs, rfl, h⟩ := h
    have := setL_len h
    show (setL cs).length + 3 ≤ 480 * 1
    omega
  | d + 1, p, h => by
    have e : 480 * 3 ^ (d + 1) = 3 * (480 * 3 ^ d) := by rw [Nat.pow_succ]; omega
    have hpos : 1 ≤ 3 ^ d := Nat.one_le_pow _ _ (by decide)
    rw [e]
    rcases h with ⟨cs, rfl, h⟩ | ⟨ps, h, hl, hp⟩ | ⟨q, h, hq⟩
    · have := setL_len h
      show (setL cs).length + 3 ≤ _
      omega
    · have ih : ∀ p ∈ ps, (canL p).length + 3 ≤ 480 * 3 ^ d := fun p hp' => tree_len d p (hp p hp')
      generalize 480 * 3 ^ d = n at ih
      rcases h with rfl | rfl
      · have := rowL_flat ps n ih
        show (rowL (flatR ps)).length + 3 ≤ _
        rcases hl with hl | hl <;> rw [hl] at this <;> omega
      · have eit2 : ∀ qs, .either qs ∈ ps → 2 ≤ qs.length := fun qs hq => (show PartsOk d qs false from tree_parts d (.either qs) (hp _ hq)).1
        have a1 := jl_le ps n ih
        rw [← jl_flat ps eit2] at a1
        have a2 := flatE_ge ps eit2
        have a3 := eit_len (flatE ps) (fun z => by rw [z] at a2; rcases hl with hl | hl <;> rw [hl] at a2 <;> cases a2)
        show (eitL (flatE ps)).length + 3 ≤ _
        rcases hl with hl | hl <;> rw [hl] at a1 <;> omega
    · have ih := tree_len d q hq
      have := brk_len (!isC q) (canL q)
      rcases h with rfl | rfl | rfl <;> (show (brk (!isC q) (canL q) ++ [_]).length + 3 ≤ _; rw [List.length_append, List.length_singleton]; omega)
theorem lvs_le : ∀ (ps : List Pt) (n : Nat), (∀ p ∈ ps, lv p ≤ n) → lvs ps ≤ n * ps.length
  | [], n, _ => Nat.le_refl _
  | p :: ps, n, h => by
    have ih := lvs_le ps n fun q hq => h q (List.mem_cons_of_mem _ hq)
    have hp := h p List.mem_cons_self
    rw [List.length_cons, Nat.mul_succ]
    show lv p + lvs ps ≤ _
    omega
theorem tree_lv : ∀ (d : Nat) (p : Pt), TreeOk d p → lv p ≤ 3 ^ d
  | 0, p, h => by
    obtain ⟨cs, rfl, h⟩ := h
    exact Nat.le_refl _
  | d + 1, p, h => by
    have e : 3 ^ (d + 1) = 3 * 3 ^ d := by rw [Nat.pow_succ]; omega
    have hpos : 1 ≤ 3 ^ d := Nat.one_le_pow _ _ (by decide)
    rw [e]
    rcases h with ⟨cs, rfl, h⟩ | ⟨ps, h, hl, hp⟩ | ⟨q, h, hq⟩
    · show 1 ≤ _
      omega
    · have ih := lvs_le ps (3 ^ d) fun p hp' => tree_lv d p (hp p hp')
      have a1 := lvs_R ps
      have a2 := lvs_E ps
      generalize 3 ^ d = n at *
      rcases h with rfl | rfl
      · show max 1 (lvs (flatR ps)) ≤ _
        rcases hl with hl | hl <;> rw [hl] at ih <;> omega
      · show max 1 (lvs (flatE ps)) ≤ _
        rcases hl with hl | hl <;> rw [hl] at ih <;> omega
    · have ih := tree_lv d q hq
      rcases h with rfl | rfl | rfl <;> (show lv q ≤ _; omega)
end Dl.Pt
end

section
set_option maxHeartbeats 4000000
namespace Dl.Pt
open PySem PySem.Spec PyProof.Rows L2 Co PySem.StrLaws
local macro_rules | `(tactic| walk_at "s") => `(tactic| first | refine twoT ?_ | refine twoF ?_ | refine yesD rfl ?_ | refine noD (by decide) ?_)
def joinW (a : List Nat) : List (List Nat) → List Nat
  | [] => []
  | [x] => x
  | x :: y :: r => x ++ (a ++ joinW a (y :: r))
theorem joinT2 (a : List Nat) (ls : List (List Nat)) : Txt.join (S a) (ls.map S) = S (joinW a ls) := by
  refine (PySem.StrLaws.glued_eq_join _ _).trans ?_
  have key : ∀ ls : List (List Nat), Str.join (S a) (ls.map S) = S (joinW a ls) := fun ls => by
    induction ls with
    | nil => rfl
    | cons x r ih =>
      cases r with
      | nil => rfl
      | cons y r =>
        show S x ++ S a ++ Str.join (S a) ((y :: r).map S) = S (x ++ (a ++ joinW a (y :: r)))
        rw [ih, S_app, S_app, List.append_assoc]
  exact key ls
theorem joinW_len (a : List Nat) : ∀ ls : List (List Nat), ls ≠ [] → (joinW a ls).length + a.length = ((ls.map S).map (·.length)).sum + ls.length * a.length
  | [], h => absurd rfl h
  | [x], _ => by
    show x.length + a.length = (S x).length + 0 + 1 * a.length
    rw [S_len]
    omega
  | x :: y :: r, _ => by
    have ih := joinW_len a (y :: r) (by simp)
    rw [List.map_cons, List.map_cons, List.sum_cons, List.length_cons, Nat.succ_mul]
    show (x ++ (a ++ joinW a (y :: r))).length + _ = _
    rw [List.length_append, List.length_append, S_len]
    omega
theorem eitL_join : ∀ qs : List Pt, eitL qs = joinW [124] (qs.map canL)
  | [] => rfl
  | [p] => rfl
  | p :: q :: r => by
    have ih := eitL_join (q :: r)
    show canL p ++ 124 :: eitL (q :: r) = canL p ++ ([124] ++ joinW [124] ((q :: r).map canL))
    rw [ih]
    rfl
theorem call_can {n m : Nat} {q : Pt} {st : Sto} {k : W → Sto → Prop} {ex : DX} (hm : m < n) (h5 : m ≤ 5) (hq : TreeOk m q) (hk : k (.im (.str (S (canL q)))) st) : callD (pf_Lcanonical n) [] [.im (eP q)] st k ex := ⟨rfl, q, m, rfl, hm, h5, hq, hk⟩
def hdP : Pt → Str
  | .chars _ => "chars" | .row _ => "row" | .either _ => "either" | .star _ => "star" | .plus _ => "plus" | .maybe _ => "maybe"
theorem tree_len5 {m : Nat} {q : Pt} (h5 : m ≤ 5) (hq : TreeOk m q) : (canL q).length ≤ 120000 := by
  have := tree_len m q hq
  have : 3 ^ m ≤ 3 ^ 5 := Nat.pow_le_pow_right (by decide) h5
  omega
theorem opS_eq : (("(" : Str)) = S [40] := by decide +kernel
theorem shS_eq : ((")" : Str)) = S [41] := by decide +kernel
theorem paren_of {t : DD} {l : List Nat} {σ : Sl} {st : Sto} {ex : DX} {k : D → Sto → Prop} (h : l.length ≤ 120000) (ht : ∀ Q : D → Sto → Prop, Q (.str (S l)) st → t σ st Q ex) (hk : k (.str (S (40 :: (l ++ [41])))) st) :
    dOp fAdd (dOp fAdd (dC (.str "(")) t) (dC (.str ")")) σ st k ex := by
  rw [opS_eq, shS_eq]
  refine dOp_of (dOp_of (dC_of (ht _ ⟨?_, ?_⟩)))
  · rw [S_len, S_len, sizeLine_eq]
    show 1 + _ ≤ _
    omega
  · rw [S_app]
    show (S ([40] ++ l)).length + (S [41]).length ≤ sizeLine ∧ k (.str (S ([40] ++ l) ++ S [41])) st
    rw [S_app]
    refine ⟨?_, hk⟩
    rw [S_len, S_len, sizeLine_eq, List.length_append]
    show 1 + l.length + 1 ≤ _
    omega
def rowB (n : Nat) : DS := (sApp (dV 2) (dD (dIfE (dCmp cEq (dI (dIx (dV 3) (dC (.int 0)))) (dI (dC (.str "either")))) (dI (dOp fAdd (dOp fAdd (dC (.str "(")) (dD (dCall (pf_Lcanonical n) (aCons (dV 3) aNil)))) (dC (.str ")")))) (dCall (pf_Lcanonical n) (aCons (dV 3) aNil)))))
theorem rowB_ok {n m : Nat} {q : Pt} {ls : List (List Nat)} {w0 w1 w4 : Option W} {E : En} (hl : ls.length ≤ 1000) (hm : m < n) (h5 : m ≤ 5) (hq : TreeOk m q) (hk : E.nx [w0, w1, some (.loc 0), some (.im (eP q)), w4] [.lst (((ls ++ [brk (isE q) (canL q)]).map S).map D.str)]) :
    rowB n E [w0, w1, some (.loc 0), some (.im (eP q)), w4] [.lst ((ls.map S).map D.str)] := by
  have hlen := tree_len5 h5 hq
  refine ⟨⟨_, rfl⟩, ?_⟩
  rw [List.map_append, List.map_append] at hk
  have hl2 : ((ls.map S).map D.str).length ≤ 1000000 := by rw [List.length_map, List.length_map]; omega
  cases q with
  | either qs =>
    refine twoT ?_
    exact paren_of (t := dD (dCall (pf_Lcanonical n) (aCons (dV 3) aNil))) hlen (fun Q hQ => call_can hm h5 hq hQ) ⟨hl2, hk⟩
  | _ => exact twoF (call_can hm h5 hq ⟨hl2, hk⟩)
theorem rowL_brk : ∀ qs : List Pt, rowL qs = (qs.map fun q => brk (isE q) (canL q)).flatten
  | [] => rfl
  | q :: qs => by
    show brk (isE q) (canL q) ++ rowL qs = _
    rw [rowL_brk qs]
    rfl
def canW : DS := (sRet (dI (dBM "str" mJoin (dI (dC (.str ""))) (aCons (dV 2) aNil))))
theorem canW_ok {ls : List (List Nat)} {k : W → Sto → Prop} {ex : DX} {w0 w1 w3 w4 : Option W} (hs : ls.flatten.length ≤ 200000) (hk : k (.im (.str (S ls.flatten))) []) :
    canW (EnD false 0 k ex) [w0, w1, some (.loc 0), w3, w4] [.lst ((ls.map S).map D.str)] := by
  refine ⟨rfl, ls.map S, rfl, ?_, ?_⟩
  · rw [sum_S, empS_eq]
    show ls.flatten.length + (ls.map S).length * 0 ≤ _
    omega
  · rw [empS_eq, joinT]
    exact hk
def canZ (n : Nat) : DS :=
 (sSeq (sAsg 4 (dCall (pf_Lcanonical n) (aCons (dI (dIx (dV 0) (dC (.int 1)))) aNil)))
 (sSeq (sIf (dCmp cNe (dI (dIx (dI (dIx (dV 0) (dC (.int 1)))) (dC (.int 0)))) (dI (dC (.str "chars")))) (sAsg 4 (dI (dOp fAdd (dOp fAdd (dC (.str "(")) (dD (dV 4))) (dC (.str ")"))))) sNext)
 (sRet (dI (dOp fAdd (dD (dV 4)) (dGet false (dI (dDispD [((dC (.str "star")), (dC (.str "*"))), ((dC (.str "plus")), (dC (.str "+"))), ((dC (.str "maybe")), (dC (.str "?")))])) (dD (dV 1))))))))
theorem star_eq : (("*" : Str)) = S [42] := by decide +kernel
theorem plus_eq : (("+" : Str)) = S [43] := by decide +kernel
theorem mayb_eq : (("?" : Str)) = S [63] := by decide +kernel
def canY : DS := (sRet (dI (dOp fAdd (dD (dV 4)) (dGet false (dI (dDispD [((dC (.str "star")), (dC (.str "*"))), ((dC (.str "plus")), (dC (.str "+"))), ((dC (.str "maybe")), (dC (.str "?")))])) (dD (dV 1))))))
theorem canY_ok {l : List Nat} {c : Nat} {hd : Str} {k : W → Sto → Prop} {ex : DX} {w0 w2 w3 : Option W} (hl : l.length ≤ 120010) (hc : (hd = "star" ∧ c = 42) ∨ (hd = "plus" ∧ c = 43) ∨ (hd = "maybe" ∧ c = 63)) (hk : k (.im (.str (S (l ++ [c])))) []) :
    canY (EnD false 0 k ex) [w0, some (.im (.str hd)), w2, w3, some (.im (.str (S l)))] [] := by
  have fin : ∀ z : Str, z = S [c] → (S l).length + z.length ≤ sizeLine ∧ k (.im (.str (S l ++ z))) [] := by
    rintro z rfl
    rw [S_app]
    refine ⟨?_, hk⟩
    rw [S_len, S_len, sizeLine_eq]
    show l.length + 1 ≤ _
    omega
  rcases hc with ⟨rfl, rfl⟩ | ⟨rfl, rfl⟩ | ⟨rfl, rfl⟩
  · exact ⟨by decide, fin _ star_eq⟩
  · exact ⟨by decide, fin _ plus_eq⟩
  · exact ⟨by decide, fin _ mayb_eq⟩
theorem canZ_ok {n m : Nat} {q : Pt} {c : Nat} {hd : Str} {k : W → Sto → Prop} {ex : DX} (hm : m < n) (h5 : m ≤ 5) (hq : TreeOk m q) (hc : (hd = "star" ∧ c = 42) ∨ (hd = "plus" ∧ c = 43) ∨ (hd = "maybe" ∧ c = 63)) (hk : k (.im (.str (S (brk (!isC q) (canL q) ++ [c])))) []) :
    canZ n (EnD false 0 k ex) [some (.im (.tup [.str hd, eP q])), some (.im (.str hd)), none, none, none] [] := by
  have hlen := tree_len5 h5 hq
  refine call_can hm h5 hq ?_
  cases q with
  | chars cs =>
    exact twoF (canY_ok (by omega) hc hk)
  | _ =>
    refine twoT (paren_of (t := dD (dV 4)) hlen (fun Q hQ => hQ) ?_)
    refine canY_ok (l := 40 :: (canL _ ++ [41])) ?_ hc hk
    rw [List.length_cons, List.length_append, List.length_singleton]
    omega
end Dl.Pt
end

section
set_option maxHeartbeats 4000000
namespace Dl.Pt
open PySem PySem.Spec PyProof.Rows L2 Co PySem.StrLaws
local macro_rules | `(tactic| walk_at "s") => `(tactic| first | refine twoT ?_ | refine twoF ?_ | refine yesD rfl ?_ | refine noD (by decide) ?_)
theorem r_Lcanonical {n : Nat} : ∀ ws st k ex, pf_Lcanonical (n + 1) ws st k ex → (t_Lcanonical n) (EnD false st.length k ex) (startD N_Lcanonical ws) st := by
  intro ws st k ex h
  unfold pf_Lcanonical at h
  split at h
  · obtain ⟨p, m, rfl, hm, h5, hp, hk⟩ := h
    have hpt := tree_parts m p hp
    have hlen := tree_len5 h5 hp
    cases p with
    | chars cs =>
      walk_at "s"
      exact ⟨rfl, cs, rfl, hpt, hk⟩
    | row qs =>
      have hpt : PartsOk m qs true := hpt
      have hk : k (.im (.str (S (rowL qs)))) [] := hk
      have hlen : (rowL qs).length ≤ 120000 := hlen
      have hql : qs.length ≤ 1000 := by
        have := tree_lv m _ hp
        have e : lv (.row qs) = max 1 (lvs qs) := rfl
        have := lvs_len qs
        have : 3 ^ m ≤ 3 ^ 5 := Nat.pow_le_pow_right (by decide) h5
        omega
      walk_at "s"; walk_at "s"
      refine ⟨by simp, fun i σ' st' => ∃ w3, σ' = [some (.im (eP (.row qs))), some (.im (.str "row")), some (.loc 0), w3, none] ∧ st' = [.lst (((((qs.take i).map fun q => brk (isE q) (canL q))).map S).map D.str)], ⟨none, rfl, rfl⟩, ?_, ?_⟩
      · rintro i d σ' st' hd' ⟨w3, rfl, rfl⟩ -
        have hd' : (ePs qs)[i]? = some d := hd'
        rw [ePs_eq, List.getElem?_map] at hd'
        cases hb : qs[i]? with
        | none => rw [hb] at hd'; cases hd'
        | some q =>
          rw [hb] at hd'
          cases hd'
          obtain ⟨⟨m', h1, h2⟩, h3⟩ := hpt.2 q (List.mem_of_getElem? hb)
          refine rowB_ok (n := n) (m := m') (q := q) ?_ (by omega) (by omega) h2 ⟨_, rfl, ?_⟩
          · rw [List.length_map, List.length_take]; omega
          · have e : (qs.take (i + 1)).map (fun q => brk (isE q) (canL q)) = (qs.take i).map (fun q => brk (isE q) (canL q)) ++ [brk (isE q) (canL q)] := by rw [getD_take hb, List.map_append]; rfl
            rw [e]
            rfl
      · rintro σ' st' ⟨w3, rfl, rfl⟩ -
        have e : (ePs qs).length = qs.length := by rw [ePs_eq, List.length_map]
        rw [e, List.take_length]
        refine canW_ok ?_ ?_
        · rw [← rowL_brk]; omega
        · rw [← rowL_brk]; exact hk
    | either qs =>
      have hpt : PartsOk m qs false := hpt
      have hk : k (.im (.str (S (eitL qs)))) [] := hk
      have hlen : (eitL qs).length ≤ 120000 := hlen
      have hql : qs.length ≤ 1000 := by
        have := tree_lv m _ hp
        have e : lv (.either qs) = max 1 (lvs qs) := rfl
        have := lvs_len qs
        have : 3 ^ m ≤ 3 ^ 5 := Nat.pow_le_pow_right (by decide) h5
        omega
      walk_at "s"; walk_at "s"; walk_at "s"
      refine ⟨rfl, ?_⟩
      show lcB (ePs qs) _ _ _ _ _ _ _
      rw [ePs_eq]
      refine lc_fn (b := fun l => D.str (S l)) canL (by omega) rfl (fun q hq Q hQ => ?_) ?_
      · obtain ⟨⟨m', h1, h2⟩, h3⟩ := hpt.2 q hq
        exact call_can (by omega) (by omega) h2 hQ
      · rw [eitL_join, ← joinT2] at hk
        rw [show (("|" : Str)) = S [124] by decide +kernel]
        refine ⟨(qs.map canL).map S, by simp only [List.map_map]; rfl, ?_, hk⟩
        have hne : qs.map canL ≠ [] := fun z => by
          rw [List.map_eq_nil_iff] at z
          have := hpt.1
          rw [z] at this
          cases this
        have a1 := joinW_len [124] (qs.map canL) hne
        rw [← eitL_join] at a1
        rw [List.length_map]
        show _ + _ * 1 ≤ _
        have e2 : ([124] : List Nat).length = 1 := rfl
        rw [e2] at a1
        omega
    | star q =>
      obtain ⟨m', h1, h2⟩ := hpt
      walk_at "s"; walk_at "s"; walk_at "s"
      exact canZ_ok (n := n) (by omega) (by omega) h2 (.inl ⟨rfl, rfl⟩) hk
    | plus q =>
      obtain ⟨m', h1, h2⟩ := hpt
      walk_at "s"; walk_at "s"; walk_at "s"
      exact canZ_ok (n := n) (by omega) (by omega) h2 (.inr (.inl ⟨rfl, rfl⟩)) hk
    | maybe q =>
      obtain ⟨m', h1, h2⟩ := hpt
      walk_at "s"; walk_at "s"; walk_at "s"
      exact canZ_ok (n := n) (by omega) (by omega) h2 (.inr (.inr ⟨rfl, rfl⟩)) hk
  · exact h.elim
theorem r_Ltold : ∀ ws st k ex, pf_Ltold ws st k ex → t_Ltold (EnD false st.length k ex) (startD N_Ltold ws) st := by
  intro ws st k ex h
  unfold pf_Ltold at h
  split at h
  · obtain ⟨t, i, rfl, hl, ht, hk⟩ := h
    unfold told at ht
    refine ⟨rfl, t, rfl, hl, ?_⟩
    cases hr : altP 20 t 0 with
    | deep => rw [hr] at ht; cases ht
    | bad j =>
      rw [hr] at ht
      cases ht
      refine ⟨fun z => (nomatch z), fun a dd => ?_⟩
      refine ⟨rfl, rfl, rfl, twoT ?_⟩
      refine ⟨rfl, rfl, rfl, twoT ?_⟩
      exact ⟨rfl, rfl, rfl, hk⟩
    | ok p j =>
      rw [hr] at ht
      dsimp only at ht ⊢
      split at ht
      · rename_i hlt
        cases ht
        rw [if_pos hlt]
        refine ⟨fun z => (nomatch z), fun a dd => ?_⟩
        refine ⟨rfl, rfl, rfl, twoT ?_⟩
        refine ⟨rfl, rfl, rfl, twoT ?_⟩
        exact ⟨rfl, rfl, rfl, hk⟩
      · rename_i hlt
        cases ht
        rw [if_neg hlt]
        exact hk
  · exact h.elim
theorem call_take {m : Int} {k : W → Sto → Prop} {ex : DX} (h0 : 0 < m) (h1 : m < 1000) (h : ∀ i : Int, 0 ≤ i → i < m → k (.im (.int i)) [.pool]) : callD pf_take [0] [.loc 0, .im (.int m)] [.pool] k ex :=
  ⟨rfl, h0, Int.lt_of_lt_of_le h1 (by decide +kernel), fun r a b => h r a b⟩
theorem sub_ne {cs : List Nat} (h : 0 < cs.length) (s : cs.Sublist alph) : SetOk cs := ⟨fun z => absurd h (by rw [z]; decide), s⟩
theorem one_ok {i c : Nat} (h : alph[i]? = some c) : SetOk [c] := ⟨fun z => (nomatch z), List.singleton_sublist.mpr (List.mem_of_getElem? h)⟩
theorem mid_ok {lo hi : Nat} (h1 : lo ≤ hi) (h2 : hi < 95) : SetOk ((alph.drop lo).take (hi + 1 - lo)) := by
  have hl : alph.length = 95 := by decide
  exact sub_ne (by rw [List.length_take, List.length_drop]; omega) ((List.take_sublist _ _).trans (List.drop_sublist _ _))
theorem pre_ok {i c lo hi : Nat} (h : alph[i]? = some c) (hi' : i < lo) (h1 : lo ≤ hi) (h2 : hi < 95) : SetOk (c :: (alph.drop lo).take (hi + 1 - lo)) := by
  have hl : alph.length = 95 := by decide
  refine sub_ne (by simp) ?_
  have e : alph = alph.take lo ++ alph.drop lo := (List.take_append_drop lo alph).symm
  have hc : c ∈ alph.take lo := List.mem_of_getElem? (i := i) (by rw [List.getElem?_take_of_lt hi']; exact h)
  have := List.Sublist.append (List.singleton_sublist.mpr hc) (List.take_sublist (hi + 1 - lo) (alph.drop lo))
  rw [← e] at this
  exact this
theorem suf_ok {i c lo hi : Nat} (h : alph[i]? = some c) (h1 : lo ≤ hi) (hi' : hi < i) (h2 : hi < 95) : SetOk ((alph.drop lo).take (hi + 1 - lo) ++ [c]) := by
  have hl : alph.length = 95 := by decide
  refine sub_ne (by simp) ?_
  have e : alph = alph.take (hi + 1) ++ alph.drop (hi + 1) := (List.take_append_drop (hi + 1) alph).symm
  have hc : c ∈ alph.drop (hi + 1) := List.mem_of_getElem? (i := i - (hi + 1)) (by rw [List.getElem?_drop, show hi + 1 + (i - (hi + 1)) = i by omega]; exact h)
  have hs : ((alph.drop lo).take (hi + 1 - lo)).Sublist (alph.take (hi + 1)) := by
    rw [List.take_drop, show lo + (hi + 1 - lo) = hi + 1 by omega]
    exact List.drop_sublist _ _
  have := List.Sublist.append hs (List.singleton_sublist.mpr hc)
  rw [← e] at this
  exact this
end Dl.Pt
end

section
set_option maxHeartbeats 4000000
namespace Dl.Pt
open PySem PySem.Spec PyProof.Rows L2 Co PySem.StrLaws
local macro_rules | `(tactic| walk_at "s") => `(tactic| first | refine twoT ?_ | refine twoF ?_ | refine yesD rfl ?_ | refine noD (by decide) ?_)
def chaC : DS :=
 (sSeq (sIf (dChain cLe cLe (dV 3) (dV 5) (dV 4)) (sRet (dI (dSl (dV 1) (dPart (dD (dV 3))) (dPart (dOp fAdd (dD (dV 4)) (dC (.int 1))))))) sNext)
 (sSeq (sIf (dCmp cLt (dV 5) (dV 3)) (sRet (dI (dOp fAdd (dIx (dV 1) (dD (dV 5))) (dSl (dV 1) (dPart (dD (dV 3))) (dPart (dOp fAdd (dD (dV 4)) (dC (.int 1)))))))) sNext)
 (sRet (dI (dOp fAdd (dSl (dV 1) (dPart (dD (dV 3))) (dPart (dOp fAdd (dD (dV 4)) (dC (.int 1))))) (dIx (dV 1) (dD (dV 5))))))))
def chaB : DS :=
 (sSeq (sIf (dCmp cEq (dV 2) (dI (dC (.int 6)))) (sRet (dI (dSl (dV 1) (dPart (dD (dV 3))) (dPart (dOp fAdd (dD (dV 4)) (dC (.int 1))))))) sNext)
 (sSeq (sAsg 5 (dCall pf_take (aCons (dV 0) (aCons (dI (dC (.int 95))) aNil))))
 chaC))
def chaT : DS :=
 (sSeq (sAsg 2 (dCall pf_take (aCons (dV 0) (aCons (dI (dC (.int 8))) aNil))))
 (sSeq (sIf (dCmp cEq (dV 2) (dI (dC (.int 0)))) (sRet (dV 1)) sNext)
 (sSeq (sIf (dCmp cLt (dV 2) (dI (dC (.int 5)))) (sRet (dI (dIx (dI (dC (.str "abc"))) (dD (dCall pf_take (aCons (dV 0) (aCons (dI (dC (.int 3))) aNil))))))) sNext)
 (sSeq (sIf (dCmp cEq (dV 2) (dI (dC (.int 5)))) (sRet (dI (dIx (dV 1) (dD (dCall pf_take (aCons (dV 0) (aCons (dI (dC (.int 95))) aNil))))))) sNext)
 (sSeq (sAsg 3 (dCall pf_take (aCons (dV 0) (aCons (dI (dC (.int 95))) aNil))))
 (sSeq (sAsg 4 (dI (dOp fAdd (dD (dV 3)) (dD (dCall pf_take (aCons (dV 0) (aCons (dI (dCB fMin (aCons (dI (dOp fSub (dC (.int 95)) (dD (dV 3)))) (aCons (dI (dC (.int 12))) aNil)))) aNil)))))))
 chaB))))))
theorem cut_mid {lo hi : Nat} (h1 : lo ≤ hi) (h2 : hi < 95) : cutS (S alph) (some (lo : Int)) (some ((hi : Int) + 1)) = S ((alph.drop lo).take (hi + 1 - lo)) := by
  have hl : alph.length = 95 := by decide
  exact cutS_nat (l := alph) (a := lo) (b := hi + 1) (by omega) (by omega)
theorem sl_ok {lo hi : Nat} (h1 : lo ≤ hi) (h2 : hi < 95) {σ : Sl} {st : Sto} {ex : DX} {k : D → Sto → Prop} (e1 : σ[1]? = some (some (.im (.str (S alph))))) (e3 : σ[3]? = some (some (.im (.int (lo : Int))))) (e4 : σ[4]? = some (some (.im (.int (hi : Int))))) (hk : k (.str (S ((alph.drop lo).take (hi + 1 - lo)))) st) :
    dSl (dV 1) (dPart (dD (dV 3))) (dPart (dOp fAdd (dD (dV 4)) (dC (.int 1)))) σ st k ex := by
  show dV 1 σ st (fun w st1 => dPart (dD (dV 3)) σ st1 (fun l st2 => dPart (dOp fAdd (dD (dV 4)) (dC (.int 1))) σ st2 (fun h st3 => match seeW w st3 with
    | some x => sliceD x l h fun d => k d st3
    | none => False) ex) ex) ex
  refine dV_at e1 (dD_at e3 ?_)
  refine dOp_of (dD_at e4 ?_)
  show (S alph).length ≤ sizeLine ∧ k (.str (cutS (S alph) (some (lo : Int)) (some ((hi : Int) + 1)))) st
  rw [cut_mid h1 h2]
  exact ⟨alph_sz, hk⟩
theorem chaC_ok {lo hi o : Nat} {w2 : Option W} {k : W → Sto → Prop} {ex : DX} (h1 : lo ≤ hi) (h2 : hi < 95) (h3 : o < 95) (hk : ∀ cs, SetOk cs → k (.im (.str (S cs))) [.pool]) :
    chaC (EnD false 1 k ex) [some (.loc 0), some (.im (.str (S alph))), w2, some (.im (.int (lo : Int))), some (.im (.int (hi : Int))), some (.im (.int (o : Int)))] [.pool] := by
  have hal : alph.length = 95 := by decide
  have hmid : ((alph.drop lo).take (hi + 1 - lo)).length ≤ 95 := by rw [List.length_take, List.length_drop]; omega
  have ho : alph[o]? = some alph[o] := List.getElem?_eq_getElem (by omega)
  have ato : ∀ {k : D → Prop}, k (.str (S [alph[o]])) → atD (.str (S alph)) (.int (o : Int)) k := fun hk => alph_at (by omega) (by omega) fun c hc => by
    have hc : alph[o]? = some c := hc
    rw [ho] at hc
    cases hc
    exact hk
  have back2 : chaC (EnD false 1 k ex) [some (.loc 0), some (.im (.str (S alph))), w2, some (.im (.int (lo : Int))), some (.im (.int (hi : Int))), some (.im (.int (o : Int)))] [.pool] := by
    refine oneD (p := (lo : Int) ≤ o) (fun z1 => ?_) (fun z1 => ?_)
    · refine oneD (p := (o : Int) ≤ hi) (fun z2 => ?_) (fun z2 => ?_)
      · refine sRet_of (dI_of (sl_ok h1 h2 rfl rfl rfl ?_))
        exact hk _ (mid_ok h1 h2)
      · refine noD (p := (o : Int) < lo) (by omega) ?_
        refine sNext_seq ?_
        refine sRet_of (dI_of (dOp_of ?_))
        refine sl_ok h1 h2 rfl rfl rfl ?_
        refine dIx_of (dV_at rfl (dD_at rfl ?_))
        show atD (.str (S alph)) (.int (o : Int)) _
        refine ato ?_
        show (S _).length + (S _).length ≤ sizeLine ∧ k (.im (.str (S _ ++ S _))) [.pool]
        rw [S_app, S_len, S_len]
        exact ⟨Nat.le_trans (Nat.add_le_add_right hmid _) (Nat.le_trans (show 95 + 1 ≤ 1000 by decide) sz1000), hk _ (suf_ok ho h1 (by omega) h2)⟩
    · refine twoF (yesD (p := (o : Int) < lo) (by omega) ?_)
      refine sRet_of (dI_of (dOp_of (dIx_of (dV_at rfl (dD_at rfl ?_)))))
      show atD (.str (S alph)) (.int (o : Int)) _
      refine ato (sl_ok h1 h2 rfl rfl rfl ?_)
      show (S _).length + (S _).length ≤ sizeLine ∧ k (.im (.str (S _ ++ S _))) [.pool]
      rw [S_app, S_len, S_len]
      exact ⟨Nat.le_trans (Nat.add_le_add_left hmid _) (Nat.le_trans (show 1 + 95 ≤ 1000 by decide) sz1000), hk _ (pre_ok ho (by omega) h1 h2)⟩
  exact back2
theorem chaT_ok {k : W → Sto → Prop} {ex : DX} (hk : ∀ cs, SetOk cs → k (.im (.str (S cs))) [.pool]) :
    chaT (EnD false 1 k ex) [some (.loc 0), some (.im (.str (S alph))), none, none, none, none] [.pool] := by
  have hal : alph.length = 95 := by decide
  refine call_take (by decide) (by decide) fun r h0 h1 => ?_
  refine oneD (fun z => ?_) (fun z => ?_)
  · exact hk alph ⟨by decide, List.Sublist.refl _⟩
  · refine oneD (p := r < 5) (fun z2 => ?_) (fun z2 => ?_)
    · have e : (("abc" : Str)) = S [97, 98, 99] := by decide +kernel
      unfold dIx
      rw [e]
      refine call_take (by decide) (by decide) fun r h0 h1 => ?_
      have hz : (S [97, 98, 99]).length ≤ sizeLine := Nat.le_trans (show 3 ≤ 1000 by decide) sz1000
      rcases (by omega : r = 0 ∨ r = 1 ∨ r = 2) with rfl | rfl | rfl
      · exact ⟨hz, hk [97] ⟨by decide, by decide⟩⟩
      · exact ⟨hz, hk [98] ⟨by decide, by decide⟩⟩
      · exact ⟨hz, hk [99] ⟨by decide, by decide⟩⟩
    · refine oneD (p := r = 5) (fun z3 => ?_) (fun z3 => ?_)
      · refine call_take (by decide) (by decide) fun r h0 h1 => ?_
        show atD (.str (S alph)) (.int r) _
        exact alph_at h0 h1 fun c hc => hk [c] (one_ok hc)
      · refine call_take (by decide) (by decide) fun lo h2 h3 => ?_
        refine call_take (m := min (95 - lo) 12) (by omega) (by omega) fun dd h4 h5 => ?_
        obtain ⟨lo, rfl⟩ := Int.eq_ofNat_of_zero_le h2
        obtain ⟨d, rfl⟩ := Int.eq_ofNat_of_zero_le h4
        have e : (lo : Int) + (d : Int) = ((lo + d : Nat) : Int) := by omega
        show chaB (EnD false 1 k ex) [some (.loc 0), some (.im (.str (S alph))), some (.im (.int r)), some (.im (.int (lo : Int))), some (.im (.int ((lo : Int) + (d : Int)))), none] [.pool]
        rw [e]
        have a1 : lo ≤ lo + d := Nat.le_add_right _ _
        have a2 : lo + d < 95 := by omega
        refine oneD (p := r = 6) (fun z4 => ?_) (fun z4 => ?_)
        · refine sRet_of (dI_of (sl_ok a1 a2 rfl rfl rfl ?_))
          exact hk _ (mid_ok a1 a2)
        · refine call_take (by decide) (by decide) fun o h6 h7 => ?_
          obtain ⟨o, rfl⟩ := Int.eq_ofNat_of_zero_le h6
          exact chaC_ok a1 a2 (by omega) hk
theorem r_Lchars : ∀ ws st k ex, pf_Lchars ws st k ex → t_Lchars (EnD false st.length k ex) (startD N_Lchars ws) st := by
  intro ws st k ex h
  unfold pf_Lchars at h
  split at h
  · show chaT (EnD false 1 k ex) [some (.loc 0), some (.im (.str "\n !\"#$&'()*+,-./0123456789:;<=>?@ABCDEFGHIJKLMNOPQRSTUVWXYZ[\\]^_`abcdefghijklmnopqrstuvwxyz{|}~")), none, none, none, none] [.pool]
    rw [alph_eq]
    exact chaT_ok h
  · exact h.elim
end Dl.Pt
end

section
set_option maxHeartbeats 4000000
namespace Dl.Pt
open PySem PySem.Spec PyProof.Rows L2 Co PySem.StrLaws
local macro_rules | `(tactic| walk_at "s") => `(tactic| first | refine twoT ?_ | refine twoF ?_ | refine yesD rfl ?_ | refine noD (by decide) ?_)
theorem TreeOk_chars : ∀ {d : Nat} {cs : List Nat}, SetOk cs → TreeOk d (.chars cs)
  | 0, cs, h => ⟨cs, rfl, h⟩
  | d + 1, cs, h => .inl ⟨cs, rfl, h⟩
def treZ (n : Nat) : DS := (sRet (dI (dTup (adCons (dIx (dI (dTup (adCons (dC (.str "star")) (adCons (dC (.str "plus")) (adCons (dC (.str "maybe")) adNil))))) (dD (dCall pf_take (aCons (dV 0) (aCons (dI (dC (.int 3))) aNil))))) (adCons (dD (dCall (pf_Ltree n) (aCons (dV 0) (aCons (dI (dOp fSub (dD (dV 1)) (dC (.int 1)))) aNil)))) adNil)))))
theorem call_tree {n : Nat} {d : Int} {k : W → Sto → Prop} {ex : DX} (h0 : 0 ≤ d) (h1 : d.toNat < n) (h5 : d ≤ 5) (hk : ∀ p, TreeOk d.toNat p → k (.im (eP p)) [.pool]) : callD (pf_Ltree n) [0] [.loc 0, .im (.int d)] [.pool] k ex := ⟨rfl, h0, h1, h5, hk⟩
theorem l3 (a b c : D) : ([a, b, c] : List D).length ≤ 1000000 := by simp
theorem l2 (a b : D) : ([a, b] : List D).length ≤ 1000000 := by simp
theorem treZ_ok {n : Nat} {d : Int} {w2 w3 w4 : Option W} {k : W → Sto → Prop} {ex : DX} (h0 : 1 ≤ d) (h1 : d.toNat < n + 1) (h5 : d ≤ 5) (hk : ∀ p, TreeOk d.toNat p → k (.im (eP p)) [.pool]) :
    treZ n (EnD false 1 k ex) [some (.loc 0), some (.im (.int d)), w2, w3, w4] [.pool] := by
  obtain ⟨e, rfl⟩ : ∃ e : Nat, d = ((e + 1 : Nat) : Int) := ⟨d.toNat - 1, by omega⟩
  have e1 : (((e + 1 : Nat) : Int) - 1) = (e : Int) := by omega
  have e2 : ((e + 1 : Nat) : Int).toNat = e + 1 := by omega
  rw [e2] at hk h1
  refine ⟨l3 _ _ _, ?_⟩
  refine call_take (by decide) (by decide) fun r hr0 hr1 => ?_
  rcases (by omega : r = 0 ∨ r = 1 ∨ r = 2) with rfl | rfl | rfl
  · refine call_tree (d := ((e + 1 : Nat) : Int) - 1) (by omega) (by omega) (by omega) fun p hp => ⟨l2 _ _, hk (.star p) (.inr (.inr ⟨p, .inl rfl, ?_⟩))⟩
    rw [e1] at hp; exact hp
  · refine call_tree (d := ((e + 1 : Nat) : Int) - 1) (by omega) (by omega) (by omega) fun p hp => ⟨l2 _ _, hk (.plus p) (.inr (.inr ⟨p, .inr (.inl rfl), ?_⟩))⟩
    rw [e1] at hp; exact hp
  · refine call_tree (d := ((e + 1 : Nat) : Int) - 1) (by omega) (by omega) (by omega) fun p hp => ⟨l2 _ _, hk (.maybe p) (.inr (.inr ⟨p, .inr (.inr rfl), ?_⟩))⟩
    rw [e1] at hp; exact hp
def treF : DS := (sRet (dCall pf_Lflat (aCons (dI (dIx (dI (dTup (adCons (dC (.str "row")) (adCons (dC (.str "row")) (adCons (dC (.str "either")) adNil))))) (dOp fSub (dD (dV 2)) (dC (.int 2))))) (aCons (dV 3) aNil))))
theorem call_flatR {ps : List Pt} {st : Sto} {k : W → Sto → Prop} {ex : DX} (hl : ps.length ≤ 3) (h2 : (flatR ps).length ≤ 1000) (hk : k (.im (eP (.row (flatR ps)))) st) : callD pf_Lflat [] [.im (.str "row"), .im (.lst (ps.map eP))] st k ex := ⟨rfl, ps, rfl, hl, .inl ⟨rfl, h2, hk⟩⟩
theorem call_flatE {ps : List Pt} {st : Sto} {k : W → Sto → Prop} {ex : DX} (hl : ps.length ≤ 3) (h2 : (flatE ps).length ≤ 1000) (hk : k (.im (eP (.either (flatE ps)))) st) : callD pf_Lflat [] [.im (.str "either"), .im (.lst (ps.map eP))] st k ex := ⟨rfl, ps, rfl, hl, .inr ⟨rfl, h2, hk⟩⟩
theorem treF_ok {e : Nat} {ps : List Pt} {r : Int} {w0 w1 w4 : Option W} {k : W → Sto → Prop} {ex : DX} (h5 : e ≤ 4) (hr0 : 2 ≤ r) (hr1 : r < 5) (hl : ps.length = 2 ∨ ps.length = 3) (hps : ∀ q ∈ ps, TreeOk e q) (hk : ∀ p, TreeOk (e + 1) p → k (.im (eP p)) [.pool]) :
    treF (EnD false 1 k ex) [w0, w1, some (.im (.int r)), some (.im (.lst (ps.map eP))), w4] [.pool] := by
  have a0 := lvs_le ps (3 ^ e) fun p hp' => tree_lv e p (hps p hp')
  have a1 := len_R ps
  have a2 := len_E ps
  have a3 : 3 ^ e ≤ 3 ^ 4 := Nat.pow_le_pow_right (by decide) h5
  have a4 : 3 ^ e * ps.length ≤ 81 * 3 := Nat.mul_le_mul a3 (by omega)
  have l3' : ps.length ≤ 3 := by omega
  refine ⟨l3 _ _ _, ?_⟩
  rcases (by omega : r = 2 ∨ r = 3 ∨ r = 4) with rfl | rfl | rfl
  · exact call_flatR l3' (by omega) (hk _ (.inr (.inl ⟨ps, .inl rfl, hl, hps⟩)))
  · exact call_flatR l3' (by omega) (hk _ (.inr (.inl ⟨ps, .inl rfl, hl, hps⟩)))
  · exact call_flatE l3' (by omega) (hk _ (.inr (.inl ⟨ps, .inr rfl, hl, hps⟩)))
theorem all_map {α β : Type} {f : α → β} {P : α → Prop} : ∀ {ys : List β}, (∀ y ∈ ys, ∃ x, y = f x ∧ P x) → ∃ xs : List α, ys = xs.map f ∧ ∀ x ∈ xs, P x
  | [], _ => ⟨[], rfl, fun x h => by cases h⟩
  | y :: ys, h => by
    obtain ⟨x, hx, px⟩ := h y List.mem_cons_self
    obtain ⟨xs, h1, h2⟩ := all_map (f := f) (P := P) (ys := ys) fun y hy => h y (List.mem_cons_of_mem _ hy)
    exact ⟨x :: xs, by rw [hx, h1]; rfl, fun z hz => (List.mem_cons.mp hz).elim (fun e => by rw [e]; exact px) (h2 z)⟩
theorem r_Ltree {n : Nat} : ∀ ws st k ex, pf_Ltree (n + 1) ws st k ex → (t_Ltree n) (EnD false st.length k ex) (startD N_Ltree ws) st := by
  intro ws st k ex h
  unfold pf_Ltree at h
  split at h
  · rename_i d
    obtain ⟨h0, h1, h5, hk⟩ := h
    have chars : ∀ cs, SetOk cs → k (.im (.tup [.str "chars", .str (S cs)])) [.pool] := fun cs hs => hk (.chars cs) (TreeOk_chars hs)
    have leaf : (sRet (dI (dTup (adCons (dC (.str "chars")) (adCons (dD (dCall pf_Lchars (aCons (dV 0) aNil))) adNil))))) (EnD false 1 k ex) [some (.loc 0), some (.im (.int d)), none, none, none] [.pool] := by
      exact ⟨rfl, fun cs hs => ⟨l2 _ _, chars cs hs⟩⟩
    refine call_take (by decide) (by decide) fun r hr0 hr1 => ?_
    refine oneD (p := d < 1) (fun z => ?_) (fun z => ?_)
    · walk_at "s"
      exact ⟨rfl, fun cs hs => ⟨l2 _ _, chars cs hs⟩⟩
    · refine oneD (p := r < 2) (fun z2 => ?_) (fun z2 => ?_)
      · exact ⟨rfl, fun cs hs => ⟨l2 _ _, chars cs hs⟩⟩
      · refine oneD (p := r < 5) (fun z3 => ?_) (fun z3 => ?_)
        · obtain ⟨e, rfl⟩ : ∃ e : Nat, d = ((e + 1 : Nat) : Int) := ⟨d.toNat - 1, by omega⟩
          have e1 : (((e + 1 : Nat) : Int) - 1) = (e : Int) := by omega
          have e2 : ((e + 1 : Nat) : Int).toNat = e + 1 := by omega
          rw [e2] at hk h1
          refine call_take (by decide) (by decide) fun r2 h2 h3 => ⟨by omega, by omega, lc_all (fun _ y => ∃ x, y = eP x ∧ TreeOk e x) (by rw [rgD_len]; omega) rfl (fun i d hd Q q => ?_) fun ys b1 b2 => ?_⟩
          · refine call_tree (d := ((e + 1 : Nat) : Int) - 1) (by omega) (by omega) (by omega) fun p hp => q _ ⟨p, rfl, ?_⟩
            rw [e1] at hp; exact hp
          · obtain ⟨xs, rfl, hx⟩ := all_map (f := eP) (P := TreeOk e) (ys := ys) fun y hy => by
              obtain ⟨i, hi⟩ := List.mem_iff_getElem?.mp hy
              exact b2 i y hi
            rw [rgD_len, List.length_map] at b1
            exact treF_ok (by omega) (by omega) z3 (by omega) hx hk
        · exact treZ_ok (by omega) h1 h5 hk
  · exact h.elim
def mkRows : List (Str × Nat) → DAD
  | [] => adNil
  | p :: r => adCons (dTup (adCons (dC (.str p.1)) (adCons (dC (.int (p.2 : Nat))) adNil))) (mkRows r)
def eRow (p : Str × Nat) : D := .tup [.str p.1, .int (p.2 : Nat)]
theorem mkRows_ok {σ : Sl} {st : Sto} {ex : DX} : ∀ (rs : List (Str × Nat)) {k : List D → Sto → Prop}, k (rs.map eRow) st → mkRows rs σ st k ex
  | [], _, h => h
  | p :: r, k, h => ⟨l2 _ _, mkRows_ok r (k := fun ws st2 => k (eRow p :: ws) st2) h⟩
def ends1 : List (Str × Nat) := [("**", 1), ("*+b", 1), ("+?)", 1), ("|*", 1), ("||b", 1), ("|", 1), ("(", 1), ("()", 1), ("(|a)", 1)]
def ends2 : List (Str × Nat) := [("[]", 1), ("[^]", 2), ("[b-a]c", 3), ("[c\\n]*[d-a", 9),
  ("\\a", 1), ("\\", 1), ("[ab", 3)]
def ends3 : List (Str × Nat) := [("[a-", 3), ("[a-]", 3), ("[-a]", 1), ("[a^]", 2), ("[\\q]", 2), ("]", 0), ("[a-\\q]", 4), ("[", 1)]
def ends4 : List (Str × Nat) := [("[^", 2), ("(b|)", 3), ("[^\\n-~]", 6),
  ("(?b)", 1), ("[a-c-e]", 4), ("[^^]", 2)]
theorem ends_app : ends = ends1 ++ ends2 ++ ends3 ++ ends4 := rfl
def endG (a b c d : List (Str × Nat)) : DS :=
 (sSeq (sAsg 0 (dI (dLst (mkRows a))))
 (sSeq (sAsg 0 (dI (dOp fAdd (dD (dV 0)) (dLst (mkRows b)))))
 (sSeq (sAsg 0 (dI (dOp fAdd (dD (dV 0)) (dLst (mkRows c)))))
 (sSeq (sAsg 0 (dI (dOp fAdd (dD (dV 0)) (dLst (mkRows d)))))
 (sRet (dV 0))))))
theorem endT_eq : t_Lends = endG ends1 ends2 ends3 ends4 := rfl
theorem endG_ok {a b c d : List (Str × Nat)} (ha : a.length ≤ 1000) (hb : b.length ≤ 1000) (hc : c.length ≤ 1000) (hd : d.length ≤ 1000) {k : W → Sto → Prop} {ex : DX} (hk : k (.im (.lst ((a ++ b ++ c ++ d).map eRow))) []) : endG a b c d (EnD false 0 k ex) [none] [] := by
  have la : (a.map eRow).length = a.length := List.length_map _
  have lb : (b.map eRow).length = b.length := List.length_map _
  have lc : (c.map eRow).length = c.length := List.length_map _
  have ld : (d.map eRow).length = d.length := List.length_map _
  rw [List.map_append, List.map_append, List.map_append] at hk
  refine mkRows_ok a ⟨by omega, ?_⟩
  refine mkRows_ok b ⟨by omega, by omega, ?_⟩
  refine mkRows_ok c ⟨by omega, by rw [List.length_append]; omega, ?_⟩
  refine mkRows_ok d ⟨by omega, by rw [List.length_append, List.length_append]; omega, ?_⟩
  exact hk
theorem r_Lends : ∀ ws st k ex, pf_Lends ws st k ex → t_Lends (EnD false st.length k ex) (startD N_Lends ws) st := by
  intro ws st k ex h
  unfold pf_Lends at h
  split at h
  · rw [endT_eq]
    rw [ends_app] at h
    exact endG_ok (by decide) (by decide) (by decide) (by decide) h
  · exact h.elim
end Dl.Pt
end

section
set_option maxHeartbeats 4000000
namespace Dl.Pt
open PySem PySem.Spec PyProof.Rows L2 Co PySem.StrLaws
theorem alph_len : alph.length = 95 := by decide
theorem alph_lt : ∀ i, i < 94 → (alph.getD i 0) < (alph.getD (i + 1) 0) := by decide
theorem alph_mono : ∀ (d i : Nat), i + d < 95 → 0 < d → alph.getD i 0 < alph.getD (i + d) 0
  | 0, i, _, h => absurd h (Nat.lt_irrefl _)
  | 1, i, h, _ => alph_lt i (by omega)
  | d + 2, i, h, _ => Nat.lt_trans (alph_mono (d + 1) i (by omega) (by omega)) (alph_lt (i + (d + 1)) (by omega))
theorem alph_lt_iff {i j : Nat} (hi : i < 95) (hj : j < 95) : alph.getD i 0 < alph.getD j 0 ↔ i < j := by
  rcases Nat.lt_trichotomy i j with h | h | h
  · have := alph_mono (j - i) i (by omega) (by omega)
    rw [show i + (j - i) = j by omega] at this
    exact ⟨fun _ => h, fun _ => this⟩
  · subst h
    exact ⟨fun z => absurd z (Nat.lt_irrefl _), fun z => absurd z (Nat.lt_irrefl _)⟩
  · have := alph_mono (i - j) j (by omega) (by omega)
    rw [show j + (i - j) = i by omega] at this
    exact ⟨fun z => by omega, fun z => by omega⟩
theorem alph_le_iff {i j : Nat} (hi : i < 95) (hj : j < 95) : alph.getD i 0 ≤ alph.getD j 0 ↔ i ≤ j := by
  have := alph_lt_iff hj hi
  omega
theorem alph_get {i : Nat} (hi : i < 95) : alph[i]? = some (alph.getD i 0) := by
  have : i < alph.length := by rw [alph_len]; exact hi
  rw [List.getElem?_eq_getElem this, List.getD_eq_getElem?_getD, List.getElem?_eq_getElem this]
  rfl
def cov (rs : List (Nat × Nat)) (c : Nat) : Prop := ∃ m ∈ rs, m.1 ≤ c ∧ c ≤ m.2
structure RunJ (cs : List Nat) (k : Nat) (a : List (Nat × Nat) × Int) : Prop where
  ix : ∀ m ∈ a.1, ∃ i j, i ≤ j ∧ j < k ∧ m = (alph.getD i 0, alph.getD j 0)
  cv : ∀ j, j < k → (cov a.1 (alph.getD j 0) ↔ alph.getD j 0 ∈ cs)
  ls : a.2 = -5 ∨ ∃ (l : Nat) (r0 : List (Nat × Nat)) (i : Nat), a.2 = (l : Int) ∧ l < k ∧ i ≤ l ∧ a.1 = r0 ++ [(alph.getD i 0, alph.getD l 0)]
theorem cov_app {a b : List (Nat × Nat)} {c : Nat} : cov (a ++ b) c ↔ cov a c ∨ cov b c := by
  constructor
  · rintro ⟨m, hm, h⟩
    rcases List.mem_append.mp hm with hm | hm
    · exact .inl ⟨m, hm, h⟩
    · exact .inr ⟨m, hm, h⟩
  · rintro (⟨m, hm, h⟩ | ⟨m, hm, h⟩)
    · exact ⟨m, List.mem_append_left _ hm, h⟩
    · exact ⟨m, List.mem_append_right _ hm, h⟩
theorem cov_one {m : Nat × Nat} {c : Nat} : cov [m] c ↔ m.1 ≤ c ∧ c ≤ m.2 := ⟨fun ⟨m', hm, h⟩ => by rw [List.mem_singleton] at hm; rw [← hm]; exact h, fun h => ⟨m, List.mem_singleton.mpr rfl, h⟩⟩
theorem RunJ.step {cs : List Nat} {k : Nat} {a : List (Nat × Nat) × Int} (hk : k < 95) (h : RunJ cs k a) : RunJ cs (k + 1) (runStep cs a k) := by
  obtain ⟨rs, last⟩ := a
  obtain ⟨h1, h2, h3⟩ := h
  dsimp only at h1 h2 h3
  have nocov : ∀ rs' : List (Nat × Nat), (∀ m ∈ rs', ∃ i j, i ≤ j ∧ j < k ∧ m = (alph.getD i 0, alph.getD j 0)) → ¬ cov rs' (alph.getD k 0) := by
    rintro rs' hr ⟨m, hm, _, hc⟩
    obtain ⟨i, j, _, hj, rfl⟩ := hr m hm
    have := (alph_le_iff hk (by omega : j < 95)).mp hc
    omega
  unfold runStep
  rw [alph_get hk]
  dsimp only
  by_cases hm : alph.getD k 0 ∈ cs
  · rw [if_pos hm]
    by_cases hl : last = (k : Int) - 1
    · rw [if_pos hl]
      rcases h3 with h3 | ⟨l, r0, i, e1, e2, e3, e4⟩
      · omega
      · have e5 : l + 1 = k := by omega
        subst e4
        have d1 : (r0 ++ [(alph.getD i 0, alph.getD l 0)]).dropLast = r0 := by simp
        have d2 : (r0 ++ [(alph.getD i 0, alph.getD l 0)]).getLastD (0, 0) = (alph.getD i 0, alph.getD l 0) := by simp
        rw [d1, d2]
        refine ⟨fun m hm' => ?_, fun j hj => ?_, .inr ⟨k, r0, i, rfl, Nat.lt_succ_self k, by omega, rfl⟩⟩
        · rcases List.mem_append.mp hm' with hm' | hm'
          · obtain ⟨i', j', a1, a2, a3⟩ := h1 m (List.mem_append_left _ hm')
            exact ⟨i', j', a1, by omega, a3⟩
          · rw [List.mem_singleton] at hm'
            exact ⟨i, k, by omega, Nat.lt_succ_self k, hm'⟩
        · rw [cov_app, cov_one]
          by_cases z : j = k
          · subst z
            exact ⟨fun _ => hm, fun _ => .inr ⟨(alph_le_iff (by omega) hk).mpr (by omega), Nat.le_refl _⟩⟩
          · have := h2 j (by omega)
            rw [cov_app, cov_one] at this
            rw [← this]
            have a1 := alph_le_iff (i := j) (j := k) (by omega) hk
            have a2 := alph_le_iff (i := j) (j := l) (by omega) (by omega)
            constructor
            · rintro (x | ⟨x, y⟩)
              · exact .inl x
              · exact .inr ⟨x, a2.mpr (by omega)⟩
            · rintro (x | ⟨x, y⟩)
              · exact .inl x
              · exact .inr ⟨x, a1.mpr (by omega)⟩
    · rw [if_neg hl]
      refine ⟨fun m hm' => ?_, fun j hj => ?_, .inr ⟨k, rs, k, rfl, Nat.lt_succ_self k, Nat.le_refl _, rfl⟩⟩
      · rcases List.mem_append.mp hm' with hm' | hm'
        · obtain ⟨i', j', a1, a2, a3⟩ := h1 m hm'
          exact ⟨i', j', a1, by omega, a3⟩
        · rw [List.mem_singleton] at hm'
          exact ⟨k, k, Nat.le_refl _, Nat.lt_succ_self k, hm'⟩
      · rw [cov_app, cov_one]
        by_cases z : j = k
        · subst z
          exact ⟨fun _ => hm, fun _ => .inr ⟨Nat.le_refl _, Nat.le_refl _⟩⟩
        · rw [← h2 j (by omega)]
          have a1 := alph_le_iff (i := k) (j := j) hk (by omega)
          constructor
          · rintro (x | ⟨x, y⟩)
            · exact x
            · have := a1.mp x; omega
          · exact .inl
  · rw [if_neg hm]
    refine ⟨fun m hm' => ?_, fun j hj => ?_, ?_⟩
    · obtain ⟨i', j', a1, a2, a3⟩ := h1 m hm'
      exact ⟨i', j', a1, by omega, a3⟩
    · by_cases z : j = k
      · subst z
        exact ⟨fun x => absurd x (nocov rs h1), fun x => absurd x hm⟩
      · exact h2 j (by omega)
    · rcases h3 with h3 | ⟨l, r0, i, e1, e2, e3, e4⟩
      · exact .inl h3
      · exact .inr ⟨l, r0, i, e1, by omega, e3, e4⟩
theorem runJ_all (cs : List Nat) : ∀ k, k ≤ 95 → RunJ cs k ((List.range k).foldl (runStep cs) ([], -5))
  | 0, _ => ⟨fun m hm => (by cases hm), fun j hj => (by cases hj), .inl rfl⟩
  | k + 1, h => by
    rw [runs_step]
    exact (runJ_all cs k (by omega)).step (by omega)
theorem runs_ix {cs : List Nat} {m : Nat × Nat} (h : m ∈ runs cs) : m.1 ≤ m.2 := by
  obtain ⟨i, j, a1, a2, rfl⟩ := (runJ_all cs 95 (Nat.le_refl _)).ix m h
  exact (alph_le_iff (by omega) a2).mpr a1
theorem alph_idx {c : Nat} (h : c ∈ alph) : ∃ j, j < 95 ∧ c = alph.getD j 0 := by
  obtain ⟨j, hj⟩ := List.getElem?_of_mem h
  have hl := (List.getElem?_eq_some_iff.mp hj).1
  rw [alph_len] at hl
  rw [alph_get hl] at hj
  exact ⟨j, hl, (Option.some.inj hj).symm⟩
theorem alph_nodup : alph.Nodup := by decide
theorem sub_filter : ∀ {l s : List Nat}, l.Nodup → s.Sublist l → l.filter (fun c => decide (c ∈ s)) = s
  | [], s, _, h => by
    have := List.sublist_nil.mp h
    rw [this]
    rfl
  | a :: l, s, hn, h => by
    have hn' := List.nodup_cons.mp hn
    cases h with
    | cons _ h =>
      have ha : a ∉ s := fun z => hn'.1 (h.subset z)
      rw [List.filter_cons_of_neg (by simpa using ha)]
      exact sub_filter hn'.2 h
    | cons_cons _ h =>
      rename_i s'
      rw [List.filter_cons_of_pos (by simp)]
      congr 1
      have ih := sub_filter hn'.2 h
      refine Eq.trans (List.filter_congr fun c hc => ?_) ih
      have hca : c ≠ a := fun z => hn'.1 (by rw [← z]; exact hc)
      simp [hca]
theorem setOf_runs {cs : List Nat} (h : cs.Sublist alph) : setOf (runs cs) = cs := by
  have key : setOf (runs cs) = alph.filter (fun c => decide (c ∈ cs)) := by
    unfold setOf
    apply List.filter_congr
    intro c hc
    obtain ⟨j, hj, rfl⟩ := alph_idx hc
    have := (runJ_all cs 95 (Nat.le_refl _)).cv j hj
    rw [Bool.eq_iff_iff, List.any_eq_true, decide_eq_true_iff, ← this]
    constructor
    · rintro ⟨m, hm, h⟩
      rw [Bool.and_eq_true, decide_eq_true_iff, decide_eq_true_iff] at h
      exact ⟨m, hm, h⟩
    · rintro ⟨m, hm, h⟩
      exact ⟨m, hm, by rw [Bool.and_eq_true, decide_eq_true_iff, decide_eq_true_iff]; exact h⟩
  rw [key]
  exact sub_filter alph_nodup h
end Dl.Pt
end

section
set_option maxHeartbeats 4000000
namespace Dl.Pt
open PySem PySem.Spec PyProof.Rows L2 Co PySem.StrLaws
theorem at0 {t : List Nat} {i : Nat} {c : Nat} {w : List Nat} (h : t.drop i = c :: w) : t[i]? = some c := by
  have : (t.drop i)[0]? = some c := by rw [h]; rfl
  rwa [List.getElem?_drop, Nat.add_zero] at this
theorem atN {t : List Nat} {i : Nat} (h : t.drop i = []) : t[i]? = none := by
  have : (t.drop i)[0]? = none := by rw [h]; rfl
  rwa [List.getElem?_drop, Nat.add_zero] at this
theorem atS {t : List Nat} {i : Nat} {u w : List Nat} (h : t.drop i = u ++ w) : t.drop (i + u.length) = w := by
  rw [← List.drop_drop, h, List.drop_left]
theorem at1 {t : List Nat} {i : Nat} {c : Nat} {w : List Nat} (h : t.drop i = c :: w) : t.drop (i + 1) = w := atS (u := [c]) h
theorem atH {t : List Nat} {i : Nat} {w : List Nat} (h : t.drop i = w) : t[i]? = w.head? := by
  cases w with
  | nil => exact atN h
  | cons c w => exact at0 h
theorem mchP_esc {t : List Nat} {i c : Nat} {r : List Nat} (h : t.drop i = escL insd c ++ r) : mchP t i = .ok c (i + (escL insd c).length) := by
  unfold escL at h ⊢
  by_cases h1 : c = 10
  · subst h1
    rw [if_pos rfl] at h ⊢
    have e0 := at0 h
    have e1 := at0 (at1 h)
    unfold mchP
    rw [e0]
    dsimp only
    rw [if_pos rfl]
    unfold escP
    rw [e1]
    rfl
  · rw [if_neg h1] at h ⊢
    by_cases h2 : c ∈ insd
    · rw [if_pos h2] at h ⊢
      have e0 := at0 h
      have e1 := at0 (at1 h)
      unfold mchP
      rw [e0]
      dsimp only
      rw [if_pos rfl]
      unfold escP
      rw [e1]
      dsimp only
      have n110 : c ≠ 110 := fun z => by rw [z] at h2; revert h2; decide
      have ce : c ∈ escd := by
        have : ∀ x ∈ insd, x ∈ escd := by decide
        exact this c h2
      rw [if_neg n110, if_pos ce]
      rfl
    · rw [if_neg h2] at h ⊢
      have e0 := at0 h
      unfold mchP
      rw [e0]
      dsimp only
      have n92 : c ≠ 92 := fun z => h2 (by rw [z]; decide)
      rw [if_neg n92, if_neg h2]
      rfl
theorem escL_head {bs : List Nat} {c : Nat} : ∃ d w, escL bs c = d :: w ∧ (d = 92 ∨ (d = c ∧ c ∉ bs ∧ c ≠ 10)) := by
  unfold escL
  by_cases h1 : c = 10
  · rw [if_pos h1]; exact ⟨92, [110], rfl, .inl rfl⟩
  · rw [if_neg h1]
    by_cases h2 : c ∈ bs
    · rw [if_pos h2]; exact ⟨92, [c], rfl, .inl rfl⟩
    · rw [if_neg h2]; exact ⟨c, [], rfl, .inr ⟨rfl, h2, h1⟩⟩
theorem runL_head (m : Nat × Nat) : ∃ d w, runL m = d :: w ∧ d ∉ [93, 94, 45] := by
  obtain ⟨d, w, e, h⟩ := escL_head (bs := insd) (c := m.1)
  refine ⟨d, _, by unfold runL; rw [e]; rfl, ?_⟩
  rcases h with rfl | ⟨rfl, h, _⟩
  · decide
  · intro z
    apply h
    have : ∀ x ∈ ([93, 94, 45] : List Nat), x ∈ insd := by decide
    exact this _ z
theorem memP_run {t : List Nat} {i : Nat} {m : Nat × Nat} {r : List Nat} (hm : m.1 ≤ m.2) (h : t.drop i = runL m ++ r) (hr : r.head? ≠ some 45) : memP t i = .ok m (i + (runL m).length) := by
  obtain ⟨a, b⟩ := m
  unfold runL at h ⊢
  rw [List.append_assoc] at h
  have e1 := mchP_esc h
  have h2 := atS h
  unfold memP
  rw [e1]
  dsimp only [Rr.then] at h h2 hm ⊢
  by_cases hab : a = b
  · subst hab
    rw [if_pos rfl] at h2 ⊢
    have e2 := atH h2
    rw [List.nil_append] at e2
    rw [e2, if_neg hr, List.append_nil]
  · rw [if_neg hab] at h2 ⊢
    have h2 : t.drop (i + (escL insd a).length) = 45 :: (escL insd b ++ r) := h2
    rw [at0 h2, if_pos rfl]
    have e3 := mchP_esc (at1 h2)
    rw [e3]
    dsimp only
    rw [if_neg (by omega), List.length_append, List.length_cons]
    congr 1
    omega
theorem memsP_runs {t : List Nat} : ∀ (ms : List (Nat × Nat)) (f : Nat) (acc : List (Nat × Nat)) (i : Nat) (r : List Nat), (∀ m ∈ ms, m.1 ≤ m.2) → t.drop i = ms.flatMap runL ++ 93 :: r → memsP t (f + ms.length + 1) acc i = .ok (acc ++ ms) (i + (ms.flatMap runL).length)
  | [], f, acc, i, r, _, h => by
    show (if t[i]? = some 93 then Rr.ok acc i else _) = _
    rw [if_pos (at0 h), List.append_nil]
    rfl
  | m :: ms, f, acc, i, r, hm, h => by
    rw [List.flatMap_cons, List.append_assoc] at h
    obtain ⟨d, w, e, hd⟩ := runL_head m
    have h0 : t[i]? = some d := by rw [e] at h; exact at0 h
    have hn : t[i]? ≠ some 93 := fun z => by rw [h0] at z; cases z; exact hd (by decide)
    have hr : (ms.flatMap runL ++ 93 :: r).head? ≠ some 45 := by
      cases ms with
      | nil => exact fun z => by cases z
      | cons m2 ms =>
        obtain ⟨d2, w2, e2, hd2⟩ := runL_head m2
        rw [List.flatMap_cons, e2]
        exact fun z => by cases z; exact hd2 (by decide)
    have e1 := memP_run (hm m List.mem_cons_self) h hr
    have ih := memsP_runs ms f (acc ++ [m]) (i + (runL m).length) r (fun x hx => hm x (List.mem_cons_of_mem _ hx)) (atS h)
    show (if t[i]? = some 93 then Rr.ok acc i else (memP t i).then fun m j => memsP t (f + ms.length + 1) (acc ++ [m]) j) = _
    rw [if_neg hn, e1]
    show memsP t (f + ms.length + 1) (acc ++ [m]) (i + (runL m).length) = _
    rw [ih, List.flatMap_cons, List.length_append, List.append_assoc, Nat.add_assoc]
    rfl
theorem runs_ne {cs : List Nat} (h : SetOk cs) : runs cs ≠ [] := fun z => by
  have := setOf_runs h.2
  rw [z] at this
  obtain ⟨h1, h2⟩ := h
  apply h1
  rw [← this]
  unfold setOf
  rw [List.filter_eq_nil_iff]
  intro a _
  simp
theorem chrP_runs {t : List Nat} {i : Nat} {cs : List Nat} {r : List Nat} (hs : SetOk cs) (h : t.drop i = (runs cs).flatMap runL ++ 93 :: r) : chrP t i = .ok (.chars cs) (i + ((runs cs).flatMap runL).length + 1) := by
  have hne := runs_ne hs
  have hso := setOf_runs hs.2
  have hix : ∀ m ∈ runs cs, m.1 ≤ m.2 := fun m hm => runs_ix hm
  have hln := flatMap_len runL 5 runL_len (runs cs)
  have hlt : (runs cs).length ≤ t.length + 1 := by
    have : ∀ ms : List (Nat × Nat), ms.length ≤ (ms.flatMap runL).length := fun ms => by
      induction ms with
      | nil => exact Nat.le_refl _
      | cons m ms ih =>
        obtain ⟨d, w, e, _⟩ := runL_head m
        rw [List.flatMap_cons, List.length_append, e, List.length_cons, List.length_cons]
        omega
    have a1 := this (runs cs)
    have a2 := congrArg List.length h
    rw [List.length_drop, List.length_append] at a2
    omega
  generalize runs cs = rs at *
  cases rs with
  | nil => exact absurd rfl hne
  | cons m ms =>
    obtain ⟨d, w, e, hd⟩ := runL_head m
    rw [List.flatMap_cons, List.append_assoc] at h
    have h0 : t[i]? = some d := by have h' := h; rw [e] at h'; exact at0 h'
    have n94 : t[i]? ≠ some 94 := fun z => by rw [h0] at z; cases z; exact hd (by decide)
    have hr : (ms.flatMap runL ++ 93 :: r).head? ≠ some 45 := by
      cases ms with
      | nil => exact fun z => by cases z
      | cons m2 ms =>
        obtain ⟨d2, w2, e2, hd2⟩ := runL_head m2
        rw [List.flatMap_cons, e2]
        exact fun z => by cases z; exact hd2 (by decide)
    have e1 := memP_run (hix m List.mem_cons_self) h hr
    rw [List.length_cons] at hlt
    have e2 := memsP_runs ms (t.length - ms.length) [m] (i + (runL m).length) r (fun x hx => hix x (List.mem_cons_of_mem _ hx)) (atS h)
    rw [show t.length - ms.length + ms.length + 1 = t.length + 1 by omega] at e2
    unfold chrP
    simp only [if_neg n94]
    rw [e1]
    show ((memsP t (t.length + 1) [m] (i + (runL m).length)).then fun ms k => if setOf ms = [] then Rr.bad k else .ok (Pt.chars (setOf ms)) (k + 1)) = _
    rw [e2]
    show (if setOf (m :: ms) = [] then Rr.bad _ else .ok (Pt.chars (setOf (m :: ms))) (_ + 1)) = _
    rw [hso, if_neg hs.1, List.flatMap_cons, List.length_append]
    congr 1
    omega
theorem sub_full : ∀ {l s : List Nat}, s.Sublist l → s.length = l.length → s = l := fun h e => h.eq_of_length e
theorem elemP_set {alt : List Nat → Nat → Rr Pt} {t : List Nat} {i : Nat} {cs : List Nat} {r : List Nat} (hs : SetOk cs) (h : t.drop i = setL cs ++ r) : elemP alt t i = .ok (.chars cs) (i + (setL cs).length) := by
  by_cases h1 : cs.length = 1
  · obtain ⟨c, rfl⟩ := List.length_eq_one_iff.mp h1
    have e : setL [c] = escL outd c := rfl
    rw [e] at h ⊢
    unfold escL at h ⊢
    by_cases h1 : c = 10
    · subst h1
      rw [if_pos rfl] at h ⊢
      unfold elemP
      rw [at0 h]
      dsimp only
      rw [if_pos rfl]
      unfold escP
      rw [at0 (at1 h)]
      rfl
    · rw [if_neg h1] at h ⊢
      by_cases h2 : c ∈ outd
      · rw [if_pos h2] at h ⊢
        have n110 : c ≠ 110 := fun z => by rw [z] at h2; revert h2; decide
        have ce : c ∈ escd := by
          have : ∀ x ∈ outd, x ∈ escd := by decide
          exact this c h2
        unfold elemP
        rw [at0 h]
        dsimp only
        rw [if_pos rfl]
        unfold escP
        rw [at0 (at1 h)]
        dsimp only
        rw [if_neg n110, if_pos ce]
        rfl
      · rw [if_neg h2] at h ⊢
        have nn : ∀ x ∈ outd, c ≠ x := fun x hx z => h2 (by rw [z]; exact hx)
        have n3 : c ∉ [124, 42, 43, 63, 41, 93] := fun z => by
          have : ∀ x ∈ ([124, 42, 43, 63, 41, 93] : List Nat), x ∈ outd := by decide
          exact h2 (this c z)
        unfold elemP
        rw [at0 h]
        dsimp only
        rw [if_neg (nn 92 (by decide)), if_neg (nn 40 (by decide)), if_neg n3, if_neg (nn 91 (by decide)), if_neg (nn 46 (by decide))]
        rfl
  · rw [setL_two h1] at h ⊢
    by_cases h2 : cs.length = 95
    · rw [if_pos h2] at h ⊢
      have e : cs = alph := sub_full hs.2 (by rw [h2, alph_len])
      subst e
      unfold elemP
      rw [at0 h]
      rfl
    · rw [if_neg h2] at h ⊢
      have h : t.drop i = 91 :: (((runs cs).flatMap runL ++ [93]) ++ r) := h
      unfold elemP
      rw [at0 h]
      dsimp only
      rw [if_neg (by decide), if_neg (by decide), if_neg (by decide), if_pos rfl]
      have h' := at1 h
      rw [List.append_assoc] at h'
      rw [chrP_runs hs h', List.length_cons, List.length_append, List.length_singleton]
      congr 1
      omega
end Dl.Pt
end

section
set_option maxHeartbeats 4000000
namespace Dl.Pt
open PySem PySem.Spec PyProof.Rows L2 Co PySem.StrLaws
theorem partsP_fuel {alt : List Nat → Nat → Rr Pt} (ha : AltAt alt) {t : List Nat} : ∀ (f f' : Nat) (acc : List Pt) (i : Nat), i ≤ t.length → t.length - i < f → t.length - i < f' → partsP alt t f acc i = partsP alt t f' acc i
  | 0, _, _, _, _, h, _ => by omega
  | _ + 1, 0, _, _, _, _, h => by omega
  | f + 1, f' + 1, acc, i, hi, h, h' => by
    rw [partsP_succ, partsP_succ]
    cases hc : t[i]? with
    | none => rfl
    | some c =>
      dsimp only
      split
      · rfl
      · cases hr : partP alt t i with
        | deep => rfl
        | bad q => rfl
        | ok p j =>
          have hj := partP_at ha hr
          exact partsP_fuel ha f f' (acc ++ [p]) j hj.2 (by omega) (by omega)
theorem seqsP_succ {alt : List Nat → Nat → Rr Pt} {t : List Nat} {f : Nat} {acc : List Pt} {i : Nat} : seqsP alt t (f + 1) acc i = if t[i]? = some 124 then (seqP alt t (i + 1)).then fun p j => seqsP alt t f (acc ++ [p]) j else .ok acc i := rfl
theorem seqsP_fuel {alt : List Nat → Nat → Rr Pt} (ha : AltAt alt) {t : List Nat} : ∀ (f f' : Nat) (acc : List Pt) (i : Nat), i ≤ t.length → t.length - i < f → t.length - i < f' → seqsP alt t f acc i = seqsP alt t f' acc i
  | 0, _, _, _, _, h, _ => by omega
  | _ + 1, 0, _, _, _, _, h => by omega
  | f + 1, f' + 1, acc, i, hi, h, h' => by
    rw [seqsP_succ, seqsP_succ]
    split
    · rename_i hc
      cases hr : seqP alt t (i + 1) with
      | deep => rfl
      | bad q => rfl
      | ok p j =>
        have hj := seqP_at ha hr
        exact seqsP_fuel ha f f' (acc ++ [p]) j hj.2 (by omega) (by omega)
    · rfl
def pos {α : Type} (r : Rr α) : Rr Unit := match r with
  | .ok _ j => .ok () j
  | .bad j => .bad j
  | .deep => .deep
theorem pos_then {α β γ : Type} {r : Rr α} {r' : Rr β} {f : α → Nat → Rr γ} {g : β → Nat → Rr γ} (h : pos r = pos r') (hf : ∀ a b j, pos (f a j) = pos (g b j)) : pos (r.then f) = pos (r'.then g) := by
  cases r <;> cases r' <;> (try cases h) <;> first | rfl | exact hf _ _ _
theorem pos_then2 {α β γ δ : Type} {r : Rr α} {r' : Rr β} {f : α → Nat → Rr γ} {g : β → Nat → Rr δ} (h : pos r = pos r') (hf : ∀ a b j, pos (f a j) = pos (g b j)) : pos (r.then f) = pos (r'.then g) := by
  cases r <;> cases r' <;> (try cases h) <;> first | rfl | exact hf _ _ _
theorem partsP_pos2 {alt : List Nat → Nat → Rr Pt} {t : List Nat} : ∀ (f : Nat) (acc acc' : List Pt) (i : Nat), pos (partsP alt t f acc i) = pos (partsP alt t f acc' i)
  | 0, _, _, _ => rfl
  | f + 1, acc, acc', i => by
    rw [partsP_succ, partsP_succ]
    cases hc : t[i]? with
    | none => rfl
    | some c =>
      dsimp only
      split
      · rfl
      · cases hr : partP alt t i with
        | deep => rfl
        | bad q => rfl
        | ok p j => exact partsP_pos2 f (acc ++ [p]) (acc' ++ [p]) j
theorem seqsP_pos2 {alt : List Nat → Nat → Rr Pt} {t : List Nat} : ∀ (f : Nat) (acc acc' : List Pt) (i : Nat), pos (seqsP alt t f acc i) = pos (seqsP alt t f acc' i)
  | 0, _, _, _ => rfl
  | f + 1, acc, acc', i => by
    rw [seqsP_succ, seqsP_succ]
    split
    · cases hr : seqP alt t (i + 1) with
      | deep => rfl
      | bad q => rfl
      | ok p j => exact seqsP_pos2 f (acc ++ [p]) (acc' ++ [p]) j
    · rfl
structure PartW (alt : List Nat → Nat → Rr Pt) (p : Pt) (w : List Nat) : Prop where
  rd : ∀ (t : List Nat) (i : Nat) (r : List Nat), t.drop i = w ++ r → r.head? ∉ [some 42, some 43, some 63] → partP alt t i = .ok p (i + w.length)
  hd : ∃ c v, w = c :: v ∧ c ∉ [124, 41, 42, 43, 63]
theorem PartW.head {alt : List Nat → Nat → Rr Pt} {p : Pt} {w : List Nat} (h : PartW alt p w) (r : List Nat) : (w ++ r).head? ∉ [some 42, some 43, some 63] ∧ ∃ c, (w ++ r).head? = some c ∧ ¬ (c = 124 ∨ c = 41) := by
  obtain ⟨c, v, rfl, hc⟩ := h.hd
  refine ⟨fun z => hc ?_, c, rfl, fun z => hc ?_⟩
  · have z : some c ∈ [some 42, some 43, some 63] := z
    simp at z
    rcases z with rfl | rfl | rfl <;> decide
  · rcases z with rfl | rfl <;> decide
def PartsW (alt : List Nat → Nat → Rr Pt) : List (Pt × List Nat) → Prop
  | [] => True
  | x :: xs => PartW alt x.1 x.2 ∧ PartsW alt xs
def wOf (xs : List (Pt × List Nat)) : List Nat := (xs.map (·.2)).flatten
theorem wOf_cons (x : Pt × List Nat) (xs : List (Pt × List Nat)) : wOf (x :: xs) = x.2 ++ wOf xs := rfl
theorem PartsW.len {alt : List Nat → Nat → Rr Pt} : ∀ {xs : List (Pt × List Nat)}, PartsW alt xs → xs.length ≤ (wOf xs).length
  | [], _ => Nat.zero_le _
  | x :: xs, ⟨h, hs⟩ => by
    have := PartsW.len hs
    obtain ⟨c, v, e, _⟩ := h.hd
    rw [wOf_cons, List.length_append, e, List.length_cons, List.length_cons]
    omega
theorem PartsW.head {alt : List Nat → Nat → Rr Pt} {xs : List (Pt × List Nat)} (h : PartsW alt xs) {r : List Nat} (hr : r.head? ∉ [some 42, some 43, some 63]) : (wOf xs ++ r).head? ∉ [some 42, some 43, some 63] := by
  cases xs with
  | nil => exact hr
  | cons x xs =>
    rw [wOf_cons, List.append_assoc]
    exact (h.1.head _).1
theorem partsP_eat {alt : List Nat → Nat → Rr Pt} {t : List Nat} : ∀ (xs : List (Pt × List Nat)) (f : Nat) (acc : List Pt) (i : Nat) (r : List Nat), PartsW alt xs → t.drop i = wOf xs ++ r → r.head? ∉ [some 42, some 43, some 63] → partsP alt t (f + xs.length) acc i = partsP alt t f (acc ++ xs.map (·.1)) (i + (wOf xs).length)
  | [], f, acc, i, r, _, _, _ => by
    rw [List.map_nil, List.append_nil]
    rfl
  | x :: xs, f, acc, i, r, ⟨h, hs⟩, ht, hr => by
    rw [wOf_cons, List.append_assoc] at ht
    obtain ⟨h1, c, h2, h3⟩ := h.head (wOf xs ++ r)
    have hc := (atH ht).trans h2
    have e := h.rd t i (wOf xs ++ r) ht (hs.head hr)
    rw [List.length_cons, show f + (xs.length + 1) = (f + xs.length) + 1 from rfl, partsP_succ, hc]
    dsimp only
    rw [if_neg h3, e]
    show partsP alt t (f + xs.length) (acc ++ [x.1]) (i + x.2.length) = _
    rw [partsP_eat xs f (acc ++ [x.1]) (i + x.2.length) r hs (atS ht) hr, wOf_cons, List.length_append, List.append_assoc, Nat.add_assoc]
    rfl
theorem seqP_end {alt : List Nat → Nat → Rr Pt} (ha : AltAt alt) {t : List Nat} {xs : List (Pt × List Nat)} {i : Nat} {r : List Nat} (hne : xs ≠ []) (h : PartsW alt xs) (ht : t.drop i = wOf xs ++ r) (hr : r.head? = none ∨ r.head? = some 124 ∨ r.head? = some 41) : seqP alt t i = .ok (joinR (xs.map (·.1))) (i + (wOf xs).length) := by
  have hr2 : r.head? ∉ [some 42, some 43, some 63] := by rcases hr with e | e | e <;> rw [e] <;> decide
  cases xs with
  | nil => exact absurd rfl hne
  | cons x xs =>
    obtain ⟨h, hs⟩ := h
    rw [wOf_cons, List.append_assoc] at ht
    have e := h.rd t i (wOf xs ++ r) ht (hs.head hr2)
    have hl := hs.len
    have hlt : xs.length ≤ t.length := by
      have a2 := congrArg List.length ht
      rw [List.length_drop, List.length_append, List.length_append] at a2
      omega
    have e2 := partsP_eat xs (t.length + 1 - xs.length) [x.1] (i + x.2.length) r hs (atS ht) hr2
    rw [show t.length + 1 - xs.length + xs.length = t.length + 1 by omega] at e2
    have hend := atH (atS (u := wOf xs) (atS ht))
    unfold seqP
    rw [e]
    show ((partsP alt t (t.length + 1) [x.1] (i + x.2.length)).then fun ps k => Rr.ok (joinR ps) k) = _
    rw [e2, show t.length + 1 - xs.length = (t.length - xs.length) + 1 by omega, partsP_succ, hend, wOf_cons, List.length_append, Nat.add_assoc]
    rcases hr with z | z | z <;> rw [z] <;> rfl
theorem seqP_more {alt : List Nat → Nat → Rr Pt} (ha : AltAt alt) {t : List Nat} {xs : List (Pt × List Nat)} {i c : Nat} {r : List Nat} (hne : xs ≠ []) (h : PartsW alt xs) (ht : t.drop i = wOf xs ++ c :: r) (hc : c ∉ [42, 43, 63, 124, 41]) : pos (seqP alt t i) = pos (seqP alt t (i + (wOf xs).length)) := by
  have hr2 : (c :: r).head? ∉ [some 42, some 43, some 63] := fun z => by
    have z : some c ∈ [some 42, some 43, some 63] := z
    simp at z
    apply hc
    rcases z with rfl | rfl | rfl <;> decide
  have hc2 : ¬ (c = 124 ∨ c = 41) := fun z => by rcases z with rfl | rfl <;> exact hc (by decide)
  cases xs with
  | nil => exact absurd rfl hne
  | cons x xs =>
    obtain ⟨h, hs⟩ := h
    rw [wOf_cons, List.append_assoc] at ht
    have e := h.rd t i (wOf xs ++ c :: r) ht (hs.head hr2)
    have hl := hs.len
    have a2 := congrArg List.length ht
    obtain ⟨c0, v0, e0, _⟩ := h.hd
    rw [List.length_drop, List.length_append, List.length_append, List.length_cons, e0, List.length_cons] at a2
    have e2 := partsP_eat xs (t.length + 1 - xs.length) [x.1] (i + x.2.length) (c :: r) hs (atS ht) hr2
    rw [show t.length + 1 - xs.length + xs.length = t.length + 1 by omega] at e2
    have hend := at0 (atS (u := wOf xs) (atS ht))
    rw [wOf_cons, List.length_append, ← Nat.add_assoc]
    unfold seqP
    rw [e]
    show pos ((partsP alt t (t.length + 1) [x.1] (i + x.2.length)).then fun ps k => Rr.ok (joinR ps) k) = _
    rw [e2, show t.length + 1 - xs.length = (t.length - xs.length) + 1 by omega, partsP_succ, hend]
    dsimp only
    rw [if_neg hc2]
    generalize hj : i + x.2.length + (wOf xs).length = j
    cases hp : partP alt t j with
    | deep => rfl
    | bad q => rfl
    | ok p j1 =>
      have hj1 := partP_at ha hp
      have hx : x.2.length = v0.length + 1 := by rw [e0]; rfl
      show pos ((partsP alt t (t.length - xs.length) _ j1).then _) = pos ((partsP alt t (t.length + 1) [p] j1).then _)
      rw [partsP_fuel ha (t.length - xs.length) (t.length + 1) _ j1 hj1.2 (by omega) (by omega)]
      exact pos_then (partsP_pos2 _ _ _ _) fun _ _ _ => rfl
end Dl.Pt
end

section
set_option maxHeartbeats 4000000
namespace Dl.Pt
open PySem PySem.Spec PyProof.Rows L2 Co PySem.StrLaws
abbrev Sq := List (Pt × List Nat)
def AltsW (alt : List Nat → Nat → Rr Pt) (xss : List Sq) : Prop := ∀ xs ∈ xss, xs ≠ [] ∧ PartsW alt xs
def barW (xss : List Sq) : List Nat := xss.flatMap fun xs => 124 :: wOf xs
def rowOf (xs : Sq) : Pt := joinR (xs.map (·.1))
theorem altP_succ {n : Nat} {t : List Nat} {i : Nat} : altP (n + 1) t i = (seqP (altP n) t i).then fun p j => (seqsP (altP n) t (t.length + 1) [p] j).then fun ps k => .ok (joinE ps) k := rfl
theorem barW_cons (xs : Sq) (xss : List Sq) : barW (xs :: xss) = 124 :: (wOf xs ++ barW xss) := rfl
theorem bar_head {xss : List Sq} {r : List Nat} (hr : r.head? = none ∨ r.head? = some 124 ∨ r.head? = some 41) : (barW xss ++ r).head? = none ∨ (barW xss ++ r).head? = some 124 ∨ (barW xss ++ r).head? = some 41 := by
  cases xss with
  | nil => exact hr
  | cons xs xss => exact .inr (.inl rfl)
theorem barW_len {alt : List Nat → Nat → Rr Pt} : ∀ {xss : List Sq}, xss.length ≤ (barW xss).length
  | [] => Nat.zero_le _
  | xs :: xss => by
    have := barW_len (alt := alt) (xss := xss)
    rw [barW_cons, List.length_cons, List.length_cons, List.length_append]
    omega
theorem seqsP_eat {alt : List Nat → Nat → Rr Pt} (ha : AltAt alt) {t : List Nat} : ∀ (xss : List Sq) (f : Nat) (acc : List Pt) (i : Nat) (r : List Nat), AltsW alt xss → t.drop i = barW xss ++ r → (r.head? = none ∨ r.head? = some 124 ∨ r.head? = some 41) → seqsP alt t (f + xss.length) acc i = seqsP alt t f (acc ++ xss.map rowOf) (i + (barW xss).length)
  | [], f, acc, i, r, _, _, _ => by
    rw [List.map_nil, List.append_nil]
    rfl
  | xs :: xss, f, acc, i, r, h, ht, hr => by
    obtain ⟨hne, hp⟩ := h xs List.mem_cons_self
    have ht : t.drop i = 124 :: (wOf xs ++ barW xss ++ r) := ht
    have h2 := at1 ht
    rw [List.append_assoc] at h2
    have e := seqP_end ha hne hp h2 (bar_head hr)
    rw [List.length_cons, show f + (xss.length + 1) = (f + xss.length) + 1 from rfl, seqsP_succ, if_pos (at0 ht), e]
    show seqsP alt t (f + xss.length) (acc ++ [rowOf xs]) (i + 1 + (wOf xs).length) = _
    rw [seqsP_eat ha xss f (acc ++ [rowOf xs]) _ r (fun x hx => h x (List.mem_cons_of_mem _ hx)) (atS h2) hr, barW_cons, List.length_cons, List.length_append, List.append_assoc]
    congr 1
    omega
def altW : List Sq → List Nat
  | [] => []
  | xs :: xss => wOf xs ++ barW xss
theorem altP_end {n : Nat} {t : List Nat} {xss : List Sq} {i : Nat} {r : List Nat} (hne : xss ≠ []) (h : AltsW (altP n) xss) (ht : t.drop i = altW xss ++ r) (hr : r.head? = none ∨ r.head? = some 41) : altP (n + 1) t i = .ok (joinE (xss.map rowOf)) (i + (altW xss).length) := by
  have ha := altP_at n
  have hr' : r.head? = none ∨ r.head? = some 124 ∨ r.head? = some 41 := hr.elim .inl fun z => .inr (.inr z)
  cases xss with
  | nil => exact absurd rfl hne
  | cons xs xss =>
    obtain ⟨hn, hp⟩ := h xs List.mem_cons_self
    have ht : t.drop i = (wOf xs ++ barW xss) ++ r := ht
    rw [List.append_assoc] at ht
    have e := seqP_end ha hn hp ht (bar_head hr')
    have hl := barW_len (alt := altP n) (xss := xss)
    have a2 := congrArg List.length ht
    rw [List.length_drop, List.length_append, List.length_append] at a2
    have e2 := seqsP_eat ha xss (t.length + 1 - xss.length) [rowOf xs] (i + (wOf xs).length) r (fun x hx => h x (List.mem_cons_of_mem _ hx)) (atS ht) hr'
    rw [show t.length + 1 - xss.length + xss.length = t.length + 1 by omega] at e2
    have hend := atH (atS (u := barW xss) (atS ht))
    rw [altP_succ, e]
    show ((seqsP (altP n) t (t.length + 1) [rowOf xs] (i + (wOf xs).length)).then fun ps k => Rr.ok (joinE ps) k) = _
    rw [e2, show t.length + 1 - xss.length = (t.length - xss.length) + 1 by omega, seqsP_succ, hend, if_neg (by rcases hr with z | z <;> rw [z] <;> decide)]
    show Rr.ok (joinE ([rowOf xs] ++ xss.map rowOf)) _ = Rr.ok _ (i + (wOf xs ++ barW xss).length)
    rw [List.length_append, Nat.add_assoc]
    rfl
theorem altP_bar {n : Nat} {t : List Nat} {xs : Sq} {i : Nat} {r : List Nat} (hne : xs ≠ []) (hp : PartsW (altP n) xs) (ht : t.drop i = wOf xs ++ 124 :: r) : pos (altP (n + 1) t i) = pos (altP (n + 1) t (i + (wOf xs).length + 1)) := by
  have ha := altP_at n
  have e := seqP_end ha hne hp ht (.inr (.inl rfl))
  have h2 := at0 (atS ht)
  have hl := (List.getElem?_eq_some_iff.mp h2).1
  rw [altP_succ, altP_succ, e]
  show pos ((seqsP (altP n) t (t.length + 1) [rowOf xs] (i + (wOf xs).length)).then _) = _
  rw [seqsP_succ, if_pos h2]
  cases hr : seqP (altP n) t (i + (wOf xs).length + 1) with
  | deep => rfl
  | bad q => rfl
  | ok p j =>
    have hj := seqP_at ha hr
    show pos ((seqsP (altP n) t t.length ([rowOf xs] ++ [p]) j).then _) = pos ((seqsP (altP n) t (t.length + 1) [p] j).then _)
    rw [seqsP_fuel ha t.length (t.length + 1) _ j hj.2 (by omega) (by omega)]
    exact pos_then (seqsP_pos2 _ _ _ _) fun _ _ _ => rfl
theorem altP_more {n : Nat} {t : List Nat} {xs : Sq} {i c : Nat} {r : List Nat} (hne : xs ≠ []) (hp : PartsW (altP n) xs) (ht : t.drop i = wOf xs ++ c :: r) (hc : c ∉ [42, 43, 63, 124, 41]) : pos (altP (n + 1) t i) = pos (altP (n + 1) t (i + (wOf xs).length)) := by
  have e := seqP_more (altP_at n) hne hp ht hc
  rw [altP_succ, altP_succ]
  refine pos_then e fun p q j => pos_then (seqsP_pos2 _ _ _ _) fun _ _ _ => rfl
theorem altP_all {n : Nat} {t : List Nat} {c : Nat} {r : List Nat} (hc : c ∉ [42, 43, 63, 124, 41]) : ∀ (xss : List Sq) (i : Nat), xss ≠ [] → AltsW (altP n) xss → t.drop i = altW xss ++ c :: r → pos (altP (n + 1) t i) = pos (altP (n + 1) t (i + (altW xss).length))
  | [], _, h, _, _ => absurd rfl h
  | [xs], i, _, h, ht => by
    obtain ⟨hn, hp⟩ := h xs List.mem_cons_self
    have e : altW [xs] = wOf xs := List.append_nil _
    rw [e] at ht ⊢
    exact altP_more hn hp ht hc
  | xs :: ys :: xss, i, _, h, ht => by
    obtain ⟨hn, hp⟩ := h xs List.mem_cons_self
    have e : altW (xs :: ys :: xss) = wOf xs ++ 124 :: altW (ys :: xss) := rfl
    rw [e, List.append_assoc] at ht
    have ih := altP_all hc (ys :: xss) (i + (wOf xs).length + 1) (by simp) (fun x hx => h x (List.mem_cons_of_mem _ hx)) (at1 (atS ht))
    rw [altP_bar hn hp ht, ih, e, List.length_append, List.length_cons]
    congr 2
    omega
def paL (p : Pt) : List Nat := brk (isE p) (canL p)
def elL (p : Pt) : List Nat := brk (!isC p) (canL p)
def partsOf : Pt → List Pt
  | .row qs => qs
  | p => [p]
def altsOf : Pt → List Pt
  | .either qs => qs
  | p => [p]
def sqOf (p : Pt) : Sq := (partsOf p).map fun q => (q, paL q)
theorem wOf_sq (p : Pt) (h : isE p = false) : wOf (sqOf p) = canL p := by
  have g : ∀ qs : List Pt, wOf (qs.map fun q => (q, paL q)) = rowL qs := fun qs => by
    rw [rowL_brk]
    unfold wOf
    rw [List.map_map]
    rfl
  cases p with
  | row qs => exact g qs
  | either qs => cases h
  | _ => exact (g [_]).trans (List.append_nil _)
theorem altW_of (p : Pt) (h : ∀ q ∈ altsOf p, isE q = false) : altW ((altsOf p).map sqOf) = canL p := by
  have g : ∀ qs : List Pt, (∀ q ∈ qs, isE q = false) → altW (qs.map sqOf) = eitL qs := fun qs => by
    induction qs with
    | nil => exact fun _ => rfl
    | cons q qs ih =>
      intro hq
      cases qs with
      | nil => exact (List.append_nil _).trans (wOf_sq q (hq q List.mem_cons_self))
      | cons q2 qs =>
        have := ih fun x hx => hq x (List.mem_cons_of_mem _ hx)
        show wOf (sqOf q) ++ 124 :: altW ((q2 :: qs).map sqOf) = canL q ++ 124 :: eitL (q2 :: qs)
        rw [this, wOf_sq q (hq q List.mem_cons_self)]
  cases p with
  | either qs => exact g qs h
  | _ => exact g [_] h
end Dl.Pt
end

section
set_option maxHeartbeats 4000000
namespace Dl.Pt
open PySem PySem.Spec PyProof.Rows L2 Co PySem.StrLaws
structure Tr (m : Nat) : Prop where
  B : ∀ p, TreeOk m p → isE p = false → ∀ n, m ≤ n → sqOf p ≠ [] ∧ PartsW (altP n) (sqOf p) ∧ rowOf (sqOf p) = p
  A : ∀ p, TreeOk m p → ∀ n, m ≤ n → AltsW (altP n) ((altsOf p).map sqOf) ∧ (∀ q ∈ altsOf p, isE q = false) ∧ altsOf p ≠ [] ∧ joinE (((altsOf p).map sqOf).map rowOf) = p
  P : ∀ p, TreeOk m p → (∀ qs, p ≠ .row qs) → ∀ n, (if isE p = true then m + 1 else m) ≤ n → PartW (altP n) p (paL p)
theorem rdA {m : Nat} (h : Tr m) {p : Pt} (hp : TreeOk m p) {n : Nat} (hn : m ≤ n) {t : List Nat} {i : Nat} {r : List Nat} (ht : t.drop i = canL p ++ r) (hr : r.head? = none ∨ r.head? = some 41) : altP (n + 1) t i = .ok p (i + (canL p).length) := by
  obtain ⟨h1, h2, h3, h4⟩ := h.A p hp n hn
  rw [← altW_of p h2] at ht ⊢
  rw [altP_end (by simpa using h3) h1 ht hr, h4]
theorem partP_plain {alt : List Nat → Nat → Rr Pt} {t : List Nat} {i j : Nat} {p : Pt} {r : List Nat} (h : elemP alt t i = .ok p j) (ht : t.drop j = r) (hr : r.head? ∉ [some 42, some 43, some 63]) : partP alt t i = .ok p j := by
  unfold partP
  rw [h]
  show (match t[j]? with | some 42 => Rr.ok (.star p) (j + 1) | some 43 => .ok (.plus p) (j + 1) | some 63 => .ok (.maybe p) (j + 1) | _ => .ok p j : Rr Pt) = _
  rw [atH ht]
  split
  · rename_i z; exact absurd (by rw [z]; decide) hr
  · rename_i z; exact absurd (by rw [z]; decide) hr
  · rename_i z; exact absurd (by rw [z]; decide) hr
  · rfl
theorem elemP_paren {alt : List Nat → Nat → Rr Pt} {t : List Nat} {i : Nat} {p : Pt} {w r : List Nat} (ht : t.drop i = 40 :: (w ++ [41]) ++ r) (h : alt t (i + 1) = .ok p (i + 1 + w.length)) : elemP alt t i = .ok p (i + (40 :: (w ++ [41])).length) := by
  have ht : t.drop i = 40 :: ((w ++ [41]) ++ r) := ht
  have h2 := at1 ht
  rw [List.append_assoc] at h2
  have h3 := at0 (atS h2)
  unfold elemP
  rw [at0 ht]
  dsimp only
  rw [if_neg (by decide), if_pos rfl, h]
  show (if t[i + 1 + w.length]? = some 41 then Rr.ok p (i + 1 + w.length + 1) else .bad _) = _
  rw [if_pos h3, List.length_cons, List.length_append, List.length_singleton]
  congr 1
  omega
theorem setL_head {cs : List Nat} (hs : SetOk cs) : ∃ c v, setL cs = c :: v ∧ c ∉ [124, 41, 42, 43, 63] := by
  by_cases h1 : cs.length = 1
  · obtain ⟨c, rfl⟩ := List.length_eq_one_iff.mp h1
    obtain ⟨d, w, e, h⟩ := escL_head (bs := outd) (c := c)
    refine ⟨d, w, e, ?_⟩
    rcases h with rfl | ⟨rfl, h, _⟩
    · decide
    · intro z
      have : ∀ x ∈ ([124, 41, 42, 43, 63] : List Nat), x ∈ outd := by decide
      exact h (this d z)
  · rw [setL_two h1]
    split
    · exact ⟨46, [], rfl, by decide⟩
    · exact ⟨91, _, rfl, by decide⟩
theorem flatR_id : ∀ {qs : List Pt}, (∀ q ∈ qs, ∀ rs, q ≠ .row rs) → flatR qs = qs
  | [], _ => rfl
  | p :: qs, h => by
    have ih := flatR_id fun q hq => h q (List.mem_cons_of_mem _ hq)
    cases p with
    | row rs => exact absurd rfl (h _ List.mem_cons_self rs)
    | _ => show _ :: flatR qs = _; rw [ih]
theorem flatE_id : ∀ {qs : List Pt}, (∀ q ∈ qs, isE q = false) → flatE qs = qs
  | [], _ => rfl
  | p :: qs, h => by
    have ih := flatE_id fun q hq => h q (List.mem_cons_of_mem _ hq)
    cases p with
    | either rs => exact absurd (h _ List.mem_cons_self) (fun z => by cases z)
    | _ => show _ :: flatE qs = _; rw [ih]
theorem joinR_two {qs : List Pt} (h : flatR qs = qs) (h2 : 2 ≤ qs.length) : joinR qs = .row qs := by
  unfold joinR
  rw [h]
  split
  · simp at h2
  · rfl
theorem joinE_two {qs : List Pt} (h : flatE qs = qs) (h2 : 2 ≤ qs.length) : joinE qs = .either qs := by
  unfold joinE
  rw [h]
  split
  · simp at h2
  · rfl
theorem joinR_one {p : Pt} (h : ∀ rs, p ≠ .row rs) : joinR [p] = p := by
  have := flatR_id (qs := [p]) fun q hq => by rw [List.mem_singleton] at hq; rw [hq]; exact h
  unfold joinR
  rw [this]
theorem joinE_one {p : Pt} (h : isE p = false) : joinE [p] = p := by
  have := flatE_id (qs := [p]) fun q hq => by rw [List.mem_singleton] at hq; rw [hq]; exact h
  unfold joinE
  rw [this]
theorem PartsW_map {alt : List Nat → Nat → Rr Pt} : ∀ {qs : List Pt}, (∀ q ∈ qs, PartW alt q (paL q)) → PartsW alt (qs.map fun q => (q, paL q))
  | [], _ => trivial
  | q :: qs, h => ⟨h q List.mem_cons_self, PartsW_map fun x hx => h x (List.mem_cons_of_mem _ hx)⟩
theorem map_fst (qs : List Pt) : (qs.map fun q => (q, paL q)).map (·.1) = qs := by
  rw [List.map_map]
  exact List.map_id' _
theorem elem_ok {m : Nat} (ih : ∀ k, k < m → Tr k) {q : Pt} {k : Nat} (hk : k < m) (hq : TreeOk k q) {n : Nat} (hn : m ≤ n) {t : List Nat} {i : Nat} {r : List Nat} (ht : t.drop i = elL q ++ r) : elemP (altP n) t i = .ok q (i + (elL q).length) := by
  have par : t.drop i = 40 :: (canL q ++ [41]) ++ r → elemP (altP n) t i = .ok q (i + (40 :: (canL q ++ [41])).length) := fun ht => by
    obtain ⟨n', rfl⟩ : ∃ n', n = n' + 1 := ⟨n - 1, by omega⟩
    have h2 := at1 (show t.drop i = 40 :: ((canL q ++ [41]) ++ r) from ht)
    rw [List.append_assoc] at h2
    exact elemP_paren ht (rdA (ih k hk) hq (by omega) h2 (.inr rfl))
  cases q with
  | chars cs => exact elemP_set (tree_parts k _ hq) ht
  | _ => exact par ht
theorem elL_head {m : Nat} {q : Pt} (hq : TreeOk m q) : ∃ c v, elL q = c :: v ∧ c ∉ [124, 41, 42, 43, 63] := by
  cases q with
  | chars cs => exact setL_head (tree_parts m _ hq)
  | _ => exact ⟨40, _, rfl, by decide⟩
theorem rep_ok {m : Nat} (ih : ∀ k, k < m → Tr k) {q p : Pt} {c k : Nat} (hk : k < m) (hq : TreeOk k q) {n : Nat} (hn : m ≤ n) (hc : ∀ (t : List Nat) (j : Nat), t[j]? = some c → (match t[j]? with | some 42 => Rr.ok (.star q) (j + 1) | some 43 => .ok (.plus q) (j + 1) | some 63 => .ok (.maybe q) (j + 1) | _ => .ok q j : Rr Pt) = .ok p (j + 1)) : PartW (altP n) p (elL q ++ [c]) where
  rd t i r ht hr := by
    rw [List.append_assoc] at ht
    have e := elem_ok ih hk hq hn ht
    have h2 := at0 (atS ht)
    unfold partP
    rw [e]
    show (match t[i + (elL q).length]? with | some 42 => Rr.ok (.star q) (i + (elL q).length + 1) | some 43 => .ok (.plus q) (i + (elL q).length + 1) | some 63 => .ok (.maybe q) (i + (elL q).length + 1) | _ => .ok q (i + (elL q).length) : Rr Pt) = _
    rw [hc t _ h2, List.length_append]
    rfl
  hd := by
    obtain ⟨d, v, e, hd⟩ := elL_head hq
    exact ⟨d, v ++ [c], by rw [e]; rfl, hd⟩
theorem tr_step {m : Nat} (ih : ∀ k, k < m → Tr k) : Tr m := by
  have P0 : ∀ p, TreeOk m p → (∀ qs, p ≠ .row qs) → isE p = false → ∀ n, m ≤ n → PartW (altP n) p (paL p) := fun p hp hr he n hn => by
    have hpt := tree_parts m p hp
    cases p with
    | row qs => exact absurd rfl (hr qs)
    | either qs => cases he
    | chars cs => exact ⟨fun t i r ht h2 => partP_plain (elemP_set hpt ht) (atS ht) h2, setL_head hpt⟩
    | star q =>
      obtain ⟨k, hk, hq⟩ := hpt
      exact rep_ok ih hk hq hn fun t j e => by rw [e]; rfl
    | plus q =>
      obtain ⟨k, hk, hq⟩ := hpt
      exact rep_ok ih hk hq hn fun t j e => by rw [e]; rfl
    | maybe q =>
      obtain ⟨k, hk, hq⟩ := hpt
      exact rep_ok ih hk hq hn fun t j e => by rw [e]; rfl
  have B : ∀ p, TreeOk m p → isE p = false → ∀ n, m ≤ n → sqOf p ≠ [] ∧ PartsW (altP n) (sqOf p) ∧ rowOf (sqOf p) = p := fun p hp he n hn => by
    have single : (∀ qs, p ≠ .row qs) → partsOf p = [p] → sqOf p ≠ [] ∧ PartsW (altP n) (sqOf p) ∧ rowOf (sqOf p) = p := fun hr e => by
      unfold sqOf
      rw [e]
      exact ⟨by simp, ⟨P0 p hp hr he n hn, trivial⟩, joinR_one hr⟩
    cases p with
    | either qs => cases he
    | row qs =>
      have hpt : PartsOk m qs true := tree_parts m (.row qs) hp
      have hnr : ∀ q ∈ qs, ∀ rs, q ≠ .row rs := fun q hq => (hpt.2 q hq).2
      refine ⟨fun z => ?_, PartsW_map fun q hq => ?_, ?_⟩
      · have : qs = [] := List.map_eq_nil_iff.mp z
        have h2 := hpt.1
        rw [this] at h2
        cases h2
      · obtain ⟨⟨k, hk, h1⟩, h2⟩ := hpt.2 q hq
        exact (ih k hk).P q h1 (hnr q hq) n (by split <;> omega)
      · show joinR ((qs.map fun q => (q, paL q)).map (·.1)) = _
        rw [map_fst]
        exact joinR_two (flatR_id hnr) hpt.1
    | _ => exact single (fun qs z => by cases z) rfl
  have A : ∀ p, TreeOk m p → ∀ n, m ≤ n → AltsW (altP n) ((altsOf p).map sqOf) ∧ (∀ q ∈ altsOf p, isE q = false) ∧ altsOf p ≠ [] ∧ joinE (((altsOf p).map sqOf).map rowOf) = p := fun p hp n hn => by
    have single : isE p = false → altsOf p = [p] → AltsW (altP n) ((altsOf p).map sqOf) ∧ (∀ q ∈ altsOf p, isE q = false) ∧ altsOf p ≠ [] ∧ joinE (((altsOf p).map sqOf).map rowOf) = p := fun he e => by
      obtain ⟨h1, h2, h3⟩ := B p hp he n hn
      rw [e]
      refine ⟨fun xs hx => ?_, fun q hq => ?_, by simp, ?_⟩
      · rw [List.map_singleton, List.mem_singleton] at hx
        rw [hx]
        exact ⟨h1, h2⟩
      · rw [List.mem_singleton] at hq
        rw [hq]
        exact he
      · rw [List.map_singleton, List.map_singleton, h3]
        exact joinE_one he
    cases p with
    | either qs =>
      have hpt : PartsOk m qs false := tree_parts m (.either qs) hp
      have hne : ∀ q ∈ qs, isE q = false := fun q hq => by
        have := (hpt.2 q hq).2
        cases q with
        | either rs => exact absurd rfl (this rs)
        | _ => rfl
      have hb : ∀ q ∈ qs, sqOf q ≠ [] ∧ PartsW (altP n) (sqOf q) ∧ rowOf (sqOf q) = q := fun q hq => by
        obtain ⟨⟨k, hk, h1⟩, _⟩ := hpt.2 q hq
        exact (ih k hk).B q h1 (hne q hq) n (by omega)
      refine ⟨fun xs hx => ?_, hne, fun z => ?_, ?_⟩
      · obtain ⟨q, hq, rfl⟩ := List.mem_map.mp hx
        exact ⟨(hb q hq).1, (hb q hq).2.1⟩
      · have z : qs = [] := z
        have h2 := hpt.1
        rw [z] at h2
        cases h2
      · have e : ((altsOf (.either qs)).map sqOf).map rowOf = qs := by
          rw [List.map_map]
          refine Eq.trans (List.map_congr_left fun q hq => ?_) (List.map_id qs)
          exact (hb q hq).2.2
        rw [e]
        exact joinE_two (flatE_id hne) hpt.1
    | _ => exact single rfl rfl
  refine ⟨B, A, fun p hp hr n hn => ?_⟩
  cases he : isE p with
  | false => rw [he] at hn; exact P0 p hp hr he n hn
  | true =>
    rw [he, if_pos rfl] at hn
    obtain ⟨n', rfl⟩ : ∃ n', n = n' + 1 := ⟨n - 1, by omega⟩
    have ep : paL p = 40 :: (canL p ++ [41]) := by unfold paL; rw [he]; rfl
    rw [ep]
    obtain ⟨h1, h2, h3, h4⟩ := A p hp n' (by omega)
    refine ⟨fun t i r ht h5 => ?_, ⟨40, _, rfl, by decide⟩⟩
    have hx := at1 (show t.drop i = 40 :: ((canL p ++ [41]) ++ r) from ht)
    rw [List.append_assoc] at hx
    refine partP_plain (elemP_paren ht ?_) (atS ht) h5
    have hx' := hx
    rw [← altW_of p h2] at hx' ⊢
    rw [altP_end (by simpa using h3) h1 hx' (.inr rfl), h4]
theorem tr_all (m : Nat) : Tr m := Nat.strongRecOn m fun m ih => tr_step ih
end Dl.Pt
end

section
set_option maxHeartbeats 4000000
namespace Dl.Qt
open PySem PySem.Spec PyProof.Rows L2 Co PySem.StrLaws Dl.Pt
structure ElN (n : Nat) (p : Pt) (w : List Nat) : Prop where
  rd : ∀ (t : List Nat) (i : Nat) (r : List Nat), t.drop i = w ++ r → elemP (altP n) t i = .ok p (i + w.length)
  hd : ∃ c v, w = c :: v ∧ c ∉ [124, 41, 42, 43, 63]
def SqN (n : Nat) (p : Pt) (w : List Nat) : Prop := ∃ xs : Sq, xs ≠ [] ∧ PartsW (altP n) xs ∧ wOf xs = w ∧ joinR (xs.map (·.1)) = p
def AlN (n : Nat) (p : Pt) (w : List Nat) : Prop := ∃ xss : List Sq, xss ≠ [] ∧ AltsW (altP n) xss ∧ altW xss = w ∧ joinE (xss.map rowOf) = p
theorem ElN.part {n : Nat} {p : Pt} {w : List Nat} (h : ElN n p w) : PartW (altP n) p w := ⟨fun t i r ht hr => partP_plain (h.rd t i r ht) (atS ht) hr, h.hd⟩
theorem sq_one {n : Nat} {p : Pt} {w : List Nat} (h : PartW (altP n) p w) (hj : joinR [p] = p) : SqN n p w := ⟨[(p, w)], by simp, ⟨h, trivial⟩, List.append_nil _, hj⟩
theorem al_one {n : Nat} {p : Pt} {w : List Nat} (h : SqN n p w) (hj : joinE [p] = p) : AlN n p w := by
  obtain ⟨xs, h1, h2, h3, h4⟩ := h
  refine ⟨[xs], by simp, fun x hx => ?_, ?_, ?_⟩
  · rw [List.mem_singleton] at hx
    rw [hx]
    exact ⟨h1, h2⟩
  · exact (List.append_nil _).trans h3
  · show joinE [joinR (xs.map (·.1))] = p
    rw [h4]
    exact hj
theorem al_read {n : Nat} {p : Pt} {w : List Nat} (h : AlN n p w) {t : List Nat} {i : Nat} {r : List Nat} (ht : t.drop i = w ++ r) (hr : r.head? = none ∨ r.head? = some 41) : altP (n + 1) t i = .ok p (i + w.length) := by
  obtain ⟨xss, h1, h2, rfl, h4⟩ := h
  rw [altP_end h1 h2 ht hr, h4]
theorem el_paren {n : Nat} {p : Pt} {w : List Nat} (h : AlN n p w) : ElN (n + 1) p (40 :: (w ++ [41])) := by
  refine ⟨fun t i r ht => ?_, 40, _, rfl, by decide⟩
  have h2 := at1 (show t.drop i = 40 :: ((w ++ [41]) ++ r) from ht)
  rw [List.append_assoc] at h2
  exact elemP_paren ht (al_read h h2 (.inr rfl))
def Std (p : Pt) : Prop := joinR [p] = p ∧ joinE [p] = p
theorem std_tree {m : Nat} {p : Pt} (h : TreeOk m p) : Std p := by
  have ht := tree_parts m p h
  cases p with
  | row qs =>
    have ht : PartsOk m qs true := ht
    refine ⟨?_, joinE_one rfl⟩
    have e : flatR [.row qs] = qs := List.append_nil _
    unfold joinR
    rw [e]
    split
    · have h2 := ht.1
      simp at h2
    · rfl
  | either qs =>
    have ht : PartsOk m qs false := ht
    refine ⟨joinR_one fun rs z => (by cases z), ?_⟩
    have e : flatE [.either qs] = qs := List.append_nil _
    unfold joinE
    rw [e]
    split
    · have h2 := ht.1
      simp at h2
    · rfl
  | _ => exact ⟨joinR_one fun rs z => (by cases z), joinE_one rfl⟩
def parN (j : Nat) (w : List Nat) : List Nat := List.replicate j 40 ++ (w ++ List.replicate j 41)
theorem parN_succ (j : Nat) (w : List Nat) : parN (j + 1) w = 40 :: (parN j w ++ [41]) := by
  unfold parN
  rw [List.replicate_succ, List.replicate_succ', List.cons_append, List.append_assoc, List.append_assoc]
theorem parN_len (j : Nat) (w : List Nat) : (parN j w).length = w.length + 2 * j := by
  unfold parN
  rw [List.length_append, List.length_append, List.length_replicate, List.length_replicate]
  omega
theorem el_parN {p : Pt} {w : List Nat} (hs : Std p) : ∀ (j n : Nat), AlN n p w → 1 ≤ j → ElN (n + j) p (parN j w)
  | 0, _, _, h => by omega
  | 1, n, h, _ => by
    have := el_paren h
    rw [parN_succ]
    have e : parN 0 w = w := List.append_nil _
    rw [e]
    exact this
  | j + 2, n, h, _ => by
    have ih := el_parN hs (j + 1) n h (by omega)
    rw [parN_succ]
    exact el_paren (al_one (sq_one ih.part hs.1) hs.2)
structure Sp (b : Nat) (p : Pt) (w : List Nat) : Prop where
  al : ∀ n, b ≤ n → AlN n p w
  sq : isE p = false → ∀ n, b ≤ n → SqN n p w
  pt : isE p = false → (∀ qs, p ≠ .row qs) → ∀ n, b ≤ n → PartW (altP n) p w
  el : isC p = true → ∀ n, b ≤ n → ElN n p w
theorem Sp.of_el {b : Nat} {p : Pt} {w : List Nat} (hs : Std p) (h : ∀ n, b ≤ n → ElN n p w) : Sp b p w :=
  ⟨fun n hn => al_one (sq_one (h n hn).part hs.1) hs.2, fun _ n hn => sq_one (h n hn).part hs.1, fun _ _ n hn => (h n hn).part, fun _ n hn => h n hn⟩
theorem Sp.of_pt {b : Nat} {p : Pt} {w : List Nat} (hs : Std p) (hc : isC p = false) (h : ∀ n, b ≤ n → PartW (altP n) p w) : Sp b p w :=
  ⟨fun n hn => al_one (sq_one (h n hn) hs.1) hs.2, fun _ n hn => sq_one (h n hn) hs.1, fun _ _ n hn => h n hn, fun z => by rw [hc] at z; cases z⟩
theorem Sp.of_sq {b : Nat} {qs : List Pt} {w : List Nat} (h : ∀ n, b ≤ n → SqN n (.row qs) w) : Sp b (.row qs) w :=
  ⟨fun n hn => al_one (h n hn) (joinE_one rfl), fun _ => h, fun _ z => absurd rfl (z qs), fun z => by cases z⟩
theorem Sp.of_al {b : Nat} {qs : List Pt} {w : List Nat} (h : ∀ n, b ≤ n → AlN n (.either qs) w) : Sp b (.either qs) w :=
  ⟨h, (fun z => by cases z), (fun z => by cases z), fun z => by cases z⟩
theorem Sp.mono {b c : Nat} {p : Pt} {w : List Nat} (h : Sp b p w) (hb : b ≤ c) : Sp c p w :=
  ⟨fun n hn => h.al n (by omega), fun z n hn => h.sq z n (by omega), fun z y n hn => h.pt z y n (by omega), fun z n hn => h.el z n (by omega)⟩
theorem Sp.wrap {b : Nat} {p : Pt} {w : List Nat} (hs : Std p) (h : Sp b p w) {j : Nat} (hj : j ≤ 3) : Sp (b + 3) p (parN j w) ∧ (1 ≤ j → ∀ n, b + 3 ≤ n → ElN n p (parN j w)) := by
  have el : 1 ≤ j → ∀ n, b + 3 ≤ n → ElN n p (parN j w) := fun h1 n hn => by
    have := el_parN hs j (n - j) (h.al (n - j) (by omega)) h1
    rw [show n - j + j = n by omega] at this
    exact this
  refine ⟨?_, el⟩
  cases j with
  | zero =>
    have e : parN 0 w = w := List.append_nil _
    rw [e]
    exact h.mono (by omega)
  | succ j => exact Sp.of_el hs (el (by omega))
theorem sq_parts {n : Nat} {xs : Sq} (hne : xs ≠ []) (h : ∀ x ∈ xs, PartW (altP n) x.1 x.2) : SqN n (joinR (xs.map (·.1))) (wOf xs) := by
  refine ⟨xs, hne, ?_, rfl, rfl⟩
  have : ∀ ys : Sq, (∀ x ∈ ys, PartW (altP n) x.1 x.2) → PartsW (altP n) ys := fun ys => by
    induction ys with
    | nil => exact fun _ => trivial
    | cons y ys ih => exact fun h => ⟨h y List.mem_cons_self, ih fun x hx => h x (List.mem_cons_of_mem _ hx)⟩
  exact this xs h
theorem sp_row {b : Nat} {xs : Sq} (h2 : 2 ≤ xs.length) (hr : ∀ x ∈ xs, ∀ rs, x.1 ≠ .row rs) (h : ∀ x ∈ xs, ∀ n, b ≤ n → PartW (altP n) x.1 x.2) : Sp b (.row (xs.map (·.1))) (wOf xs) := by
  refine Sp.of_sq fun n hn => ?_
  have e : joinR (xs.map (·.1)) = .row (xs.map (·.1)) := joinR_two (flatR_id fun q hq => by
    obtain ⟨x, hx, rfl⟩ := List.mem_map.mp hq
    exact hr x hx) (by rw [List.length_map]; exact h2)
  rw [← e]
  exact sq_parts (fun z => by rw [z] at h2; cases h2) fun x hx => h x hx n hn
theorem sp_row2 {b : Nat} {x y : Pt × List Nat} {xs : Sq} (hr : ∀ z ∈ x :: y :: xs, ∀ rs, z.1 ≠ .row rs) (h : ∀ z ∈ x :: y :: xs, ∀ n, b ≤ n → PartW (altP n) z.1 z.2) : Sp (b + 1) (.row ((x :: y :: xs).map (·.1))) (40 :: ((x.2 ++ y.2) ++ [41]) ++ wOf xs) := by
  refine Sp.of_sq fun n hn => ?_
  have g := (sp_row (b := b) (xs := [x, y]) (by simp) (fun z hz => hr z (by simp at hz ⊢; rcases hz with h | h <;> simp [h])) fun z hz => h z (by simp at hz ⊢; rcases hz with h | h <;> simp [h])).al (n - 1) (by omega)
  have e1 : wOf [x, y] = x.2 ++ y.2 := by show x.2 ++ (y.2 ++ []) = _; rw [List.append_nil]
  rw [e1] at g
  have g2 := el_paren g
  rw [show n - 1 + 1 = n by omega] at g2
  have e2 : joinR ((.row ([x, y].map (·.1)) : Pt) :: xs.map (·.1)) = .row ((x :: y :: xs).map (·.1)) := by
    have f : flatR ((.row ([x, y].map (·.1)) : Pt) :: xs.map (·.1)) = (x :: y :: xs).map (·.1) := by
      show [x.1, y.1] ++ flatR (xs.map (·.1)) = _
      rw [flatR_id fun q hq => by
        obtain ⟨z, hz, rfl⟩ := List.mem_map.mp hq
        exact hr z (List.mem_cons_of_mem _ (List.mem_cons_of_mem _ hz))]
      rfl
    unfold joinR
    rw [f]
    rfl
  have := sq_parts (n := n) (xs := ((.row ([x, y].map (·.1)) : Pt), 40 :: ((x.2 ++ y.2) ++ [41])) :: xs) (by simp) fun z hz => by
    rcases List.mem_cons.mp hz with hz | hz
    · rw [hz]; exact g2.part
    · exact h z (List.mem_cons_of_mem _ (List.mem_cons_of_mem _ hz)) n (by omega)
  rw [List.map_cons, e2] at this
  exact this
theorem al_sqs {n : Nat} : ∀ {xs : Sq}, (∀ x ∈ xs, SqN n x.1 x.2) → ∃ yss : List Sq, yss.length = xs.length ∧ AltsW (altP n) yss ∧ barW yss = (xs.flatMap fun x => 124 :: x.2) ∧ yss.map rowOf = xs.map (·.1)
  | [], _ => ⟨[], rfl, (fun x hx => by cases hx), rfl, rfl⟩
  | x :: xs, h => by
    obtain ⟨yss, h1, h2, h3, h4⟩ := al_sqs fun z hz => h z (List.mem_cons_of_mem _ hz)
    obtain ⟨ys, a1, a2, a3, a4⟩ := h x List.mem_cons_self
    refine ⟨ys :: yss, by rw [List.length_cons, List.length_cons, h1], fun z hz => ?_, ?_, ?_⟩
    · rcases List.mem_cons.mp hz with hz | hz
      · rw [hz]; exact ⟨a1, a2⟩
      · exact h2 z hz
    · rw [barW_cons, a3, h3, List.flatMap_cons]
      rfl
    · rw [List.map_cons, h4, List.map_cons]
      show joinR (ys.map (·.1)) :: _ = _
      rw [a4]
def barT : Sq → List Nat
  | [] => []
  | x :: xs => x.2 ++ xs.flatMap fun x => 124 :: x.2
theorem al_all {n : Nat} {xs : Sq} (hne : xs ≠ []) (h : ∀ x ∈ xs, SqN n x.1 x.2) : AlN n (joinE (xs.map (·.1))) (barT xs) := by
  obtain ⟨yss, h1, h2, h3, h4⟩ := al_sqs h
  refine ⟨yss, fun z => by rw [z] at h1; exact hne (List.eq_nil_of_length_eq_zero h1.symm), h2, ?_, by rw [h4]⟩
  cases xs with
  | nil => exact absurd rfl hne
  | cons x xs =>
    cases yss with
    | nil => cases h1
    | cons ys yss =>
      rw [barW_cons, List.flatMap_cons] at h3
      exact List.cons.inj h3 |>.2
theorem sp_either {b : Nat} {xs : Sq} (h2 : 2 ≤ xs.length) (hr : ∀ x ∈ xs, isE x.1 = false) (h : ∀ x ∈ xs, ∀ n, b ≤ n → SqN n x.1 x.2) : Sp b (.either (xs.map (·.1))) (barT xs) := by
  refine Sp.of_al fun n hn => ?_
  have e : joinE (xs.map (·.1)) = .either (xs.map (·.1)) := joinE_two (flatE_id fun q hq => by
    obtain ⟨x, hx, rfl⟩ := List.mem_map.mp hq
    exact hr x hx) (by rw [List.length_map]; exact h2)
  rw [← e]
  exact al_all (fun z => by rw [z] at h2; cases h2) fun x hx => h x hx n hn
theorem sp_either2 {b : Nat} {x y : Pt × List Nat} {xs : Sq} (hr : ∀ z ∈ xs ++ [x, y], isE z.1 = false) (h : ∀ z ∈ xs ++ [x, y], ∀ n, b ≤ n → SqN n z.1 z.2) : Sp (b + 1) (.either ((xs ++ [x, y]).map (·.1))) (barT (xs ++ [((.either [x.1, y.1] : Pt), 40 :: ((x.2 ++ 124 :: y.2) ++ [41]))])) := by
  refine Sp.of_al fun n hn => ?_
  have g := (sp_either (b := b) (xs := [x, y]) (by simp) (fun z hz => hr z (List.mem_append_right _ hz)) fun z hz => h z (List.mem_append_right _ hz)).al (n - 1) (by omega)
  have e1 : barT [x, y] = x.2 ++ 124 :: y.2 := by show x.2 ++ (124 :: y.2 ++ []) = _; rw [List.append_nil]
  rw [e1] at g
  have g2 := el_paren g
  rw [show n - 1 + 1 = n by omega] at g2
  have g3 := sq_one g2.part (joinR_one fun rs z => (by cases z))
  have e2 : joinE ((xs ++ [((.either [x.1, y.1] : Pt), 40 :: ((x.2 ++ 124 :: y.2) ++ [41]))] : Sq).map (·.1)) = .either ((xs ++ [x, y]).map (·.1)) := by
    have f : flatE ((xs ++ [((.either [x.1, y.1] : Pt), 40 :: ((x.2 ++ 124 :: y.2) ++ [41]))] : Sq).map (·.1)) = (xs ++ [x, y]).map (·.1) := by
      rw [List.map_append, flatE_app, flatE_id fun q hq => by
        obtain ⟨z, hz, rfl⟩ := List.mem_map.mp hq
        exact hr z (List.mem_append_left _ hz), List.map_append]
      rfl
    unfold joinE
    rw [f]
    split
    · rename_i e
      have := congrArg List.length e
      rw [List.length_map, List.length_append] at this
      simp at this
    · rfl
  rw [← e2]
  refine al_all (by simp) fun z hz => ?_
  rcases List.mem_append.mp hz with hz | hz
  · exact h z (List.mem_append_left _ hz) n (by omega)
  · rw [List.mem_singleton] at hz
    rw [hz]
    exact g3
theorem pt_rep {n : Nat} {q p : Pt} {c : Nat} {w : List Nat} (h : ElN n q w) (hc : ∀ (t : List Nat) (j : Nat), t[j]? = some c → (match t[j]? with | some 42 => Rr.ok (.star q) (j + 1) | some 43 => .ok (.plus q) (j + 1) | some 63 => .ok (.maybe q) (j + 1) | _ => .ok q j : Rr Pt) = .ok p (j + 1)) : PartW (altP n) p (w ++ [c]) where
  rd t i r ht hr := by
    rw [List.append_assoc] at ht
    have e := h.rd t i _ ht
    have h2 := at0 (atS ht)
    unfold partP
    rw [e]
    show (match t[i + w.length]? with | some 42 => Rr.ok (.star q) (i + w.length + 1) | some 43 => .ok (.plus q) (i + w.length + 1) | some 63 => .ok (.maybe q) (i + w.length + 1) | _ => .ok q (i + w.length) : Rr Pt) = _
    rw [hc t _ h2, List.length_append]
    rfl
  hd := by
    obtain ⟨d, v, e, hd⟩ := h.hd
    exact ⟨d, v ++ [c], by rw [e]; rfl, hd⟩
end Dl.Qt
end

section
set_option maxHeartbeats 4000000
namespace Dl.Qt
open PySem PySem.Spec PyProof.Rows L2 Co PySem.StrLaws Dl.Pt
theorem mchP_escL {bs : List Nat} (h1 : ∀ x ∈ insd, x ∈ bs) (h2 : ∀ x ∈ bs, x ∈ escd) {t : List Nat} {i c : Nat} {r : List Nat} (h : t.drop i = escL bs c ++ r) : mchP t i = .ok c (i + (escL bs c).length) := by
  unfold escL at h ⊢
  by_cases hc : c = 10
  · subst hc
    rw [if_pos rfl] at h ⊢
    unfold mchP
    rw [at0 h]
    dsimp only
    rw [if_pos rfl]
    unfold escP
    rw [at0 (at1 h)]
    rfl
  · rw [if_neg hc] at h ⊢
    by_cases hb : c ∈ bs
    · rw [if_pos hb] at h ⊢
      have ce := h2 c hb
      have n110 : c ≠ 110 := fun z => by rw [z] at ce; revert ce; decide
      unfold mchP
      rw [at0 h]
      dsimp only
      rw [if_pos rfl]
      unfold escP
      rw [at0 (at1 h)]
      dsimp only
      rw [if_neg n110, if_pos ce]
      rfl
    · rw [if_neg hb] at h ⊢
      have ni : c ∉ insd := fun z => hb (h1 c z)
      have n92 : c ≠ 92 := fun z => ni (by rw [z]; decide)
      unfold mchP
      rw [at0 h]
      dsimp only
      rw [if_neg n92, if_neg ni]
      rfl
def Spt (bs : List Nat) (c : Nat) (w : List Nat) : Prop := (c = 10 ∧ w = [10]) ∨ w = escL bs c ∨ w = escL escd c
theorem ins_esc : ∀ x ∈ insd, x ∈ escd := by decide
theorem out_esc : ∀ x ∈ outd, x ∈ escd := by decide
theorem spt_len {bs : List Nat} {c : Nat} {w : List Nat} (h : Spt bs c w) : w.length ≤ 2 := by
  rcases h with ⟨_, rfl⟩ | rfl | rfl
  · decide
  · exact escL_len _ _
  · exact escL_len _ _
theorem spt_mch {c : Nat} {w : List Nat} (hw : Spt insd c w) {t : List Nat} {i : Nat} {r : List Nat} (h : t.drop i = w ++ r) : mchP t i = .ok c (i + w.length) := by
  rcases hw with ⟨rfl, rfl⟩ | rfl | rfl
  · unfold mchP
    rw [at0 h]
    rfl
  · exact mchP_escL (fun _ h => h) ins_esc h
  · exact mchP_escL ins_esc (fun _ h => h) h
theorem spt_head {c : Nat} {w : List Nat} (hw : Spt insd c w) : ∃ d v, w = d :: v ∧ d ∉ [93, 94, 45] := by
  rcases hw with ⟨rfl, rfl⟩ | rfl | rfl
  · exact ⟨10, [], rfl, by decide⟩
  · obtain ⟨d, v, e, h⟩ := escL_head (bs := insd) (c := c)
    refine ⟨d, v, e, ?_⟩
    rcases h with rfl | ⟨rfl, h, _⟩
    · decide
    · intro z
      have : ∀ x ∈ ([93, 94, 45] : List Nat), x ∈ insd := by decide
      exact h (this d z)
  · obtain ⟨d, v, e, h⟩ := escL_head (bs := escd) (c := c)
    refine ⟨d, v, e, ?_⟩
    rcases h with rfl | ⟨rfl, h, _⟩
    · decide
    · intro z
      have : ∀ x ∈ ([93, 94, 45] : List Nat), x ∈ escd := by decide
      exact h (this d z)
def MemW (m : Nat × Nat) (u : List Nat) : Prop := (m.1 ≠ m.2 ∧ ∃ a b, Spt insd m.1 a ∧ Spt insd m.2 b ∧ u = a ++ 45 :: b) ∨ (m.1 = m.2 ∧ ∃ a, Spt insd m.1 a ∧ (u = a ∨ u = a ++ 45 :: a))
theorem memW_len {m : Nat × Nat} {u : List Nat} (h : MemW m u) : u.length ≤ 5 := by
  rcases h with ⟨_, a, b, h1, h2, rfl⟩ | ⟨_, a, h1, rfl | rfl⟩
  · have := spt_len h1; have := spt_len h2
    rw [List.length_append, List.length_cons]; omega
  · have := spt_len h1; omega
  · have := spt_len h1
    rw [List.length_append, List.length_cons]; omega
theorem memW_head {m : Nat × Nat} {u : List Nat} (h : MemW m u) : ∃ d v, u = d :: v ∧ d ∉ [93, 94, 45] := by
  rcases h with ⟨_, a, b, h1, h2, rfl⟩ | ⟨_, a, h1, rfl | rfl⟩
  · obtain ⟨d, v, rfl, hd⟩ := spt_head h1; exact ⟨d, _, rfl, hd⟩
  · exact spt_head h1
  · obtain ⟨d, v, rfl, hd⟩ := spt_head h1; exact ⟨d, _, rfl, hd⟩
theorem memW_read {m : Nat × Nat} {u : List Nat} (hm : m.1 ≤ m.2) (h : MemW m u) {t : List Nat} {i : Nat} {r : List Nat} (ht : t.drop i = u ++ r) (hr : r.head? ≠ some 45) : memP t i = .ok m (i + u.length) := by
  obtain ⟨a, b⟩ := m
  have two : ∀ x y : List Nat, Spt insd a x → Spt insd b y → t.drop i = (x ++ 45 :: y) ++ r → memP t i = .ok (a, b) (i + (x ++ 45 :: y).length) := fun x y hx hy ht => by
    rw [List.append_assoc] at ht
    have e1 := spt_mch hx ht
    have h2 : t.drop (i + x.length) = 45 :: (y ++ r) := atS ht
    have e2 := spt_mch hy (at1 h2)
    have hm : a ≤ b := hm
    unfold memP
    rw [e1]
    show (if t[i + x.length]? = some 45 then (mchP t (i + x.length + 1)).then fun b k => if b < a then Rr.bad (i + x.length + 1) else .ok (a, b) k else .ok (a, a) (i + x.length)) = _
    rw [if_pos (at0 h2), e2]
    show (if b < a then Rr.bad (i + x.length + 1) else .ok (a, b) (i + x.length + 1 + y.length)) = _
    rw [if_neg (by omega), List.length_append, List.length_cons]
    congr 1
    omega
  rcases h with ⟨hne, x, y, h1, h2, rfl⟩ | ⟨he, x, h1, rfl | rfl⟩
  · exact two x y h1 h2 ht
  · have he : a = b := he
    subst he
    have e1 := spt_mch h1 ht
    unfold memP
    rw [e1]
    show (if t[i + u.length]? = some 45 then _ else Rr.ok (a, a) (i + u.length)) = _
    rw [atH (atS ht), if_neg hr]
  · have he : a = b := he
    subst he
    exact two x x h1 h1 ht
abbrev Ms := List ((Nat × Nat) × List Nat)
def txt (xs : Ms) : List Nat := xs.flatMap (·.2)
theorem txt_head {xs : Ms} (h : ∀ x ∈ xs, MemW x.1 x.2) (r : List Nat) : (txt xs ++ 93 :: r).head? ≠ some 45 := by
  cases xs with
  | nil => exact fun z => by cases z
  | cons x xs =>
    obtain ⟨d, v, e, hd⟩ := memW_head (h x List.mem_cons_self)
    show (x.2 ++ txt xs ++ 93 :: r).head? ≠ _
    rw [e]
    exact fun z => by cases z; exact hd (by decide)
theorem txt_cons (x : (Nat × Nat) × List Nat) (xs : Ms) : txt (x :: xs) = x.2 ++ txt xs := rfl
theorem txt_le : ∀ {xs : Ms}, (∀ x ∈ xs, MemW x.1 x.2) → xs.length ≤ (txt xs).length
  | [], _ => Nat.zero_le _
  | x :: xs, h => by
    have := txt_le fun z hz => h z (List.mem_cons_of_mem _ hz)
    obtain ⟨d, v, e, hd⟩ := memW_head (h x List.mem_cons_self)
    rw [txt_cons, List.length_append, e, List.length_cons, List.length_cons]
    omega
theorem memsP_txt {t : List Nat} : ∀ (xs : Ms) (f : Nat) (acc : List (Nat × Nat)) (i : Nat) (r : List Nat), (∀ x ∈ xs, x.1.1 ≤ x.1.2 ∧ MemW x.1 x.2) → t.drop i = txt xs ++ 93 :: r → memsP t (f + xs.length + 1) acc i = .ok (acc ++ xs.map (·.1)) (i + (txt xs).length)
  | [], f, acc, i, r, _, h => by
    show (if t[i]? = some 93 then Rr.ok acc i else _) = _
    rw [if_pos (at0 h), List.map_nil, List.append_nil]
    rfl
  | x :: xs, f, acc, i, r, hm, h => by
    rw [txt_cons, List.append_assoc] at h
    obtain ⟨h1, h2⟩ := hm x List.mem_cons_self
    obtain ⟨d, w, e, hd⟩ := memW_head h2
    have h0 : t[i]? = some d := by have h' := h; rw [e] at h'; exact at0 h'
    have hn : t[i]? ≠ some 93 := fun z => by rw [h0] at z; cases z; exact hd (by decide)
    have e1 := memW_read h1 h2 h (txt_head (fun z hz => (hm z (List.mem_cons_of_mem _ hz)).2) r)
    have ih := memsP_txt xs f (acc ++ [x.1]) (i + x.2.length) r (fun z hz => hm z (List.mem_cons_of_mem _ hz)) (atS h)
    show (if t[i]? = some 93 then Rr.ok acc i else (memP t i).then fun m j => memsP t (f + xs.length + 1) (acc ++ [m]) j) = _
    rw [if_neg hn, e1]
    show memsP t (f + xs.length + 1) (acc ++ [x.1]) (i + x.2.length) = _
    rw [ih, txt_cons, List.length_append, List.append_assoc, Nat.add_assoc]
    rfl
theorem chrP_txt {t : List Nat} {i : Nat} {xs : Ms} {r : List Nat} (hne : xs ≠ []) (hm : ∀ x ∈ xs, x.1.1 ≤ x.1.2 ∧ MemW x.1 x.2) (b : Bool) (h : t.drop i = (if b = true then [94] else []) ++ (txt xs ++ 93 :: r)) {s : List Nat} (hs : s = if b = true then alph.filter fun c => !decide (c ∈ setOf (xs.map (·.1))) else setOf (xs.map (·.1))) (hsn : s ≠ []) : chrP t i = .ok (.chars s) (i + (if b = true then 1 else 0) + (txt xs).length + 1) := by
  have hl := txt_le fun x hx => (hm x hx).2
  cases xs with
  | nil => exact absurd rfl hne
  | cons x xs =>
    obtain ⟨h1, h2⟩ := hm x List.mem_cons_self
    obtain ⟨d, w, e, hd⟩ := memW_head h2
    have rest : ∀ i', t.drop i' = txt (x :: xs) ++ 93 :: r → memP t i' = .ok x.1 (i' + x.2.length) ∧ memsP t (t.length + 1) [x.1] (i' + x.2.length) = .ok ((x :: xs).map (·.1)) (i' + (txt (x :: xs)).length) := fun i' h => by
      have a2 := congrArg List.length h
      rw [List.length_drop, List.length_append, List.length_cons] at a2
      rw [txt_cons, List.append_assoc] at h
      have e1 := memW_read h1 h2 h (txt_head (fun z hz => (hm z (List.mem_cons_of_mem _ hz)).2) r)
      rw [List.length_cons] at hl
      have e2 := memsP_txt xs (t.length - xs.length) [x.1] (i' + x.2.length) r (fun z hz => hm z (List.mem_cons_of_mem _ hz)) (atS h)
      rw [show t.length - xs.length + xs.length + 1 = t.length + 1 by omega] at e2
      refine ⟨e1, ?_⟩
      rw [e2, txt_cons, List.length_append, Nat.add_assoc]
      rfl
    cases b with
    | true =>
      have h : t.drop i = 94 :: (txt (x :: xs) ++ 93 :: r) := h
      obtain ⟨e1, e2⟩ := rest (i + 1) (at1 h)
      unfold chrP
      simp only [at0 h, if_true]
      rw [e1]
      show ((memsP t (t.length + 1) [x.1] (i + 1 + x.2.length)).then fun ms k => if (alph.filter fun c => !decide (c ∈ setOf ms)) = [] then Rr.bad k else .ok (Pt.chars (alph.filter fun c => !decide (c ∈ setOf ms))) (k + 1)) = _
      rw [e2]
      have hs : s = alph.filter fun c => !decide (c ∈ setOf ((x :: xs).map (·.1))) := hs
      show (if (alph.filter fun c => !decide (c ∈ setOf ((x :: xs).map (·.1)))) = [] then Rr.bad _ else .ok (Pt.chars (alph.filter fun c => !decide (c ∈ setOf ((x :: xs).map (·.1))))) (_ + 1)) = _
      rw [← hs, if_neg hsn]
    | false =>
      have h : t.drop i = txt (x :: xs) ++ 93 :: r := h
      have h0 : t[i]? = some d := by have h' := h; rw [txt_cons, e] at h'; exact at0 h'
      have n94 : t[i]? ≠ some 94 := fun z => by rw [h0] at z; cases z; exact hd (by decide)
      obtain ⟨e1, e2⟩ := rest i h
      unfold chrP
      simp only [if_neg n94]
      rw [e1]
      show ((memsP t (t.length + 1) [x.1] (i + x.2.length)).then fun ms k => if setOf ms = [] then Rr.bad k else .ok (Pt.chars (setOf ms)) (k + 1)) = _
      rw [e2]
      have hs : s = setOf ((x :: xs).map (·.1)) := hs
      show (if setOf ((x :: xs).map (·.1)) = [] then Rr.bad _ else .ok (Pt.chars (setOf ((x :: xs).map (·.1)))) (_ + 1)) = _
      rw [← hs, if_neg hsn]
      rfl
theorem setOf_same {a b : List (Nat × Nat)} (h : ∀ m, m ∈ a ↔ m ∈ b) : setOf a = setOf b := by
  unfold setOf
  apply List.filter_congr
  intro c _
  rw [Bool.eq_iff_iff, List.any_eq_true, List.any_eq_true]
  constructor
  · rintro ⟨m, hm, h'⟩; exact ⟨m, (h m).mp hm, h'⟩
  · rintro ⟨m, hm, h'⟩; exact ⟨m, (h m).mpr hm, h'⟩
def Memb (ms : List (Nat × Nat)) (w : List Nat) : Prop := ∃ xs : Ms, (∀ x ∈ xs, x.1 ∈ ms ∧ MemW x.1 x.2) ∧ (∀ m ∈ ms, ∃ x ∈ xs, x.1 = m) ∧ w = txt xs ∧ w.length ≤ 955
def compl (cs : List Nat) : List Nat := alph.filter fun c => !decide (c ∈ cs)
def SetW (cs w : List Nat) : Prop := (∃ c, cs = [c] ∧ Spt outd c w) ∨ w = setL cs ∨ (∃ u, Memb (runs cs) u ∧ w = 91 :: (u ++ [93])) ∨ (cs ≠ alph ∧ ∃ u, Memb (runs (compl cs)) u ∧ w = 91 :: 94 :: (u ++ [93]))
theorem elemP_escL {bs : List Nat} (h1 : ∀ x ∈ outd, x ∈ bs) (h2 : ∀ x ∈ bs, x ∈ escd) {alt : List Nat → Nat → Rr Pt} {t : List Nat} {i c : Nat} {r : List Nat} (h : t.drop i = escL bs c ++ r) : elemP alt t i = .ok (.chars [c]) (i + (escL bs c).length) := by
  unfold escL at h ⊢
  by_cases hc : c = 10
  · subst hc
    rw [if_pos rfl] at h ⊢
    unfold elemP
    rw [at0 h]
    dsimp only
    rw [if_pos rfl]
    unfold escP
    rw [at0 (at1 h)]
    rfl
  · rw [if_neg hc] at h ⊢
    by_cases hb : c ∈ bs
    · rw [if_pos hb] at h ⊢
      have ce := h2 c hb
      have n110 : c ≠ 110 := fun z => by rw [z] at ce; revert ce; decide
      unfold elemP
      rw [at0 h]
      dsimp only
      rw [if_pos rfl]
      unfold escP
      rw [at0 (at1 h)]
      dsimp only
      rw [if_neg n110, if_pos ce]
      rfl
    · rw [if_neg hb] at h ⊢
      have ho : c ∉ outd := fun z => hb (h1 c z)
      have nn : ∀ x ∈ outd, c ≠ x := fun x hx z => ho (by rw [z]; exact hx)
      have n3 : c ∉ [124, 42, 43, 63, 41, 93] := fun z => by
        have : ∀ x ∈ ([124, 42, 43, 63, 41, 93] : List Nat), x ∈ outd := by decide
        exact ho (this c z)
      unfold elemP
      rw [at0 h]
      dsimp only
      rw [if_neg (nn 92 (by decide)), if_neg (nn 40 (by decide)), if_neg n3, if_neg (nn 91 (by decide)), if_neg (nn 46 (by decide))]
      rfl
theorem escL_hd2 {bs : List Nat} (h1 : ∀ x ∈ outd, x ∈ bs) {c : Nat} : ∃ d v, escL bs c = d :: v ∧ d ∉ [124, 41, 42, 43, 63] := by
  obtain ⟨d, v, e, h⟩ := escL_head (bs := bs) (c := c)
  refine ⟨d, v, e, ?_⟩
  rcases h with rfl | ⟨rfl, h, _⟩
  · decide
  · intro z
    have : ∀ x ∈ ([124, 41, 42, 43, 63] : List Nat), x ∈ outd := by decide
    exact h (h1 d (this d z))
theorem compl_ok {cs : List Nat} (hs : SetOk cs) (hne : cs ≠ alph) : SetOk (compl cs) := by
  refine ⟨fun z => hne ?_, List.filter_sublist⟩
  have h1 := sub_filter alph_nodup hs.2
  unfold compl at z
  rw [List.filter_eq_nil_iff] at z
  rw [← h1]
  exact List.filter_eq_self.mpr fun a ha => by
    have := z a ha
    simpa using this
theorem compl_compl {cs : List Nat} (hs : SetOk cs) : compl (compl cs) = cs := by
  have h1 := sub_filter alph_nodup hs.2
  conv => rhs; rw [← h1]
  unfold compl
  apply List.filter_congr
  intro c hc
  simp [List.mem_filter, hc]
theorem elemP_open {alt : List Nat → Nat → Rr Pt} {t : List Nat} {i : Nat} {w : List Nat} (h : t.drop i = 91 :: w) : elemP alt t i = chrP t (i + 1) := by
  unfold elemP
  rw [at0 h]
  rfl
theorem setW_el {cs w : List Nat} (hs : SetOk cs) (hw : SetW cs w) (n : Nat) : ElN n (.chars cs) w := by
  have mem : ∀ (ds : List Nat) (b : Bool) (u : List Nat), SetOk ds → Memb (runs ds) u → cs = (if b = true then compl ds else ds) → ElN n (.chars cs) (91 :: ((if b = true then [94] else []) ++ (u ++ [93]))) := fun ds b u hd hu hcs => by
    obtain ⟨xs, h1, h2, rfl, h4⟩ := hu
    have hne : xs ≠ [] := fun z => by
      have := runs_ne hd
      cases hr : runs ds with
      | nil => exact this hr
      | cons m ms =>
        obtain ⟨x, hx, _⟩ := h2 m (by rw [hr]; exact List.mem_cons_self)
        rw [z] at hx
        cases hx
    have hso : setOf (xs.map (·.1)) = ds := by
      rw [← setOf_runs hd.2]
      exact setOf_same fun m => ⟨fun hm => by
        obtain ⟨x, hx, rfl⟩ := List.mem_map.mp hm
        exact (h1 x hx).1, fun hm => by
        obtain ⟨x, hx, rfl⟩ := h2 m hm
        exact List.mem_map.mpr ⟨x, hx, rfl⟩⟩
    refine ⟨fun t i r ht => ?_, 91, _, rfl, by decide⟩
    have ht : t.drop i = 91 :: (((if b = true then [94] else []) ++ (txt xs ++ [93])) ++ r) := ht
    rw [elemP_open ht]
    have h2' := at1 ht
    rw [List.append_assoc, List.append_assoc] at h2'
    rw [chrP_txt hne (fun x hx => ⟨runs_ix (h1 x hx).1, (h1 x hx).2⟩) b h2' (s := cs) (by rw [hso]; exact hcs) hs.1, List.length_cons, List.length_append, List.length_append]
    congr 1
    cases b <;> simp <;> omega
  rcases hw with ⟨c, rfl, h⟩ | rfl | ⟨u, hu, rfl⟩ | ⟨hne, u, hu, rfl⟩
  · rcases h with ⟨rfl, rfl⟩ | rfl | rfl
    · exact ⟨fun t i r ht => by unfold elemP; rw [at0 ht]; rfl, 10, [], rfl, by decide⟩
    · exact ⟨fun t i r ht => elemP_escL (fun _ h => h) out_esc ht, escL_hd2 fun _ h => h⟩
    · exact ⟨fun t i r ht => elemP_escL out_esc (fun _ h => h) ht, escL_hd2 out_esc⟩
  · exact ⟨fun t i r ht => elemP_set hs ht, setL_head hs⟩
  · exact mem cs false u hs hu rfl
  · exact mem (compl cs) true u (compl_ok hs hne) hu (compl_compl hs).symm
theorem setW_len {cs w : List Nat} (hs : SetOk cs) (h : SetW cs w) : w.length ≤ 960 := by
  rcases h with ⟨c, rfl, h⟩ | rfl | ⟨u, ⟨xs, _, _, _, h4⟩, rfl⟩ | ⟨hne, u, ⟨xs, _, _, _, h4⟩, rfl⟩
  · have := spt_len h; omega
  · have := setL_len hs; omega
  · rw [List.length_cons, List.length_append, List.length_singleton]; omega
  · rw [List.length_cons, List.length_cons, List.length_append, List.length_singleton]; omega
end Dl.Qt
end

section
set_option maxHeartbeats 4000000
namespace Dl
open PySem PySem.Spec PyProof.Rows L2 Co
def rIns : V → List V → Hp → VK → Prop := fun x vs H Q => ∃ (l : Addr) (xs : List V) (i : Int) (y : V), x = .ref l ∧ vs = [.int i, y] ∧ H l = some (.lst xs) ∧ xs.length < sizeLine ∧ 0 ≤ i ∧ i < 2 ^ 63 ∧
    Q .non (upd H l (.lst (xs.take i.toNat ++ [y] ++ xs.drop i.toNat)))
def sIns (to : DW) (ti t : DD) : DS := fun E σ st => to σ st (fun o st1 => (∃ ds, seeW o st1 = some (.lst ds)) ∧ ti σ st1 (fun i st2 => t σ st2 (fun d st3 => match o, i with
  | .loc n, .int j => (match st3[n]? with
    | some (.lst ds) => ds.length ≤ 1000000 ∧ 0 ≤ j ∧ j < 1000000 ∧ E.nx σ (st3.set n (.lst (ds.take j.toNat ++ [d] ++ ds.drop j.toNat)))
    | _ => False)
  | _, _ => False) (exE E σ)) (exE E σ)) (exE E σ)
section
variable {X : Cx} {b : Bool} {Wx : WX} {N : Kn} {s : Stmt}
theorem mt_ins : MtM X "list.insert" rIns := fun pins s σ H x vs v us Q I rx rv h => mt_insert pins s σ H x vs v us Q I rx rv h
theorem s_ins {to : DW} {ti t : DD} (h : PS X s (tDrop (tBM X.K "list" rIns (lW N Wx to) (tCons (lD N Wx ti) (tCons (lD N Wx t) tNil))))) : PS X s (lS N Wx (sIns to ti t)) := PS.imp h fun D σV H h => by
  obtain ⟨M, ρ, σ, st, E, r, s, h, l⟩ := h
  refine Lf.of (l.kx r s) h fun o st1 hk u M1 ρ1 H1 e1 c1 ro => ?_
  obtain ⟨⟨ds0, hs0⟩, hk⟩ := hk
  obtain ⟨p0, xs0, rfl, q1, q2⟩ := see_lst c1.rep hs0 ro
  refine ⟨.inl ⟨rfl, xs0, SqL.of q1⟩, Lf.of c1 hk fun i st2 hk vi M2 ρ2 H2 e2 c2 ri => Lf.of c2 hk fun d st3 hk v M3 ρ3 H3 e3 c3 rd => ?_⟩
  obtain ⟨n, rfl⟩ : ∃ n, o = .loc n := by cases o <;> first | exact False.elim hk | exact ⟨_, rfl⟩
  obtain ⟨j, rfl⟩ : ∃ j, i = .int j := by cases i <;> first | exact False.elim hk | exact ⟨_, rfl⟩
  cases ri
  obtain ⟨a, ha, e⟩ := Rw.ext (Rw.ext ro e2) e3
  cases e
  cases hz : st3[n]? with
  | none => simp only [hz] at hk
  | some ob =>
    simp only [hz] at hk
    cases ob <;> try exact False.elim hk
    rename_i ds
    obtain ⟨hm, xs, h1, h2⟩ := c3.rep.ob n _ _ ha hz
    obtain ⟨hl, h3, h4, hk⟩ := hk
    refine ⟨_, xs, j, v, rfl, rfl, h1, ?_, h3, ?_, ?_⟩
    · rw [h2.length, sizeLine_eq]; omega
    · exact Int.lt_trans h4 (by decide)
    · obtain ⟨E2, c4⟩ := c3.wr (o := .lst (ds.take j.toNat ++ [d] ++ ds.drop j.toNat)) ha hm (u := .lst (xs.take j.toNat ++ [v] ++ xs.drop j.toNat)) ⟨hm, _, upd_same, ((h2.take j.toNat).append (Rps.cons rd .nil)).append (h2.drop j.toNat)⟩
      exact l.nx _ _ hk _ _ _ σV (((e1.trans e2).trans e3).trans E2) c4.rep c4.rs
def rIdxS : V → List V → Hp → VK → Prop := fun x xs H Q => ∃ a b i rest, x = .str a ∧ xs = [.str b] ∧ Builtin.Str.occurrences a b 0 a.length 1 = i :: rest ∧ Q (.int (i : Nat)) H
theorem mt_idx : MtR X "str.index" rIdxS := mt_sindex
def mIdx : D → FL := fun x xs k => match x, xs with
  | .str a, [.str b] => ∃ i rest, Builtin.Str.occurrences a b 0 a.length 1 = i :: rest ∧ k (.int (i : Nat))
  | _, _ => False
theorem ok_idx : MtOk N rIdxS mIdx := by
  intro Wx M H ρ σ st σV ex x u ds us kd Q c hx hd h k
  unfold mIdx at h
  split at h
  · cases hx
    obtain ⟨u, rfl, r⟩ := RpCs.one hd
    cases r
    obtain ⟨i, rest, h1, h2⟩ := h
    exact ⟨_, _, i, rest, rfl, rfl, h1, k _ h2 _ M H Ext.refl c rfl⟩
  · exact h.elim
end
end Dl
end

section
set_option maxHeartbeats 4000000
namespace Dl.Sm
open PySem PySem.Spec PyProof.Rows L2 Co
def smD : Nat → D → Bool
  | _, .non => true
  | _, .bl _ => true
  | _, .int _ => true
  | _, .str _ => true
  | n + 1, .tup ds => decide (ds.length ≤ 1000000) && ds.all (smD n)
  | n + 1, .lst ds => decide (ds.length ≤ 1000000) && ds.all (smD n)
  | _, _ => false
def pf_isint : Pf := fun ws st k _ => match ws, st with
  | [.im (.int _)], [] => k (.im (.bl true)) []
  | _, _ => False
def pf_same (n : Nat) : Pf := fun ws st k _ => match ws, st with
  | [.im d, .im e], [] => d = e ∧ 0 < n ∧ smD (n - 1) d = true ∧ k (.im (.bl true)) []
  | _, _ => False
theorem pf_same0 : ∀ ws st k ex, ¬ pf_same 0 ws st k ex := fun ws st k ex h => by
  unfold pf_same at h
  split at h
  · exact absurd h.2.1 (Nat.lt_irrefl 0)
  · exact h
abbrev N_isint : List Str := ["_law_actual"]
abbrev N_same : List Str := ["_law_actual", "_law_due", "_law_k"]
def t_isint : DS :=
 (sRet (dAndV (dI (dCB fIsi (aCons (dV 0) (aCons (dI (dC (.ty "int"))) aNil)))) (dI (dB (dNot (dTru (dI (dCB fIsi (aCons (dV 0) (aCons (dI (dC (.ty "bool"))) aNil))))))))))
theorem r_isint : ∀ ws st k ex, pf_isint ws st k ex → t_isint (EnD false st.length k ex) (startD N_isint ws) st := by
  intro ws st k ex h
  unfold pf_isint at h
  split at h
  · exact twoT h
  · exact h.elim
def sm6 (n : Nat) : DS := (sRet (dAndV (dCall pf_isint (aCons (dV 0) aNil)) (dI (dB (dCmp cEq (dV 0) (dV 1))))))
def sm5 (n : Nat) : DS := (sSeq (sIf (dTru (dI (dCB fIsi (aCons (dV 1) (aCons (dI (dC (.ty "str"))) aNil))))) (sRet (dAndV (dI (dCB fIsi (aCons (dV 0) (aCons (dI (dC (.ty "str"))) aNil)))) (dI (dB (dCmp cEq (dV 0) (dV 1)))))) sNext) (sm6 n))
def sm4 (n : Nat) : DS := (sSeq (sIf (dTru (dI (dCB fIsi (aCons (dV 1) (aCons (dI (dC (.ty "bool"))) aNil))))) (sRet (dAndV (dI (dCB fIsi (aCons (dV 0) (aCons (dI (dC (.ty "bool"))) aNil)))) (dI (dB (dCmp cEq (dV 0) (dV 1)))))) sNext) (sm5 n))
def sm3 (n : Nat) : DS := (sSeq (sIf (dIsN (dV 1)) (sRet (dI (dB (dIsN (dV 0))))) sNext) (sm4 n))
def smA (n : Nat) : DS := (sRet (dI (dCB fAll (aCons (dI (dLc (iRg1 (dCB fLen (aCons (dV 1) aNil))) (gN 2) dYes (dD (dCall (pf_same n) (aCons (dI (dIx (dV 0) (dD (dV 2)))) (aCons (dI (dIx (dV 1) (dD (dV 2)))) aNil)))) ([("_law_k", 2)].map (·.2)))) aNil))))
def sm2 (n : Nat) : DS := (sSeq (sIf (dTru (dI (dCB fIsi (aCons (dV 1) (aCons (dI (dC (.ty "list"))) aNil))))) (sSeq (sIf (dOr (dNot (dTru (dI (dCB fIsi (aCons (dV 0) (aCons (dI (dC (.ty "list"))) aNil)))))) (dCmp cNe (dI (dCB fLen (aCons (dV 0) aNil))) (dI (dCB fLen (aCons (dV 1) aNil))))) (sRet (dI (dC (.bl false)))) sNext)
 (smA n)) sNext) (sm3 n))
def t_same (n : Nat) : DS :=
 (sSeq (sIf (dTru (dI (dCB fIsi (aCons (dV 1) (aCons (dI (dC (.ty "tuple"))) aNil))))) (sSeq (sIf (dOr (dNot (dTru (dI (dCB fIsi (aCons (dV 0) (aCons (dI (dC (.ty "tuple"))) aNil)))))) (dCmp cNe (dI (dCB fLen (aCons (dV 0) aNil))) (dI (dCB fLen (aCons (dV 1) aNil))))) (sRet (dI (dC (.bl false)))) sNext)
 (smA n)) sNext) (sm2 n))
theorem atD_rg {T : List D → D} (hT : T = D.tup ∨ T = D.lst) {ds : List D} {i : Nat} {d : D} (h : ds[i]? = some d) {k : D → Prop} (hk : k d) : atD (T ds) (.int (i : Int)) k := by
  rcases hT with rfl | rfl
  · show (match atI ds (i : Int) with | some d => k d | none => False)
    rw [atI_nat h]
    exact hk
  · show (match atI ds (i : Int) with | some d => k d | none => False)
    rw [atI_nat h]
    exact hk
theorem all_true : ∀ n : Nat, (List.replicate n true).all id = true
  | 0 => rfl
  | n + 1 => by rw [List.replicate_succ, List.all_cons, all_true n]; rfl
theorem rg_bls {n : Nat} : (List.range n).map (fun _ => D.bl true) = (List.replicate n true).map D.bl := by
  rw [List.map_replicate]
  apply List.ext_getElem?
  intro i
  rw [List.getElem?_map, List.getElem?_replicate]
  by_cases h : i < n
  · rw [List.getElem?_range h, if_pos h]; rfl
  · rw [List.getElem?_eq_none (by simpa using h), if_neg h]; rfl
theorem smA_ok {n : Nat} {T : List D → D} (hT : T = D.tup ∨ T = D.lst) {ds : List D} {k : W → Sto → Prop} {ex : DX} (hl : ds.length ≤ 1000000) (hs : 0 < n ∧ ∀ d ∈ ds, smD (n - 1) d = true) (hk : k (.im (.bl true)) []) :
    smA n (EnD false 0 k ex) [some (.im (T ds)), some (.im (T ds)), none] [] := by
  have key : lcB (rgD 0 ((ds.length : Nat) : Int).toNat) (gN 2) dYes (dD (dCall (pf_same n) (aCons (dI (dIx (dV 0) (dD (dV 2)))) (aCons (dI (dIx (dV 1) (dD (dV 2)))) aNil)))) [2] [some (.im (T ds)), some (.im (T ds)), none] [] fun acc st' => fAll [.lst acc] fun d => k (.im d) [] := by
    rw [Int.toNat_natCast]
    refine lc_map (fun _ _ => .bl true) (by rw [rgD_len]; exact hl) rfl (fun i d hd Q q => ?_) fun ys h1 h2 => ?_
    · obtain ⟨hi, rfl⟩ := rgD_get hd
      rw [Int.zero_add]
      have hg : ds[i]? = some ds[i] := List.getElem?_eq_getElem hi
      have hm := List.mem_of_getElem? hg
      refine dIx_of (dV_at rfl (dD_at rfl ?_))
      show atD (T ds) (.int (i : Int)) _
      refine atD_rg hT hg ?_
      refine aCons_of (dI_of (dIx_of (dV_at rfl (dD_at rfl ?_))))
      show atD (T ds) (.int (i : Int)) _
      refine atD_rg hT hg ?_
      exact ⟨rfl, rfl, hs.1, hs.2 _ hm, q⟩
    · have e : ys = (List.replicate ds.length true).map D.bl := by
        rw [rgD_len] at h1
        apply List.ext_getElem?
        intro i
        by_cases hi : i < ds.length
        · have : (rgD 0 ds.length)[i]? = some (.int (0 + (i : Int))) := by unfold rgD; rw [List.getElem?_map, List.getElem?_range hi]; rfl
          rw [h2 i _ this, List.getElem?_map, List.getElem?_replicate, if_pos hi]
          rfl
        · rw [List.getElem?_eq_none (by omega), List.getElem?_map, List.getElem?_replicate, if_neg hi]
          rfl
      refine ⟨List.replicate ds.length true, e, ?_⟩
      rw [all_true]
      exact hk
  rcases hT with rfl | rfl
  · exact ⟨by omega, by omega, key⟩
  · exact ⟨by omega, by omega, key⟩
theorem r_same {n : Nat} : ∀ ws st k ex, pf_same (n + 1) ws st k ex → (t_same n) (EnD false st.length k ex) (startD N_same ws) st := by
  intro ws st k ex h
  unfold pf_same at h
  split at h
  · rename_i d e
    obtain ⟨rfl, _, hs, hk⟩ := h
    have hs : smD n d = true := hs
    cases d with
    | non => exact twoF (twoF (twoT hk))
    | bl b => exact twoF (twoF (twoF (twoT (twoT (by rw [← decide_eq_true (rfl : b = b)] at hk; exact hk)))))
    | int i => exact twoF (twoF (twoF (twoF (twoF ⟨rfl, twoT (by rw [← decide_eq_true (rfl : i = i)] at hk; exact hk)⟩))))
    | str x => exact twoF (twoF (twoF (twoF (twoT (twoT (by rw [← decide_eq_true (rfl : x = x)] at hk; exact hk))))))
    | tup ds =>
      cases n with
      | zero => cases hs
      | succ m =>
        rw [smD, Bool.and_eq_true, decide_eq_true_iff, List.all_eq_true] at hs
        refine twoT (twoF (notY rfl ?_))
        exact smA_ok (T := D.tup) (.inl rfl) hs.1 ⟨Nat.succ_pos m, hs.2⟩ hk
    | lst ds =>
      cases n with
      | zero => cases hs
      | succ m =>
        rw [smD, Bool.and_eq_true, decide_eq_true_iff, List.all_eq_true] at hs
        refine twoF (twoT (twoF (notY rfl ?_)))
        exact smA_ok (T := D.lst) (.inr rfl) hs.1 ⟨Nat.succ_pos m, hs.2⟩ hk
    | _ => cases n <;> cases hs
  · exact h.elim
theorem call_same {n : Nat} {d : D} {st : Sto} {k : W → Sto → Prop} {ex : DX} (hn : 0 < n) (h : smD (n - 1) d = true) (hk : k (.im (.bl true)) st) : callD (pf_same n) [] [.im d, .im d] st k ex := ⟨rfl, rfl, hn, h, hk⟩
end Dl.Sm
end

section
set_option maxHeartbeats 4000000
namespace Dl.Qt
open PySem PySem.Spec PyProof.Rows L2 Co PySem.StrLaws Dl.Pt
abbrev pf_Lis_integer := Sm.pf_isint
abbrev pf_Lsame := Sm.pf_same
def pf_character_text : Pf := pf_Lescaped
def pf_members_of : Pf := pf_Lruns
def pf_set_text : Pf := pf_Lset
def bars (b : Bool) : List D := if b = true then [.str "either"] else [.str "either", .str "row", .str "star", .str "plus", .str "maybe"]
def barB (b : Bool) (p : Pt) : Bool := if b = true then isE p else !isC p
def pf_part_text (n : Nat) : Pf := fun ws st k _ => match ws, st with
  | [.im d, .im e], [] => ∃ p m b, d = eP p ∧ e = .tup (bars b) ∧ m < n ∧ m ≤ 5 ∧ TreeOk m p ∧ k (.im (.str (S (brk (barB b p) (canL p))))) []
  | _, _ => False
def pf_write (n : Nat) : Pf := fun ws st k _ => match ws, st with
  | [.im d], [] => ∃ p m, d = eP p ∧ m < n ∧ m ≤ 5 ∧ TreeOk m p ∧ k (.im (.str (S (canL p)))) []
  | _, _ => False
mutual
def emp : Pt → Bool
  | .chars _ => false
  | .row ps => emps ps
  | .either ps => empo ps
  | .star _ => true
  | .plus p => emp p
  | .maybe _ => true
def emps : List Pt → Bool
  | [] => true
  | p :: ps => emp p && emps ps
def empo : List Pt → Bool
  | [] => false
  | p :: ps => emp p || empo ps
end
def pf_cbe (n : Nat) : Pf := fun ws st k _ => match ws, st with
  | [.im d], [] => ∃ p m, d = eP p ∧ m < n ∧ m ≤ 5 ∧ TreeOk m p ∧ k (.im (.bl (emp p))) []
  | _, _ => False
def pf_Lempty (n : Nat) : Pf := pf_cbe n
def pf_read_pattern : Pf := fun ws st k ex => match ws, st with
  | [.im (.str z)], [] => ∃ t, z = S t ∧ t.length ≤ 100000 ∧ (match altP 26 t 0 with
    | .ok p j => if j < t.length then ex "BadPattern" [("position", .int (j : Nat))] [] else k (.im (eP p)) []
    | .bad j => ex "BadPattern" [("position", .int (j : Nat))] []
    | .deep => False)
  | _, _ => False
def pf_Lspelt : Pf := fun ws st k _ => match ws, st with
  | [.loc 0, .im (.str a), .im (.str z)], [.pool] => ∃ c bs, a = ⟨#[c]⟩ ∧ z = S bs ∧ bs.length ≤ 1000 ∧ ∀ w, Spt bs c w → k (.im (.str (S w))) [.pool]
  | _, _ => False
def pf_Lmembers : Pf := fun ws st k _ => match ws, st with
  | [.loc 0, .im (.lst ds)], [.pool] => ∃ ms : List (Nat × Nat), ds = ms.map eM ∧ ms.length ≤ 95 ∧ ∀ w, Memb ms w → k (.im (.str (S w))) [.pool]
  | _, _ => False
def pf_Lany_set : Pf := fun ws st k _ => match ws, st with
  | [.loc 0, .im (.str z)], [.pool] => ∃ cs, z = S cs ∧ SetOk cs ∧ ∀ w, SetW cs w → k (.im (.str (S w))) [.pool]
  | _, _ => False
def pf_Lwrapped : Pf := fun ws st k _ => match ws, st with
  | [.loc 0, .im (.str z), .im (.bl b)], [.pool] => ∃ w, z = S w ∧ w.length ≤ 300000 ∧ ∀ j, j ≤ 3 → (b = true → 1 ≤ j) → k (.im (.str (S (parN j w)))) [.pool]
  | _, _ => False
def SpL (m : Nat) (p : Pt) (w : List Nat) : Prop := Sp (4 * m + 3) p w ∧ w.length + 10 ≤ (1000 + 20 * m) * lv p
def pf_Lspelled (n : Nat) : Pf := fun ws st k _ => match ws, st with
  | [.loc 0, .im d], [.pool] => ∃ p m, d = eP p ∧ m < n ∧ m ≤ 5 ∧ TreeOk m p ∧ ∀ w, SpL m p w → k (.im (.str (S w))) [.pool]
  | _, _ => False
end Dl.Qt
end

section
set_option maxHeartbeats 4000000
namespace Dl.Qt
open PySem PySem.Spec PyProof.Rows L2 Co Dl.Pt
abbrev N_character_text : List Str := ["character", "barred"]
def t_character_text : DS :=
 (sSeq (sIf (dCmp cEq (dV 0) (dI (dC (.str "\x0a")))) (sRet (dI (dC (.str "\\n")))) sNext)
 (sRet (dIfE (dCmp cIn (dV 0) (dV 1)) (dI (dOp fAdd (dC (.str "\\")) (dD (dV 0)))) (dV 0))))
abbrev N_members_of : List Str := ["characters", "found", "character", "place"]
def t_members_of : DS :=
 (sSeq (sAsg 1 (dLstM adNil))
 (sSeq (sFor (iSt (dD (dV 0))) (gN 2)
 (sSeq (sAsg 3 (dI (dBM "str" mIdx (dI (dC (.str "\x0a !\"#$&'()*+,-./0123456789:;<=>?@ABCDEFGHIJKLMNOPQRSTUVWXYZ[\\]^_`abcdefghijklmnopqrstuvwxyz{|}~"))) (aCons (dV 2) aNil))))
 (sIf (dAnd (dTru (dV 1)) (dCmp cEq (dI (dBM "str" mIdx (dI (dC (.str "\x0a !\"#$&'()*+,-./0123456789:;<=>?@ABCDEFGHIJKLMNOPQRSTUVWXYZ[\\]^_`abcdefghijklmnopqrstuvwxyz{|}~"))) (aCons (dI (dIx (dI (dIx (dV 1) (dUn fNeg (dC (.int 1))))) (dC (.int 1)))) aNil))) (dI (dOp fSub (dD (dV 3)) (dC (.int 1)))))) (sSetL (dV 1) (dUn fNeg (dC (.int 1))) (dTup (adCons (dIx (dI (dIx (dV 1) (dUn fNeg (dC (.int 1))))) (dC (.int 0))) (adCons (dD (dV 2)) adNil)))) (sApp (dV 1) (dTup (adCons (dD (dV 2)) (adCons (dD (dV 2)) adNil)))))))
 (sRet (dV 1))))
abbrev N_set_text : List Str := ["characters", "texts", "first", "last"]
def t_set_text : DS :=
 (sSeq (sIf (dCmp cEq (dI (dCB fLen (aCons (dV 0) aNil))) (dI (dC (.int 1)))) (sRet (dCall pf_Lescaped (aCons (dV 0) (aCons (dI (dC (.str "|*+?()[].\\"))) aNil)))) sNext)
 (sSeq (sIf (dCmp cEq (dV 0) (dI (dC (.str "\x0a !\"#$&'()*+,-./0123456789:;<=>?@ABCDEFGHIJKLMNOPQRSTUVWXYZ[\\]^_`abcdefghijklmnopqrstuvwxyz{|}~")))) (sRet (dI (dC (.str ".")))) sNext)
 (sSeq (sAsg 1 (dLstM adNil))
 (sSeq (sFor (iSq (dD (dCall pf_Lruns (aCons (dV 0) aNil)))) (gT [(gN 2), (gN 3)])
 (sSeq (sApp (dV 1) (dD (dCall pf_Lescaped (aCons (dV 2) (aCons (dI (dC (.str "]^-\\"))) aNil)))))
 (sIf (dCmp cNe (dV 2) (dV 3)) (sApp (dV 1) (dOp fAdd (dC (.str "-")) (dD (dCall pf_Lescaped (aCons (dV 3) (aCons (dI (dC (.str "]^-\\"))) aNil)))))) sNext)))
 (sRet (dI (dOp fAdd (dOp fAdd (dC (.str "[")) (dBM "str" mJoin (dI (dC (.str ""))) (aCons (dV 1) aNil))) (dC (.str "]")))))))))
abbrev N_part_text : List Str := ["tree", "barred", "text"]
def t_part_text (n : Nat) : DS :=
 (sSeq (sAsg 2 (dCall (pf_write n) (aCons (dV 0) aNil)))
 (sRet (dIfE (dCmp cIn (dI (dIx (dV 0) (dC (.int 0)))) (dV 1)) (dI (dOp fAdd (dOp fAdd (dC (.str "(")) (dD (dV 2))) (dC (.str ")")))) (dV 2))))
abbrev N_write_pattern : List Str := ["tree", "part"]
def t_write_pattern (n : Nat) : DS :=
 (sSeq (sIf (dCmp cEq (dI (dIx (dV 0) (dC (.int 0)))) (dI (dC (.str "chars")))) (sRet (dCall pf_Lset (aCons (dI (dIx (dV 0) (dC (.int 1)))) aNil))) sNext)
 (sSeq (sIf (dCmp cEq (dI (dIx (dV 0) (dC (.int 0)))) (dI (dC (.str "row")))) (sRet (dI (dBM "str" mJoin (dI (dC (.str ""))) (aCons (dI (dLc (iSq (dIx (dV 0) (dC (.int 1)))) (gN 1) dYes (dD (dCall (pf_part_text n) (aCons (dV 1) (aCons (dI (dTup (adCons (dC (.str "either")) adNil))) aNil)))) ([("part", 1)].map (·.2)))) aNil)))) sNext)
 (sSeq (sIf (dCmp cEq (dI (dIx (dV 0) (dC (.int 0)))) (dI (dC (.str "either")))) (sRet (dI (dBM "str" mJoin (dI (dC (.str "|"))) (aCons (dI (dLc (iSq (dIx (dV 0) (dC (.int 1)))) (gN 1) dYes (dD (dCall (pf_write n) (aCons (dV 1) aNil))) ([("part", 1)].map (·.2)))) aNil)))) sNext)
 (sRet (dI (dOp fAdd (dD (dCall (pf_part_text n) (aCons (dI (dIx (dV 0) (dC (.int 1)))) (aCons (dI (dTup (adCons (dC (.str "either")) (adCons (dC (.str "row")) (adCons (dC (.str "star")) (adCons (dC (.str "plus")) (adCons (dC (.str "maybe")) adNil))))))) aNil)))) (dGlIx [("star", .str "*"), ("plus", .str "+"), ("maybe", .str "?")] (dIx (dV 0) (dC (.int 0))))))))))
abbrev N_can_be_empty : List Str := ["tree", "part"]
def t_can_be_empty (n : Nat) : DS :=
 (sSeq (sIf (dCmp cEq (dI (dIx (dV 0) (dC (.int 0)))) (dI (dC (.str "chars")))) (sRet (dI (dC (.bl false)))) sNext)
 (sSeq (sIf (dCmp cEq (dI (dIx (dV 0) (dC (.int 0)))) (dI (dC (.str "row")))) (sRet (dI (dCB fAll (aCons (dI (dLc (iSq (dIx (dV 0) (dC (.int 1)))) (gN 1) dYes (dD (dCall (pf_cbe n) (aCons (dV 1) aNil))) ([("part", 1)].map (·.2)))) aNil)))) sNext)
 (sSeq (sIf (dCmp cEq (dI (dIx (dV 0) (dC (.int 0)))) (dI (dC (.str "either")))) (sRet (dI (dCB fAny (aCons (dI (dLc (iSq (dIx (dV 0) (dC (.int 1)))) (gN 1) dYes (dD (dCall (pf_cbe n) (aCons (dV 1) aNil))) ([("part", 1)].map (·.2)))) aNil)))) sNext)
 (sRet (dOrV (dI (dB (dCmp cNe (dI (dIx (dV 0) (dC (.int 0)))) (dI (dC (.str "plus")))))) (dCall (pf_cbe n) (aCons (dI (dIx (dV 0) (dC (.int 1)))) aNil)))))))
abbrev N_read_pattern : List Str := ["text", "reader", "found"]
def t_read_pattern : DS :=
 (sSeq (sAsg 1 (dNew "PatternReader" pf_PatternReader_init (aCons (dV 0) aNil)))
 (sSeq (sAsg 2 (dMeth "PatternReader" "alternatives" (pf_alts 26) (dV 1) aNil))
 (sSeq (sIf (dCmp cLt (dFld "PatternReader" "at" (dV 1)) (dI (dCB fLen (aCons (dV 0) aNil)))) (sRaise1 "BadPattern" "position" (dD (dFld "PatternReader" "at" (dV 1)))) sNext)
 (sRet (dV 2)))))
abbrev N_Lempty : List Str := ["_law_tree_here", "_law_head", "_law_part"]
def t_Lempty (n : Nat) : DS :=
 (sSeq (sAsg 1 (dI (dIx (dV 0) (dC (.int 0)))))
 (sSeq (sIf (dCmp cEq (dV 1) (dI (dC (.str "chars")))) (sRet (dI (dC (.bl false)))) sNext)
 (sSeq (sIf (dCmp cEq (dV 1) (dI (dC (.str "row")))) (sRet (dI (dCB fAll (aCons (dI (dLc (iSq (dIx (dV 0) (dC (.int 1)))) (gN 2) dYes (dD (dCall (pf_cbe n) (aCons (dV 2) aNil))) ([("_law_part", 2)].map (·.2)))) aNil)))) sNext)
 (sSeq (sIf (dCmp cEq (dV 1) (dI (dC (.str "either")))) (sRet (dI (dCB fAny (aCons (dI (dLc (iSq (dIx (dV 0) (dC (.int 1)))) (gN 2) dYes (dD (dCall (pf_cbe n) (aCons (dV 2) aNil))) ([("_law_part", 2)].map (·.2)))) aNil)))) sNext)
 (sRet (dOrV (dI (dB (dCmp cNe (dV 1) (dI (dC (.str "plus")))))) (dCall (pf_cbe n) (aCons (dI (dIx (dV 0) (dC (.int 1)))) aNil))))))))
abbrev N_Lis_integer : List Str := ["_law_actual"]
def t_Lis_integer : DS :=
 (sRet (dAndV (dI (dCB fIsi (aCons (dV 0) (aCons (dI (dC (.ty "int"))) aNil)))) (dI (dB (dNot (dTru (dI (dCB fIsi (aCons (dV 0) (aCons (dI (dC (.ty "bool"))) aNil))))))))))
abbrev N_Lsame : List Str := ["_law_actual", "_law_due", "_law_k"]
def t_Lsame (n : Nat) : DS :=
 (sSeq (sIf (dTru (dI (dCB fIsi (aCons (dV 1) (aCons (dI (dC (.ty "tuple"))) aNil))))) (sSeq (sIf (dOr (dNot (dTru (dI (dCB fIsi (aCons (dV 0) (aCons (dI (dC (.ty "tuple"))) aNil)))))) (dCmp cNe (dI (dCB fLen (aCons (dV 0) aNil))) (dI (dCB fLen (aCons (dV 1) aNil))))) (sRet (dI (dC (.bl false)))) sNext)
 (sRet (dI (dCB fAll (aCons (dI (dLc (iRg1 (dCB fLen (aCons (dV 1) aNil))) (gN 2) dYes (dD (dCall (Sm.pf_same n) (aCons (dI (dIx (dV 0) (dD (dV 2)))) (aCons (dI (dIx (dV 1) (dD (dV 2)))) aNil)))) ([("_law_k", 2)].map (·.2)))) aNil))))) sNext)
 (sSeq (sIf (dTru (dI (dCB fIsi (aCons (dV 1) (aCons (dI (dC (.ty "list"))) aNil))))) (sSeq (sIf (dOr (dNot (dTru (dI (dCB fIsi (aCons (dV 0) (aCons (dI (dC (.ty "list"))) aNil)))))) (dCmp cNe (dI (dCB fLen (aCons (dV 0) aNil))) (dI (dCB fLen (aCons (dV 1) aNil))))) (sRet (dI (dC (.bl false)))) sNext)
 (sRet (dI (dCB fAll (aCons (dI (dLc (iRg1 (dCB fLen (aCons (dV 1) aNil))) (gN 2) dYes (dD (dCall (Sm.pf_same n) (aCons (dI (dIx (dV 0) (dD (dV 2)))) (aCons (dI (dIx (dV 1) (dD (dV 2)))) aNil)))) ([("_law_k", 2)].map (·.2)))) aNil))))) sNext)
 (sSeq (sIf (dIsN (dV 1)) (sRet (dI (dB (dIsN (dV 0))))) sNext)
 (sSeq (sIf (dTru (dI (dCB fIsi (aCons (dV 1) (aCons (dI (dC (.ty "bool"))) aNil))))) (sRet (dAndV (dI (dCB fIsi (aCons (dV 0) (aCons (dI (dC (.ty "bool"))) aNil)))) (dI (dB (dCmp cEq (dV 0) (dV 1)))))) sNext)
 (sSeq (sIf (dTru (dI (dCB fIsi (aCons (dV 1) (aCons (dI (dC (.ty "str"))) aNil))))) (sRet (dAndV (dI (dCB fIsi (aCons (dV 0) (aCons (dI (dC (.ty "str"))) aNil)))) (dI (dB (dCmp cEq (dV 0) (dV 1)))))) sNext)
 (sRet (dAndV (dCall Sm.pf_isint (aCons (dV 0) aNil)) (dI (dB (dCmp cEq (dV 0) (dV 1)))))))))))
abbrev N_Lspelt : List Str := ["_law_pool_here", "_law_sign", "_law_barred"]
def t_Lspelt : DS :=
 (sSeq (sIf (dAnd (dCmp cEq (dV 1) (dI (dC (.str "\x0a")))) (dCmp cEq (dCall pf_take (aCons (dV 0) (aCons (dI (dC (.int 2))) aNil))) (dI (dC (.int 1))))) (sRet (dV 1)) sNext)
 (sSeq (sIf (dCmp cEq (dCall pf_take (aCons (dV 0) (aCons (dI (dC (.int 2))) aNil))) (dI (dC (.int 1)))) (sAsg 2 (dI (dC (.str "|*+?()[].\\^-")))) sNext)
 (sRet (dCall pf_Lescaped (aCons (dV 1) (aCons (dV 2) aNil))))))
abbrev N_Lmembers : List Str := ["_law_pool_here", "_law_runs_here", "_law_texts", "_law_first", "_law_last", "_law_one", "_law_other", "_law_row", "_law_k"]
def t_Lmembers : DS :=
 (sSeq (sAsg 2 (dLstM adNil))
 (sSeq (sFor (iSq (dD (dV 1))) (gT [(gN 3), (gN 4)])
 (sSeq (sAsg 5 (dCall pf_Lspelt (aCons (dV 0) (aCons (dV 3) (aCons (dI (dC (.str "]^-\\"))) aNil)))))
 (sSeq (sAsg 6 (dCall pf_Lspelt (aCons (dV 0) (aCons (dV 4) (aCons (dI (dC (.str "]^-\\"))) aNil)))))
 (sIf (dCmp cNe (dV 3) (dV 4)) (sApp (dV 2) (dOp fAdd (dOp fAdd (dD (dV 5)) (dC (.str "-"))) (dD (dV 6)))) (sIf (dCmp cEq (dCall pf_take (aCons (dV 0) (aCons (dI (dC (.int 3))) aNil))) (dI (dC (.int 1)))) (sApp (dV 2) (dOp fAdd (dOp fAdd (dD (dV 5)) (dC (.str "-"))) (dD (dV 5)))) (sApp (dV 2) (dD (dV 5))))))))
 (sSeq (sAsg 7 (dLstM adNil))
 (sSeq (sFor (iRg1 (dCB fLen (aCons (dV 2) aNil))) (gN 8)
 (sSeq (sIns (dV 7) (dD (dCall pf_take (aCons (dV 0) (aCons (dI (dOp fAdd (dCB fLen (aCons (dV 7) aNil)) (dC (.int 1)))) aNil)))) (dIx (dV 2) (dD (dV 8))))
 (sIf (dCmp cEq (dCall pf_take (aCons (dV 0) (aCons (dI (dC (.int 4))) aNil))) (dI (dC (.int 1)))) (sApp (dV 7) (dIx (dV 2) (dD (dV 8)))) sNext)))
 (sRet (dI (dBM "str" mJoin (dI (dC (.str ""))) (aCons (dV 7) aNil))))))))
abbrev N_Lany_set : List Str := ["_law_pool_here", "_law_chars_here", "_law_kind", "_law_others", "_law_sign"]
def t_Lany_set : DS :=
 (sSeq (sAsg 2 (dCall pf_take (aCons (dV 0) (aCons (dI (dC (.int 3))) aNil))))
 (sSeq (sIf (dAnd (dCmp cEq (dV 2) (dI (dC (.int 0)))) (dCmp cEq (dI (dCB fLen (aCons (dV 1) aNil))) (dI (dC (.int 1))))) (sRet (dCall pf_Lspelt (aCons (dV 0) (aCons (dV 1) (aCons (dI (dC (.str "|*+?()[].\\"))) aNil))))) sNext)
 (sSeq (sIf (dOr (dCmp cEq (dV 2) (dI (dC (.int 0)))) (dCmp cEq (dI (dCB fLen (aCons (dV 1) aNil))) (dI (dC (.int 95))))) (sRet (dCall pf_Lset (aCons (dV 1) aNil))) sNext)
 (sSeq (sIf (dCmp cEq (dV 2) (dI (dC (.int 1)))) (sRet (dI (dOp fAdd (dOp fAdd (dC (.str "[")) (dD (dCall pf_Lmembers (aCons (dV 0) (aCons (dCall pf_Lruns (aCons (dV 1) aNil)) aNil))))) (dC (.str "]"))))) sNext)
 (sSeq (sAsg 3 (dI (dBM "str" mJoin (dI (dC (.str ""))) (aCons (dI (dLc (iSt (dC (.str "\x0a !\"#$&'()*+,-./0123456789:;<=>?@ABCDEFGHIJKLMNOPQRSTUVWXYZ[\\]^_`abcdefghijklmnopqrstuvwxyz{|}~"))) (gN 4) (dCmp cNotIn (dV 4) (dV 1)) (dD (dV 4)) ([("_law_sign", 4)].map (·.2)))) aNil))))
 (sRet (dI (dOp fAdd (dOp fAdd (dC (.str "[^")) (dD (dCall pf_Lmembers (aCons (dV 0) (aCons (dCall pf_Lruns (aCons (dV 3) aNil)) aNil))))) (dC (.str "]"))))))))))
abbrev N_Lwrapped : List Str := ["_law_pool_here", "_law_text", "_law_is_needed", "_law_many"]
def t_Lwrapped : DS :=
 (sSeq (sAsg 3 (dI (dCB fInt (aCons (dV 2) aNil))))
 (sSeq (sIf (dCmp cEq (dCall pf_take (aCons (dV 0) (aCons (dI (dC (.int 5))) aNil))) (dI (dC (.int 1)))) (sAsg 3 (dI (dOp fAdd (dOp fAdd (dD (dV 3)) (dC (.int 1))) (dD (dCall pf_take (aCons (dV 0) (aCons (dI (dC (.int 2))) aNil))))))) sNext)
 (sRet (dI (dOp fAdd (dOp fAdd (dOp fMul (dC (.str "(")) (dD (dV 3))) (dD (dV 1))) (dOp fMul (dC (.str ")")) (dD (dV 3))))))))
abbrev N_Lspelled : List Str := ["_law_pool_here", "_law_tree_here", "_law_head", "_law_parts", "_law_inner", "_law_part"]
def t_Lspelled (n : Nat) : DS :=
 (sSeq (sAsg 2 (dI (dIx (dV 1) (dC (.int 0)))))
 (sSeq (sIf (dCmp cEq (dV 2) (dI (dC (.str "chars")))) (sRet (dCall pf_Lwrapped (aCons (dV 0) (aCons (dCall pf_Lany_set (aCons (dV 0) (aCons (dI (dIx (dV 1) (dC (.int 1)))) aNil))) (aCons (dI (dC (.bl false))) aNil))))) sNext)
 (sSeq (sIf (dCmp cEq (dV 2) (dI (dC (.str "row")))) (sSeq (sAsg 3 (dI (dLc (iSq (dIx (dV 1) (dC (.int 1)))) (gN 5) dYes (dD (dCall pf_Lwrapped (aCons (dV 0) (aCons (dCall (pf_Lspelled n) (aCons (dV 0) (aCons (dV 5) aNil))) (aCons (dI (dB (dCmp cEq (dI (dIx (dV 5) (dC (.int 0)))) (dI (dC (.str "either")))))) aNil))))) ([("_law_part", 5)].map (·.2)))))
 (sSeq (sIf (dAnd (dCmp cGt (dI (dCB fLen (aCons (dV 3) aNil))) (dI (dC (.int 2)))) (dCmp cEq (dCall pf_take (aCons (dV 0) (aCons (dI (dC (.int 3))) aNil))) (dI (dC (.int 1))))) (sAsg 3 (dI (dOp fAdd (dLst (adCons (dOp fAdd (dOp fAdd (dOp fAdd (dC (.str "(")) (dIx (dV 3) (dC (.int 0)))) (dIx (dV 3) (dC (.int 1)))) (dC (.str ")"))) adNil)) (dSl (dV 3) (dPart (dC (.int 2))) dNoPart)))) sNext)
 (sRet (dI (dBM "str" mJoin (dI (dC (.str ""))) (aCons (dV 3) aNil)))))) sNext)
 (sSeq (sIf (dCmp cEq (dV 2) (dI (dC (.str "either")))) (sSeq (sAsg 3 (dI (dLc (iSq (dIx (dV 1) (dC (.int 1)))) (gN 5) dYes (dD (dCall pf_Lwrapped (aCons (dV 0) (aCons (dCall (pf_Lspelled n) (aCons (dV 0) (aCons (dV 5) aNil))) (aCons (dI (dC (.bl false))) aNil))))) ([("_law_part", 5)].map (·.2)))))
 (sSeq (sIf (dAnd (dCmp cGt (dI (dCB fLen (aCons (dV 3) aNil))) (dI (dC (.int 2)))) (dCmp cEq (dCall pf_take (aCons (dV 0) (aCons (dI (dC (.int 3))) aNil))) (dI (dC (.int 1))))) (sAsg 3 (dI (dOp fAdd (dSl (dV 3) dNoPart (dPart (dUn fNeg (dC (.int 2))))) (dLst (adCons (dOp fAdd (dOp fAdd (dOp fAdd (dOp fAdd (dC (.str "(")) (dIx (dV 3) (dUn fNeg (dC (.int 2))))) (dC (.str "|"))) (dIx (dV 3) (dUn fNeg (dC (.int 1))))) (dC (.str ")"))) adNil))))) sNext)
 (sRet (dI (dBM "str" mJoin (dI (dC (.str "|"))) (aCons (dV 3) aNil)))))) sNext)
 (sSeq (sAsg 4 (dCall pf_Lwrapped (aCons (dV 0) (aCons (dCall (pf_Lspelled n) (aCons (dV 0) (aCons (dI (dIx (dV 1) (dC (.int 1)))) aNil))) (aCons (dI (dB (dCmp cNe (dI (dIx (dI (dIx (dV 1) (dC (.int 1)))) (dC (.int 0)))) (dI (dC (.str "chars")))))) aNil)))))
 (sRet (dI (dOp fAdd (dD (dV 4)) (dGet false (dI (dDispD [((dC (.str "star")), (dC (.str "*"))), ((dC (.str "plus")), (dC (.str "+"))), ((dC (.str "maybe")), (dC (.str "?")))])) (dD (dV 2)))))))))))
abbrev N_law : List Str := ["_law_script", "_law_pool_here", "_law_signs", "_law_tree_here", "_law_text", "_law_due"]
def t_law : DS :=
 (sSeq (sAsg 1 (dCall pf_pool (aCons (dV 0) aNil)))
 (sSeq (sAsg 2 (dI (dC (.str "\x0a !\"#$&'()*+,-./0123456789:;<=>?@ABCDEFGHIJKLMNOPQRSTUVWXYZ[\\]^_`abcdefghijklmnopqrstuvwxyz{|}~"))))
 (sSeq (sAsg 3 (dCall (pf_Ltree 6) (aCons (dV 1) (aCons (dI (dOp fAdd (dC (.int 1)) (dD (dCall pf_take (aCons (dV 1) (aCons (dI (dC (.int 4))) aNil)))))) aNil))))
 (sSeq (sAsg 4 (dCall pf_Lwrapped (aCons (dV 1) (aCons (dCall (pf_Lspelled 6) (aCons (dV 1) (aCons (dV 3) aNil))) (aCons (dI (dC (.bl false))) aNil)))))
 (sSeq (sAsg 5 (dCall (pf_Lcanonical 6) (aCons (dV 3) aNil)))
 (sSeq (sIf (dOr (dNot (dTru (dCall (Sm.pf_same 12) (aCons (dI (dC (.str "\x0a !\"#$&'()*+,-./0123456789:;<=>?@ABCDEFGHIJKLMNOPQRSTUVWXYZ[\\]^_`abcdefghijklmnopqrstuvwxyz{|}~"))) (aCons (dV 2) aNil))))) (dNot (dTru (dCall (Sm.pf_same 12) (aCons (dCall pf_read_pattern (aCons (dV 4) aNil)) (aCons (dV 3) aNil)))))) (sRet (dI (dC (.bl false)))) sNext)
 (sSeq (sIf (dOr (dNot (dTru (dCall (Sm.pf_same 12) (aCons (dCall (pf_write 12) (aCons (dV 3) aNil)) (aCons (dV 5) aNil))))) (dNot (dTru (dCall (Sm.pf_same 12) (aCons (dCall pf_read_pattern (aCons (dV 5) aNil)) (aCons (dV 3) aNil)))))) (sRet (dI (dC (.bl false)))) sNext)
 (sRet (dCall (Sm.pf_same 12) (aCons (dCall (pf_cbe 8) (aCons (dV 3) aNil)) (aCons (dCall (pf_cbe 8) (aCons (dV 3) aNil)) aNil)))))))))))
end Dl.Qt
end

section
set_option maxHeartbeats 4000000
namespace Dl.Qt
open PySem PySem.Spec PyProof.Rows L2 Co PySem.StrLaws Dl.Pt
local macro_rules | `(tactic| walk_at "s") => `(tactic| first | refine twoT ?_ | refine twoF ?_ | refine yesD rfl ?_ | refine noD (by decide) ?_)
theorem r_Lis_integer : ∀ ws st k ex, pf_Lis_integer ws st k ex → t_Lis_integer (EnD false st.length k ex) (startD N_Lis_integer ws) st := Sm.r_isint
theorem r_Lsame {n : Nat} : ∀ ws st k ex, pf_Lsame (n + 1) ws st k ex → (t_Lsame n) (EnD false st.length k ex) (startD N_Lsame ws) st := Sm.r_same
theorem r_character_text : ∀ ws st k ex, pf_character_text ws st k ex → t_character_text (EnD false st.length k ex) (startD N_character_text ws) st := by
  intro ws st k ex h
  unfold pf_character_text pf_Lescaped at h
  split at h
  · obtain ⟨c, bs, rfl, rfl, hl, hk⟩ := h
    unfold escL at hk
    by_cases h1 : c = 10
    · subst h1
      rw [if_pos rfl, ← bsn_eq] at hk
      walk_at "s"
      exact hk
    · rw [if_neg h1] at hk
      refine noD (fun z => h1 (Pt.one_inj (z.trans nl_eq))) ?_
      by_cases h2 : c ∈ bs
      · rw [if_pos h2] at hk
        have e : (("\\" : Str)) ++ (⟨#[c]⟩ : Str) = S [92, c] := by rw [bs_eq]; exact S_app [92] [c]
        rw [← e] at hk
        refine yesD (p := c ∈ bs) h2 ⟨?_, hk⟩
        rw [bs_eq]
        exact Nat.le_trans (show 1 + 1 ≤ 1000 by decide) sz1000
      · rw [if_neg h2] at hk
        exact noD (p := c ∈ bs) h2 hk
  · exact h.elim
def ixA (c : Nat) : Nat := alph.findIdx (· == c)
theorem ixA_at : ∀ i, i < 95 → ixA (alph.getD i 0) = i := by decide +kernel
theorem occ_ok : ∀ i, i < 95 → Builtin.Str.occurrences (S alph) ⟨#[alph.getD i 0]⟩ 0 (S alph).length 1 = [i] := by decide +kernel
theorem idx_of {c : Nat} (hc : c ∈ alph) {k : D → Prop} (hk : k (.int (ixA c : Nat))) : mIdx (.str (S alph)) [.str ⟨#[c]⟩] k := by
  obtain ⟨i, hi, rfl⟩ := alph_idx hc
  rw [ixA_at i hi] at hk
  exact ⟨i, [], occ_ok i hi, hk⟩
def mStep (rs : List (Nat × Nat)) (c : Nat) : List (Nat × Nat) := match rs.getLast? with
  | some m => if (ixA m.2 : Int) = (ixA c : Int) - 1 then rs.dropLast ++ [(m.1, c)] else rs ++ [(c, c)]
  | none => [(c, c)]
theorem mStep_snoc (r0 : List (Nat × Nat)) (m : Nat × Nat) (c : Nat) : mStep (r0 ++ [m]) c = if (ixA m.2 : Int) = (ixA c : Int) - 1 then r0 ++ [(m.1, c)] else (r0 ++ [m]) ++ [(c, c)] := by
  unfold mStep
  simp
theorem last_nil (cs : List Nat) : ∀ k, ((List.range k).foldl (runStep cs) ([], -5)).2 = -5 → ((List.range k).foldl (runStep cs) ([], -5)).1 = []
  | 0, _ => rfl
  | k + 1, h => by
    rw [runs_step] at h ⊢
    have ih := last_nil cs k
    generalize (List.range k).foldl (runStep cs) ([], -5) = a at h ih ⊢
    unfold runStep at h ⊢
    cases hc : alph[k]? with
    | none => rw [hc] at h; exact ih h
    | some c =>
      rw [hc] at h
      dsimp only at h ⊢
      by_cases hm : c ∈ cs
      · rw [if_pos hm] at h
        exfalso
        split at h
        · have h : (k : Int) = -5 := h
          omega
        · have h : (k : Int) = -5 := h
          omega
      · rw [if_neg hm] at h ⊢
        exact ih h
theorem take_snoc {k : Nat} (hk : k < 95) : alph.take (k + 1) = alph.take k ++ [alph.getD k 0] := getD_take (alph_get hk)
theorem mfold (cs : List Nat) : ∀ k, k ≤ 95 → ((alph.take k).filter fun c => decide (c ∈ cs)).foldl mStep [] = ((List.range k).foldl (runStep cs) ([], -5)).1
  | 0, _ => rfl
  | k + 1, h => by
    have ih := mfold cs k (by omega)
    have hj := (runJ_all cs k (by omega)).ls
    have hn := last_nil cs k
    rw [take_snoc (by omega), List.filter_append, List.foldl_append, ih, runs_step]
    generalize (List.range k).foldl (runStep cs) ([], -5) = a at hj hn ⊢
    obtain ⟨rs, last⟩ := a
    unfold runStep
    rw [alph_get (by omega)]
    dsimp only at hj hn ⊢
    by_cases hm : alph.getD k 0 ∈ cs
    · rw [if_pos hm, List.filter_cons_of_pos (by simpa using hm)]
      show mStep rs (alph.getD k 0) = _
      rcases hj with hj | ⟨l, r0, i, e1, e2, e3, rfl⟩
      · rw [hn hj, hj, if_neg (by omega)]
        rfl
      · rw [mStep_snoc, ixA_at k (by omega)]
        show (if (ixA (alph.getD l 0) : Int) = (k : Int) - 1 then _ else _) = _
        rw [ixA_at l (by omega), e1]
        by_cases z : (l : Int) = (k : Int) - 1
        · rw [if_pos z, if_pos z]
          simp
        · rw [if_neg z, if_neg z]
    · rw [if_neg hm, List.filter_cons_of_neg (by simpa using hm)]
      rfl
theorem mfold_all {cs : List Nat} (h : cs.Sublist alph) : cs.foldl mStep [] = runs cs := by
  have := mfold cs 95 (Nat.le_refl _)
  rw [List.take_of_length_le (by rw [alph_len]; exact Nat.le_refl _), sub_filter alph_nodup h] at this
  exact this
def memB : DS :=
 (sSeq (sAsg 3 (dI (dBM "str" mIdx (dI (dC (.str (S alph)))) (aCons (dV 2) aNil))))
 (sIf (dAnd (dTru (dV 1)) (dCmp cEq (dI (dBM "str" mIdx (dI (dC (.str (S alph)))) (aCons (dI (dIx (dI (dIx (dV 1) (dUn fNeg (dC (.int 1))))) (dC (.int 1)))) aNil))) (dI (dOp fSub (dD (dV 3)) (dC (.int 1)))))) (sSetL (dV 1) (dUn fNeg (dC (.int 1))) (dTup (adCons (dIx (dI (dIx (dV 1) (dUn fNeg (dC (.int 1))))) (dC (.int 0))) (adCons (dD (dV 2)) adNil)))) (sApp (dV 1) (dTup (adCons (dD (dV 2)) (adCons (dD (dV 2)) adNil))))))
theorem bm_of {T : String} {f : D → FL} {x a : D} {to ta : DW} {σ : Sl} {st : Sto} {ex : DX} {k : D → Sto → Prop} (hT : isTy T (some x)) (ho : ∀ Q : W → Sto → Prop, Q (.im x) st → to σ st Q ex) (ha : ∀ Q : W → Sto → Prop, Q (.im a) st → ta σ st Q ex) (hf : f x [a] fun d => k d st) : dBM T f to (aCons ta aNil) σ st k ex :=
  ho _ ⟨hT, ha _ hf⟩
theorem memB_ok {rs : List (Nat × Nat)} {c : Nat} {w0 w3 : Option W} {E : En} (hc : c ∈ alph) (hr : ∀ m ∈ rs, m.2 ∈ alph) (hl : rs.length ≤ 1000) (hk : E.nx [w0, some (.loc 0), some (.im (.str ⟨#[c]⟩)), some (.im (.int (ixA c : Nat)))] [.lst ((mStep rs c).map eM)]) :
    memB E [w0, some (.loc 0), some (.im (.str ⟨#[c]⟩)), w3] [.lst (rs.map eM)] := by
  refine sSeq_of (sAsg_of (dI_of (bm_of (x := .str (S alph)) (a := .str ⟨#[c]⟩) rfl (fun Q q => q) (fun Q q => q) (idx_of hc ?_))))
  have app : ∀ rs : List (Nat × Nat), rs.length ≤ 1000 → E.nx [w0, some (.loc 0), some (.im (.str ⟨#[c]⟩)), some (.im (.int (ixA c : Nat)))] [.lst ((rs ++ [(c, c)]).map eM)] → sApp (dV 1) (dTup (adCons (dD (dV 2)) (adCons (dD (dV 2)) adNil))) E [w0, some (.loc 0), some (.im (.str ⟨#[c]⟩)), some (.im (.int (ixA c : Nat)))] [.lst (rs.map eM)] := fun rs hl h => by
    rw [List.map_append] at h
    exact ⟨⟨_, rfl⟩, l2 _ _, by rw [List.length_map]; omega, h⟩
  rcases List.eq_nil_or_concat rs with rfl | ⟨r0, m, rfl⟩
  · exact twoF (twoF (app [] (by decide) hk))
  · rw [List.concat_eq_append] at *
    rw [mStep_snoc] at hk
    have hm : m.2 ∈ alph := hr m (List.mem_append_right _ (List.mem_singleton.mpr rfl))
    have em : ∀ l : List (Nat × Nat), (!((l ++ [m]).map eM).isEmpty) = true := fun l => by simp
    show two (!((r0 ++ [m]).map eM).isEmpty) _ _
    rw [em]
    refine twoT (dCmp_of (dI_of (bm_of (x := .str (S alph)) (a := .str ⟨#[m.2]⟩) rfl (fun Q q => q) (fun Q q => ?_) (idx_of hm ?_))))
    · refine dI_of (dIx_of (dI_of (dIx_of (dV_at rfl (dUn_of (dC_of ?_))))))
      rw [List.map_append] at q ⊢
      show atD (.lst (r0.map eM ++ [eM m])) (.int (-1)) _
      refine atD_last (dC_of ?_)
      show atD (eM m) (.int 1) _
      exact atT1 q
    · refine oneD (p := (ixA m.2 : Int) = (ixA c : Int) - 1) (fun z => ?_) (fun z => ?_)
      · rw [if_pos z, List.map_append] at hk
        rw [List.map_append]
        refine sSetL_of (dTup_of (adCons_of (dIx_of (dI_of (dIx_of (dV_at rfl (dUn_of (dC_of ?_))))))))
        show atD (.lst (r0.map eM ++ [eM m])) (.int (-1)) _
        refine atD_last (dC_of ?_)
        show atD (eM m) (.int 0) _
        refine atT0 ⟨l2 _ _, ?_⟩
        show (match ixN (r0.map eM ++ [eM m]).length (-1) with | some j => _ | none => False)
        rw [ixN_last]
        show E.nx _ [.lst ((r0.map eM ++ [eM m]).set (r0.map eM).length _)]
        rw [set_last]
        exact hk
      · rw [if_neg z] at hk
        exact app _ hl hk
theorem mfold_in {cs : List Nat} (h : ∀ c ∈ cs, c ∈ alph) : ∀ (i : Nat), (∀ m ∈ (cs.take i).foldl mStep [], m.2 ∈ alph) ∧ ((cs.take i).foldl mStep []).length ≤ i
  | 0 => ⟨fun m hm => (by cases hm), Nat.le_refl _⟩
  | i + 1 => by
    obtain ⟨h1, h2⟩ := mfold_in h i
    cases hc : cs[i]? with
    | none =>
      have hl := List.getElem?_eq_none_iff.mp hc
      rw [List.take_of_length_le (by omega)]
      rw [List.take_of_length_le hl] at h1 h2
      exact ⟨h1, by omega⟩
    | some c =>
      have hca := h c (List.mem_of_getElem? hc)
      rw [getD_take hc, List.foldl_append]
      generalize (cs.take i).foldl mStep [] = rs at h1 h2
      show (∀ m ∈ mStep rs c, m.2 ∈ alph) ∧ (mStep rs c).length ≤ i + 1
      rcases List.eq_nil_or_concat rs with rfl | ⟨r0, m, rfl⟩
      · exact ⟨fun m hm => by rw [show mStep [] c = [(c, c)] from rfl, List.mem_singleton] at hm; rw [hm]; exact hca, by show 1 ≤ i + 1; omega⟩
      · rw [List.concat_eq_append] at *
        rw [List.length_append, List.length_singleton] at h2
        rw [mStep_snoc]
        split
        · refine ⟨fun m' hm' => ?_, by rw [List.length_append, List.length_singleton]; omega⟩
          rcases List.mem_append.mp hm' with hm' | hm'
          · exact h1 m' (List.mem_append_left _ hm')
          · rw [List.mem_singleton] at hm'; rw [hm']; exact hca
        · refine ⟨fun m' hm' => ?_, by rw [List.length_append, List.length_append, List.length_singleton, List.length_singleton]; omega⟩
          rcases List.mem_append.mp hm' with hm' | hm'
          · exact h1 m' hm'
          · rw [List.mem_singleton] at hm'; rw [hm']; exact hca
def memF : DS := (sSeq (sAsg 1 (dLstM adNil)) (sSeq (sFor (iSt (dD (dV 0))) (gN 2) memB) (sRet (dV 1))))
theorem memF_eq : t_members_of = (sSeq (sAsg 1 (dLstM adNil)) (sSeq (sFor (iSt (dD (dV 0))) (gN 2) (sSeq (sAsg 3 (dI (dBM "str" mIdx (dI (dC (.str "\x0a !\"#$&'()*+,-./0123456789:;<=>?@ABCDEFGHIJKLMNOPQRSTUVWXYZ[\\]^_`abcdefghijklmnopqrstuvwxyz{|}~"))) (aCons (dV 2) aNil))))
 (sIf (dAnd (dTru (dV 1)) (dCmp cEq (dI (dBM "str" mIdx (dI (dC (.str "\x0a !\"#$&'()*+,-./0123456789:;<=>?@ABCDEFGHIJKLMNOPQRSTUVWXYZ[\\]^_`abcdefghijklmnopqrstuvwxyz{|}~"))) (aCons (dI (dIx (dI (dIx (dV 1) (dUn fNeg (dC (.int 1))))) (dC (.int 1)))) aNil))) (dI (dOp fSub (dD (dV 3)) (dC (.int 1)))))) (sSetL (dV 1) (dUn fNeg (dC (.int 1))) (dTup (adCons (dIx (dI (dIx (dV 1) (dUn fNeg (dC (.int 1))))) (dC (.int 0))) (adCons (dD (dV 2)) adNil)))) (sApp (dV 1) (dTup (adCons (dD (dV 2)) (adCons (dD (dV 2)) adNil))))))) (sRet (dV 1)))) := rfl
theorem memF_ok {cs : List Nat} {k : W → Sto → Prop} {ex : DX} (hs : cs.Sublist alph) (hk : k (.im (.lst ((runs cs).map eM))) []) : memF (EnD false 0 k ex) [some (.im (.str (S cs))), none, none, none] [] := by
  have hin : ∀ c ∈ cs, c ∈ alph := fun c hc => hs.subset hc
  have hl95 : cs.length ≤ 95 := Nat.le_trans hs.length_le (by decide)
  refine ⟨by simp, fun i σ' st' => ∃ w2 w3, σ' = [some (.im (.str (S cs))), some (.loc 0), w2, w3] ∧ st' = [.lst (((cs.take i).foldl mStep []).map eM)], ⟨none, none, rfl, rfl⟩, ?_, ?_⟩
  · rintro i d σ' st' hd ⟨w2, w3, rfl, rfl⟩ -
    have hd : (cs.map fun c => D.str ⟨#[c]⟩)[i]? = some d := hd
    rw [List.getElem?_map] at hd
    cases hc : cs[i]? with
    | none => rw [hc] at hd; cases hd
    | some c =>
      rw [hc] at hd
      cases hd
      obtain ⟨h1, h2⟩ := mfold_in hin i
      have hi := (List.getElem?_eq_some_iff.mp hc).1
      refine memB_ok (hin c (List.mem_of_getElem? hc)) h1 (by omega) ⟨_, some (.im (.int (ixA c : Nat))), rfl, ?_⟩
      rw [getD_take hc, List.foldl_append]
      rfl
  · rintro σ' st' ⟨w2, w3, rfl, rfl⟩ -
    have e : (chD (S cs)).length = cs.length := List.length_map _
    rw [e, List.take_length, mfold_all hs]
    exact hk
theorem r_members_of : ∀ ws st k ex, pf_members_of ws st k ex → t_members_of (EnD false st.length k ex) (startD N_members_of ws) st := by
  intro ws st k ex h
  unfold pf_members_of pf_Lruns at h
  split at h
  · obtain ⟨cs, rfl, hs, hk⟩ := h
    rw [memF_eq, alph_eq]
    exact memF_ok hs.2 hk
  · exact h.elim
end Dl.Qt
end

section
set_option maxHeartbeats 4000000
namespace Dl.Qt
open PySem PySem.Spec PyProof.Rows L2 Co PySem.StrLaws Dl.Pt
local macro_rules | `(tactic| walk_at "s") => `(tactic| first | refine twoT ?_ | refine twoF ?_ | refine yesD rfl ?_ | refine noD (by decide) ?_)
theorem call_ct {c : Nat} {bs : List Nat} {st : Sto} {k : W → Sto → Prop} {ex : DX} (hl : bs.length ≤ 1000) (hk : k (.im (.str (S (escL bs c)))) st) : callD pf_character_text [] [.im (.str ⟨#[c]⟩), .im (.str (S bs))] st k ex := ⟨rfl, c, bs, rfl, rfl, hl, hk⟩
def stB : DS := (sSeq (sApp (dV 1) (dD (dCall pf_character_text (aCons (dV 2) (aCons (dI (dC (.str "]^-\\"))) aNil)))))
 (sIf (dCmp cNe (dV 2) (dV 3)) (sApp (dV 1) (dOp fAdd (dC (.str "-")) (dD (dCall pf_character_text (aCons (dV 3) (aCons (dI (dC (.str "]^-\\"))) aNil)))))) sNext))
theorem stB_ok {ls : List (List Nat)} {m : Nat × Nat} {w0 : Option W} {E : En} (hl : ls.length ≤ 1000) (hk : E.nx [w0, some (.loc 0), some (.im (.str ⟨#[m.1]⟩)), some (.im (.str ⟨#[m.2]⟩))] [.lst (((ls ++ runTs m).map S).map D.str)]) :
    stB E [w0, some (.loc 0), some (.im (.str ⟨#[m.1]⟩)), some (.im (.str ⟨#[m.2]⟩))] [.lst ((ls.map S).map D.str)] := by
  unfold stB
  rw [insdS_eq]
  have hi : insd.length ≤ 1000 := by decide
  refine ⟨⟨_, rfl⟩, call_ct hi ⟨by rw [List.length_map, List.length_map]; omega, ?_⟩⟩
  unfold runTs at hk
  by_cases h : m.1 = m.2
  · rw [if_pos h] at hk
    refine notY (by rw [h]) ?_
    rw [List.map_append, List.map_append] at hk
    exact hk
  · rw [if_neg h] at hk
    refine notN (fun z => h (Pt.one_inj z)) ⟨⟨_, rfl⟩, call_ct hi ?_⟩
    rw [mns_eq]
    refine ⟨?_, ?_, ?_⟩
    · have := escL_len insd m.2
      rw [S_len, S_len, sizeLine_eq]
      show 1 + _ ≤ _
      omega
    · rw [List.length_append, List.length_map, List.length_map]
      show ls.length + 1 ≤ _
      omega
    · rw [S_app, List.append_assoc]
      rw [List.map_append, List.map_append] at hk
      exact hk
def stT : DS :=
 (sSeq (sIf (dCmp cEq (dV 0) (dI (dC (.str "\x0a !\"#$&'()*+,-./0123456789:;<=>?@ABCDEFGHIJKLMNOPQRSTUVWXYZ[\\]^_`abcdefghijklmnopqrstuvwxyz{|}~")))) (sRet (dI (dC (.str ".")))) sNext)
 (sSeq (sAsg 1 (dLstM adNil))
 (sSeq (sFor (iSq (dD (dCall pf_members_of (aCons (dV 0) aNil)))) (gT [(gN 2), (gN 3)])
 stB)
 setT)))
theorem r_set_text : ∀ ws st k ex, pf_set_text ws st k ex → t_set_text (EnD false st.length k ex) (startD N_set_text ws) st := by
  intro ws st k ex h
  unfold pf_set_text pf_Lset at h
  split at h
  · obtain ⟨cs, rfl, hs, hk⟩ := h
    have hle : cs.length ≤ 95 := Nat.le_trans hs.2.length_le (by decide)
    have hsz : (S cs).length ≤ sizeLine := by rw [S_len, sizeLine_eq]; omega
    refine ⟨hsz, ?_⟩
    rw [S_len]
    by_cases h1 : cs.length = 1
    · obtain ⟨c, rfl⟩ := List.length_eq_one_iff.mp h1
      refine yesD rfl ?_
      show callD pf_character_text [] [.im (.str ⟨#[c]⟩), .im (.str "|*+?()[].\\")] [] _ _
      rw [outd_eq]
      exact call_ct (by decide) hk
    · refine noD (by omega) ?_
      show stT (EnD false 0 k ex) [some (.im (.str (S cs))), none, none, none] []
      unfold stT
      rw [alph_eq]
      rw [setL_two h1] at hk
      by_cases h2 : cs.length = 95
      · rw [if_pos h2, ← dotS_eq] at hk
        have : cs = alph := sub_full hs.2 (by rw [h2, alph_len])
        subst this
        refine yesD rfl ?_
        exact hk
      · rw [if_neg h2] at hk
        refine noD (fun z => h2 (by rw [S_inj z, alph_len])) ⟨by simp, ?_⟩
        refine ⟨rfl, cs, rfl, hs, fun i σ' st' => ∃ w2 w3, σ' = [some (.im (.str (S cs))), some (.loc 0), w2, w3] ∧ st' = [.lst (((((runs cs).take i).flatMap runTs).map S).map D.str)], ⟨none, none, rfl, rfl⟩, ?_, ?_⟩
        · rintro i d σ' st' hd' ⟨w2, w3, rfl, rfl⟩ -
          rw [List.getElem?_map] at hd'
          cases hb : (runs cs)[i]? with
          | none => rw [hb] at hd'; cases hd'
          | some m =>
            rw [hb] at hd'
            cases hd'
            refine ⟨rfl, ?_⟩
            refine stB_ok (m := m) ?_ ⟨_, _, rfl, ?_⟩
            · have a1 := flatMap_len runTs 2 runTs_len ((runs cs).take i)
              have a2 := runs_le cs
              rw [List.length_take] at a1
              omega
            · rw [getD_take hb, List.flatMap_append, List.flatMap_singleton]
              rfl
        · rintro σ' st' ⟨w2, w3, rfl, rfl⟩ -
          rw [List.length_map, List.take_length]
          refine setT_ok ?_ ?_ ?_
          · have a1 := flatMap_len runTs 2 runTs_len (runs cs)
            have a2 := runs_le cs
            omega
          · rw [flat_runTs]
            have a1 := flatMap_len runL 5 runL_len (runs cs)
            have a2 := runs_le cs
            omega
          · rw [flat_runTs]
            exact hk
  · exact h.elim
theorem call_write {n m : Nat} {q : Pt} {st : Sto} {k : W → Sto → Prop} {ex : DX} (hm : m < n) (h5 : m ≤ 5) (hq : TreeOk m q) (hk : k (.im (.str (S (canL q)))) st) : callD (pf_write n) [] [.im (eP q)] st k ex := ⟨rfl, q, m, rfl, hm, h5, hq, hk⟩
theorem call_part {n m : Nat} {q : Pt} (b : Bool) {st : Sto} {k : W → Sto → Prop} {ex : DX} (hm : m < n) (h5 : m ≤ 5) (hq : TreeOk m q) (hk : k (.im (.str (S (brk (barB b q) (canL q))))) st) : callD (pf_part_text n) [] [.im (eP q), .im (.tup (bars b))] st k ex := ⟨rfl, q, m, b, rfl, rfl, hm, h5, hq, hk⟩
theorem eP_hd (p : Pt) : ∃ x, eP p = .tup [.str (hdP p), x] := by cases p <;> exact ⟨_, rfl⟩
theorem bars_in (b : Bool) (p : Pt) : memD (.str (hdP p)) (bars b) = barB b p ∧ (bars b).all (shp 60) = true := by
  refine ⟨?_, by cases b <;> decide⟩
  cases p <;> cases b
  · exact (by decide +kernel : memD (.str "chars") (bars false) = false)
  · exact (by decide +kernel : memD (.str "chars") (bars true) = false)
  · exact (by decide +kernel : memD (.str "row") (bars false) = true)
  · exact (by decide +kernel : memD (.str "row") (bars true) = false)
  · exact (by decide +kernel : memD (.str "either") (bars false) = true)
  · exact (by decide +kernel : memD (.str "either") (bars true) = true)
  · exact (by decide +kernel : memD (.str "star") (bars false) = true)
  · exact (by decide +kernel : memD (.str "star") (bars true) = false)
  · exact (by decide +kernel : memD (.str "plus") (bars false) = true)
  · exact (by decide +kernel : memD (.str "plus") (bars true) = false)
  · exact (by decide +kernel : memD (.str "maybe") (bars false) = true)
  · exact (by decide +kernel : memD (.str "maybe") (bars true) = false)
theorem r_part_text {n : Nat} : ∀ ws st k ex, pf_part_text n ws st k ex → (t_part_text n) (EnD false st.length k ex) (startD N_part_text ws) st := by
  intro ws st k ex h
  unfold pf_part_text at h
  split at h
  · obtain ⟨p, m, b, rfl, rfl, hm, h5, hp, hk⟩ := h
    have hlen := tree_len5 h5 hp
    obtain ⟨x, hx⟩ := eP_hd p
    refine call_write hm h5 hp ?_
    obtain ⟨e1, e2⟩ := bars_in b p
    dsimp only
    refine sRet_of ?_
    refine dIfE_of (dCmp_of (dI_of (dIx_of ?_)))
    refine dV_at rfl (dC_of ?_)
    rw [hx]
    show atD (.tup [.str (hdP p), x]) (.int 0) _
    refine atT0 ⟨rfl, e2, ?_⟩
    rw [e1]
    cases hb : barB b p with
    | true =>
      rw [hb] at hk
      refine twoT (paren_of (t := dD (dV 2)) hlen (fun Q hQ => hQ) ?_)
      exact hk
    | false =>
      rw [hb] at hk
      exact twoF hk
  · exact h.elim
theorem rowL_part (qs : List Pt) : rowL qs = (qs.map fun q => brk (barB true q) (canL q)).flatten := rowL_brk qs
def wrZ (n : Nat) : DS := (sRet (dI (dOp fAdd (dD (dCall (pf_part_text n) (aCons (dI (dIx (dV 0) (dC (.int 1)))) (aCons (dI (dTup (adCons (dC (.str "either")) (adCons (dC (.str "row")) (adCons (dC (.str "star")) (adCons (dC (.str "plus")) (adCons (dC (.str "maybe")) adNil))))))) aNil)))) (dGlIx [("star", .str "*"), ("plus", .str "+"), ("maybe", .str "?")] (dIx (dV 0) (dC (.int 0)))))))
theorem wrZ_ok {n m : Nat} {q : Pt} {c : Nat} {hd : Str} {k : W → Sto → Prop} {ex : DX} (hm : m < n) (h5 : m ≤ 5) (hq : TreeOk m q) (hc : (hd = "star" ∧ c = 42) ∨ (hd = "plus" ∧ c = 43) ∨ (hd = "maybe" ∧ c = 63)) (hk : k (.im (.str (S (brk (!isC q) (canL q) ++ [c])))) []) :
    wrZ n (EnD false 0 k ex) [some (.im (.tup [.str hd, eP q])), none] [] := by
  have hlen := tree_len5 h5 hq
  have hbl := brk_len (!isC q) (canL q)
  have fin : ∀ z : Str, z = S [c] → (S (brk (!isC q) (canL q))).length + z.length ≤ sizeLine ∧ k (.im (.str (S (brk (!isC q) (canL q)) ++ z))) [] := by
    rintro z rfl
    rw [S_app]
    refine ⟨?_, hk⟩
    rw [S_len, S_len, sizeLine_eq]
    show _ + 1 ≤ _
    omega
  refine ⟨by show 5 ≤ 1000000; decide, call_part false hm h5 hq ?_⟩
  rcases hc with ⟨rfl, rfl⟩ | ⟨rfl, rfl⟩ | ⟨rfl, rfl⟩
  · exact fin _ star_eq
  · exact fin _ plus_eq
  · exact fin _ mayb_eq
theorem qlen {m : Nat} {qs : List Pt} (h5 : m ≤ 5) (h : lvs qs ≤ 3 ^ m) : qs.length ≤ 1000 := by
  have := lvs_len qs
  have : 3 ^ m ≤ 3 ^ 5 := Nat.pow_le_pow_right (by decide) h5
  omega
theorem lvs_row {m : Nat} {qs : List Pt} (h : TreeOk m (.row qs)) : lvs qs ≤ 3 ^ m := by
  have := tree_lv m _ h
  have e : lv (.row qs) = max 1 (lvs qs) := rfl
  omega
theorem lvs_eit {m : Nat} {qs : List Pt} (h : TreeOk m (.either qs)) : lvs qs ≤ 3 ^ m := by
  have := tree_lv m _ h
  have e : lv (.either qs) = max 1 (lvs qs) := rfl
  omega
theorem join_of {a : List Nat} {z : Str} {ls : List (List Nat)} {k : D → Prop} (hz : z = S a) (ha : a.length ≤ 10) (hl : ls.length ≤ 1000) (hs : (joinW a ls).length ≤ 300000) (hk : k (.str (S (joinW a ls)))) : mJoin (.str z) [.lst (ls.map fun l => .str (S l))] k := by
  subst hz
  refine ⟨ls.map S, by rw [List.map_map]; rfl, ?_, ?_⟩
  · cases ls with
    | nil => show 0 + 0 * _ ≤ _; omega
    | cons x r =>
      have := joinW_len a (x :: r) (by simp)
      rw [List.length_map, S_len]
      omega
  · rw [joinT2]
    exact hk
theorem joinW_nil (ls : List (List Nat)) : joinW [] ls = ls.flatten := by
  induction ls with
  | nil => rfl
  | cons x r ih =>
    cases r with
    | nil => exact (List.append_nil _).symm
    | cons y r => show x ++ ([] ++ joinW [] (y :: r)) = _; rw [ih]; rfl
theorem barS_eq : (("|" : Str)) = S [124] := by decide +kernel
theorem r_write_pattern {n : Nat} : ∀ ws st k ex, pf_write (n + 1) ws st k ex → (t_write_pattern n) (EnD false st.length k ex) (startD N_write_pattern ws) st := by
  intro ws st k ex h
  unfold pf_write at h
  split at h
  · obtain ⟨p, m, rfl, hm, h5, hp, hk⟩ := h
    have hpt := tree_parts m p hp
    have hlen := tree_len5 h5 hp
    cases p with
    | chars cs =>
      walk_at "s"
      exact ⟨rfl, cs, rfl, hpt, hk⟩
    | row qs =>
      have hpt : PartsOk m qs true := hpt
      have hk : k (.im (.str (S (rowL qs)))) [] := hk
      have hlen : (rowL qs).length ≤ 120000 := hlen
      have hql := qlen h5 (lvs_row hp)
      walk_at "s"; walk_at "s"
      refine ⟨rfl, ?_⟩
      show lcB (ePs qs) _ _ _ _ _ _ _
      rw [ePs_eq]
      refine lc_fn (b := fun l => D.str (S l)) (fun q => brk (barB true q) (canL q)) (by omega) rfl (fun q hq Q hQ => ?_) ?_
      · obtain ⟨⟨m', h1, h2⟩, h3⟩ := hpt.2 q hq
        exact ⟨by show 1 ≤ 1000000; decide, call_part true (by omega) (by omega) h2 hQ⟩
      · rw [rowL_part, ← joinW_nil] at hk hlen
        exact join_of (k := fun d => k (.im d) []) (ls := qs.map fun q => brk (barB true q) (canL q)) empS_eq (by decide) (by rw [List.length_map]; exact hql) (by omega) hk
    | either qs =>
      have hpt : PartsOk m qs false := hpt
      have hk : k (.im (.str (S (eitL qs)))) [] := hk
      have hlen : (eitL qs).length ≤ 120000 := hlen
      have hql := qlen h5 (lvs_eit hp)
      walk_at "s"; walk_at "s"; walk_at "s"
      refine ⟨rfl, ?_⟩
      show lcB (ePs qs) _ _ _ _ _ _ _
      rw [ePs_eq]
      refine lc_fn (b := fun l => D.str (S l)) canL (by omega) rfl (fun q hq Q hQ => ?_) ?_
      · obtain ⟨⟨m', h1, h2⟩, h3⟩ := hpt.2 q hq
        exact call_write (by omega) (by omega) h2 hQ
      · rw [eitL_join] at hk hlen
        exact join_of (k := fun d => k (.im d) []) (ls := qs.map canL) barS_eq (by decide) (by rw [List.length_map]; exact hql) (by omega) hk
    | star q =>
      obtain ⟨m', h1, h2⟩ := hpt
      walk_at "s"; walk_at "s"; walk_at "s"
      exact wrZ_ok (n := n) (by omega) (by omega) h2 (.inl ⟨rfl, rfl⟩) hk
    | plus q =>
      obtain ⟨m', h1, h2⟩ := hpt
      walk_at "s"; walk_at "s"; walk_at "s"
      exact wrZ_ok (n := n) (by omega) (by omega) h2 (.inr (.inl ⟨rfl, rfl⟩)) hk
    | maybe q =>
      obtain ⟨m', h1, h2⟩ := hpt
      walk_at "s"; walk_at "s"; walk_at "s"
      exact wrZ_ok (n := n) (by omega) (by omega) h2 (.inr (.inr ⟨rfl, rfl⟩)) hk
  · exact h.elim
theorem call_cbe {n m : Nat} {q : Pt} {st : Sto} {k : W → Sto → Prop} {ex : DX} (hm : m < n) (h5 : m ≤ 5) (hq : TreeOk m q) (hk : k (.im (.bl (emp q))) st) : callD (pf_cbe n) [] [.im (eP q)] st k ex := ⟨rfl, q, m, rfl, hm, h5, hq, hk⟩
theorem emps_eq : ∀ qs : List Pt, emps qs = (qs.map emp).all id
  | [] => rfl
  | q :: qs => by show (emp q && emps qs) = _; rw [emps_eq qs]; rfl
theorem empo_eq : ∀ qs : List Pt, empo qs = (qs.map emp).any id
  | [] => rfl
  | q :: qs => by show (emp q || empo qs) = _; rw [empo_eq qs]; rfl
theorem r_can_be_empty {n : Nat} : ∀ ws st k ex, pf_cbe (n + 1) ws st k ex → (t_can_be_empty n) (EnD false st.length k ex) (startD N_can_be_empty ws) st := by
  intro ws st k ex h
  unfold pf_cbe at h
  split at h
  · obtain ⟨p, m, rfl, hm, h5, hp, hk⟩ := h
    have hpt := tree_parts m p hp
    cases p with
    | chars cs => walk_at "s"; exact hk
    | row qs =>
      have hpt : PartsOk m qs true := hpt
      have hk : k (.im (.bl (emps qs))) [] := hk
      have hql := qlen h5 (lvs_row hp)
      walk_at "s"; walk_at "s"
      show lcB (ePs qs) _ _ _ _ _ _ _
      rw [ePs_eq]
      refine lc_fn (b := D.bl) emp (by omega) rfl (fun q hq Q hQ => ?_) ?_
      · obtain ⟨⟨m', h1, h2⟩, h3⟩ := hpt.2 q hq
        exact call_cbe (by omega) (by omega) h2 hQ
      · rw [emps_eq] at hk
        exact ⟨_, rfl, hk⟩
    | either qs =>
      have hpt : PartsOk m qs false := hpt
      have hk : k (.im (.bl (empo qs))) [] := hk
      have hql := qlen h5 (lvs_eit hp)
      walk_at "s"; walk_at "s"; walk_at "s"
      show lcB (ePs qs) _ _ _ _ _ _ _
      rw [ePs_eq]
      refine lc_fn (b := D.bl) emp (by omega) rfl (fun q hq Q hQ => ?_) ?_
      · obtain ⟨⟨m', h1, h2⟩, h3⟩ := hpt.2 q hq
        exact call_cbe (by omega) (by omega) h2 hQ
      · rw [empo_eq] at hk
        exact ⟨_, rfl, hk⟩
    | star q => walk_at "s"; walk_at "s"; walk_at "s"; exact twoT hk
    | plus q =>
      obtain ⟨m', h1, h2⟩ := hpt
      walk_at "s"; walk_at "s"; walk_at "s"
      exact twoF (call_cbe (by omega) (by omega) h2 hk)
    | maybe q => walk_at "s"; walk_at "s"; walk_at "s"; exact twoT hk
  · exact h.elim
theorem r_Lempty {n : Nat} : ∀ ws st k ex, pf_Lempty (n + 1) ws st k ex → (t_Lempty n) (EnD false st.length k ex) (startD N_Lempty ws) st := by
  intro ws st k ex h
  unfold pf_Lempty pf_cbe at h
  split at h
  · obtain ⟨p, m, rfl, hm, h5, hp, hk⟩ := h
    have hpt := tree_parts m p hp
    cases p with
    | chars cs => walk_at "s"; exact hk
    | row qs =>
      have hpt : PartsOk m qs true := hpt
      have hk : k (.im (.bl (emps qs))) [] := hk
      have hql := qlen h5 (lvs_row hp)
      walk_at "s"; walk_at "s"
      show lcB (ePs qs) _ _ _ _ _ _ _
      rw [ePs_eq]
      refine lc_fn (b := D.bl) emp (by omega) rfl (fun q hq Q hQ => ?_) ?_
      · obtain ⟨⟨m', h1, h2⟩, h3⟩ := hpt.2 q hq
        exact call_cbe (by omega) (by omega) h2 hQ
      · rw [emps_eq] at hk
        exact ⟨_, rfl, hk⟩
    | either qs =>
      have hpt : PartsOk m qs false := hpt
      have hk : k (.im (.bl (empo qs))) [] := hk
      have hql := qlen h5 (lvs_eit hp)
      walk_at "s"; walk_at "s"; walk_at "s"
      show lcB (ePs qs) _ _ _ _ _ _ _
      rw [ePs_eq]
      refine lc_fn (b := D.bl) emp (by omega) rfl (fun q hq Q hQ => ?_) ?_
      · obtain ⟨⟨m', h1, h2⟩, h3⟩ := hpt.2 q hq
        exact call_cbe (by omega) (by omega) h2 hQ
      · rw [empo_eq] at hk
        exact ⟨_, rfl, hk⟩
    | star q => walk_at "s"; walk_at "s"; walk_at "s"; exact twoT hk
    | plus q =>
      obtain ⟨m', h1, h2⟩ := hpt
      walk_at "s"; walk_at "s"; walk_at "s"
      exact twoF (call_cbe (by omega) (by omega) h2 hk)
    | maybe q => walk_at "s"; walk_at "s"; walk_at "s"; exact twoT hk
  · exact h.elim
theorem r_read_pattern : ∀ ws st k ex, pf_read_pattern ws st k ex → t_read_pattern (EnD false st.length k ex) (startD N_read_pattern ws) st := by
  intro ws st k ex h
  unfold pf_read_pattern at h
  split at h
  · obtain ⟨t, rfl, hl, hk⟩ := h
    have hA : At t 0 := ⟨Nat.zero_le _, hl⟩
    have key : (sSeq (sAsg 2 (dMeth "PatternReader" "alternatives" (pf_alts 26) (dV 1) aNil)) rpT) (EnD false 0 k ex) [some (.im (.str (S t))), some (.loc 0), none] [rd t 0] := by
      refine ⟨⟨rfl, rfl⟩, call_alt2 hA (ans_cases (fun z => ?_) (fun q z => ?_) fun a j z => ?_)⟩
      · rw [z] at hk; exact hk
      · rw [z] at hk; exact fun _ => hk
      · rw [z] at hk
        exact rpT_ok hl hk
    exact ⟨rfl, t, rfl, rfl, rfl, key⟩
  · exact h.elim
end Dl.Qt
end

section
set_option maxHeartbeats 4000000
namespace Dl.Qt
open PySem PySem.Spec PyProof.Rows L2 Co PySem.StrLaws Dl.Pt
local macro_rules | `(tactic| walk_at "s") => `(tactic| first | refine twoT ?_ | refine twoF ?_ | refine yesD rfl ?_ | refine noD (by decide) ?_)
theorem backP (r : Sto) : back [0] (.pool :: r) [.pool] = .pool :: r := by
  show (unO [0] _ .pool :: backO [0] _ [.pool] 1 r) ++ _ = _
  rw [backAux _ _ _ _ (Nat.le_refl _)]
  exact List.append_nil _
theorem takeR {m : Int} {r : Sto} {k : W → Sto → Prop} {ex : DX} (h0 : 0 < m) (h1 : m < 1000) (h : ∀ i : Int, 0 ≤ i → i < m → k (.im (.int i)) (.pool :: r)) : callD pf_take [0] [.loc 0, .im (.int m)] (.pool :: r) k ex := by
  refine ⟨rfl, h0, Int.lt_of_lt_of_le h1 (by decide +kernel), fun i a b => ?_⟩
  show k _ (back [0] (.pool :: r) [.pool])
  rw [backP]
  exact h i a b
theorem call_spelt {c : Nat} {bs : List Nat} {r : Sto} {k : W → Sto → Prop} {ex : DX} (hl : bs.length ≤ 1000) (h : ∀ w, Spt bs c w → k (.im (.str (S w))) (.pool :: r)) : callD pf_Lspelt [0] [.loc 0, .im (.str ⟨#[c]⟩), .im (.str (S bs))] (.pool :: r) k ex := by
  refine ⟨rfl, c, bs, rfl, rfl, hl, fun w hw => ?_⟩
  show k _ (back [0] (.pool :: r) [.pool])
  rw [backP]
  exact h w hw
theorem call_members {ms : List (Nat × Nat)} {k : W → Sto → Prop} {ex : DX} (hl : ms.length ≤ 95) (h : ∀ w, Memb ms w → k (.im (.str (S w))) [.pool]) : callD pf_Lmembers [0] [.loc 0, .im (.lst (ms.map eM))] [.pool] k ex := ⟨rfl, ms, rfl, hl, h⟩
theorem call_anyset {cs : List Nat} {k : W → Sto → Prop} {ex : DX} (hs : SetOk cs) (h : ∀ w, SetW cs w → k (.im (.str (S w))) [.pool]) : callD pf_Lany_set [0] [.loc 0, .im (.str (S cs))] [.pool] k ex := ⟨rfl, cs, rfl, hs, h⟩
theorem call_wrapped {w : List Nat} {b : Bool} {k : W → Sto → Prop} {ex : DX} (hl : w.length ≤ 300000) (h : ∀ j, j ≤ 3 → (b = true → 1 ≤ j) → k (.im (.str (S (parN j w)))) [.pool]) : callD pf_Lwrapped [0] [.loc 0, .im (.str (S w)), .im (.bl b)] [.pool] k ex := ⟨rfl, w, rfl, hl, h⟩
theorem call_spelled {n m : Nat} {p : Pt} {k : W → Sto → Prop} {ex : DX} (hm : m < n) (h5 : m ≤ 5) (hp : TreeOk m p) (h : ∀ w, SpL m p w → k (.im (.str (S w))) [.pool]) : callD (pf_Lspelled n) [0] [.loc 0, .im (eP p)] [.pool] k ex := ⟨rfl, p, m, rfl, hm, h5, hp, h⟩
theorem esc12 : (("|*+?()[].\\^-" : Str)) = S escd := by decide +kernel
theorem r_Lspelt : ∀ ws st k ex, pf_Lspelt ws st k ex → t_Lspelt (EnD false st.length k ex) (startD N_Lspelt ws) st := by
  intro ws st k ex h
  unfold pf_Lspelt at h
  split at h
  · obtain ⟨c, bs, rfl, rfl, hl, hk⟩ := h
    have rest : (sSeq (sIf (dCmp cEq (dCall pf_take (aCons (dV 0) (aCons (dI (dC (.int 2))) aNil))) (dI (dC (.int 1)))) (sAsg 2 (dI (dC (.str "|*+?()[].\\^-")))) sNext)
 (sRet (dCall pf_Lescaped (aCons (dV 1) (aCons (dV 2) aNil))))) (EnD false 1 k ex) [some (.loc 0), some (.im (.str ⟨#[c]⟩)), some (.im (.str (S bs)))] [.pool] := by
      refine takeR (r := []) (by decide) (by decide) fun i h0 h1 => ?_
      refine oneD (p := i = 1) (fun z => ?_) (fun z => ?_)
      · show callD pf_Lescaped [] [.im (.str ⟨#[c]⟩), .im (.str "|*+?()[].\\^-")] [.pool] _ _
        rw [esc12]
        exact call_esc (by decide) (hk _ (.inr (.inr rfl)))
      · exact call_esc hl (hk _ (.inr (.inl rfl)))
    refine oneD (p := (⟨#[c]⟩ : Str) = "\x0a") (fun z => ?_) (fun z => ?_)
    · refine takeR (r := []) (by decide) (by decide) fun i h0 h1 => ?_
      have hc : c = 10 := Pt.one_inj (z.trans nl_eq)
      refine oneD (p := i = 1) (fun z => ?_) (fun z => ?_)
      · subst hc
        exact hk [10] (.inl ⟨rfl, rfl⟩)
      · exact rest
    · exact twoF rest
  · exact h.elim
theorem repL_one (c o : Nat) : repL [c] (o : Int) = List.replicate o c := by
  unfold repL
  rw [Int.toNat_natCast]
  induction o with
  | zero => rfl
  | succ o ih => rw [List.replicate_succ, List.flatten_cons, ih]; rfl
theorem cat_of {t u : DD} {a b : List Nat} {σ : Sl} {st : Sto} {ex : DX} {k : D → Sto → Prop} (hl : a.length + b.length ≤ 1000000) (ht : ∀ Q : D → Sto → Prop, Q (.str (S a)) st → t σ st Q ex) (hu : ∀ Q : D → Sto → Prop, Q (.str (S b)) st → u σ st Q ex) (hk : k (.str (S (a ++ b))) st) : dOp fAdd t u σ st k ex := by
  refine dOp_of (ht _ (hu _ ?_))
  show (S a).length + (S b).length ≤ sizeLine ∧ k (.str (S a ++ S b)) st
  rw [S_app, S_len, S_len, sizeLine_eq]
  exact ⟨by omega, hk⟩
theorem con_of {z : Str} {a : List Nat} {σ : Sl} {st : Sto} {ex : DX} (hz : z = S a) {Q : D → Sto → Prop} (h : Q (.str (S a)) st) : dC (.str z) σ st Q ex := by subst hz; exact h
theorem rep_of {z : Str} {c o i : Nat} {σ : Sl} {st : Sto} {ex : DX} {k : D → Sto → Prop} (hz : z = S [c]) (ho : o ≤ 3) (h4 : σ[i]? = some (some (.im (.int (o : Int))))) (hk : k (.str (S (List.replicate o c))) st) : dOp fMul (dC (.str z)) (dD (dV i)) σ st k ex := by
  subst hz
  refine dOp_of (dC_of (dD_at h4 ?_))
  show (o : Int) * (S [c]).length ≤ 1000000 ∧ _ ∧ _ ∧ k (.str (S (repL [c] (o : Int)))) st
  rw [S_len, repL_one]
  refine ⟨?_, by omega, by omega, hk⟩
  show (o : Int) * ((1 : Nat) : Int) ≤ _
  omega
def wrT : DS := (sRet (dI (dOp fAdd (dOp fAdd (dOp fMul (dC (.str "(")) (dD (dV 3))) (dD (dV 1))) (dOp fMul (dC (.str ")")) (dD (dV 3))))))
theorem wrT_ok {w : List Nat} {j : Nat} {w2 : Option W} {k : W → Sto → Prop} {ex : DX} (hj : j ≤ 3) (hl : w.length ≤ 300000) (hk : k (.im (.str (S (parN j w)))) [.pool]) : wrT (EnD false 1 k ex) [some (.loc 0), some (.im (.str (S w))), w2, some (.im (.int (j : Int)))] [.pool] := by
  have e : parN j w = (List.replicate j 40 ++ w) ++ List.replicate j 41 := (List.append_assoc _ _ _).symm
  rw [e] at hk
  refine sRet_of (dI_of (cat_of (a := List.replicate j 40 ++ w) (b := List.replicate j 41) ?_ (fun Q hQ => cat_of (a := List.replicate j 40) (b := w) ?_ (fun Q hQ => rep_of opS_eq hj rfl hQ) (fun Q hQ => hQ) hQ) (fun Q hQ => rep_of shS_eq hj rfl hQ) hk))
  · rw [List.length_append, List.length_replicate, List.length_replicate]; omega
  · rw [List.length_replicate]; omega
theorem r_Lwrapped : ∀ ws st k ex, pf_Lwrapped ws st k ex → t_Lwrapped (EnD false st.length k ex) (startD N_Lwrapped ws) st := by
  intro ws st k ex h
  unfold pf_Lwrapped at h
  split at h
  · rename_i z b
    obtain ⟨w, rfl, hl, hk⟩ := h
    have go : ∀ o : Nat, o ≤ 1 → (b = true → 1 ≤ o) → (sSeq (sIf (dCmp cEq (dCall pf_take (aCons (dV 0) (aCons (dI (dC (.int 5))) aNil))) (dI (dC (.int 1)))) (sAsg 3 (dI (dOp fAdd (dOp fAdd (dD (dV 3)) (dC (.int 1))) (dD (dCall pf_take (aCons (dV 0) (aCons (dI (dC (.int 2))) aNil))))))) sNext) wrT) (EnD false 1 k ex) [some (.loc 0), some (.im (.str (S w))), some (.im (.bl b)), some (.im (.int (o : Int)))] [.pool] := fun o ho hb => by
      refine takeR (r := []) (by decide) (by decide) fun i h0 h1 => ?_
      refine oneD (p := i = 1) (fun z => ?_) (fun z => ?_)
      · refine takeR (r := []) (by decide) (by decide) fun i h0 h1 => ?_
        obtain ⟨i, rfl⟩ := Int.eq_ofNat_of_zero_le h0
        show wrT (EnD false 1 k ex) [some (.loc 0), some (.im (.str (S w))), some (.im (.bl b)), some (.im (.int ((o : Int) + 1 + (i : Int))))] [.pool]
        rw [show (o : Int) + 1 + (i : Int) = ((o + 1 + i : Nat) : Int) by omega]
        exact wrT_ok (by omega) hl (hk _ (by omega) fun hb' => by omega)
      · exact wrT_ok (by omega) hl (hk _ (by omega) hb)
    cases b with
    | true => exact go 1 (by decide) (fun _ => by decide)
    | false => exact go 0 (by decide) (fun z => by cases z)
  · exact h.elim
def anC : DS := (sRet (dI (dOp fAdd (dOp fAdd (dC (.str "[^")) (dD (dCall pf_Lmembers (aCons (dV 0) (aCons (dCall pf_Lruns (aCons (dV 3) aNil)) aNil))))) (dC (.str "]")))))
def anB : DS :=
 (sSeq (sIf (dCmp cEq (dV 2) (dI (dC (.int 1)))) (sRet (dI (dOp fAdd (dOp fAdd (dC (.str "[")) (dD (dCall pf_Lmembers (aCons (dV 0) (aCons (dCall pf_Lruns (aCons (dV 1) aNil)) aNil))))) (dC (.str "]"))))) sNext)
 (sSeq (sAsg 3 (dI (dBM "str" mJoin (dI (dC (.str ""))) (aCons (dI (dLc (iSt (dC (.str (S alph)))) (gN 4) (dCmp cNotIn (dV 4) (dV 1)) (dD (dV 4)) ([("_law_sign", 4)].map (·.2)))) aNil))))
 anC))
theorem call_runs {cs : List Nat} {st : Sto} {k : W → Sto → Prop} {ex : DX} (hs : SetOk cs) (hk : k (.im (.lst ((runs cs).map eM))) st) : callD pf_Lruns [] [.im (.str (S cs))] st k ex := ⟨rfl, cs, rfl, hs, hk⟩
theorem caret2_eq : (("[^" : Str)) = S [91, 94] := by decide +kernel
theorem anC_ok {cs : List Nat} {w1 w2 w4 : Option W} {k : W → Sto → Prop} {ex : DX} (hs : SetOk cs) (hk : ∀ u, Memb (runs cs) u → k (.im (.str (S (91 :: 94 :: (u ++ [93]))))) [.pool]) : anC (EnD false 1 k ex) [some (.loc 0), w1, w2, some (.im (.str (S cs))), w4] [.pool] := by
  have hr := runs_le cs
  refine sRet_of (dI_of (dOp_of (dOp_of (con_of caret2_eq ?_))))
  refine call_runs hs (call_members hr fun u hu => ?_)
  have hl : u.length ≤ 955 := by obtain ⟨_, _, _, _, h⟩ := hu; exact h
  rw [rbr_eq]
  show (S [91, 94]).length + (S u).length ≤ sizeLine ∧ (S [91, 94] ++ S u).length + (S [93]).length ≤ sizeLine ∧ k (.im (.str (S [91, 94] ++ S u ++ S [93]))) [.pool]
  rw [S_app, S_app, S_len, S_len, S_len, S_len, sizeLine_eq, List.length_append]
  exact ⟨by show 2 + _ ≤ _; omega, by show 2 + _ + 1 ≤ _; omega, hk u hu⟩
theorem anB_ok {cs : List Nat} {i : Int} {w3 w4 : Option W} {k : W → Sto → Prop} {ex : DX} (hs : SetOk cs) (hne : cs.length ≠ 95) (hk : ∀ w, SetW cs w → k (.im (.str (S w))) [.pool]) : anB (EnD false 1 k ex) [some (.loc 0), some (.im (.str (S cs))), some (.im (.int i)), w3, w4] [.pool] := by
  have hr := runs_le cs
  have hca : cs ≠ alph := fun z => hne (by rw [z, alph_len])
  refine oneD (p := i = 1) (fun z => ?_) (fun z => ?_)
  · refine sRet_of (dI_of (dOp_of (dOp_of (con_of lbr_eq ?_))))
    refine call_runs hs (call_members hr fun u hu => ?_)
    have hl : u.length ≤ 955 := by obtain ⟨_, _, _, _, h⟩ := hu; exact h
    rw [rbr_eq]
    show (S [91]).length + (S u).length ≤ sizeLine ∧ (S [91] ++ S u).length + (S [93]).length ≤ sizeLine ∧ k (.im (.str (S [91] ++ S u ++ S [93]))) [.pool]
    rw [S_app, S_app, S_len, S_len, S_len, S_len, sizeLine_eq, List.length_append]
    exact ⟨by show 1 + _ ≤ _; omega, by show 1 + _ + 1 ≤ _; omega, hk _ (.inr (.inr (.inl ⟨u, hu, rfl⟩)))⟩
  · refine ⟨rfl, lcG_filter (as := alph) (a := fun c => D.str ⟨#[c]⟩) (b := fun c => D.str ⟨#[c]⟩) (fun c => [some (.loc 0), some (.im (.str (S cs))), some (.im (.int i)), w3, some (.im (.str ⟨#[c]⟩))]) (fun c => !decide (c ∈ cs)) id (by decide) rfl (fun c _ k q => q) (fun c _ Q q => ?_) (fun c _ _ Q q => q) ?_⟩
    · exact q
    · rw [List.map_id]
      have hle : (compl cs).length ≤ 95 := Nat.le_trans (List.length_filter_le _ _) (by decide)
      have e : ((compl cs).map fun c => D.str ⟨#[c]⟩) = ((compl cs).map fun c => [c]).map fun l => D.str (S l) := by rw [List.map_map]; rfl
      have ej : joinW [] ((compl cs).map fun c => [c]) = compl cs := by rw [joinW_nil]; exact flat_one _
      have fin : mJoin (.str "") [.lst ((compl cs).map fun c => D.str ⟨#[c]⟩)] (fun d => anC (EnD false 1 k ex) [some (.loc 0), some (.im (.str (S cs))), some (.im (.int i)), some (.im d), w4] [.pool]) := by
        rw [e]
        refine join_of (ls := (compl cs).map fun c => [c]) empS_eq (by decide) (by rw [List.length_map]; omega) (by rw [ej]; omega) ?_
        rw [ej]
        exact anC_ok (compl_ok hs hca) fun u hu => hk _ (.inr (.inr (.inr ⟨hca, u, hu, rfl⟩)))
      exact fin
theorem r_Lany_set : ∀ ws st k ex, pf_Lany_set ws st k ex → t_Lany_set (EnD false st.length k ex) (startD N_Lany_set ws) st := by
  intro ws st k ex h
  unfold pf_Lany_set at h
  split at h
  · obtain ⟨cs, rfl, hs, hk⟩ := h
    have hle : cs.length ≤ 95 := Nat.le_trans hs.2.length_le (by decide)
    have hsz : (S cs).length ≤ sizeLine := by rw [S_len, sizeLine_eq]; omega
    unfold t_Lany_set
    rw [alph_eq]
    refine takeR (r := []) (by decide) (by decide) fun i h0 h1 => ?_
    have c3 : (sSeq (sIf (dOr (dCmp cEq (dV 2) (dI (dC (.int 0)))) (dCmp cEq (dI (dCB fLen (aCons (dV 1) aNil))) (dI (dC (.int 95))))) (sRet (dCall pf_Lset (aCons (dV 1) aNil))) sNext) anB) (EnD false 1 k ex) [some (.loc 0), some (.im (.str (S cs))), some (.im (.int i)), none, none] [.pool] := by
      have st : callD pf_Lset [] [.im (.str (S cs))] [.pool] k ex := ⟨rfl, cs, rfl, hs, hk _ (.inr (.inl rfl))⟩
      refine oneD (p := i = 0) (fun z => ?_) (fun z => ?_)
      · walk_at "s"
        exact ⟨rfl, cs, rfl, hs, hk _ (.inr (.inl rfl))⟩
      · refine ⟨hsz, ?_⟩
        rw [S_len]
        refine oneD (p := ((cs.length : Nat) : Int) = 95) (fun z => ?_) (fun z => ?_)
        · exact ⟨rfl, cs, rfl, hs, hk _ (.inr (.inl rfl))⟩
        · exact anB_ok hs (by omega) hk
    refine oneD (p := i = 0) (fun z => ?_) (fun z => ?_)
    · refine ⟨hsz, ?_⟩
      rw [S_len]
      refine oneD (p := ((cs.length : Nat) : Int) = 1) (fun z2 => ?_) (fun z2 => ?_)
      · obtain ⟨c, rfl⟩ := List.length_eq_one_iff.mp (show cs.length = 1 by omega)
        show callD pf_Lspelt [0] [.loc 0, .im (.str ⟨#[c]⟩), .im (.str "|*+?()[].\\")] [.pool] _ _
        rw [outd_eq]
        exact call_spelt (r := []) (by decide) fun w hw => hk w (.inl ⟨c, rfl, hw⟩)
      · exact c3
    · exact twoF c3
  · exact h.elim
end Dl.Qt
end

section
set_option maxHeartbeats 4000000
namespace Dl.Qt
open PySem PySem.Spec PyProof.Rows L2 Co PySem.StrLaws Dl.Pt
local macro_rules | `(tactic| walk_at "s") => `(tactic| first | refine twoT ?_ | refine twoF ?_ | refine yesD rfl ?_ | refine noD (by decide) ?_)
def eX (x : (Nat × Nat) × List Nat) : D := .str (S x.2)
def mmB : DS :=
 (sIf (dCmp cNe (dV 3) (dV 4)) (sApp (dV 2) (dOp fAdd (dOp fAdd (dD (dV 5)) (dC (.str "-"))) (dD (dV 6)))) (sIf (dCmp cEq (dCall pf_take (aCons (dV 0) (aCons (dI (dC (.int 3))) aNil))) (dI (dC (.int 1)))) (sApp (dV 2) (dOp fAdd (dOp fAdd (dD (dV 5)) (dC (.str "-"))) (dD (dV 5)))) (sApp (dV 2) (dD (dV 5)))))
def mmA : DS := (sSeq (sAsg 5 (dCall pf_Lspelt (aCons (dV 0) (aCons (dV 3) (aCons (dI (dC (.str "]^-\\"))) aNil)))))
 (sSeq (sAsg 6 (dCall pf_Lspelt (aCons (dV 0) (aCons (dV 4) (aCons (dI (dC (.str "]^-\\"))) aNil))))) mmB))
theorem app_of {n i : Nat} {σ : Sl} {st : Sto} {E : En} {t : DD} {d : D} {xs : List D} (h1 : σ[i]? = some (some (.loc n))) (h2 : st[n]? = some (.lst xs)) (hl : xs.length ≤ 1000000) (ht : ∀ Q : D → Sto → Prop, Q d st → t σ st Q (exE E σ)) (hk : E.nx σ (st.set n (.lst (xs ++ [d])))) : sApp (dV i) t E σ st := sApp_at h1 h2 ht hl hk
theorem mmB_ok {m : Nat × Nat} {a b : List Nat} {xs : List D} {w1 w7 w8 : Option W} {E : En} (hl : xs.length ≤ 1000) (ha : Spt insd m.1 a) (hb : Spt insd m.2 b) (hk : ∀ u, MemW m u → E.nx [some (.loc 0), w1, some (.loc 1), some (.im (.str ⟨#[m.1]⟩)), some (.im (.str ⟨#[m.2]⟩)), some (.im (.str (S a))), some (.im (.str (S b))), w7, w8] [.pool, .lst (xs ++ [.str (S u)])]) :
    mmB E [some (.loc 0), w1, some (.loc 1), some (.im (.str ⟨#[m.1]⟩)), some (.im (.str ⟨#[m.2]⟩)), some (.im (.str (S a))), some (.im (.str (S b))), w7, w8] [.pool, .lst xs] := by
  have la := spt_len ha
  have lb := spt_len hb
  refine notD (fun z => ?_) (fun z => ?_)
  · have hne : m.1 ≠ m.2 := fun w => z (by rw [w])
    refine app_of (n := 1) (d := .str (S (a ++ 45 :: b))) rfl rfl (by omega) (fun Q hQ => ?_) (hk _ (.inl ⟨hne, a, b, ha, hb, rfl⟩))
    have e : a ++ 45 :: b = (a ++ [45]) ++ b := by rw [List.append_assoc]; rfl
    rw [e] at hQ
    exact cat_of (a := a ++ [45]) (b := b) (by rw [List.length_append, List.length_singleton]; omega) (fun Q hQ => cat_of (a := a) (b := [45]) (by rw [List.length_singleton]; omega) (fun Q hQ => hQ) (fun Q hQ => con_of mns_eq hQ) hQ) (fun Q hQ => hQ) hQ
  · have he : m.1 = m.2 := Pt.one_inj z
    refine takeR (by decide) (by decide) fun i h0 h1 => ?_
    refine oneD (p := i = 1) (fun z => ?_) (fun z => ?_)
    · refine app_of (n := 1) (d := .str (S (a ++ 45 :: a))) rfl rfl (by omega) (fun Q hQ => ?_) (hk _ (.inr ⟨he, a, ha, .inr rfl⟩))
      have e : a ++ 45 :: a = (a ++ [45]) ++ a := by rw [List.append_assoc]; rfl
      rw [e] at hQ
      exact cat_of (a := a ++ [45]) (b := a) (by rw [List.length_append, List.length_singleton]; omega) (fun Q hQ => cat_of (a := a) (b := [45]) (by rw [List.length_singleton]; omega) (fun Q hQ => hQ) (fun Q hQ => con_of mns_eq hQ) hQ) (fun Q hQ => hQ) hQ
    · exact app_of (n := 1) (d := .str (S a)) rfl rfl (by omega) (fun Q hQ => hQ) (hk _ (.inr ⟨he, a, ha, .inl rfl⟩))
theorem mmA_ok {m : Nat × Nat} {xs : List D} {w1 w5 w6 w7 w8 : Option W} {E : En} (hl : xs.length ≤ 1000) (hk : ∀ u w5 w6, MemW m u → E.nx [some (.loc 0), w1, some (.loc 1), some (.im (.str ⟨#[m.1]⟩)), some (.im (.str ⟨#[m.2]⟩)), some (.im w5), some (.im w6), w7, w8] [.pool, .lst (xs ++ [.str (S u)])]) :
    mmA E [some (.loc 0), w1, some (.loc 1), some (.im (.str ⟨#[m.1]⟩)), some (.im (.str ⟨#[m.2]⟩)), w5, w6, w7, w8] [.pool, .lst xs] := by
  unfold mmA
  rw [insdS_eq]
  exact call_spelt (by decide) fun a ha => call_spelt (by decide) fun b hb => mmB_ok hl ha hb fun u hu => hk u _ _ hu
def mnB : DS := (sSeq (sIns (dV 7) (dD (dCall pf_take (aCons (dV 0) (aCons (dI (dOp fAdd (dCB fLen (aCons (dV 7) aNil)) (dC (.int 1)))) aNil)))) (dIx (dV 2) (dD (dV 8))))
 (sIf (dCmp cEq (dCall pf_take (aCons (dV 0) (aCons (dI (dC (.int 4))) aNil))) (dI (dC (.int 1)))) (sApp (dV 7) (dIx (dV 2) (dD (dV 8)))) sNext))
theorem ix_at {i j n : Nat} {ds : List D} {d : D} {a : Nat} {σ : Sl} {st : Sto} {ex : DX} {k : D → Sto → Prop} (h1 : σ[i]? = some (some (.loc n))) (h2 : st[n]? = some (.lst ds)) (h3 : σ[j]? = some (some (.im (.int (a : Int))))) (hd : ds[a]? = some d) (hk : k d st) : dIx (dV i) (dD (dV j)) σ st k ex := by
  refine dIx_of (dV_at h1 (dD_at h3 ?_))
  show (match seeW (.loc n) st with | some x => atD x (.int (a : Int)) fun d => k d st | none => False)
  rw [seeW_lst h2]
  show (match atI ds (a : Int) with | some d => k d st | none => False)
  rw [atI_nat hd]
  exact hk
theorem mnB_ok {xs ys : Ms} {x : (Nat × Nat) × List Nat} {i : Nat} {w1 w3 w4 w5 w6 : Option W} {E : En} (hx : xs[i]? = some x) (hl : ys.length ≤ 900)
    (hk : ∀ zs : Ms, (∀ y ∈ ys, y ∈ zs) → x ∈ zs → (∀ z ∈ zs, z ∈ ys ∨ z = x) → zs.length ≤ ys.length + 2 → E.nx [some (.loc 0), w1, some (.loc 1), w3, w4, w5, w6, some (.loc 2), some (.im (.int (i : Int)))] [.pool, .lst (xs.map eX), .lst (zs.map eX)]) :
    mnB E [some (.loc 0), w1, some (.loc 1), w3, w4, w5, w6, some (.loc 2), some (.im (.int (i : Int)))] [.pool, .lst (xs.map eX), .lst (ys.map eX)] := by
  have hxm : (xs.map eX)[i]? = some (eX x) := by rw [List.getElem?_map, hx]; rfl
  have hyl : (ys.map eX).length = ys.length := List.length_map _
  refine ⟨⟨_, rfl⟩, takeR (m := (((ys.map eX).length : Nat) : Int) + 1) (by omega) (by omega) fun p h0 h1 => ?_⟩
  obtain ⟨p, rfl⟩ := Int.eq_ofNat_of_zero_le h0
  refine ix_at (n := 1) rfl rfl rfl hxm ⟨by omega, h0, by omega, ?_⟩
  have e : (ys.map eX).take (p : Int).toNat ++ [eX x] ++ (ys.map eX).drop (p : Int).toNat = (ys.take p ++ [x] ++ ys.drop p).map eX := by
    rw [Int.toNat_natCast, List.map_append, List.map_append, List.map_take, List.map_drop]
    rfl
  have m1 : ∀ y ∈ ys, y ∈ ys.take p ++ [x] ++ ys.drop p := fun y hy => by
    have : y ∈ ys.take p ++ ys.drop p := by rw [List.take_append_drop]; exact hy
    rcases List.mem_append.mp this with h | h
    · exact List.mem_append_left _ (List.mem_append_left _ h)
    · exact List.mem_append_right _ h
  have m2 : x ∈ ys.take p ++ [x] ++ ys.drop p := List.mem_append_left _ (List.mem_append_right _ (List.mem_singleton.mpr rfl))
  have m3 : ∀ z ∈ ys.take p ++ [x] ++ ys.drop p, z ∈ ys ∨ z = x := fun z hz => by
    rcases List.mem_append.mp hz with h | h
    · rcases List.mem_append.mp h with h | h
      · exact .inl (List.mem_of_mem_take h)
      · exact .inr (List.mem_singleton.mp h)
    · exact .inl (List.mem_of_mem_drop h)
  have m4 : (ys.take p ++ [x] ++ ys.drop p).length ≤ ys.length + 1 := by
    rw [List.length_append, List.length_append, List.length_take, List.length_drop, List.length_singleton]
    omega
  have two : (sIf (dCmp cEq (dCall pf_take (aCons (dV 0) (aCons (dI (dC (.int 4))) aNil))) (dI (dC (.int 1)))) (sApp (dV 7) (dIx (dV 2) (dD (dV 8)))) sNext) E [some (.loc 0), w1, some (.loc 1), w3, w4, w5, w6, some (.loc 2), some (.im (.int (i : Int)))] [.pool, .lst (xs.map eX), .lst ((ys.take p ++ [x] ++ ys.drop p).map eX)] := by
    generalize hz : ys.take p ++ [x] ++ ys.drop p = zs at m1 m2 m3 m4
    refine takeR (by decide) (by decide) fun q h2 h3 => ?_
    refine oneD (p := q = 1) (fun z => ?_) (fun z => ?_)
    · refine app_of (n := 2) (d := eX x) rfl rfl (by rw [List.length_map]; omega) (fun Q hQ => ix_at (n := 1) rfl rfl rfl hxm hQ) ?_
      have := hk (zs ++ [x]) (fun y hy => List.mem_append_left _ (m1 y hy)) (List.mem_append_left _ m2) (fun z hz => (List.mem_append.mp hz).elim (m3 z) fun h => .inr (List.mem_singleton.mp h)) (by rw [List.length_append, List.length_singleton]; omega)
      rw [List.map_append] at this
      exact this
    · exact hk zs m1 m2 m3 (by omega)
  rw [← e] at two
  exact two
theorem txt_bound : ∀ xs : Ms, (∀ x ∈ xs, MemW x.1 x.2) → (txt xs).length ≤ 5 * xs.length
  | [], _ => Nat.le_refl _
  | x :: xs, h => by
    have := txt_bound xs fun z hz => h z (List.mem_cons_of_mem _ hz)
    have := memW_len (h x List.mem_cons_self)
    rw [txt_cons, List.length_append, List.length_cons]
    omega
def mpT : DS := (sRet (dI (dBM "str" mJoin (dI (dC (.str ""))) (aCons (dV 7) aNil))))
theorem mpT_ok {ys : Ms} {w1 w2 w3 w4 w5 w6 w8 : Option W} {o : Ob} {k : W → Sto → Prop} {ex : DX} (hy : ∀ x ∈ ys, MemW x.1 x.2) (hl : ys.length ≤ 191) (hk : k (.im (.str (S (txt ys)))) [.pool]) : mpT (EnD false 1 k ex) [some (.loc 0), w1, w2, w3, w4, w5, w6, some (.loc 2), w8] [.pool, o, .lst (ys.map eX)] := by
  have e : ys.map eX = (ys.map (·.2)).map fun l => D.str (S l) := by rw [List.map_map]; rfl
  have ej : joinW [] (ys.map (·.2)) = txt ys := by rw [joinW_nil]; unfold txt; rw [List.flatMap_def]
  have hb := txt_bound ys hy
  have fin : mJoin (.str "") [.lst (ys.map eX)] (fun d => k (.im d) [.pool]) := by
    rw [e]
    refine join_of (ls := ys.map (·.2)) empS_eq (by decide) (by rw [List.length_map]; omega) (by rw [ej]; omega) ?_
    rw [ej]
    exact hk
  exact ⟨rfl, fin⟩
theorem ms_snoc {ms : List (Nat × Nat)} {xs : Ms} {i : Nat} {m : Nat × Nat} {u : List Nat} (h : ms[i]? = some m) (hx : xs.map (·.1) = ms.take i) : (xs ++ [(m, u)]).map (·.1) = ms.take (i + 1) := by
  rw [List.map_append, hx, getD_take h]
  rfl
def mqT : DS := (sSeq (sAsg 7 (dLstM adNil)) (sSeq (sFor (iRg1 (dCB fLen (aCons (dV 2) aNil))) (gN 8) mnB) mpT))
theorem mqT_ok {ms : List (Nat × Nat)} {xs : Ms} (hx : xs.map (·.1) = ms) (hm : ∀ x ∈ xs, MemW x.1 x.2) (hl : ms.length ≤ 95) {w1 w3 w4 w5 w6 : Option W} {k : W → Sto → Prop} {ex : DX} (hk : ∀ w, Memb ms w → k (.im (.str (S w))) [.pool]) : mqT (EnD false 1 k ex) [some (.loc 0), w1, some (.loc 1), w3, w4, w5, w6, none, none] [.pool, .lst (xs.map eX)] := by
  have hxl : xs.length = ms.length := by rw [← hx, List.length_map]
  have hel : (xs.map eX).length = xs.length := List.length_map _
  refine ⟨by simp, by omega, by omega, fun i σ' st' => ∃ (w1 w3 w4 w5 w6 w8 : Option W) (ys : Ms), σ' = [some (.loc 0), w1, some (.loc 1), w3, w4, w5, w6, some (.loc 2), w8] ∧ st' = [.pool, .lst (xs.map eX), .lst (ys.map eX)] ∧ (∀ y ∈ ys, y ∈ xs) ∧ (∀ j, j < i → ∀ x, xs[j]? = some x → x ∈ ys) ∧ ys.length ≤ 2 * i, ⟨w1, w3, w4, w5, w6, none, [], rfl, rfl, (fun y hy => by cases hy), (fun j hj => by omega), Nat.le_refl _⟩, ?_, ?_⟩
  · rintro i d σ' st' hd ⟨w1, w3, w4, w5, w6, w8, ys, rfl, rfl, h1, h2, h3⟩ -
    obtain ⟨hi, rfl⟩ := rgD_get hd
    have hi : i < xs.length := by omega
    rw [Int.zero_add]
    have hg : xs[i]? = some xs[i] := List.getElem?_eq_getElem hi
    refine mnB_ok hg (by omega) fun zs z1 z2 z3 z4 => ⟨_, _, _, _, _, some (.im (.int (i : Int))), zs, rfl, rfl, fun z hz => ?_, fun j hj x hx' => ?_, by omega⟩
    · rcases z3 z hz with h | h
      · exact h1 z h
      · rw [h]; exact List.mem_of_getElem? hg
    · by_cases hji : j = i
      · subst hji
        rw [hg] at hx'
        cases hx'
        exact z2
      · exact z1 x (h2 j (by omega) x hx')
  · rintro σ' st' ⟨w1, w3, w4, w5, w6, w8, ys, rfl, rfl, h1, h2, h3⟩ -
    rw [rgD_len, hel, Int.toNat_natCast] at h2 h3
    have hy : ∀ x ∈ ys, MemW x.1 x.2 := fun x hx => hm x (h1 x hx)
    have hb := txt_bound ys hy
    refine mpT_ok hy (by omega) (hk _ ⟨ys, fun x hx' => ⟨?_, hy x hx'⟩, fun m hm' => ?_, rfl, by omega⟩)
    · rw [← hx]; exact List.mem_map.mpr ⟨x, h1 x hx', rfl⟩
    · rw [← hx] at hm'
      obtain ⟨x, hx', rfl⟩ := List.mem_map.mp hm'
      obtain ⟨j, hj⟩ := List.getElem?_of_mem hx'
      exact ⟨x, h2 j (List.getElem?_eq_some_iff.mp hj).1 x hj, rfl⟩
theorem r_Lmembers : ∀ ws st k ex, pf_Lmembers ws st k ex → t_Lmembers (EnD false st.length k ex) (startD N_Lmembers ws) st := by
  intro ws st k ex h
  unfold pf_Lmembers at h
  split at h
  · obtain ⟨ms, rfl, hl, hk⟩ := h
    refine ⟨by simp, fun i σ' st' => ∃ (w3 w4 w5 w6 : Option W) (xs : Ms), σ' = [some (.loc 0), some (.im (.lst (ms.map eM))), some (.loc 1), w3, w4, w5, w6, none, none] ∧ st' = [.pool, .lst (xs.map eX)] ∧ xs.map (·.1) = ms.take i ∧ (∀ x ∈ xs, MemW x.1 x.2), ⟨none, none, none, none, [], rfl, rfl, rfl, (fun x hx => by cases hx)⟩, ?_, ?_⟩
    · rintro i d σ' st' hd ⟨w3, w4, w5, w6, xs, rfl, rfl, h1, h2⟩ -
      rw [List.getElem?_map] at hd
      cases hb : ms[i]? with
      | none => rw [hb] at hd; cases hd
      | some m =>
        rw [hb] at hd
        cases hd
        have hxl : xs.length ≤ 95 := by
          have := congrArg List.length h1
          rw [List.length_map, List.length_take] at this
          omega
        refine ⟨rfl, mmA_ok (by rw [List.length_map]; omega) fun u w5 w6 hu => ⟨_, _, _, _, xs ++ [(m, u)], rfl, ?_, ms_snoc hb h1, fun x hx => ?_⟩⟩
        · rw [List.map_append]
          rfl
        · rcases List.mem_append.mp hx with hx | hx
          · exact h2 x hx
          · rw [List.mem_singleton] at hx
            rw [hx]
            exact hu
    · rintro σ' st' ⟨w3, w4, w5, w6, xs, rfl, rfl, h1, h2⟩ -
      rw [List.length_map, List.take_length] at h1
      exact mqT_ok h1 h2 hl hk
  · exact h.elim
end Dl.Qt
end

section
set_option maxHeartbeats 4000000
namespace Dl.Qt
open PySem PySem.Spec PyProof.Rows L2 Co PySem.StrLaws Dl.Pt
local macro_rules | `(tactic| walk_at "s") => `(tactic| first | refine twoT ?_ | refine twoF ?_ | refine yesD rfl ?_ | refine noD (by decide) ?_)
theorem zip_all {R : Pt → List Nat → Prop} : ∀ {qs : List Pt} {ys : List D}, ys.length = qs.length → (∀ (i : Nat) y, ys[i]? = some y → ∃ w, y = .str (S w) ∧ ∀ q, qs[i]? = some q → R q w) → ∃ xs : Sq, xs.map (·.1) = qs ∧ ys = (xs.map (·.2)).map (fun l => D.str (S l)) ∧ ∀ x ∈ xs, R x.1 x.2
  | [], [], _, _ => ⟨[], rfl, rfl, fun x hx => by cases hx⟩
  | [], _ :: _, h, _ => by simp at h
  | _ :: _, [], h, _ => by simp at h
  | q :: qs, y :: ys, h, f => by
    obtain ⟨w, rfl, hw⟩ := f 0 y rfl
    obtain ⟨xs, h1, h2, h3⟩ := zip_all (R := R) (qs := qs) (ys := ys) (by simpa using h) fun i y hy => f (i + 1) y (by simpa using hy)
    refine ⟨(q, w) :: xs, by rw [List.map_cons, h1], by rw [List.map_cons, List.map_cons, ← h2], fun x hx => ?_⟩
    rcases List.mem_cons.mp hx with hx | hx
    · rw [hx]; exact hw q rfl
    · exact h3 x hx
structure Wr (m : Nat) (p : Pt) (w : List Nat) : Prop where
  sp : Sp (4 * m + 6) p w
  el : isE p = true → ∀ n, 4 * m + 6 ≤ n → ElN n p w
  len : w.length + 4 ≤ (1000 + 20 * m) * lv p
structure Wa (m : Nat) (p : Pt) (w : List Nat) : Prop where
  sp : Sp (4 * m + 6) p w
  len : w.length + 4 ≤ (1000 + 20 * m) * lv p
theorem wrap_ok {m k : Nat} {q : Pt} {v : List Nat} (hq : TreeOk k q) (hk : k ≤ m) (h : SpL k q v) {j : Nat} (hj : j ≤ 3) : Wa m q (parN j v) ∧ (1 ≤ j → ∀ n, 4 * m + 6 ≤ n → ElN n q (parN j v)) := by
  obtain ⟨h1, h2⟩ := h
  obtain ⟨a, b⟩ := h1.wrap (std_tree hq) hj
  refine ⟨⟨a.mono (by omega), ?_⟩, fun h n hn => b h n (by omega)⟩
  have e := parN_len j v
  have hm : (1000 + 20 * k) * lv q ≤ (1000 + 20 * m) * lv q := Nat.mul_le_mul_right _ (by omega)
  omega
theorem len_sum {C : Nat} : ∀ {xs : Sq}, (∀ x ∈ xs, x.2.length + 4 ≤ C * lv x.1) → (wOf xs).length + 4 * xs.length ≤ C * lvs (xs.map (·.1))
  | [], _ => by show 0 + 4 * 0 ≤ C * 0; omega
  | x :: xs, h => by
    have ih := len_sum fun z hz => h z (List.mem_cons_of_mem _ hz)
    have hx := h x List.mem_cons_self
    rw [wOf_cons, List.length_append, List.length_cons]
    show _ ≤ C * (lv x.1 + lvs (xs.map (·.1)))
    have e := Nat.mul_add C (lv x.1) (lvs (xs.map (·.1)))
    omega
theorem bar_sum : ∀ xs : Sq, (xs.flatMap fun x => 124 :: x.2).length = (wOf xs).length + xs.length
  | [] => rfl
  | x :: xs => by
    rw [List.flatMap_cons, List.length_append, bar_sum xs, wOf_cons, List.length_append, List.length_cons, List.length_cons]
    omega
theorem barT_len : ∀ xs : Sq, (barT xs).length ≤ (wOf xs).length + xs.length
  | [] => Nat.le_refl _
  | x :: xs => by
    show (x.2 ++ xs.flatMap fun x => 124 :: x.2).length ≤ _
    rw [List.length_append, bar_sum, wOf_cons, List.length_append, List.length_cons]
    omega
theorem barT_join : ∀ xs : Sq, barT xs = joinW [124] (xs.map (·.2))
  | [] => rfl
  | [x] => List.append_nil _
  | x :: y :: xs => by
    have ih := barT_join (y :: xs)
    show x.2 ++ (124 :: y.2 ++ xs.flatMap fun x => 124 :: x.2) = x.2 ++ ([124] ++ joinW [124] ((y :: xs).map (·.2)))
    rw [← ih]
    rfl
theorem grow {m l : Nat} (h : 1 ≤ l) : (1000 + 20 * m) * l + 20 ≤ (1000 + 20 * (m + 1)) * l := by
  have : (1000 + 20 * (m + 1)) * l = (1000 + 20 * m) * l + 20 * l := by rw [← Nat.add_mul]; congr 1
  omega
theorem lv_le {m : Nat} {p : Pt} (h5 : m ≤ 5) (hp : TreeOk m p) {C : Nat} (hC : C ≤ 1100) : C * lv p ≤ 290000 := by
  have h1 := tree_lv m p hp
  have h2 : 3 ^ m ≤ 3 ^ 5 := Nat.pow_le_pow_right (by decide) h5
  have : C * lv p ≤ 1100 * 243 := Nat.mul_le_mul hC (by omega)
  omega
def spA : DS := (sRet (dI (dBM "str" mJoin (dI (dC (.str ""))) (aCons (dV 3) aNil))))
def spB : DS :=
 (sSeq (sIf (dAnd (dCmp cGt (dI (dCB fLen (aCons (dV 3) aNil))) (dI (dC (.int 2)))) (dCmp cEq (dCall pf_take (aCons (dV 0) (aCons (dI (dC (.int 3))) aNil))) (dI (dC (.int 1))))) (sAsg 3 (dI (dOp fAdd (dLst (adCons (dOp fAdd (dOp fAdd (dOp fAdd (dC (.str "(")) (dIx (dV 3) (dC (.int 0)))) (dIx (dV 3) (dC (.int 1)))) (dC (.str ")"))) adNil)) (dSl (dV 3) (dPart (dC (.int 2))) dNoPart)))) sNext)
 spA)
abbrev eT (ls : List (List Nat)) : D := .lst (ls.map fun l => D.str (S l))
theorem spA_ok {ls : List (List Nat)} {w0 w1 w2 w4 w5 : Option W} {k : W → Sto → Prop} {ex : DX} (hl : ls.length ≤ 1000) (hs : ls.flatten.length ≤ 300000) (hk : k (.im (.str (S ls.flatten))) [.pool]) : spA (EnD false 1 k ex) [w0, w1, w2, some (.im (eT ls)), w4, w5] [.pool] := by
  have fin : mJoin (.str "") [eT ls] (fun d => k (.im d) [.pool]) := by
    rw [← joinW_nil] at hk hs
    exact join_of empS_eq (by decide) hl hs hk
  exact ⟨rfl, fin⟩
theorem ixT_of {i a : Nat} {ls : List (List Nat)} {l : List Nat} {σ : Sl} {st : Sto} {ex : DX} {k : D → Sto → Prop} (h1 : σ[i]? = some (some (.im (eT ls)))) (h : ls[a]? = some l) (hk : k (.str (S l)) st) : dIx (dV i) (dC (.int (a : Int))) σ st k ex := by
  refine dIx_of (dV_at h1 (dC_of ?_))
  show (match atI (ls.map fun l => D.str (S l)) (a : Int) with | some d => k d st | none => False)
  rw [atI_nat (v := .str (S l)) (by rw [List.getElem?_map, h]; rfl)]
  exact hk
theorem spB_ok {xs : Sq} {w1 w2 w4 w5 : Option W} {m : Nat} {k : W → Sto → Prop} {ex : DX} (h2 : 2 ≤ xs.length) (hl : xs.length ≤ 1000) (hr : ∀ x ∈ xs, ∀ rs, x.1 ≠ .row rs) (h : ∀ x ∈ xs, Wr m x.1 x.2) (hC : (1000 + 20 * (m + 1)) * lv (.row (xs.map (·.1))) ≤ 290000) (hk : ∀ w, SpL (m + 1) (.row (xs.map (·.1))) w → k (.im (.str (S w))) [.pool]) :
    spB (EnD false 1 k ex) [some (.loc 0), w1, w2, some (.im (eT (xs.map (·.2)))), w4, w5] [.pool] := by
  have hpt : ∀ x ∈ xs, ∀ n, 4 * m + 6 ≤ n → PartW (altP n) x.1 x.2 := fun x hx n hn => by
    cases he : isE x.1 with
    | true => exact ((h x hx).el he n hn).part
    | false => exact (h x hx).sp.pt he (hr x hx) n hn
  have hlen := len_sum (C := 1000 + 20 * m) fun x hx => (h x hx).len
  have hlv : lv (.row (xs.map (·.1))) = max 1 (lvs (xs.map (·.1))) := rfl
  have hge := lvs_len (xs.map (·.1))
  rw [List.length_map] at hge
  have hg := grow (m := m) (l := lvs (xs.map (·.1))) (by omega)
  have e1 : max 1 (lvs (xs.map (·.1))) = lvs (xs.map (·.1)) := by omega
  rw [hlv, e1] at hC
  have plain : spA (EnD false 1 k ex) [some (.loc 0), w1, w2, some (.im (eT (xs.map (·.2)))), w4, w5] [.pool] := by
    refine spA_ok (by rw [List.length_map]; omega) ?_ (hk _ ⟨(sp_row h2 hr hpt).mono (by omega), ?_⟩)
    · show (wOf xs).length ≤ _
      omega
    · show (wOf xs).length + 10 ≤ _ * max 1 (lvs (xs.map (·.1)))
      rw [e1]
      omega
  have hz : (((xs.map (·.2)).map fun l => D.str (S l)).length : Int) = (xs.length : Int) := by rw [List.length_map, List.length_map]
  show two (decide ((2 : Int) < (((xs.map (·.2)).map fun l => D.str (S l)).length : Nat))) _ _
  rw [hz]
  refine oneD (p := (2 : Int) < ((xs.length : Nat) : Int)) (fun z => ?_) (fun z => twoF plain)
  refine takeR (r := []) (by decide) (by decide) fun i h0 h1 => ?_
  refine oneD (p := i = 1) (fun z => ?_) (fun z => plain)
  match xs, h2, hl, hr, h, hpt, hlen, hk, hC, hge, hg, e1 with
  | x :: y :: r, h2, hl, hr, h, hpt, hlen, hk, hC, hge, hg, e1 =>
    have lx := (h x List.mem_cons_self).len
    have ly := (h y (List.mem_cons_of_mem _ List.mem_cons_self)).len
    have hw : (wOf (x :: y :: r)).length = x.2.length + (y.2.length + (wOf r).length) := by rw [wOf_cons, wOf_cons, List.length_append, List.length_append]
    refine dOp_of (dLst_of (adCons_of ?_))
    refine cat_of (a := (40 :: x.2) ++ y.2) (b := [41]) ?_ (fun Q hQ => cat_of (a := 40 :: x.2) (b := y.2) ?_ (fun Q hQ => cat_of (a := [40]) (b := x.2) ?_ (fun Q hQ => con_of opS_eq hQ) (fun Q hQ => ixT_of (a := 0) rfl rfl hQ) hQ) (fun Q hQ => ixT_of (a := 1) rfl rfl hQ) hQ) (fun Q hQ => con_of shS_eq hQ) ?_
    · rw [List.length_append, List.length_cons, List.length_singleton]; omega
    · rw [List.length_cons]; omega
    · rw [List.length_singleton]; omega
    refine ⟨by show 1 ≤ 1000000; decide, ?_⟩
    have hs := sp_row2 hr hpt
    have e3 : ((40 :: x.2) ++ y.2) ++ [41] = 40 :: ((x.2 ++ y.2) ++ [41]) := by simp
    show 1 + (cutD (((x :: y :: r).map (·.2)).map fun l => D.str (S l)) (some 2) none).length ≤ 1000000 ∧ spA (EnD false 1 k ex) [some (.loc 0), w1, w2, some (.im (.lst ([.str (S (((40 :: x.2) ++ y.2) ++ [41]))] ++ cutD (((x :: y :: r).map (·.2)).map fun l => D.str (S l)) (some 2) none))), w4, w5] [.pool]
    have ec : cutD (((x :: y :: r).map (·.2)).map fun l => D.str (S l)) (some 2) none = (r.map (·.2)).map fun l => D.str (S l) := by
      unfold cutD
      rw [show (some (2 : Int)) = some ((2 : Nat) : Int) from rfl, HT.sIx_nat, HT.sIx_none]
      have : min 2 (((x :: y :: r).map (·.2)).map fun l => D.str (S l)).length = 2 := by
        rw [List.length_map, List.length_map, List.length_cons, List.length_cons]; omega
      rw [this]
      show ((r.map (·.2)).map fun l => D.str (S l)).take _ = _
      rw [List.take_of_length_le]
      rw [List.length_map, List.length_map, List.length_map, List.length_map, List.length_cons, List.length_cons]
      omega
    rw [ec, e3]
    have e4 : (D.lst ([.str (S (40 :: ((x.2 ++ y.2) ++ [41])))] ++ (r.map (·.2)).map fun l => D.str (S l))) = eT ((40 :: ((x.2 ++ y.2) ++ [41])) :: r.map (·.2)) := rfl
    rw [e4]
    have e5 : ((40 :: ((x.2 ++ y.2) ++ [41])) :: r.map (·.2)).flatten = 40 :: ((x.2 ++ y.2) ++ [41]) ++ wOf r := rfl
    have e6 : (40 :: ((x.2 ++ y.2) ++ [41]) ++ wOf r).length = (wOf (x :: y :: r)).length + 2 := by
      rw [hw, List.length_append, List.length_cons, List.length_append, List.length_append, List.length_singleton]
      omega
    refine ⟨by rw [List.length_map, List.length_map]; rw [List.length_cons, List.length_cons] at hl; omega, spA_ok ?_ ?_ ?_⟩
    · rw [List.length_cons, List.length_map]; rw [List.length_cons, List.length_cons] at hl; omega
    · rw [e5, e6]; omega
    · rw [e5]
      refine hk _ ⟨hs.mono (by omega), ?_⟩
      rw [e6]
      show _ ≤ _ * max 1 (lvs ((x :: y :: r).map (·.1)))
      rw [e1]
      rw [List.length_cons, List.length_cons] at hlen
      omega
end Dl.Qt
end

section
set_option maxHeartbeats 4000000
namespace Dl.Qt
open PySem PySem.Spec PyProof.Rows L2 Co PySem.StrLaws Dl.Pt
local macro_rules | `(tactic| walk_at "s") => `(tactic| first | refine twoT ?_ | refine twoF ?_ | refine yesD rfl ?_ | refine noD (by decide) ?_)
def spE : DS := (sRet (dI (dBM "str" mJoin (dI (dC (.str "|"))) (aCons (dV 3) aNil))))
def spEi : DS :=
 (sSeq (sIf (dAnd (dCmp cGt (dI (dCB fLen (aCons (dV 3) aNil))) (dI (dC (.int 2)))) (dCmp cEq (dCall pf_take (aCons (dV 0) (aCons (dI (dC (.int 3))) aNil))) (dI (dC (.int 1))))) (sAsg 3 (dI (dOp fAdd (dSl (dV 3) dNoPart (dPart (dUn fNeg (dC (.int 2))))) (dLst (adCons (dOp fAdd (dOp fAdd (dOp fAdd (dOp fAdd (dC (.str "(")) (dIx (dV 3) (dUn fNeg (dC (.int 2))))) (dC (.str "|"))) (dIx (dV 3) (dUn fNeg (dC (.int 1))))) (dC (.str ")"))) adNil))))) sNext)
 spE)
theorem spE_ok {ls : List (List Nat)} {w0 w1 w2 w4 w5 : Option W} {k : W → Sto → Prop} {ex : DX} (hl : ls.length ≤ 1000) (hs : (joinW [124] ls).length ≤ 300000) (hk : k (.im (.str (S (joinW [124] ls)))) [.pool]) : spE (EnD false 1 k ex) [w0, w1, w2, some (.im (eT ls)), w4, w5] [.pool] := by
  have fin : mJoin (.str "|") [eT ls] (fun d => k (.im d) [.pool]) := join_of barS_eq (by decide) hl hs hk
  exact ⟨rfl, fin⟩
theorem ixN_last2 {α : Type} (l : List α) (x y : α) : ixN (l ++ [x, y]).length (-2) = some l.length := by
  unfold ixN
  rw [List.length_append, if_neg (by omega), if_pos (by simp; omega)]
  congr 1
  simp
  omega
theorem atI_last2 {α : Type} (l : List α) (x y : α) : atI (l ++ [x, y]) (-2) = some x := by
  unfold atI
  rw [ixN_last2]
  show (l ++ [x, y])[l.length]? = some x
  simp
theorem atI_last1 {α : Type} (l : List α) (x y : α) : atI (l ++ [x, y]) (-1) = some y := by
  have : l ++ [x, y] = (l ++ [x]) ++ [y] := by simp
  rw [this]
  exact atI_last _ _
theorem ixTn_of {i : Nat} {j : Int} {ls : List (List Nat)} {l : List Nat} {σ : Sl} {st : Sto} {ex : DX} {k : D → Sto → Prop} (h1 : σ[i]? = some (some (.im (eT ls)))) (h : atI (ls.map fun l => D.str (S l)) (-j) = some (.str (S l))) (hk : k (.str (S l)) st) : dIx (dV i) (dUn fNeg (dC (.int j))) σ st k ex := by
  refine dIx_of (dV_at h1 (dUn_of (dC_of ?_)))
  show (match atI (ls.map fun l => D.str (S l)) (-j) with | some d => k d st | none => False)
  rw [h]
  exact hk
theorem slT_of {i : Nat} {j : Int} {ls : List (List Nat)} {σ : Sl} {st : Sto} {ex : DX} {k : D → Sto → Prop} (h1 : σ[i]? = some (some (.im (eT ls)))) (hk : k (.lst (cutD (ls.map fun l => D.str (S l)) none (some (-j)))) st) : dSl (dV i) dNoPart (dPart (dUn fNeg (dC (.int j)))) σ st k ex := by
  show dV i σ st (fun w st1 => dNoPart σ st1 (fun l st2 => dPart (dUn fNeg (dC (.int j))) σ st2 (fun h st3 => match seeW w st3 with
    | some x => sliceD x l h fun d => k d st3
    | none => False) ex) ex) ex
  exact dV_at h1 hk
theorem spEi_ok {xs : Sq} {w1 w2 w4 w5 : Option W} {m : Nat} {k : W → Sto → Prop} {ex : DX} (h2 : 2 ≤ xs.length) (hl : xs.length ≤ 1000) (hr : ∀ x ∈ xs, isE x.1 = false) (h : ∀ x ∈ xs, Wa m x.1 x.2) (hC : (1000 + 20 * (m + 1)) * lv (.either (xs.map (·.1))) ≤ 290000) (hk : ∀ w, SpL (m + 1) (.either (xs.map (·.1))) w → k (.im (.str (S w))) [.pool]) :
    spEi (EnD false 1 k ex) [some (.loc 0), w1, w2, some (.im (eT (xs.map (·.2)))), w4, w5] [.pool] := by
  have hsq : ∀ x ∈ xs, ∀ n, 4 * m + 6 ≤ n → SqN n x.1 x.2 := fun x hx n hn => (h x hx).sp.sq (hr x hx) n hn
  have hlen := len_sum (C := 1000 + 20 * m) fun x hx => (h x hx).len
  have hbl := barT_len xs
  have hlv : lv (.either (xs.map (·.1))) = max 1 (lvs (xs.map (·.1))) := rfl
  have hge := lvs_len (xs.map (·.1))
  rw [List.length_map] at hge
  have hg := grow (m := m) (l := lvs (xs.map (·.1))) (by omega)
  have e1 : max 1 (lvs (xs.map (·.1))) = lvs (xs.map (·.1)) := by omega
  rw [hlv, e1] at hC
  have plain : spE (EnD false 1 k ex) [some (.loc 0), w1, w2, some (.im (eT (xs.map (·.2)))), w4, w5] [.pool] := by
    refine spE_ok (by rw [List.length_map]; omega) ?_ ?_
    · rw [← barT_join]; omega
    · rw [← barT_join]
      refine hk _ ⟨(sp_either h2 hr hsq).mono (by omega), ?_⟩
      show (barT xs).length + 10 ≤ _ * max 1 (lvs (xs.map (·.1)))
      rw [e1]
      omega
  have hz : (((xs.map (·.2)).map fun l => D.str (S l)).length : Int) = (xs.length : Int) := by rw [List.length_map, List.length_map]
  show two (decide ((2 : Int) < (((xs.map (·.2)).map fun l => D.str (S l)).length : Nat))) _ _
  rw [hz]
  refine oneD (p := (2 : Int) < ((xs.length : Nat) : Int)) (fun z => ?_) (fun z => twoF plain)
  refine takeR (r := []) (by decide) (by decide) fun i h0 h1 => ?_
  refine oneD (p := i = 1) (fun z => ?_) (fun z => plain)
  obtain ⟨r, x, y, rfl⟩ : ∃ r x y, xs = r ++ [x, y] := by
    refine ⟨xs.take (xs.length - 2), xs[xs.length - 2]'(by omega), xs[xs.length - 1]'(by omega), ?_⟩
    conv => lhs; rw [← List.take_append_drop (xs.length - 2) xs]
    congr 1
    rw [List.drop_eq_getElem_cons (by omega), show xs.length - 2 + 1 = xs.length - 1 by omega, List.drop_eq_getElem_cons (by omega), show xs.length - 1 + 1 = xs.length by omega, List.drop_length]
  have lx := (h x (List.mem_append_right _ List.mem_cons_self)).len
  have ly := (h y (List.mem_append_right _ (List.mem_cons_of_mem _ List.mem_cons_self))).len
  have hw : (wOf (r ++ [x, y])).length = (wOf r).length + (x.2.length + y.2.length) := by
    unfold wOf
    simp
  have em : ((r ++ [x, y]).map (·.2)).map (fun l => D.str (S l)) = (r.map (·.2)).map (fun l => D.str (S l)) ++ [.str (S x.2), .str (S y.2)] := by simp
  have a2 : atI (((r ++ [x, y]).map (·.2)).map fun l => D.str (S l)) (-2) = some (.str (S x.2)) := by rw [em]; exact atI_last2 _ _ _
  have a1 : atI (((r ++ [x, y]).map (·.2)).map fun l => D.str (S l)) (-1) = some (.str (S y.2)) := by rw [em]; exact atI_last1 _ _ _
  have ec : cutD (((r ++ [x, y]).map (·.2)).map fun l => D.str (S l)) none (some (-2)) = (r.map (·.2)).map fun l => D.str (S l) := by
    rw [em]
    unfold cutD
    have s1 : HT.sIx ((r.map (·.2)).map (fun l => D.str (S l)) ++ [D.str (S x.2), D.str (S y.2)]).length 0 none = 0 := HT.sIx_none _ _
    have s2 : HT.sIx ((r.map (·.2)).map (fun l => D.str (S l)) ++ [D.str (S x.2), D.str (S y.2)]).length ((r.map (·.2)).map (fun l => D.str (S l)) ++ [D.str (S x.2), D.str (S y.2)]).length (some (-2)) = ((r.map (·.2)).map fun l => D.str (S l)).length := by
      unfold HT.sIx
      simp
      omega
    rw [s1, s2]
    simp
  refine sAsg_of (dI_of (dOp_of (slT_of rfl ?_)))
  rw [ec]
  refine dLst_of (adCons_of ?_)
  have hs := sp_either2 hr hsq
  refine cat_of (a := ((40 :: x.2) ++ [124]) ++ y.2) (b := [41]) ?_ (fun Q hQ => cat_of (a := (40 :: x.2) ++ [124]) (b := y.2) ?_ (fun Q hQ => cat_of (a := 40 :: x.2) (b := [124]) ?_ (fun Q hQ => cat_of (a := [40]) (b := x.2) ?_ (fun Q hQ => con_of opS_eq hQ) (fun Q hQ => ixTn_of rfl a2 hQ) hQ) (fun Q hQ => con_of barS_eq hQ) hQ) (fun Q hQ => ixTn_of rfl a1 hQ) hQ) (fun Q hQ => con_of shS_eq hQ) ?_
  · rw [List.length_append, List.length_append, List.length_cons, List.length_singleton, List.length_singleton]; omega
  · rw [List.length_append, List.length_cons, List.length_singleton]; omega
  · rw [List.length_cons, List.length_singleton]; omega
  · rw [List.length_singleton]; omega
  have e3 : (((40 :: x.2) ++ [124]) ++ y.2) ++ [41] = 40 :: ((x.2 ++ 124 :: y.2) ++ [41]) := by simp
  rw [e3]
  refine ⟨by show 1 ≤ 1000000; decide, ?_⟩
  have e4 : (r.map (·.2)).map (fun l => D.str (S l)) ++ [.str (S (40 :: ((x.2 ++ 124 :: y.2) ++ [41])))] = (List.map Prod.snd r ++ [40 :: ((x.2 ++ 124 :: y.2) ++ [41])]).map fun l => D.str (S l) := by rw [List.map_append]; rfl
  have e5 : List.map Prod.snd r ++ [40 :: ((x.2 ++ 124 :: y.2) ++ [41])] = List.map Prod.snd (r ++ [((.either [x.1, y.1] : Pt), 40 :: ((x.2 ++ 124 :: y.2) ++ [41]))] : Sq) := by rw [List.map_append]; rfl
  have hb2 := barT_len (r ++ [((.either [x.1, y.1] : Pt), 40 :: ((x.2 ++ 124 :: y.2) ++ [41]))] : Sq)
  have hw2 : (wOf (r ++ [((.either [x.1, y.1] : Pt), 40 :: ((x.2 ++ 124 :: y.2) ++ [41]))] : Sq)).length = (wOf (r ++ [x, y])).length + 3 := by
    rw [hw]
    unfold wOf
    simp
    omega
  have hn : (r ++ [((.either [x.1, y.1] : Pt), 40 :: ((x.2 ++ 124 :: y.2) ++ [41]))] : Sq).length = r.length + 1 := by rw [List.length_append]; rfl
  rw [List.length_append] at hl hlen z hbl
  have l2' : ([x, y] : Sq).length = 2 := rfl
  show ((r.map (·.2)).map fun l => D.str (S l)).length + 1 ≤ 1000000 ∧ spE (EnD false 1 k ex) [some (.loc 0), w1, w2, some (.im (.lst ((r.map (·.2)).map (fun l => D.str (S l)) ++ [.str (S (40 :: ((x.2 ++ 124 :: y.2) ++ [41])))]))), w4, w5] [.pool]
  rw [e4, e5]
  refine ⟨by rw [List.length_map, List.length_map]; omega, spE_ok ?_ ?_ ?_⟩
  · rw [List.length_map, hn]; omega
  · rw [← barT_join]; omega
  · rw [← barT_join]
    refine hk _ ⟨hs.mono (by omega), ?_⟩
    show _ ≤ _ * max 1 (lvs ((r ++ [x, y]).map (·.1)))
    rw [e1]
    omega
end Dl.Qt
end

section
set_option maxHeartbeats 4000000
namespace Dl.Qt
open PySem PySem.Spec PyProof.Rows L2 Co PySem.StrLaws Dl.Pt
local macro_rules | `(tactic| walk_at "s") => `(tactic| first | refine twoT ?_ | refine twoF ?_ | refine yesD rfl ?_ | refine noD (by decide) ?_)
theorem hd_isC (q : Pt) : decide (hdP q = "chars") = isC q := by
  cases q
  · exact (by decide +kernel : decide (("chars" : Str) = "chars") = true)
  · exact (by decide +kernel : decide (("row" : Str) = "chars") = false)
  · exact (by decide +kernel : decide (("either" : Str) = "chars") = false)
  · exact (by decide +kernel : decide (("star" : Str) = "chars") = false)
  · exact (by decide +kernel : decide (("plus" : Str) = "chars") = false)
  · exact (by decide +kernel : decide (("maybe" : Str) = "chars") = false)
theorem hd_isE (q : Pt) : decide (hdP q = "either") = isE q := by
  cases q
  · exact (by decide +kernel : decide (("chars" : Str) = "either") = false)
  · exact (by decide +kernel : decide (("row" : Str) = "either") = false)
  · exact (by decide +kernel : decide (("either" : Str) = "either") = true)
  · exact (by decide +kernel : decide (("star" : Str) = "either") = false)
  · exact (by decide +kernel : decide (("plus" : Str) = "either") = false)
  · exact (by decide +kernel : decide (("maybe" : Str) = "either") = false)
def spY : DS := (sRet (dI (dOp fAdd (dD (dV 4)) (dGet false (dI (dDispD [((dC (.str "star")), (dC (.str "*"))), ((dC (.str "plus")), (dC (.str "+"))), ((dC (.str "maybe")), (dC (.str "?")))])) (dD (dV 2))))))
theorem spY_ok {l : List Nat} {c : Nat} {hd : Str} {k : W → Sto → Prop} {ex : DX} {w0 w1 w3 w5 : Option W} (hl : l.length ≤ 300000) (hc : (hd = "star" ∧ c = 42) ∨ (hd = "plus" ∧ c = 43) ∨ (hd = "maybe" ∧ c = 63)) (hk : k (.im (.str (S (l ++ [c])))) [.pool]) :
    spY (EnD false 1 k ex) [w0, w1, some (.im (.str hd)), w3, some (.im (.str (S l))), w5] [.pool] := by
  have fin : ∀ z : Str, z = S [c] → (S l).length + z.length ≤ sizeLine ∧ k (.im (.str (S l ++ z))) [.pool] := by
    rintro z rfl
    rw [S_app]
    refine ⟨?_, hk⟩
    rw [S_len, S_len, sizeLine_eq]
    show l.length + 1 ≤ _
    omega
  rcases hc with ⟨rfl, rfl⟩ | ⟨rfl, rfl⟩ | ⟨rfl, rfl⟩
  · exact ⟨by decide, fin _ star_eq⟩
  · exact ⟨by decide, fin _ plus_eq⟩
  · exact ⟨by decide, fin _ mayb_eq⟩
def spX (n : Nat) : DS :=
 (sSeq (sAsg 4 (dCall pf_Lwrapped (aCons (dV 0) (aCons (dCall (pf_Lspelled n) (aCons (dV 0) (aCons (dI (dIx (dV 1) (dC (.int 1)))) aNil))) (aCons (dI (dB (dCmp cNe (dI (dIx (dI (dIx (dV 1) (dC (.int 1)))) (dC (.int 0)))) (dI (dC (.str "chars")))))) aNil)))))
 spY)
theorem spX_ok {n m kk : Nat} {q p : Pt} {c : Nat} {hd : Str} {k : W → Sto → Prop} {ex : DX} (hm : m < n + 1) (h5 : m ≤ 5) (hkk : kk < m) (hq : TreeOk kk q) (hp : TreeOk m p) (hlv : lv p = lv q) (hC : isC p = false) (hc : (hd = "star" ∧ c = 42) ∨ (hd = "plus" ∧ c = 43) ∨ (hd = "maybe" ∧ c = 63))
    (hrep : ∀ (t : List Nat) (j : Nat), t[j]? = some c → (match t[j]? with | some 42 => Rr.ok (.star q) (j + 1) | some 43 => .ok (.plus q) (j + 1) | some 63 => .ok (.maybe q) (j + 1) | _ => .ok q j : Rr Pt) = .ok p (j + 1))
    (hk : ∀ w, SpL m p w → k (.im (.str (S w))) [.pool]) : spX n (EnD false 1 k ex) [some (.loc 0), some (.im (.tup [.str hd, eP q])), some (.im (.str hd)), none, none, none] [.pool] := by
  obtain ⟨m', rfl⟩ : ∃ m', m = m' + 1 := ⟨m - 1, by omega⟩
  have hl := lv_le (by omega : kk ≤ 5) hq (C := 1000 + 20 * kk) (by omega)
  refine call_spelled (n := n) (m := kk) (by omega) (by omega) hq fun v hv => ?_
  have hvl := hv.2
  obtain ⟨x, hx⟩ := eP_hd q
  have go : ∀ b, b = !decide (hdP q = "chars") → callD pf_Lwrapped [0] [.loc 0, .im (.str (S v)), .im (.bl b)] [.pool] (fun w st1 => spY (EnD false 1 k ex) [some (.loc 0), some (.im (.tup [.str hd, eP q])), some (.im (.str hd)), none, some w, none] st1) (exE (EnD false 1 k ex) [some (.loc 0), some (.im (.tup [.str hd, eP q])), some (.im (.str hd)), none, none, none]) := fun b hb => by
    refine call_wrapped (by omega) fun j hj hj2 => ?_
    obtain ⟨a1, a2⟩ := wrap_ok hq (by omega : kk ≤ m') hv hj
    have el : ∀ n, 4 * m' + 6 ≤ n → ElN n q (parN j v) := by
      by_cases z : 1 ≤ j
      · exact a2 z
      · have hb0 : b = false := by
          cases b with
          | false => rfl
          | true => exact absurd (hj2 rfl) z
        have hcq : isC q = true := by
          rw [hb0, hd_isC] at hb
          cases hz : isC q with
          | true => rfl
          | false => rw [hz] at hb; cases hb
        exact a1.sp.el hcq
    have hpl := parN_len j v
    refine spY_ok (by omega) hc (hk _ ⟨?_, ?_⟩)
    · exact (Sp.of_pt (std_tree hp) hC (b := 4 * m' + 6) fun n hn => pt_rep (el n hn) hrep).mono (by omega)
    · rw [List.length_append, List.length_singleton, hlv]
      have hg := grow (m := m') (l := lv q) (lv_pos q)
      have hmn : (1000 + 20 * kk) * lv q ≤ (1000 + 20 * m') * lv q := Nat.mul_le_mul_right _ (by omega)
      omega
  refine aCons_of ?_
  refine dI_of (dB_of (dCmp_of (dI_of (dIx_of (dI_of (dIx_of (dV_at rfl (dC_of ?_))))))))
  show atD (.tup [.str hd, eP q]) (.int 1) _
  refine atT1 (dC_of ?_)
  rw [hx]
  show atD (.tup [.str (hdP q), x]) (.int 0) _
  refine atT0 ?_
  rw [← hx]
  exact go _ rfl
theorem r_Lspelled {n : Nat} : ∀ ws st k ex, pf_Lspelled (n + 1) ws st k ex → (t_Lspelled n) (EnD false st.length k ex) (startD N_Lspelled ws) st := by
  intro ws st k ex h
  unfold pf_Lspelled at h
  split at h
  · obtain ⟨p, m, rfl, hm, h5, hp, hk⟩ := h
    have hpt := tree_parts m p hp
    cases p with
    | chars cs =>
      have hpt : SetOk cs := hpt
      walk_at "s"
      refine call_anyset hpt fun w hw => ?_
      have hwl := setW_len hpt hw
      refine call_wrapped (by omega) fun j hj _ => hk _ ⟨?_, ?_⟩
      · exact ((Sp.of_el (b := 0) (std_tree hp) fun n _ => setW_el hpt hw n).wrap (std_tree hp) hj).1.mono (by omega)
      · rw [parN_len]
        show _ ≤ (1000 + 20 * m) * 1
        omega
    | row qs =>
      have hpt : PartsOk m qs true := hpt
      have hql := qlen h5 (lvs_row hp)
      obtain ⟨m', rfl⟩ : ∃ m', m = m' + 1 := by
        have h2 := hpt.1
        obtain ⟨⟨k, hk, _⟩, _⟩ := hpt.2 (qs[0]'(by omega)) (List.getElem_mem _)
        exact ⟨m - 1, by omega⟩
      have hlv2 := tree_lv (m' + 1) _ hp
      have hC := lv_le h5 hp (C := 1000 + 20 * (m' + 1)) (by omega)
      walk_at "s"; walk_at "s"
      show lcB (ePs qs) _ _ _ _ _ _ _
      rw [ePs_eq]
      refine lc_all (fun i y => ∃ w, y = .str (S w) ∧ ∀ q, qs[i]? = some q → Wr m' q w) (by rw [List.length_map]; omega) rfl (fun i d hd Q q => ?_) fun ys b1 b2 => ?_
      · rw [List.getElem?_map] at hd
        cases hb : qs[i]? with
        | none => rw [hb] at hd; cases hd
        | some x =>
          rw [hb] at hd
          cases hd
          obtain ⟨⟨kk, h1, h2⟩, h3⟩ := hpt.2 x (List.mem_of_getElem? hb)
          have hl := lv_le (by omega : kk ≤ 5) h2 (C := 1000 + 20 * kk) (by omega)
          refine call_spelled (n := n) (m := kk) (by omega) (by omega) h2 fun v hv => ?_
          have hvl := hv.2
          obtain ⟨z, hz⟩ := eP_hd x
          have fin : callD pf_Lwrapped [0] [.loc 0, .im (.str (S v)), .im (.bl (decide (hdP x = "either")))] [.pool] (fun w st1 => match toD w st1 with | some (d, st2) => Q d st2 | none => False) exF := by
            rw [hd_isE]
            refine call_wrapped (by omega) fun j hj hj2 => ?_
            obtain ⟨a1, a2⟩ := wrap_ok h2 (by omega : kk ≤ m') hv hj
            refine q _ ⟨_, rfl, fun y hy => ?_⟩
            rw [hb] at hy
            cases hy
            exact ⟨a1.sp, fun he => a2 (hj2 he), a1.len⟩
          refine aCons_of ?_
          refine dI_of (dB_of (dCmp_of (dI_of (dIx_of (dV_at rfl (dC_of ?_))))))
          rw [hz]
          show atD (.tup [.str (hdP x), z]) (.int 0) _
          refine atT0 ?_
          exact fin
      · obtain ⟨xs, rfl, rfl, c3⟩ := zip_all (R := Wr m') (by rw [b1, List.length_map]) b2
        rw [List.length_map] at hql
        have hpt2 := hpt.1
        rw [List.length_map] at hpt2
        exact spB_ok hpt2 (by omega) (fun x hx => (hpt.2 x.1 (List.mem_map.mpr ⟨x, hx, rfl⟩)).2) c3 hC hk
    | either qs =>
      have hpt : PartsOk m qs false := hpt
      have hql := qlen h5 (lvs_eit hp)
      obtain ⟨m', rfl⟩ : ∃ m', m = m' + 1 := by
        have h2 := hpt.1
        obtain ⟨⟨k, hk, _⟩, _⟩ := hpt.2 (qs[0]'(by omega)) (List.getElem_mem _)
        exact ⟨m - 1, by omega⟩
      have hC := lv_le h5 hp (C := 1000 + 20 * (m' + 1)) (by omega)
      walk_at "s"; walk_at "s"; walk_at "s"
      show lcB (ePs qs) _ _ _ _ _ _ _
      rw [ePs_eq]
      refine lc_all (fun i y => ∃ w, y = .str (S w) ∧ ∀ q, qs[i]? = some q → Wa m' q w) (by rw [List.length_map]; omega) rfl (fun i d hd Q q => ?_) fun ys b1 b2 => ?_
      · rw [List.getElem?_map] at hd
        cases hb : qs[i]? with
        | none => rw [hb] at hd; cases hd
        | some x =>
          rw [hb] at hd
          cases hd
          obtain ⟨⟨kk, h1, h2⟩, h3⟩ := hpt.2 x (List.mem_of_getElem? hb)
          have hl := lv_le (by omega : kk ≤ 5) h2 (C := 1000 + 20 * kk) (by omega)
          refine call_spelled (n := n) (m := kk) (by omega) (by omega) h2 fun v hv => ?_
          have hvl := hv.2
          refine call_wrapped (by omega) fun j hj hj2 => ?_
          obtain ⟨a1, a2⟩ := wrap_ok h2 (by omega : kk ≤ m') hv hj
          refine q _ ⟨_, rfl, fun y hy => ?_⟩
          rw [hb] at hy
          cases hy
          exact a1
      · obtain ⟨xs, rfl, rfl, c3⟩ := zip_all (R := Wa m') (by rw [b1, List.length_map]) b2
        rw [List.length_map] at hql
        have hpt2 := hpt.1
        rw [List.length_map] at hpt2
        refine spEi_ok hpt2 (by omega) (fun x hx => ?_) c3 hC hk
        have := (hpt.2 x.1 (List.mem_map.mpr ⟨x, hx, rfl⟩)).2
        cases hz : x.1 with
        | either rs => exact absurd hz (this rs)
        | _ => rfl
    | star q =>
      obtain ⟨kk, h1, h2⟩ := hpt
      walk_at "s"; walk_at "s"; walk_at "s"
      exact spX_ok (n := n) hm h5 h1 h2 hp rfl rfl (.inl ⟨rfl, rfl⟩) (fun t j e => by rw [e]; rfl) hk
    | plus q =>
      obtain ⟨kk, h1, h2⟩ := hpt
      walk_at "s"; walk_at "s"; walk_at "s"
      exact spX_ok (n := n) hm h5 h1 h2 hp rfl rfl (.inr (.inl ⟨rfl, rfl⟩)) (fun t j e => by rw [e]; rfl) hk
    | maybe q =>
      obtain ⟨kk, h1, h2⟩ := hpt
      walk_at "s"; walk_at "s"; walk_at "s"
      exact spX_ok (n := n) hm h5 h1 h2 hp rfl rfl (.inr (.inr ⟨rfl, rfl⟩)) (fun t j e => by rw [e]; rfl) hk
  · exact h.elim
end Dl.Qt
end

section
set_option maxHeartbeats 4000000
namespace Dl.Qt
open PySem PySem.Spec PyProof.Rows L2 Co PySem.StrLaws Dl.Pt
local macro_rules | `(tactic| walk_at "s") => `(tactic| first | refine twoT ?_ | refine twoF ?_ | refine yesD rfl ?_ | refine noD (by decide) ?_)
open Sm in
theorem smD_mono : ∀ (n : Nat) (d : D), smD n d = true → smD (n + 1) d = true
  | n, .non, _ => rfl
  | n, .bl _, _ => rfl
  | n, .int _, _ => rfl
  | n, .str _, _ => rfl
  | n + 1, .tup ds, h => by
    rw [smD, Bool.and_eq_true, List.all_eq_true] at h ⊢
    exact ⟨h.1, fun d hd => smD_mono n d (h.2 d hd)⟩
  | n + 1, .lst ds, h => by
    rw [smD, Bool.and_eq_true, List.all_eq_true] at h ⊢
    exact ⟨h.1, fun d hd => smD_mono n d (h.2 d hd)⟩
  | 0, .tup _, h => by cases h
  | 0, .lst _, h => by cases h
  | 0, .ty _, h => by cases h
  | n + 1, .ty _, h => by cases h
  | 0, .glo _, h => by cases h
  | n + 1, .glo _, h => by cases h
  | 0, .scr _, h => by cases h
  | n + 1, .scr _, h => by cases h
  | 0, .dct _ _, h => by cases h
  | n + 1, .dct _ _, h => by cases h
  | 0, .dcT _ _, h => by cases h
  | n + 1, .dcT _ _, h => by cases h
  | 0, .ins _ _ _, h => by cases h
  | n + 1, .ins _ _ _, h => by cases h
  | 0, .exc _ _ _ _ _, h => by cases h
  | n + 1, .exc _ _ _ _ _, h => by cases h
theorem smD_le {n m : Nat} {d : D} (h : Sm.smD n d = true) (hm : n ≤ m) : Sm.smD m d = true := by
  induction hm with
  | refl => exact h
  | step _ ih => exact smD_mono _ _ ih
theorem sm_tup {n : Nat} {x : Str} {d : D} (h : Sm.smD n d = true) : Sm.smD (n + 1) (.tup [.str x, d]) = true := by
  rw [Sm.smD, Bool.and_eq_true, List.all_eq_true]
  refine ⟨decide_eq_true (by show 2 ≤ 1000000; decide), fun e he => ?_⟩
  rcases List.mem_cons.mp he with he | he
  · rw [he]; cases n <;> rfl
  · rw [List.mem_singleton] at he; rw [he]; exact h
theorem tree_sm : ∀ (m : Nat) (p : Pt), m ≤ 5 → TreeOk m p → Sm.smD (2 * m + 1) (eP p) = true := fun m => Nat.strongRecOn m fun m ih p h5 hp => by
  have hpt := tree_parts m p hp
  have many : ∀ (x : Str) (qs : List Pt) (b : Bool), PartsOk m qs b → qs.length ≤ 1000 → Sm.smD (2 * m + 1) (.tup [.str x, .tup (ePs qs)]) = true := fun x qs b hq hl => by
    obtain ⟨m', rfl⟩ : ∃ m', m = m' + 1 := by
      have h2 := hq.1
      obtain ⟨⟨k, hk, _⟩, _⟩ := hq.2 (qs[0]'(by omega)) (List.getElem_mem _)
      exact ⟨m - 1, by omega⟩
    refine sm_tup (n := 2 * m' + 2) ?_
    rw [Sm.smD, Bool.and_eq_true, List.all_eq_true]
    refine ⟨decide_eq_true (by rw [ePs_eq, List.length_map]; omega), fun e he => ?_⟩
    rw [ePs_eq] at he
    obtain ⟨q, hq', rfl⟩ := List.mem_map.mp he
    obtain ⟨⟨k, h1, h2⟩, _⟩ := hq.2 q hq'
    exact smD_le (ih k h1 q (by omega) h2) (by omega)
  cases p with
  | chars cs => exact smD_le (n := 1) (sm_tup (n := 0) rfl) (by omega)
  | row qs => exact many "row" qs true hpt (qlen h5 (lvs_row hp))
  | either qs => exact many "either" qs false hpt (qlen h5 (lvs_eit hp))
  | star q => obtain ⟨k, h1, h2⟩ := hpt; exact smD_le (sm_tup (ih k h1 q (by omega) h2)) (by omega)
  | plus q => obtain ⟨k, h1, h2⟩ := hpt; exact smD_le (sm_tup (ih k h1 q (by omega) h2)) (by omega)
  | maybe q => obtain ⟨k, h1, h2⟩ := hpt; exact smD_le (sm_tup (ih k h1 q (by omega) h2)) (by omega)
theorem call_tree {n : Nat} {d : Int} {k : W → Sto → Prop} {ex : DX} (h0 : 0 ≤ d) (h1 : d.toNat < n) (h5 : d ≤ 5) (hk : ∀ p, TreeOk d.toNat p → k (.im (eP p)) [.pool]) : callD (pf_Ltree n) [0] [.loc 0, .im (.int d)] [.pool] k ex := ⟨rfl, h0, h1, h5, hk⟩
theorem call_can {n m : Nat} {q : Pt} {st : Sto} {k : W → Sto → Prop} {ex : DX} (hm : m < n) (h5 : m ≤ 5) (hq : TreeOk m q) (hk : k (.im (.str (S (canL q)))) st) : callD (pf_Lcanonical n) [] [.im (eP q)] st k ex := ⟨rfl, q, m, rfl, hm, h5, hq, hk⟩
theorem call_read {t : List Nat} {p : Pt} {st : Sto} {k : W → Sto → Prop} {ex : DX} (hl : t.length ≤ 100000) (h : altP 26 t 0 = .ok p t.length) (hk : k (.im (eP p)) st) : callD pf_read_pattern [] [.im (.str (S t))] st k ex := by
  refine ⟨rfl, t, rfl, hl, ?_⟩
  rw [h]
  show if t.length < t.length then _ else _
  rw [if_neg (Nat.lt_irrefl _)]
  exact hk
def lawB : DS := (sRet (dCall (pf_Lsame 12) (aCons (dCall (pf_cbe 8) (aCons (dV 3) aNil)) (aCons (dCall (pf_Lempty 8) (aCons (dV 3) aNil)) aNil))))
def lawA : DS :=
 (sSeq (sIf (dOr (dNot (dTru (dCall (pf_Lsame 12) (aCons (dI (dC (.str (S alph)))) (aCons (dV 2) aNil))))) (dNot (dTru (dCall (pf_Lsame 12) (aCons (dCall pf_read_pattern (aCons (dV 4) aNil)) (aCons (dV 3) aNil)))))) (sRet (dI (dC (.bl false)))) sNext)
 (sSeq (sIf (dOr (dNot (dTru (dCall (pf_Lsame 12) (aCons (dCall (pf_write 12) (aCons (dV 3) aNil)) (aCons (dV 5) aNil))))) (dNot (dTru (dCall (pf_Lsame 12) (aCons (dCall pf_read_pattern (aCons (dV 5) aNil)) (aCons (dV 3) aNil)))))) (sRet (dI (dC (.bl false)))) sNext)
 lawB))
theorem lawA_ok {m : Nat} {p : Pt} (hp : TreeOk m p) (hm : m ≤ 4) {w : List Nat} (hw : altP 26 w 0 = .ok p w.length) (hl : w.length ≤ 100000) {w0 : Option W} {k : W → Sto → Prop} {ex : DX} (hk : k (.im (.bl true)) []) : lawA (EnD false 0 k ex) [w0, some (.loc 0), some (.im (.str (S alph))), some (.im (eP p)), some (.im (.str (S w))), some (.im (.str (S (canL p))))] [.pool] := by
  have hs := smD_le (tree_sm m p (by omega) hp) (show 2 * m + 1 ≤ 11 by omega)
  have hc := tree_len m p hp
  have h3 : 3 ^ m ≤ 3 ^ 4 := Nat.pow_le_pow_right (by decide) hm
  have hrd : altP 26 (canL p) 0 = .ok p (canL p).length := by
    have := rdA (tr_all m) hp (n := 25) (by omega) (t := canL p) (i := 0) (r := []) (by rw [List.drop_zero, List.append_nil]) (.inl rfl)
    rw [Nat.zero_add] at this
    exact this
  refine Sm.call_same (n := 12) (by decide) rfl (twoF ?_)
  refine call_read hl hw (Sm.call_same (n := 12) (by decide) hs (twoF ?_))
  refine call_write (n := 12) (by omega) (by omega) hp (Sm.call_same (n := 12) (by decide) rfl (twoF ?_))
  refine call_read (by omega) hrd (Sm.call_same (n := 12) (by decide) hs (twoF ?_))
  refine call_cbe (n := 8) (by omega) (by omega) hp ?_
  refine call_cbe (n := 8) (by omega) (by omega) hp ?_
  exact Sm.call_same (n := 12) (by decide) rfl hk
theorem r_law : ∀ ws st k ex, pf_law ws st k ex → t_law (EnD false st.length k ex) (startD N_law ws) st := by
  intro ws st k ex h
  unfold pf_law at h
  split at h
  · rename_i ns
    obtain ⟨hn, hk⟩ := h
    unfold t_law
    rw [alph_eq]
    refine ⟨rfl, hn, ?_⟩
    refine takeR (r := []) (by decide) (by decide) fun d h0 h1 => ?_
    refine call_tree (n := 6) (d := 1 + d) (by omega) (by omega) (by omega) fun p hp => ?_
    have hm : (1 + d).toNat ≤ 4 := by omega
    have h4 : (1 + d).toNat < 6 := by omega
    generalize (1 + d).toNat = m at hp hm h4
    have h3 : 3 ^ m ≤ 3 ^ 4 := Nat.pow_le_pow_right (by decide) hm
    have hlv := tree_lv m p hp
    refine call_spelled (n := 6) (m := m) h4 (by omega) hp fun v hv => ?_
    obtain ⟨hv1, hv2⟩ := hv
    have hb : (1000 + 20 * m) * lv p ≤ 1080 * 81 := Nat.mul_le_mul (by omega) (by omega)
    refine call_wrapped (by omega) fun j hj _ => ?_
    have hpl := parN_len j v
    refine call_can (n := 6) h4 (by omega) hp ?_
    have hal := (hv1.wrap (std_tree hp) hj).1.al 25 (by omega)
    have hrd := al_read hal (t := parN j v) (i := 0) (r := []) (by rw [List.drop_zero, List.append_nil]) (.inl rfl)
    rw [Nat.zero_add] at hrd
    exact lawA_ok hp hm hrd (by omega) hk
  · exact h.elim
theorem pf_part0 : ∀ ws st k ex, ¬ pf_part_text 0 ws st k ex := fun ws st k ex h => by
  unfold pf_part_text at h
  split at h
  · obtain ⟨p, m, b, _, _, h, _⟩ := h; exact absurd h (Nat.not_lt_zero _)
  · exact h
theorem pf_write0 : ∀ ws st k ex, ¬ pf_write 0 ws st k ex := fun ws st k ex h => by
  unfold pf_write at h
  split at h
  · obtain ⟨p, m, _, h, _⟩ := h; exact absurd h (Nat.not_lt_zero _)
  · exact h
theorem pf_cbe0 : ∀ ws st k ex, ¬ pf_cbe 0 ws st k ex := fun ws st k ex h => by
  unfold pf_cbe at h
  split at h
  · obtain ⟨p, m, _, h, _⟩ := h; exact absurd h (Nat.not_lt_zero _)
  · exact h
theorem pf_Lspelled0 : ∀ ws st k ex, ¬ pf_Lspelled 0 ws st k ex := fun ws st k ex h => by
  unfold pf_Lspelled at h
  split at h
  · obtain ⟨p, m, _, h, _⟩ := h; exact absurd h (Nat.not_lt_zero _)
  · exact h
theorem pf_Ltree0 : ∀ ws st k ex, ¬ pf_Ltree 0 ws st k ex := fun ws st k ex h => by
  unfold pf_Ltree at h
  split at h
  · exact absurd h.2.1 (Nat.not_lt_zero _)
  · exact h
theorem pf_Lcanonical0 : ∀ ws st k ex, ¬ pf_Lcanonical 0 ws st k ex := fun ws st k ex h => by
  unfold pf_Lcanonical at h
  split at h
  · obtain ⟨p, m, _, h, _⟩ := h
    exact absurd h (Nat.not_lt_zero _)
  · exact h
end Dl.Qt
end

section
set_option maxHeartbeats 0
namespace Co.QtF
open PySem PySem.Spec PyProof.Rows L2 Co
def top (i : Nat) : Stmt := PySem.Challenge.pw_tongues_k06_patterns_read.main.body.getD i (.Pass ⟨0, 0, 0, 0⟩)
abbrev s_BadPattern_init : Stmt := inClass (top 2) 0
def df_BadPattern_init : He.DefD := ⟨("BadPattern", some "__init__"), "__init__", "BadPattern.__init__", defArgs s_BadPattern_init, defBody s_BadPattern_init, defScope s_BadPattern_init, [], []⟩
abbrev s_chars_of : Stmt := top 10
def df_chars_of : He.DefD := ⟨("chars_of", none), "chars_of", "chars_of", defArgs s_chars_of, defBody s_chars_of, defScope s_chars_of, [], []⟩
abbrev s_joined : Stmt := top 11
def df_joined : He.DefD := ⟨("joined", none), "joined", "joined", defArgs s_joined, defBody s_joined, defScope s_joined, [], []⟩
abbrev s_PatternReader_init : Stmt := inClass (top 12) 0
def df_PatternReader_init : He.DefD := ⟨("PatternReader", some "__init__"), "__init__", "PatternReader.__init__", defArgs s_PatternReader_init, defBody s_PatternReader_init, defScope s_PatternReader_init, [], []⟩
abbrev s_PatternReader_sign : Stmt := inClass (top 12) 1
def df_PatternReader_sign : He.DefD := ⟨("PatternReader", some "sign"), "sign", "PatternReader.sign", defArgs s_PatternReader_sign, defBody s_PatternReader_sign, defScope s_PatternReader_sign, [], []⟩
abbrev s_PatternReader_escape : Stmt := inClass (top 12) 2
def df_PatternReader_escape : He.DefD := ⟨("PatternReader", some "escape"), "escape", "PatternReader.escape", defArgs s_PatternReader_escape, defBody s_PatternReader_escape, defScope s_PatternReader_escape, [], []⟩
abbrev s_PatternReader_member_character : Stmt := inClass (top 12) 3
def df_PatternReader_member_character : He.DefD := ⟨("PatternReader", some "member_character"), "member_character", "PatternReader.member_character", defArgs s_PatternReader_member_character, defBody s_PatternReader_member_character, defScope s_PatternReader_member_character, [], []⟩
abbrev s_PatternReader_member : Stmt := inClass (top 12) 4
def df_PatternReader_member : He.DefD := ⟨("PatternReader", some "member"), "member", "PatternReader.member", defArgs s_PatternReader_member, defBody s_PatternReader_member, defScope s_PatternReader_member, [], []⟩
abbrev s_PatternReader_characters : Stmt := inClass (top 12) 5
def df_PatternReader_characters : He.DefD := ⟨("PatternReader", some "characters"), "characters", "PatternReader.characters", defArgs s_PatternReader_characters, defBody s_PatternReader_characters, defScope s_PatternReader_characters, [], []⟩
abbrev s_PatternReader_element : Stmt := inClass (top 12) 6
def df_PatternReader_element : He.DefD := ⟨("PatternReader", some "element"), "element", "PatternReader.element", defArgs s_PatternReader_element, defBody s_PatternReader_element, defScope s_PatternReader_element, [], []⟩
abbrev s_PatternReader_part : Stmt := inClass (top 12) 7
def df_PatternReader_part : He.DefD := ⟨("PatternReader", some "part"), "part", "PatternReader.part", defArgs s_PatternReader_part, defBody s_PatternReader_part, defScope s_PatternReader_part, [], []⟩
abbrev s_PatternReader_sequence : Stmt := inClass (top 12) 8
def df_PatternReader_sequence : He.DefD := ⟨("PatternReader", some "sequence"), "sequence", "PatternReader.sequence", defArgs s_PatternReader_sequence, defBody s_PatternReader_sequence, defScope s_PatternReader_sequence, [], []⟩
abbrev s_PatternReader_alternatives : Stmt := inClass (top 12) 9
def df_PatternReader_alternatives : He.DefD := ⟨("PatternReader", some "alternatives"), "alternatives", "PatternReader.alternatives", defArgs s_PatternReader_alternatives, defBody s_PatternReader_alternatives, defScope s_PatternReader_alternatives, [], []⟩
abbrev s_read_pattern : Stmt := top 13
def df_read_pattern : He.DefD := ⟨("read_pattern", none), "read_pattern", "read_pattern", defArgs s_read_pattern, defBody s_read_pattern, defScope s_read_pattern, [], []⟩
abbrev s_character_text : Stmt := top 14
def df_character_text : He.DefD := ⟨("character_text", none), "character_text", "character_text", defArgs s_character_text, defBody s_character_text, defScope s_character_text, [], []⟩
abbrev s_members_of : Stmt := top 15
def df_members_of : He.DefD := ⟨("members_of", none), "members_of", "members_of", defArgs s_members_of, defBody s_members_of, defScope s_members_of, [], []⟩
abbrev s_set_text : Stmt := top 16
def df_set_text : He.DefD := ⟨("set_text", none), "set_text", "set_text", defArgs s_set_text, defBody s_set_text, defScope s_set_text, [], []⟩
abbrev s_part_text : Stmt := top 17
def df_part_text : He.DefD := ⟨("part_text", none), "part_text", "part_text", defArgs s_part_text, defBody s_part_text, defScope s_part_text, [], []⟩
abbrev s_write_pattern : Stmt := top 18
def df_write_pattern : He.DefD := ⟨("write_pattern", none), "write_pattern", "write_pattern", defArgs s_write_pattern, defBody s_write_pattern, defScope s_write_pattern, [], []⟩
abbrev s_can_be_empty : Stmt := top 19
def df_can_be_empty : He.DefD := ⟨("can_be_empty", none), "can_be_empty", "can_be_empty", defArgs s_can_be_empty, defBody s_can_be_empty, defScope s_can_be_empty, [], []⟩
abbrev s_Lpool : Stmt := top 21
abbrev N_Lpool : List Str := ["_law_script", "_law_cell"]
theorem sc_Lpool : FnScope N_Lpool ["_law_script"] (defScope s_Lpool) := ⟨rfl, rfl, rfl, by decide +kernel, rfl, by decide +kernel, by decide +kernel⟩
def df_Lpool : He.DefD := ⟨("_law_pool", none), "_law_pool", "_law_pool", defArgs s_Lpool, defBody s_Lpool, defScope s_Lpool, [], []⟩
abbrev s_Ltake : Stmt := top 22
abbrev N_Ltake : List Str := ["_law_pool_here", "_law_many", "_law_digit", "_law_cell", "_law_mixed"]
theorem sc_Ltake : FnScope N_Ltake ["_law_pool_here", "_law_many"] (defScope s_Ltake) := ⟨rfl, rfl, rfl, by decide +kernel, rfl, by decide +kernel, by decide +kernel⟩
def df_Ltake : He.DefD := ⟨("_law_take", none), "_law_take", "_law_take", defArgs s_Ltake, defBody s_Ltake, defScope s_Ltake, [], []⟩
abbrev s_Lchars : Stmt := top 23
def df_Lchars : He.DefD := ⟨("_law_chars", none), "_law_chars", "_law_chars", defArgs s_Lchars, defBody s_Lchars, defScope s_Lchars, [], []⟩
abbrev s_Lflat : Stmt := top 24
def df_Lflat : He.DefD := ⟨("_law_flat", none), "_law_flat", "_law_flat", defArgs s_Lflat, defBody s_Lflat, defScope s_Lflat, [], []⟩
abbrev s_Ltree : Stmt := top 25
def df_Ltree : He.DefD := ⟨("_law_tree", none), "_law_tree", "_law_tree", defArgs s_Ltree, defBody s_Ltree, defScope s_Ltree, [], []⟩
abbrev s_Lempty : Stmt := top 26
def df_Lempty : He.DefD := ⟨("_law_empty", none), "_law_empty", "_law_empty", defArgs s_Lempty, defBody s_Lempty, defScope s_Lempty, [], []⟩
abbrev s_Lescaped : Stmt := top 27
def df_Lescaped : He.DefD := ⟨("_law_escaped", none), "_law_escaped", "_law_escaped", defArgs s_Lescaped, defBody s_Lescaped, defScope s_Lescaped, [], []⟩
abbrev s_Lruns : Stmt := top 28
def df_Lruns : He.DefD := ⟨("_law_runs", none), "_law_runs", "_law_runs", defArgs s_Lruns, defBody s_Lruns, defScope s_Lruns, [], []⟩
abbrev s_Lset : Stmt := top 29
def df_Lset : He.DefD := ⟨("_law_set", none), "_law_set", "_law_set", defArgs s_Lset, defBody s_Lset, defScope s_Lset, [], []⟩
abbrev s_Lcanonical : Stmt := top 30
def df_Lcanonical : He.DefD := ⟨("_law_canonical", none), "_law_canonical", "_law_canonical", defArgs s_Lcanonical, defBody s_Lcanonical, defScope s_Lcanonical, [], []⟩
abbrev s_Lis_integer : Stmt := top 31
def df_Lis_integer : He.DefD := ⟨("_law_is_integer", none), "_law_is_integer", "_law_is_integer", defArgs s_Lis_integer, defBody s_Lis_integer, defScope s_Lis_integer, [], []⟩
abbrev s_Lsame : Stmt := top 32
def df_Lsame : He.DefD := ⟨("_law_same", none), "_law_same", "_law_same", defArgs s_Lsame, defBody s_Lsame, defScope s_Lsame, [], []⟩
abbrev s_Lspelt : Stmt := top 33
def df_Lspelt : He.DefD := ⟨("_law_spelt", none), "_law_spelt", "_law_spelt", defArgs s_Lspelt, defBody s_Lspelt, defScope s_Lspelt, [], []⟩
abbrev s_Lmembers : Stmt := top 34
def df_Lmembers : He.DefD := ⟨("_law_members", none), "_law_members", "_law_members", defArgs s_Lmembers, defBody s_Lmembers, defScope s_Lmembers, [], []⟩
abbrev s_Lany_set : Stmt := top 35
def df_Lany_set : He.DefD := ⟨("_law_any_set", none), "_law_any_set", "_law_any_set", defArgs s_Lany_set, defBody s_Lany_set, defScope s_Lany_set, [], []⟩
abbrev s_Lwrapped : Stmt := top 36
def df_Lwrapped : He.DefD := ⟨("_law_wrapped", none), "_law_wrapped", "_law_wrapped", defArgs s_Lwrapped, defBody s_Lwrapped, defScope s_Lwrapped, [], []⟩
abbrev s_Lspelled : Stmt := top 37
def df_Lspelled : He.DefD := ⟨("_law_spelled", none), "_law_spelled", "_law_spelled", defArgs s_Lspelled, defBody s_Lspelled, defScope s_Lspelled, [], []⟩
abbrev s_law : Stmt := top 38
def df_law : He.DefD := ⟨("law", none), "law", "law", defArgs s_law, defBody s_law, defScope s_law, [], []⟩
def fn : List He.DefD := [df_BadPattern_init, df_chars_of, df_joined, df_PatternReader_init, df_PatternReader_sign, df_PatternReader_escape, df_PatternReader_member_character, df_PatternReader_member, df_PatternReader_characters, df_PatternReader_element, df_PatternReader_part, df_PatternReader_sequence, df_PatternReader_alternatives, df_read_pattern, df_character_text, df_members_of, df_set_text, df_part_text, df_write_pattern, df_can_be_empty, df_Lpool, df_Ltake, df_Lchars, df_Lflat, df_Ltree, df_Lempty, df_Lescaped, df_Lruns, df_Lset, df_Lcanonical, df_Lis_integer, df_Lsame, df_Lspelt, df_Lmembers, df_Lany_set, df_Lwrapped, df_Lspelled, df_law]
def xs : List Ex := [.oex "BadPattern", .init "BadPattern", .nofld "BadPattern" "position"]
def kds : List (Str × List (Str × He.Dv)) := [("REPEATS", [("*", .str "star"), ("+", .str "plus"), ("?", .str "maybe")]), ("SIGNS", [("star", .str "*"), ("plus", .str "+"), ("maybe", .str "?")])]
def exB (K : PySem.W.Frag) : Bool := (xs.all fun e => e.ok K) && kds.all fun p => Dl.kdB K (He.ga K p.1) p.2
def fa : List He.Fa := [.str "ALPHABET" "\x0a !\"#$&'()*+,-./0123456789:;<=>?@ABCDEFGHIJKLMNOPQRSTUVWXYZ[\\]^_`abcdefghijklmnopqrstuvwxyz{|}~", .free "any", .free "len", .free "tuple", .cls "PatternReader", .noat "PatternReader" "text", .noat "PatternReader" "at", .meth "PatternReader" "sign", .str "ESCAPED" "|*+?()[].\\^-", .glo "BadPattern", .meth "PatternReader" "escape", .str "INSIDE" "]^-\\", .meth "PatternReader" "member_character", .meth "PatternReader" "member", .glo "chars_of", .meth "PatternReader" "alternatives", .meth "PatternReader" "characters", .meth "PatternReader" "element", .glo "REPEATS", .meth "PatternReader" "part", .glo "joined", .meth "PatternReader" "sequence", .mkr "PatternReader", .glo "PatternReader", .str "OUTSIDE" "|*+?()[].\\", .glo "character_text", .glo "members_of", .glo "write_pattern", .glo "set_text", .glo "part_text", .glo "SIGNS", .glo "can_be_empty", .free "all", .free "int", .glo "_law_take", .free "min", .free "list", .glo "_law_chars", .free "range", .glo "_law_tree", .glo "_law_flat", .glo "_law_empty", .glo "_law_escaped", .glo "_law_runs", .glo "_law_set", .glo "_law_canonical", .free "isinstance", .free "bool", .glo "_law_same", .free "str", .glo "_law_is_integer", .glo "_law_spelt", .glo "_law_members", .glo "_law_any_set", .glo "_law_wrapped", .glo "_law_spelled", .glo "_law_pool", .glo "read_pattern", .glo "law"]
section
variable {P : Program} {w : World} {K : PySem.W.Frag} {mg : Str → Option Value} {base : Heap}
theorem ok_Lpool (T : Dl.Fz fa fn xs kds w K mg) : Def P w K mg base 1 (He.ga K "_law_pool") ["_law_script"] (sp_pool K) := by
  obtain ⟨fd, F⟩ := T.c.def_ 20 (d := df_Lpool) rfl
  refine Def.of (k := 0) (N := N_Lpool) F sc_Lpool (fun _ _ _ _ _ _ us hl => match us, hl with | [_], _ => rfl) (fun vs H Q E h => by unfold sp_pool at h; split at h <;> first | rfl | exact h.elim) (fun cdv A outer s H vs Q E hr h => ⟨_, ?_, r_Lpool h⟩)
  exact (pss_one (ps_ret (pe_lst (pa_cons (e_lc (own := [("_law_cell", 1)]) (g := (gName 1)) rfl sc_Lpool.nd (pi_list (va 0)) (blkOk_by (own := [("_law_cell", 1)]) (N := N_Lpool) (sc := defScope s_Lpool) (by decide +kernel)) (fun _ _ _ _ _ => (pg_name (i := 1) sc_Lpool.nd rfl (Or.inl rfl))) (fun _ _ _ _ _ => pts_nil) (fun _ _ _ _ _ => (e_if (t_cmp o_ge (va 1) pe_int (nomark _)) (pe_op o_mul pe_int (va 1)) (pe_op o_sub (pe_op o_mul (pe_un u_neg pe_int) (va 1)) pe_int)))) (pa_cons pe_int (pa_cons pe_int (pa_cons pe_int pa_nil)))))))
theorem ok_Ltake (n : Nat) (T : Dl.Fz fa fn xs kds w K mg) (D_Ltake : Def P w K mg base n (He.ga K "_law_take") ["_law_pool_here", "_law_many"] (sp_take n)) : Def P w K mg base (n + 1) (He.ga K "_law_take") ["_law_pool_here", "_law_many"] (sp_take (n + 1)) := by
  obtain ⟨fd, F⟩ := T.c.def_ 21 (d := df_Ltake) rfl
  refine Def.of (k := n) (N := N_Ltake) F sc_Ltake (fun _ _ _ _ _ _ us hl => match us, hl with | [_, _], _ => rfl) (fun vs H Q E h => by unfold sp_take at h; split at h <;> first | rfl | exact h.elim) (fun cdv A outer s H vs Q E hr h => ⟨_, ?_, r_Ltake (K := K) h⟩)
  exact (pss_cons (s_if (t_cmp o_gt (pe_ix ix_list (va 0) pe_int (fun _ _ => rfl)) pe_int (nomark _)) (pss_cons (ps_set (i := 2) sc_Ltake.nd rfl (Or.inl rfl) (pe_op o_mod (pe_callTy c_int (by rfl) (T.free 33) (by decide +kernel) (pa_cons (pe_ix ix_list (va 0) pe_int (fun _ _ => rfl)) pa_nil)) (va 1)))
 (pss_cons (ps_asg (pe_op o_div (pe_ix ix_list (va 0) pe_int (fun _ _ => rfl)) (va 1)) (pg_sub (va 0) pe_int set_list))
 (pss_one (ps_ret (va 2))))) pss_nil)
 (pss_cons (ps_set (i := 3) sc_Ltake.nd rfl (Or.inl rfl) pe_int)
 (pss_cons (s_if (t_cmp o_lt (pe_ix ix_list (va 0) pe_int (fun _ _ => rfl)) (pe_callB c_lenA (by rfl) (T.free 2) PySem.boot_len (pa_cons (pe_ix ix_list (va 0) pe_int (fun _ _ => rfl)) pa_nil)) (nomark _)) (pss_one (ps_set (i := 3) sc_Ltake.nd rfl (Or.inl rfl) (pe_ix ix_seq (pe_ix ix_list (va 0) pe_int (fun _ _ => rfl)) (pe_ix ix_list (va 0) pe_int (fun _ _ => rfl)) (fun _ _ => rfl)))) pss_nil)
 (pss_cons (ps_asg (pe_op o_add (pe_ix ix_list (va 0) pe_int (fun _ _ => rfl)) pe_int) (pg_sub (va 0) pe_int set_list))
 (pss_cons (s_if (t_cmp o_ge (va 3) (pe_op o_pow pe_int pe_int) (nomark _)) (pss_cons (ps_asg (pe_op o_div (va 3) pe_int) (pg_sub (va 0) pe_int set_list))
 (pss_one (ps_ret (e_call D_Ltake hr rfl (T.glo 34) passL (pa_cons (va 0) (pa_cons (va 1) pa_nil)))))) pss_nil)
 (pss_cons (ps_asg (pe_op o_mod (pe_callTy c_int (by rfl) (T.free 33) (by decide +kernel) (pa_cons (pe_op o_add (pe_op o_add (pe_op o_mul (pe_ix ix_list (va 0) pe_int (fun _ _ => rfl)) pe_int) (pe_op o_mul (va 3) pe_int)) (pe_op o_mul (pe_ix ix_list (va 0) pe_int (fun _ _ => rfl)) pe_int)) pa_nil)) pe_int) (pg_sub (va 0) pe_int set_list))
 (pss_cons (ps_set (i := 4) sc_Ltake.nd rfl (Or.inl rfl) (pe_op o_mod (pe_callTy c_int (by rfl) (T.free 33) (by decide +kernel) (pa_cons (pe_op o_add (pe_op o_add (pe_op o_mul (pe_ix ix_list (va 0) pe_int (fun _ _ => rfl)) (pe_ix ix_list (va 0) pe_int (fun _ _ => rfl))) (pe_op o_mul (pe_ix ix_list (va 0) pe_int (fun _ _ => rfl)) pe_int)) pe_int) pa_nil)) pe_int))
 (pss_one (ps_ret (pe_op o_mod (pe_callTy c_int (by rfl) (T.free 33) (by decide +kernel) (pa_cons (pe_op o_div (va 4) pe_int) pa_nil)) (va 1)))))))))))
theorem no_Ltake (T : Dl.Fz fa fn xs kds w K mg) : Def P w K mg base 0 (He.ga K "_law_take") ["_law_pool_here", "_law_many"] (fun _ _ _ _ => False) := by
  obtain ⟨fd, F⟩ := T.c.def_ 21 (d := df_Ltake) rfl
  exact Def.zero F (fun _ _ _ _ _ _ us hl => match us, hl with | [_, _], _ => rfl)
end
end Co.QtF
namespace Dl.Qt
open PySem PySem.Spec PyProof.Rows L2 Co Co.QtF Dl.Pt
section
variable {P : Program} {w : World} {K : PySem.W.Frag} {mg : Str → Option Value} {base : Heap}
theorem sc_BadPattern_init : FnScope N_BadPattern_init ["self", "position"] (defScope s_BadPattern_init) := ⟨rfl, rfl, rfl, by decide +kernel, rfl, by decide +kernel, by decide +kernel⟩
theorem ok_BadPattern_init (T : Dl.Fz fa fn xs kds w K mg) : Def P w K mg base 1 (He.ma K (He.ga K "BadPattern") "__init__") ["self", "position"] (sp_xinit1 K "position") := by
  obtain ⟨fd, F⟩ := T.c.def_ 0 (d := df_BadPattern_init) rfl
  refine Def.of (k := 0) (N := N_BadPattern_init) F sc_BadPattern_init (fun _ _ _ _ _ _ us hl => match us, hl with | [_, _], _ => rfl) (fun vs H Q E h => by unfold sp_xinit1 at h; split at h <;> first | rfl | exact h.elim) (fun cdv A outer s H vs Q E hr h => ⟨_, ?_, r_xinit1 h⟩)
  exact (pss_one (ps_ost (va 0) (va 1)))
theorem sc_chars_of : FnScope N_chars_of ["members"] (defScope s_chars_of) := ⟨rfl, rfl, rfl, by decide +kernel, rfl, by decide +kernel, by decide +kernel⟩
theorem ok_chars_of (T : Dl.Fz fa fn xs kds w K mg) : Def P w K mg base 1 (He.ga K "chars_of") ["members"] (spD ⟨K, true⟩ pf_chars_of) := by
  obtain ⟨fd, F⟩ := T.c.def_ 1 (d := df_chars_of) rfl
  refine Def.of (k := 0) (N := N_chars_of) F sc_chars_of (fun _ _ _ _ _ _ us hl => match us, hl with | [_], _ => rfl) (spD_len fun ws st k ex h => by unfold pf_chars_of at h; split at h <;> first | rfl | exact h.elim) (fun cdv A outer s H vs Q E hr h => ⟨lS (XN (cxOf (L2.CX P w) P w K mg base N_chars_of df_chars_of.qual df_chars_of.scope (He.ga K "chars_of") cdv A outer s H E) true) (fun cls d _ H => E cls d H) (t_chars_of), ?_, body_ok (kp := false) (Nm := N_chars_of) r_chars_of h⟩)
  exact (ss_one (s_ret (e_I (e_tup (ad_cons (e_con pe_str (fun _ => rfl)) (ad_cons (e_m1 PySem.F.slot_str_join PySem.F.type_str_join m_join ok_join (e_I (e_con pe_str (fun _ => rfl))) (e_I (e_lcD (own := [("one", 1)]) (g := (gN 1)) (gV := (gName 1)) (gok_name (by decide)) rfl sc_chars_of.nd (i_st (e_con (e_gstr rfl (T.strg 0)) (fun _ => rfl))) (blkOk_by (own := [("one", 1)]) (N := N_chars_of) (sc := defScope s_chars_of) (by decide +kernel)) (fun _ _ _ _ _ => (pg_name (i := 1) sc_chars_of.nd rfl (Or.inr rfl))) (fun _ _ _ _ _ => (ts_one (t_tru (e_I (e_cb (cr_any rfl) ok_any (by rfl) (T.free 1) (by decide +kernel) (a_cons (e_I (e_lcD (own := [("first", 2), ("last", 3)]) (g := (gT [(gN 2), (gN 3)])) (gV := (gTup K 2 (gCons (gName 2) (gCons (gName 3) gNil)))) (gok_tup (gsok_cons (gok_name (by decide)) (gsok_cons (gok_name (by decide)) gsok_nil))) rfl sc_chars_of.nd (i_sq (e_D (e_var 0))) (blkOk_by (own := [("first", 2), ("last", 3)]) (N := N_chars_of) (sc := { kind := .function, names := [(".0", .local), ("one", .cell), ("any", .globalImplicit), ("members", .cell)], isGenerator := false, isCoroutine := false }) (by decide +kernel)) (fun _ _ _ _ _ => (pg_tup rfl (pgs_cons (pg_name (i := 2) sc_chars_of.nd rfl (Or.inl rfl)) (pgs_cons (pg_name (i := 3) sc_chars_of.nd rfl (Or.inl rfl)) pgs_nil)))) (fun _ _ _ _ _ => ts_nil) (fun _ _ _ _ _ => (e_chainD o_le' o_le' ok_le ok_le (e_var 2) (e_var 1) (e_var 3))))) a_nil)))))) (fun _ _ _ _ _ => (e_D (e_var 1)))))) ad_nil))))))
theorem sc_joined : FnScope N_joined ["head", "parts"] (defScope s_joined) := ⟨rfl, rfl, rfl, by decide +kernel, rfl, by decide +kernel, by decide +kernel⟩
theorem ok_joined (T : Dl.Fz fa fn xs kds w K mg) : Def P w K mg base 1 (He.ga K "joined") ["head", "parts"] (spD ⟨K, true⟩ pf_joined) := by
  obtain ⟨fd, F⟩ := T.c.def_ 2 (d := df_joined) rfl
  refine Def.of (k := 0) (N := N_joined) F sc_joined (fun _ _ _ _ _ _ us hl => match us, hl with | [_, _], _ => rfl) (spD_len fun ws st k ex h => by unfold pf_joined at h; split at h <;> first | rfl | exact h.elim) (fun cdv A outer s H vs Q E hr h => ⟨lS (XN (cxOf (L2.CX P w) P w K mg base N_joined df_joined.qual df_joined.scope (He.ga K "joined") cdv A outer s H E) true) (fun cls d _ H => E cls d H) (t_joined), ?_, body_ok (kp := false) (Nm := N_joined) r_joined h⟩)
  exact (ss_cons (s_asg (ps_set (i := 2) sc_joined.nd rfl (Or.inl rfl) (e_lstM ad_nil)))
 (ss_cons (s_for (vs := [3]) (gV := (gName 3)) (gok_name (by decide)) (passes_of rfl) rfl (i_sq (e_D (e_var 1))) (pg_name (i := 3) sc_joined.nd rfl (Or.inl rfl))
 (ss_one (s_if (t_cmpD (o_eq' hr.units) ok_eq (e_I (e_ix (e_var 3) (e_con pe_int (fun _ => rfl)))) (e_var 0) (nomark _)) (ss_one (s_ext (ps_expr (pe_bm PySem.F.plainAttrs_list PySem.F.slot_list_extend PySem.F.type_list_extend mt_extendA (e_var 2) (pa_cons (e_I (e_ix (e_var 3) (e_con pe_int (fun _ => rfl)))) pa_nil))))) (ss_one (s_app (ps_expr (pe_bm PySem.F.plainAttrs_list PySem.F.slot_list_append PySem.F.type_list_append mt_append (e_var 2) (pa_cons (e_D (e_var 3)) pa_nil))))))))
 (ss_one (s_ret (e_ifW (t_cmpD (o_eq' hr.units) ok_eq (e_I (e_cb c_lenW ok_len (by rfl) (T.free 2) PySem.boot_len (a_cons (e_var 2) a_nil))) (e_I (e_con pe_int (fun _ => rfl))) (nomark _)) (e_I (e_ix (e_var 2) (e_con pe_int (fun _ => rfl)))) (e_I (e_tup (ad_cons (e_D (e_var 0)) (ad_cons (e_cty call_tuple_of ok_tuple (by rfl) (T.free 3) (by decide +kernel) (a_cons (e_var 2) a_nil)) ad_nil)))))))))
theorem sc_PatternReader_init : FnScope N_PatternReader_init ["self", "text"] (defScope s_PatternReader_init) := ⟨rfl, rfl, rfl, by decide +kernel, rfl, by decide +kernel, by decide +kernel⟩
theorem ok_PatternReader_init (T : Dl.Fz fa fn xs kds w K mg) : Def P w K mg base 1 (He.ma K (He.ga K "PatternReader") "__init__") ["self", "text"] (spD ⟨K, true⟩ pf_PatternReader_init) := by
  obtain ⟨fd, F⟩ := T.c.def_ 3 (d := df_PatternReader_init) rfl
  refine Def.of (k := 0) (N := N_PatternReader_init) F sc_PatternReader_init (fun _ _ _ _ _ _ us hl => match us, hl with | [_, _], _ => rfl) (spD_len fun ws st k ex h => by unfold pf_PatternReader_init at h; split at h <;> first | rfl | exact h.elim) (fun cdv A outer s H vs Q E hr h => ⟨lS (XN (cxOf (L2.CX P w) P w K mg base N_PatternReader_init df_PatternReader_init.qual df_PatternReader_init.scope (He.ma K (He.ga K "PatternReader") "__init__") cdv A outer s H E) true) (fun cls d _ H => E cls d H) (t_PatternReader_init), ?_, body_ok (kp := false) (Nm := N_PatternReader_init) r_PatternReader_init h⟩)
  exact (ss_cons (s_fld (T.cls 4) (T.noat 5) (e_var 0) (e_var 1))
 (ss_one (s_fld (T.cls 4) (T.noat 6) (e_var 0) (e_I (e_con pe_int (fun _ => rfl))))))
theorem sc_PatternReader_sign : FnScope N_PatternReader_sign ["self"] (defScope s_PatternReader_sign) := ⟨rfl, rfl, rfl, by decide +kernel, rfl, by decide +kernel, by decide +kernel⟩
theorem ok_PatternReader_sign (T : Dl.Fz fa fn xs kds w K mg) : Def P w K mg base 1 (He.ma K (He.ga K "PatternReader") "sign") ["self"] (spD ⟨K, true⟩ pf_PatternReader_sign) := by
  obtain ⟨fd, F⟩ := T.c.def_ 4 (d := df_PatternReader_sign) rfl
  refine Def.of (k := 0) (N := N_PatternReader_sign) F sc_PatternReader_sign (fun _ _ _ _ _ _ us hl => match us, hl with | [_], _ => rfl) (spD_len fun ws st k ex h => by unfold pf_PatternReader_sign at h; split at h <;> first | rfl | exact h.elim) (fun cdv A outer s H vs Q E hr h => ⟨lS (XN (cxOf (L2.CX P w) P w K mg base N_PatternReader_sign df_PatternReader_sign.qual df_PatternReader_sign.scope (He.ma K (He.ga K "PatternReader") "sign") cdv A outer s H E) true) (fun cls d _ H => E cls d H) (t_PatternReader_sign), ?_, body_ok (kp := false) (Nm := N_PatternReader_sign) r_PatternReader_sign h⟩)
  exact (ss_one (s_ret (e_I (e_sl (e_fld (T.cls 4) (T.noat 5) (e_var 0)) (o_some (e_D (e_fld (T.cls 4) (T.noat 6) (e_var 0)))) (o_some (e_op o_add' ok_add (e_D (e_fld (T.cls 4) (T.noat 6) (e_var 0))) (e_con pe_int (fun _ => rfl))))))))
theorem sc_PatternReader_escape : FnScope N_PatternReader_escape ["self"] (defScope s_PatternReader_escape) := ⟨rfl, rfl, rfl, by decide +kernel, rfl, by decide +kernel, by decide +kernel⟩
theorem ok_PatternReader_escape (T : Dl.Fz fa fn xs kds w K mg) (D_PatternReader_sign : Def P w K mg base 1 (He.ma K (He.ga K "PatternReader") "sign") ["self"] (spD ⟨K, true⟩ pf_PatternReader_sign)) (D_BadPattern_init : Def P w K mg base 1 (He.ma K (He.ga K "BadPattern") "__init__") ["self", "position"] (sp_xinit1 K "position")) : Def P w K mg base 3 (He.ma K (He.ga K "PatternReader") "escape") ["self"] (spD ⟨K, true⟩ pf_PatternReader_escape) := by
  obtain ⟨fd, F⟩ := T.c.def_ 5 (d := df_PatternReader_escape) rfl
  refine Def.of (k := 2) (N := N_PatternReader_escape) F sc_PatternReader_escape (fun _ _ _ _ _ _ us hl => match us, hl with | [_], _ => rfl) (spD_len fun ws st k ex h => by unfold pf_PatternReader_escape at h; split at h <;> first | rfl | exact h.elim) (fun cdv A outer s H vs Q E hr h => ⟨lS (XN (cxOf (L2.CX P w) P w K mg base N_PatternReader_escape df_PatternReader_escape.qual df_PatternReader_escape.scope (He.ma K (He.ga K "PatternReader") "escape") cdv A outer s H E) true) (fun cls d _ H => E cls d H) (t_PatternReader_escape), ?_, body_ok (kp := false) (Nm := N_PatternReader_escape) r_PatternReader_escape h⟩)
  exact (ss_cons (s_fldaug (T.cls 4) (T.noat 6) (e_var 0) (e_con pe_int (fun _ => rfl)) in_add ok_inadd)
 (ss_cons (s_asg (ps_set (i := 1) sc_PatternReader_escape.nd rfl (Or.inl rfl) (e_meth0 (e_var 0) (T.cls 4) (T.meth 7) D_PatternReader_sign (hr.mono (by decide)) (fun σ => passAt (takes_of rfl rfl rfl rfl) σ))))
 (ss_cons (s_if (PW.pt (w_or (t_cmpD (o_eq' hr.units) ok_eq (e_var 1) (e_I (e_con pe_str (fun _ => rfl))) (nomark _)) (w_or1 (PW.pt (w_and (t_cmpD (o_ne' hr.units) ok_ne (e_var 1) (e_I (e_con pe_str (fun _ => rfl))) (nomark _)) (w_and1 (t_cmpD (o_notIn hr.units65) ok_notIn (e_var 1) (e_I (e_con (e_gstr rfl (T.strg 8)) (fun _ => rfl))) (by rfl)))))))) (ss_one (s_raise1 (s_raiseO rfl (takes_of rfl rfl rfl rfl) (ex_oex (T.more 0)) (ex_init (T.more 1)) D_BadPattern_init (hr.mono (by decide)) rfl (T.glo 9) (pa_cons (e_D (e_fld (T.cls 4) (T.noat 6) (e_var 0))) pa_nil)) (ex_oex (T.more 0)) (ex_nofld (T.more 2)))) ss_nil)
 (ss_cons (s_fldaug (T.cls 4) (T.noat 6) (e_var 0) (e_con pe_int (fun _ => rfl)) in_add ok_inadd)
 (ss_one (s_ret (e_ifW (t_cmpD (o_eq' hr.units) ok_eq (e_var 1) (e_I (e_con pe_str (fun _ => rfl))) (nomark _)) (e_I (e_con pe_str (fun _ => rfl))) (e_var 1))))))))
theorem sc_PatternReader_member_character : FnScope N_PatternReader_member_character ["self"] (defScope s_PatternReader_member_character) := ⟨rfl, rfl, rfl, by decide +kernel, rfl, by decide +kernel, by decide +kernel⟩
theorem ok_PatternReader_member_character (T : Dl.Fz fa fn xs kds w K mg) (D_PatternReader_sign : Def P w K mg base 1 (He.ma K (He.ga K "PatternReader") "sign") ["self"] (spD ⟨K, true⟩ pf_PatternReader_sign)) (D_PatternReader_escape : Def P w K mg base 3 (He.ma K (He.ga K "PatternReader") "escape") ["self"] (spD ⟨K, true⟩ pf_PatternReader_escape)) (D_BadPattern_init : Def P w K mg base 1 (He.ma K (He.ga K "BadPattern") "__init__") ["self", "position"] (sp_xinit1 K "position")) : Def P w K mg base 4 (He.ma K (He.ga K "PatternReader") "member_character") ["self"] (spD ⟨K, true⟩ pf_PatternReader_member_character) := by
  obtain ⟨fd, F⟩ := T.c.def_ 6 (d := df_PatternReader_member_character) rfl
  refine Def.of (k := 3) (N := N_PatternReader_member_character) F sc_PatternReader_member_character (fun _ _ _ _ _ _ us hl => match us, hl with | [_], _ => rfl) (spD_len fun ws st k ex h => by unfold pf_PatternReader_member_character at h; split at h <;> first | rfl | exact h.elim) (fun cdv A outer s H vs Q E hr h => ⟨lS (XN (cxOf (L2.CX P w) P w K mg base N_PatternReader_member_character df_PatternReader_member_character.qual df_PatternReader_member_character.scope (He.ma K (He.ga K "PatternReader") "member_character") cdv A outer s H E) true) (fun cls d _ H => E cls d H) (t_PatternReader_member_character), ?_, body_ok (kp := false) (Nm := N_PatternReader_member_character) r_PatternReader_member_character h⟩)
  exact (ss_cons (s_asg (ps_set (i := 1) sc_PatternReader_member_character.nd rfl (Or.inl rfl) (e_meth0 (e_var 0) (T.cls 4) (T.meth 7) D_PatternReader_sign (hr.mono (by decide)) (fun σ => passAt (takes_of rfl rfl rfl rfl) σ))))
 (ss_cons (s_if (t_cmpD (o_eq' hr.units) ok_eq (e_var 1) (e_I (e_con pe_str (fun _ => rfl))) (nomark _)) (ss_one (s_ret (e_meth0 (e_var 0) (T.cls 4) (T.meth 10) D_PatternReader_escape (hr.mono (by decide)) (fun σ => passAt (takes_of rfl rfl rfl rfl) σ)))) ss_nil)
 (ss_cons (s_if (PW.pt (w_or (t_cmpD (o_eq' hr.units) ok_eq (e_var 1) (e_I (e_con pe_str (fun _ => rfl))) (nomark _)) (w_or1 (t_cmpD (o_in hr.units65) ok_in (e_var 1) (e_I (e_con (e_gstr rfl (T.strg 11)) (fun _ => rfl))) (by rfl))))) (ss_one (s_raise1 (s_raiseO rfl (takes_of rfl rfl rfl rfl) (ex_oex (T.more 0)) (ex_init (T.more 1)) D_BadPattern_init (hr.mono (by decide)) rfl (T.glo 9) (pa_cons (e_D (e_fld (T.cls 4) (T.noat 6) (e_var 0))) pa_nil)) (ex_oex (T.more 0)) (ex_nofld (T.more 2)))) ss_nil)
 (ss_cons (s_fldaug (T.cls 4) (T.noat 6) (e_var 0) (e_con pe_int (fun _ => rfl)) in_add ok_inadd)
 (ss_one (s_ret (e_var 1)))))))
theorem sc_PatternReader_member : FnScope N_PatternReader_member ["self"] (defScope s_PatternReader_member) := ⟨rfl, rfl, rfl, by decide +kernel, rfl, by decide +kernel, by decide +kernel⟩
theorem ok_PatternReader_member (T : Dl.Fz fa fn xs kds w K mg) (D_PatternReader_member_character : Def P w K mg base 4 (He.ma K (He.ga K "PatternReader") "member_character") ["self"] (spD ⟨K, true⟩ pf_PatternReader_member_character)) (D_PatternReader_sign : Def P w K mg base 1 (He.ma K (He.ga K "PatternReader") "sign") ["self"] (spD ⟨K, true⟩ pf_PatternReader_sign)) (D_BadPattern_init : Def P w K mg base 1 (He.ma K (He.ga K "BadPattern") "__init__") ["self", "position"] (sp_xinit1 K "position")) : Def P w K mg base 5 (He.ma K (He.ga K "PatternReader") "member") ["self"] (spD ⟨K, true⟩ pf_PatternReader_member) := by
  obtain ⟨fd, F⟩ := T.c.def_ 7 (d := df_PatternReader_member) rfl
  refine Def.of (k := 4) (N := N_PatternReader_member) F sc_PatternReader_member (fun _ _ _ _ _ _ us hl => match us, hl with | [_], _ => rfl) (spD_len fun ws st k ex h => by unfold pf_PatternReader_member at h; split at h <;> first | rfl | exact h.elim) (fun cdv A outer s H vs Q E hr h => ⟨lS (XN (cxOf (L2.CX P w) P w K mg base N_PatternReader_member df_PatternReader_member.qual df_PatternReader_member.scope (He.ma K (He.ga K "PatternReader") "member") cdv A outer s H E) true) (fun cls d _ H => E cls d H) (t_PatternReader_member), ?_, body_ok (kp := false) (Nm := N_PatternReader_member) r_PatternReader_member h⟩)
  exact (ss_cons (s_asg (ps_set (i := 1) sc_PatternReader_member.nd rfl (Or.inl rfl) (e_meth0 (e_var 0) (T.cls 4) (T.meth 12) D_PatternReader_member_character (hr.mono (by decide)) (fun σ => passAt (takes_of rfl rfl rfl rfl) σ))))
 (ss_cons (s_if (t_cmpD (o_ne' hr.units) ok_ne (e_meth0 (e_var 0) (T.cls 4) (T.meth 7) D_PatternReader_sign (hr.mono (by decide)) (fun σ => passAt (takes_of rfl rfl rfl rfl) σ)) (e_I (e_con pe_str (fun _ => rfl))) (nomark _)) (ss_one (s_ret (e_I (e_tup (ad_cons (e_D (e_var 1)) (ad_cons (e_D (e_var 1)) ad_nil)))))) ss_nil)
 (ss_cons (s_fldaug (T.cls 4) (T.noat 6) (e_var 0) (e_con pe_int (fun _ => rfl)) in_add ok_inadd)
 (ss_cons (s_asg (ps_set (i := 2) sc_PatternReader_member.nd rfl (Or.inl rfl) (e_fld (T.cls 4) (T.noat 6) (e_var 0))))
 (ss_cons (s_asg (ps_set (i := 3) sc_PatternReader_member.nd rfl (Or.inl rfl) (e_meth0 (e_var 0) (T.cls 4) (T.meth 12) D_PatternReader_member_character (hr.mono (by decide)) (fun σ => passAt (takes_of rfl rfl rfl rfl) σ))))
 (ss_cons (s_if (t_cmpD o_lt' ok_lt (e_var 3) (e_var 1) (nomark _)) (ss_one (s_raise1 (s_raiseO rfl (takes_of rfl rfl rfl rfl) (ex_oex (T.more 0)) (ex_init (T.more 1)) D_BadPattern_init (hr.mono (by decide)) rfl (T.glo 9) (pa_cons (e_D (e_var 2)) pa_nil)) (ex_oex (T.more 0)) (ex_nofld (T.more 2)))) ss_nil)
 (ss_one (s_ret (e_I (e_tup (ad_cons (e_D (e_var 1)) (ad_cons (e_D (e_var 3)) ad_nil))))))))))))
theorem sc_PatternReader_characters : FnScope N_PatternReader_characters ["self"] (defScope s_PatternReader_characters) := ⟨rfl, rfl, rfl, by decide +kernel, rfl, by decide +kernel, by decide +kernel⟩
theorem ok_PatternReader_characters (T : Dl.Fz fa fn xs kds w K mg) (D_PatternReader_sign : Def P w K mg base 1 (He.ma K (He.ga K "PatternReader") "sign") ["self"] (spD ⟨K, true⟩ pf_PatternReader_sign)) (D_PatternReader_member : Def P w K mg base 5 (He.ma K (He.ga K "PatternReader") "member") ["self"] (spD ⟨K, true⟩ pf_PatternReader_member)) (D_chars_of : Def P w K mg base 1 (He.ga K "chars_of") ["members"] (spD ⟨K, true⟩ pf_chars_of)) (D_BadPattern_init : Def P w K mg base 1 (He.ma K (He.ga K "BadPattern") "__init__") ["self", "position"] (sp_xinit1 K "position")) : Def P w K mg base 6 (He.ma K (He.ga K "PatternReader") "characters") ["self"] (spD ⟨K, true⟩ pf_PatternReader_characters) := by
  obtain ⟨fd, F⟩ := T.c.def_ 8 (d := df_PatternReader_characters) rfl
  refine Def.of (k := 5) (N := N_PatternReader_characters) F sc_PatternReader_characters (fun _ _ _ _ _ _ us hl => match us, hl with | [_], _ => rfl) (spD_len fun ws st k ex h => by unfold pf_PatternReader_characters at h; split at h <;> first | rfl | exact h.elim) (fun cdv A outer s H vs Q E hr h => ⟨lS (XN (cxOf (L2.CX P w) P w K mg base N_PatternReader_characters df_PatternReader_characters.qual df_PatternReader_characters.scope (He.ma K (He.ga K "PatternReader") "characters") cdv A outer s H E) true) (fun cls d _ H => E cls d H) (t_PatternReader_characters), ?_, body_ok (kp := false) (Nm := N_PatternReader_characters) r_PatternReader_characters h⟩)
  exact (ss_cons (s_asg (ps_set (i := 1) sc_PatternReader_characters.nd rfl (Or.inl rfl) (e_I (e_cmpD (o_eq' hr.units) ok_eq (e_meth0 (e_var 0) (T.cls 4) (T.meth 7) D_PatternReader_sign (hr.mono (by decide)) (fun σ => passAt (takes_of rfl rfl rfl rfl) σ)) (e_I (e_con pe_str (fun _ => rfl))) (nomark _)))))
 (ss_cons (s_if (t_tru (e_var 1)) (ss_one (s_fldaug (T.cls 4) (T.noat 6) (e_var 0) (e_con pe_int (fun _ => rfl)) in_add ok_inadd)) ss_nil)
 (ss_cons (s_asg (ps_set (i := 2) sc_PatternReader_characters.nd rfl (Or.inl rfl) (e_lstM (ad_cons (e_D (e_meth0 (e_var 0) (T.cls 4) (T.meth 13) D_PatternReader_member (hr.mono (by decide)) (fun σ => passAt (takes_of rfl rfl rfl rfl) σ))) ad_nil))))
 (ss_cons (s_while (passes_of rfl) (t_cmpD (o_ne' hr.units) ok_ne (e_meth0 (e_var 0) (T.cls 4) (T.meth 7) D_PatternReader_sign (hr.mono (by decide)) (fun σ => passAt (takes_of rfl rfl rfl rfl) σ)) (e_I (e_con pe_str (fun _ => rfl))) (nomark _))
 (ss_one (s_app (ps_expr (pe_bm PySem.F.plainAttrs_list PySem.F.slot_list_append PySem.F.type_list_append mt_append (e_var 2) (pa_cons (e_D (e_meth0 (e_var 0) (T.cls 4) (T.meth 13) D_PatternReader_member (hr.mono (by decide)) (fun σ => passAt (takes_of rfl rfl rfl rfl) σ))) pa_nil))))))
 (ss_cons (s_asg (ps_set (i := 3) sc_PatternReader_characters.nd rfl (Or.inr rfl) (e_call D_chars_of (hr.mono (by decide)) rfl (T.glo 14) (fun σ => passAt (takes_of rfl rfl rfl rfl) σ) (a_cons (e_I (e_D (e_var 2))) a_nil))))
 (ss_cons (s_if (t_tru (e_var 1)) (ss_one (s_asg (ps_set (i := 3) sc_PatternReader_characters.nd rfl (Or.inr rfl) (e_I (e_tup (ad_cons (e_con pe_str (fun _ => rfl)) (ad_cons (e_m1 PySem.F.slot_str_join PySem.F.type_str_join m_join ok_join (e_I (e_con pe_str (fun _ => rfl))) (e_I (e_lcD (own := [("one", 4)]) (g := (gN 4)) (gV := (gName 4)) (gok_name (by decide)) rfl sc_PatternReader_characters.nd (i_st (e_con (e_gstr rfl (T.strg 0)) (fun _ => rfl))) (blkOk_by (own := [("one", 4)]) (N := N_PatternReader_characters) (sc := defScope s_PatternReader_characters) (by decide +kernel)) (fun _ _ _ _ _ => (pg_name (i := 4) sc_PatternReader_characters.nd rfl (Or.inl rfl))) (fun _ _ _ _ _ => (ts_one (t_cmpD (o_notIn hr.units65) ok_notIn (e_var 4) (e_I (e_ix (e_var 3) (e_con pe_int (fun _ => rfl)))) (by rfl)))) (fun _ _ _ _ _ => (e_D (e_var 4)))))) ad_nil))))))) ss_nil)
 (ss_cons (s_if (t_cmpD (o_eq' hr.units) ok_eq (e_I (e_ix (e_var 3) (e_con pe_int (fun _ => rfl)))) (e_I (e_con pe_str (fun _ => rfl))) (nomark _)) (ss_one (s_raise1 (s_raiseO rfl (takes_of rfl rfl rfl rfl) (ex_oex (T.more 0)) (ex_init (T.more 1)) D_BadPattern_init (hr.mono (by decide)) rfl (T.glo 9) (pa_cons (e_D (e_fld (T.cls 4) (T.noat 6) (e_var 0))) pa_nil)) (ex_oex (T.more 0)) (ex_nofld (T.more 2)))) ss_nil)
 (ss_cons (s_fldaug (T.cls 4) (T.noat 6) (e_var 0) (e_con pe_int (fun _ => rfl)) in_add ok_inadd)
 (ss_one (s_ret (e_var 3)))))))))))
theorem sc_PatternReader_element : FnScope N_PatternReader_element ["self"] (defScope s_PatternReader_element) := ⟨rfl, rfl, rfl, by decide +kernel, rfl, by decide +kernel, by decide +kernel⟩
theorem ok_PatternReader_element (n : Nat) (T : Dl.Fz fa fn xs kds w K mg) (D_PatternReader_sign : Def P w K mg base 1 (He.ma K (He.ga K "PatternReader") "sign") ["self"] (spD ⟨K, true⟩ pf_PatternReader_sign)) (D_PatternReader_escape : Def P w K mg base 3 (He.ma K (He.ga K "PatternReader") "escape") ["self"] (spD ⟨K, true⟩ pf_PatternReader_escape)) (D_BadPattern_init : Def P w K mg base 1 (He.ma K (He.ga K "BadPattern") "__init__") ["self", "position"] (sp_xinit1 K "position")) (D_PatternReader_characters : Def P w K mg base 6 (He.ma K (He.ga K "PatternReader") "characters") ["self"] (spD ⟨K, true⟩ pf_PatternReader_characters)) (D_PatternReader_alternatives : Def P w K mg base (4 * n + 6) (He.ma K (He.ga K "PatternReader") "alternatives") ["self"] (spD ⟨K, true⟩ (pf_alts n))) : Def P w K mg base (4 * n + 7) (He.ma K (He.ga K "PatternReader") "element") ["self"] (spD ⟨K, true⟩ (pf_elem n)) := by
  obtain ⟨fd, F⟩ := T.c.def_ 9 (d := df_PatternReader_element) rfl
  refine Def.of (N := N_PatternReader_element) F sc_PatternReader_element (fun _ _ _ _ _ _ us hl => match us, hl with | [_], _ => rfl) (spD_len fun ws st k ex h => by unfold pf_elem at h; split at h <;> first | rfl | exact h.elim) (fun cdv A outer s H vs Q E hr h => ⟨lS (XN (cxOf (L2.CX P w) P w K mg base N_PatternReader_element df_PatternReader_element.qual df_PatternReader_element.scope (He.ma K (He.ga K "PatternReader") "element") cdv A outer s H E) true) (fun cls d _ H => E cls d H) (t_PatternReader_element n), ?_, body_ok (kp := false) (Nm := N_PatternReader_element) r_PatternReader_element h⟩)
  exact (ss_cons (s_asg (ps_set (i := 1) sc_PatternReader_element.nd rfl (Or.inl rfl) (e_meth0 (e_var 0) (T.cls 4) (T.meth 7) D_PatternReader_sign (hr.mono (by omega)) (fun σ => passAt (takes_of rfl rfl rfl rfl) σ))))
 (ss_cons (s_if (t_cmpD (o_eq' hr.units) ok_eq (e_var 1) (e_I (e_con pe_str (fun _ => rfl))) (nomark _)) (ss_one (s_ret (e_I (e_tup (ad_cons (e_con pe_str (fun _ => rfl)) (ad_cons (e_D (e_meth0 (e_var 0) (T.cls 4) (T.meth 10) D_PatternReader_escape (hr.mono (by omega)) (fun σ => passAt (takes_of rfl rfl rfl rfl) σ))) ad_nil)))))) ss_nil)
 (ss_cons (s_if (t_cmpD (o_eq' hr.units) ok_eq (e_var 1) (e_I (e_con pe_str (fun _ => rfl))) (nomark _)) (ss_cons (s_fldaug (T.cls 4) (T.noat 6) (e_var 0) (e_con pe_int (fun _ => rfl)) in_add ok_inadd)
 (ss_cons (s_asg (ps_set (i := 2) sc_PatternReader_element.nd rfl (Or.inl rfl) (e_meth0 (e_var 0) (T.cls 4) (T.meth 15) D_PatternReader_alternatives (hr.mono (by omega)) (fun σ => passAt (takes_of rfl rfl rfl rfl) σ))))
 (ss_cons (s_if (t_cmpD (o_ne' hr.units) ok_ne (e_meth0 (e_var 0) (T.cls 4) (T.meth 7) D_PatternReader_sign (hr.mono (by omega)) (fun σ => passAt (takes_of rfl rfl rfl rfl) σ)) (e_I (e_con pe_str (fun _ => rfl))) (nomark _)) (ss_one (s_raise1 (s_raiseO rfl (takes_of rfl rfl rfl rfl) (ex_oex (T.more 0)) (ex_init (T.more 1)) D_BadPattern_init (hr.mono (by omega)) rfl (T.glo 9) (pa_cons (e_D (e_fld (T.cls 4) (T.noat 6) (e_var 0))) pa_nil)) (ex_oex (T.more 0)) (ex_nofld (T.more 2)))) ss_nil)
 (ss_cons (s_fldaug (T.cls 4) (T.noat 6) (e_var 0) (e_con pe_int (fun _ => rfl)) in_add ok_inadd)
 (ss_one (s_ret (e_var 2))))))) ss_nil)
 (ss_cons (s_if (PW.pt (w_or (t_cmpD (o_eq' hr.units) ok_eq (e_var 1) (e_I (e_con pe_str (fun _ => rfl))) (nomark _)) (w_or1 (t_cmpD (o_in hr.units65) ok_in (e_var 1) (e_I (e_con pe_str (fun _ => rfl))) (by rfl))))) (ss_one (s_raise1 (s_raiseO rfl (takes_of rfl rfl rfl rfl) (ex_oex (T.more 0)) (ex_init (T.more 1)) D_BadPattern_init (hr.mono (by omega)) rfl (T.glo 9) (pa_cons (e_D (e_fld (T.cls 4) (T.noat 6) (e_var 0))) pa_nil)) (ex_oex (T.more 0)) (ex_nofld (T.more 2)))) ss_nil)
 (ss_cons (s_fldaug (T.cls 4) (T.noat 6) (e_var 0) (e_con pe_int (fun _ => rfl)) in_add ok_inadd)
 (ss_cons (s_if (t_cmpD (o_eq' hr.units) ok_eq (e_var 1) (e_I (e_con pe_str (fun _ => rfl))) (nomark _)) (ss_one (s_ret (e_meth0 (e_var 0) (T.cls 4) (T.meth 16) D_PatternReader_characters (hr.mono (by omega)) (fun σ => passAt (takes_of rfl rfl rfl rfl) σ)))) ss_nil)
 (ss_one (s_ret (e_I (e_tup (ad_cons (e_con pe_str (fun _ => rfl)) (ad_cons (e_D (e_ifW (t_cmpD (o_eq' hr.units) ok_eq (e_var 1) (e_I (e_con pe_str (fun _ => rfl))) (nomark _)) (e_I (e_con (e_gstr rfl (T.strg 0)) (fun _ => rfl))) (e_var 1))) ad_nil))))))))))))
theorem sc_PatternReader_part : FnScope N_PatternReader_part ["self"] (defScope s_PatternReader_part) := ⟨rfl, rfl, rfl, by decide +kernel, rfl, by decide +kernel, by decide +kernel⟩
theorem ok_PatternReader_part (n : Nat) (T : Dl.Fz fa fn xs kds w K mg) (D_PatternReader_sign : Def P w K mg base 1 (He.ma K (He.ga K "PatternReader") "sign") ["self"] (spD ⟨K, true⟩ pf_PatternReader_sign)) (D_PatternReader_element : Def P w K mg base (4 * n + 7) (He.ma K (He.ga K "PatternReader") "element") ["self"] (spD ⟨K, true⟩ (pf_elem n))) : Def P w K mg base (4 * n + 8) (He.ma K (He.ga K "PatternReader") "part") ["self"] (spD ⟨K, true⟩ (pf_part n)) := by
  obtain ⟨fd, F⟩ := T.c.def_ 10 (d := df_PatternReader_part) rfl
  refine Def.of (N := N_PatternReader_part) F sc_PatternReader_part (fun _ _ _ _ _ _ us hl => match us, hl with | [_], _ => rfl) (spD_len fun ws st k ex h => by unfold pf_part at h; split at h <;> first | rfl | exact h.elim) (fun cdv A outer s H vs Q E hr h => ⟨lS (XN (cxOf (L2.CX P w) P w K mg base N_PatternReader_part df_PatternReader_part.qual df_PatternReader_part.scope (He.ma K (He.ga K "PatternReader") "part") cdv A outer s H E) true) (fun cls d _ H => E cls d H) (t_PatternReader_part n), ?_, body_ok (kp := false) (Nm := N_PatternReader_part) r_PatternReader_part h⟩)
  exact (ss_cons (s_asg (ps_set (i := 1) sc_PatternReader_part.nd rfl (Or.inl rfl) (e_meth0 (e_var 0) (T.cls 4) (T.meth 17) D_PatternReader_element (hr.mono (by omega)) (fun σ => passAt (takes_of rfl rfl rfl rfl) σ))))
 (ss_cons (s_if (PW.pt (w_and (t_cmpD (o_ne' hr.units) ok_ne (e_meth0 (e_var 0) (T.cls 4) (T.meth 7) D_PatternReader_sign (hr.mono (by omega)) (fun σ => passAt (takes_of rfl rfl rfl rfl) σ)) (e_I (e_con pe_str (fun _ => rfl))) (nomark _)) (w_and1 (t_glIn (T.gd 0) (pe_glob (v := .ref (He.ga K "REPEATS")) rfl (T.glo 18) rfl) (e_D (e_meth0 (e_var 0) (T.cls 4) (T.meth 7) D_PatternReader_sign (hr.mono (by omega)) (fun σ => passAt (takes_of rfl rfl rfl rfl) σ))) (by rfl))))) (ss_cons (s_asg (ps_set (i := 1) sc_PatternReader_part.nd rfl (Or.inl rfl) (e_I (e_tup (ad_cons (e_glIx (T.gd 0) (pe_glob (v := .ref (He.ga K "REPEATS")) rfl (T.glo 18) rfl) (e_D (e_meth0 (e_var 0) (T.cls 4) (T.meth 7) D_PatternReader_sign (hr.mono (by omega)) (fun σ => passAt (takes_of rfl rfl rfl rfl) σ))) (fun _ _ => rfl)) (ad_cons (e_D (e_var 1)) ad_nil))))))
 (ss_one (s_fldaug (T.cls 4) (T.noat 6) (e_var 0) (e_con pe_int (fun _ => rfl)) in_add ok_inadd))) ss_nil)
 (ss_one (s_ret (e_var 1)))))
theorem sc_PatternReader_sequence : FnScope N_PatternReader_sequence ["self"] (defScope s_PatternReader_sequence) := ⟨rfl, rfl, rfl, by decide +kernel, rfl, by decide +kernel, by decide +kernel⟩
theorem ok_PatternReader_sequence (n : Nat) (T : Dl.Fz fa fn xs kds w K mg) (D_PatternReader_sign : Def P w K mg base 1 (He.ma K (He.ga K "PatternReader") "sign") ["self"] (spD ⟨K, true⟩ pf_PatternReader_sign)) (D_joined : Def P w K mg base 1 (He.ga K "joined") ["head", "parts"] (spD ⟨K, true⟩ pf_joined)) (D_PatternReader_part : Def P w K mg base (4 * n + 8) (He.ma K (He.ga K "PatternReader") "part") ["self"] (spD ⟨K, true⟩ (pf_part n))) : Def P w K mg base (4 * n + 9) (He.ma K (He.ga K "PatternReader") "sequence") ["self"] (spD ⟨K, true⟩ (pf_seq n)) := by
  obtain ⟨fd, F⟩ := T.c.def_ 11 (d := df_PatternReader_sequence) rfl
  refine Def.of (N := N_PatternReader_sequence) F sc_PatternReader_sequence (fun _ _ _ _ _ _ us hl => match us, hl with | [_], _ => rfl) (spD_len fun ws st k ex h => by unfold pf_seq at h; split at h <;> first | rfl | exact h.elim) (fun cdv A outer s H vs Q E hr h => ⟨lS (XN (cxOf (L2.CX P w) P w K mg base N_PatternReader_sequence df_PatternReader_sequence.qual df_PatternReader_sequence.scope (He.ma K (He.ga K "PatternReader") "sequence") cdv A outer s H E) true) (fun cls d _ H => E cls d H) (t_PatternReader_sequence n), ?_, body_ok (kp := false) (Nm := N_PatternReader_sequence) r_PatternReader_sequence h⟩)
  exact (ss_cons (s_asg (ps_set (i := 1) sc_PatternReader_sequence.nd rfl (Or.inl rfl) (e_lstM (ad_cons (e_D (e_meth0 (e_var 0) (T.cls 4) (T.meth 19) D_PatternReader_part (hr.mono (by omega)) (fun σ => passAt (takes_of rfl rfl rfl rfl) σ))) ad_nil))))
 (ss_cons (s_while (passes_of rfl) (PW.pt (w_and (t_cmpD (o_ne' hr.units) ok_ne (e_meth0 (e_var 0) (T.cls 4) (T.meth 7) D_PatternReader_sign (hr.mono (by omega)) (fun σ => passAt (takes_of rfl rfl rfl rfl) σ)) (e_I (e_con pe_str (fun _ => rfl))) (nomark _)) (w_and1 (t_cmpD (o_notIn hr.units65) ok_notIn (e_meth0 (e_var 0) (T.cls 4) (T.meth 7) D_PatternReader_sign (hr.mono (by omega)) (fun σ => passAt (takes_of rfl rfl rfl rfl) σ)) (e_I (e_con pe_str (fun _ => rfl))) (by rfl)))))
 (ss_one (s_app (ps_expr (pe_bm PySem.F.plainAttrs_list PySem.F.slot_list_append PySem.F.type_list_append mt_append (e_var 1) (pa_cons (e_D (e_meth0 (e_var 0) (T.cls 4) (T.meth 19) D_PatternReader_part (hr.mono (by omega)) (fun σ => passAt (takes_of rfl rfl rfl rfl) σ))) pa_nil))))))
 (ss_one (s_ret (e_call D_joined (hr.mono (by omega)) rfl (T.glo 20) (fun σ => passAt (takes_of rfl rfl rfl rfl) σ) (a_cons (e_I (e_con pe_str (fun _ => rfl))) (a_cons (e_I (e_D (e_var 1))) a_nil)))))))
theorem sc_PatternReader_alternatives : FnScope N_PatternReader_alternatives ["self"] (defScope s_PatternReader_alternatives) := ⟨rfl, rfl, rfl, by decide +kernel, rfl, by decide +kernel, by decide +kernel⟩
theorem ok_PatternReader_alternatives (n : Nat) (T : Dl.Fz fa fn xs kds w K mg) (D_PatternReader_sign : Def P w K mg base 1 (He.ma K (He.ga K "PatternReader") "sign") ["self"] (spD ⟨K, true⟩ pf_PatternReader_sign)) (D_joined : Def P w K mg base 1 (He.ga K "joined") ["head", "parts"] (spD ⟨K, true⟩ pf_joined)) (D_PatternReader_sequence : Def P w K mg base (4 * n + 9) (He.ma K (He.ga K "PatternReader") "sequence") ["self"] (spD ⟨K, true⟩ (pf_seq n))) : Def P w K mg base (4 * n + 10) (He.ma K (He.ga K "PatternReader") "alternatives") ["self"] (spD ⟨K, true⟩ (pf_alts (n + 1))) := by
  obtain ⟨fd, F⟩ := T.c.def_ 12 (d := df_PatternReader_alternatives) rfl
  refine Def.of (N := N_PatternReader_alternatives) F sc_PatternReader_alternatives (fun _ _ _ _ _ _ us hl => match us, hl with | [_], _ => rfl) (spD_len fun ws st k ex h => by unfold pf_alts at h; split at h <;> first | rfl | exact h.elim) (fun cdv A outer s H vs Q E hr h => ⟨lS (XN (cxOf (L2.CX P w) P w K mg base N_PatternReader_alternatives df_PatternReader_alternatives.qual df_PatternReader_alternatives.scope (He.ma K (He.ga K "PatternReader") "alternatives") cdv A outer s H E) true) (fun cls d _ H => E cls d H) (t_PatternReader_alternatives n), ?_, body_ok (kp := false) (Nm := N_PatternReader_alternatives) r_PatternReader_alternatives h⟩)
  exact (ss_cons (s_asg (ps_set (i := 1) sc_PatternReader_alternatives.nd rfl (Or.inl rfl) (e_lstM (ad_cons (e_D (e_meth0 (e_var 0) (T.cls 4) (T.meth 21) D_PatternReader_sequence (hr.mono (by omega)) (fun σ => passAt (takes_of rfl rfl rfl rfl) σ))) ad_nil))))
 (ss_cons (s_while (passes_of rfl) (t_cmpD (o_eq' hr.units) ok_eq (e_meth0 (e_var 0) (T.cls 4) (T.meth 7) D_PatternReader_sign (hr.mono (by omega)) (fun σ => passAt (takes_of rfl rfl rfl rfl) σ)) (e_I (e_con pe_str (fun _ => rfl))) (nomark _))
 (ss_cons (s_fldaug (T.cls 4) (T.noat 6) (e_var 0) (e_con pe_int (fun _ => rfl)) in_add ok_inadd)
 (ss_one (s_app (ps_expr (pe_bm PySem.F.plainAttrs_list PySem.F.slot_list_append PySem.F.type_list_append mt_append (e_var 1) (pa_cons (e_D (e_meth0 (e_var 0) (T.cls 4) (T.meth 21) D_PatternReader_sequence (hr.mono (by omega)) (fun σ => passAt (takes_of rfl rfl rfl rfl) σ))) pa_nil)))))))
 (ss_one (s_ret (e_call D_joined (hr.mono (by omega)) rfl (T.glo 20) (fun σ => passAt (takes_of rfl rfl rfl rfl) σ) (a_cons (e_I (e_con pe_str (fun _ => rfl))) (a_cons (e_I (e_D (e_var 1))) a_nil)))))))
theorem no_PatternReader_alternatives (T : Dl.Fz fa fn xs kds w K mg) : Def P w K mg base 0 (He.ma K (He.ga K "PatternReader") "alternatives") ["self"] (spD ⟨K, true⟩ (pf_alts 0)) := by
  obtain ⟨fd, F⟩ := T.c.def_ 12 (d := df_PatternReader_alternatives) rfl
  exact (Def.zero F (fun _ _ _ _ _ _ us hl => match us, hl with | [_], _ => rfl)).imp fun vs H Q E h => by
    obtain ⟨M, ρ, ws, st, k, ex, r, rw, hf, _⟩ := h
    exact (pf_alts0 : ∀ ws st k ex, ¬ (pf_alts 0) ws st k ex) _ _ _ _ hf
theorem all_PatternReader_alternatives (T : Dl.Fz fa fn xs kds w K mg) (D_PatternReader_sign : Def P w K mg base 1 (He.ma K (He.ga K "PatternReader") "sign") ["self"] (spD ⟨K, true⟩ pf_PatternReader_sign)) (D_PatternReader_escape : Def P w K mg base 3 (He.ma K (He.ga K "PatternReader") "escape") ["self"] (spD ⟨K, true⟩ pf_PatternReader_escape)) (D_BadPattern_init : Def P w K mg base 1 (He.ma K (He.ga K "BadPattern") "__init__") ["self", "position"] (sp_xinit1 K "position")) (D_PatternReader_characters : Def P w K mg base 6 (He.ma K (He.ga K "PatternReader") "characters") ["self"] (spD ⟨K, true⟩ pf_PatternReader_characters)) (D_joined : Def P w K mg base 1 (He.ga K "joined") ["head", "parts"] (spD ⟨K, true⟩ pf_joined)) : ∀ n : Nat, Def P w K mg base (4 * n + 6) (He.ma K (He.ga K "PatternReader") "alternatives") ["self"] (spD ⟨K, true⟩ (pf_alts n))
  | 0 => (no_PatternReader_alternatives T).mono (by omega)
  | n + 1 => ok_PatternReader_alternatives n T D_PatternReader_sign D_joined (ok_PatternReader_sequence n T D_PatternReader_sign D_joined (ok_PatternReader_part n T D_PatternReader_sign (ok_PatternReader_element n T D_PatternReader_sign D_PatternReader_escape D_BadPattern_init D_PatternReader_characters (all_PatternReader_alternatives T D_PatternReader_sign D_PatternReader_escape D_BadPattern_init D_PatternReader_characters D_joined n))))
theorem sc_read_pattern : FnScope N_read_pattern ["text"] (defScope s_read_pattern) := ⟨rfl, rfl, rfl, by decide +kernel, rfl, by decide +kernel, by decide +kernel⟩
theorem ok_read_pattern (T : Dl.Fz fa fn xs kds w K mg) (D_PatternReader_init : Def P w K mg base 1 (He.ma K (He.ga K "PatternReader") "__init__") ["self", "text"] (spD ⟨K, true⟩ pf_PatternReader_init)) (D_PatternReader_alternatives : Def P w K mg base 110 (He.ma K (He.ga K "PatternReader") "alternatives") ["self"] (spD ⟨K, true⟩ (pf_alts 26))) (D_BadPattern_init : Def P w K mg base 1 (He.ma K (He.ga K "BadPattern") "__init__") ["self", "position"] (sp_xinit1 K "position")) : Def P w K mg base 111 (He.ga K "read_pattern") ["text"] (spD ⟨K, true⟩ pf_read_pattern) := by
  obtain ⟨fd, F⟩ := T.c.def_ 13 (d := df_read_pattern) rfl
  refine Def.of (k := 110) (N := N_read_pattern) F sc_read_pattern (fun _ _ _ _ _ _ us hl => match us, hl with | [_], _ => rfl) (spD_len fun ws st k ex h => by unfold pf_read_pattern at h; split at h <;> first | rfl | exact h.elim) (fun cdv A outer s H vs Q E hr h => ⟨lS (XN (cxOf (L2.CX P w) P w K mg base N_read_pattern df_read_pattern.qual df_read_pattern.scope (He.ga K "read_pattern") cdv A outer s H E) true) (fun cls d _ H => E cls d H) (t_read_pattern), ?_, body_ok (kp := false) (Nm := N_read_pattern) r_read_pattern h⟩)
  exact (ss_cons (s_asg (ps_set (i := 1) sc_read_pattern.nd rfl (Or.inl rfl) (e_new (T.mkr 22) D_PatternReader_init (hr.mono (by decide)) rfl (T.glo 23) (fun σ => passAt (takes_of rfl rfl rfl rfl) σ) (a_cons (e_var 0) a_nil))))
 (ss_cons (s_asg (ps_set (i := 2) sc_read_pattern.nd rfl (Or.inl rfl) (e_meth0 (e_var 1) (T.cls 4) (T.meth 15) D_PatternReader_alternatives (hr.mono (by decide)) (fun σ => passAt (takes_of rfl rfl rfl rfl) σ))))
 (ss_cons (s_if (t_cmpD o_lt' ok_lt (e_fld (T.cls 4) (T.noat 6) (e_var 1)) (e_I (e_cb c_lenW ok_len (by rfl) (T.free 2) PySem.boot_len (a_cons (e_var 0) a_nil))) (nomark _)) (ss_one (s_raise1 (s_raiseO rfl (takes_of rfl rfl rfl rfl) (ex_oex (T.more 0)) (ex_init (T.more 1)) D_BadPattern_init (hr.mono (by decide)) rfl (T.glo 9) (pa_cons (e_D (e_fld (T.cls 4) (T.noat 6) (e_var 1))) pa_nil)) (ex_oex (T.more 0)) (ex_nofld (T.more 2)))) ss_nil)
 (ss_one (s_ret (e_var 2))))))
theorem sc_character_text : FnScope N_character_text ["character", "barred"] (defScope s_character_text) := ⟨rfl, rfl, rfl, by decide +kernel, rfl, by decide +kernel, by decide +kernel⟩
theorem ok_character_text (T : Dl.Fz fa fn xs kds w K mg) : Def P w K mg base 1 (He.ga K "character_text") ["character", "barred"] (spD ⟨K, true⟩ pf_Lescaped) := by
  obtain ⟨fd, F⟩ := T.c.def_ 14 (d := df_character_text) rfl
  refine Def.of (k := 0) (N := N_character_text) F sc_character_text (fun _ _ _ _ _ _ us hl => match us, hl with | [_, _], _ => rfl) (spD_len fun ws st k ex h => by unfold pf_Lescaped at h; split at h <;> first | rfl | exact h.elim) (fun cdv A outer s H vs Q E hr h => ⟨lS (XN (cxOf (L2.CX P w) P w K mg base N_character_text df_character_text.qual df_character_text.scope (He.ga K "character_text") cdv A outer s H E) true) (fun cls d _ H => E cls d H) (t_character_text), ?_, body_ok (kp := false) (Nm := N_character_text) r_character_text h⟩)
  exact (ss_cons (s_if (t_cmpD (o_eq' hr.units) ok_eq (e_var 0) (e_I (e_con pe_str (fun _ => rfl))) (nomark _)) (ss_one (s_ret (e_I (e_con pe_str (fun _ => rfl))))) ss_nil)
 (ss_one (s_ret (e_ifW (t_cmpD (o_in hr.units65) ok_in (e_var 0) (e_var 1) (by rfl)) (e_I (e_op o_add' ok_add (e_con pe_str (fun _ => rfl)) (e_D (e_var 0)))) (e_var 0)))))
theorem sc_members_of : FnScope N_members_of ["characters"] (defScope s_members_of) := ⟨rfl, rfl, rfl, by decide +kernel, rfl, by decide +kernel, by decide +kernel⟩
theorem ok_members_of (T : Dl.Fz fa fn xs kds w K mg) : Def P w K mg base 1 (He.ga K "members_of") ["characters"] (spD ⟨K, true⟩ pf_Lruns) := by
  obtain ⟨fd, F⟩ := T.c.def_ 15 (d := df_members_of) rfl
  refine Def.of (k := 0) (N := N_members_of) F sc_members_of (fun _ _ _ _ _ _ us hl => match us, hl with | [_], _ => rfl) (spD_len fun ws st k ex h => by unfold pf_Lruns at h; split at h <;> first | rfl | exact h.elim) (fun cdv A outer s H vs Q E hr h => ⟨lS (XN (cxOf (L2.CX P w) P w K mg base N_members_of df_members_of.qual df_members_of.scope (He.ga K "members_of") cdv A outer s H E) true) (fun cls d _ H => E cls d H) (t_members_of), ?_, body_ok (kp := false) (Nm := N_members_of) r_members_of h⟩)
  exact (ss_cons (s_asg (ps_set (i := 1) sc_members_of.nd rfl (Or.inl rfl) (e_lstM ad_nil)))
 (ss_cons (s_for (vs := [2]) (gV := (gName 2)) (gok_name (by decide)) (passes_of rfl) rfl (i_st (e_D (e_var 0))) (pg_name (i := 2) sc_members_of.nd rfl (Or.inl rfl))
 (ss_cons (s_asg (ps_set (i := 3) sc_members_of.nd rfl (Or.inl rfl) (e_I (e_m1 PySem.F.slot_str_index PySem.F.type_str_index mt_idx ok_idx (e_I (e_con (e_gstr rfl (T.strg 0)) (fun _ => rfl))) (e_var 2)))))
 (ss_one (s_if (PW.pt (w_and (t_tru (e_var 1)) (w_and1 (t_cmpD (o_eq' hr.units) ok_eq (e_I (e_m1 PySem.F.slot_str_index PySem.F.type_str_index mt_idx ok_idx (e_I (e_con (e_gstr rfl (T.strg 0)) (fun _ => rfl))) (e_I (e_ix (e_I (e_ix (e_var 1) (e_un u_neg ok_neg (e_con pe_int (fun _ => rfl))))) (e_con pe_int (fun _ => rfl)))))) (e_I (e_op o_sub ok_sub (e_D (e_var 3)) (e_con pe_int (fun _ => rfl)))) (nomark _))))) (ss_one (s_setL (ps_asg (e_tup (ad_cons (e_ix (e_I (e_ix (e_var 1) (e_un u_neg ok_neg (e_con pe_int (fun _ => rfl))))) (e_con pe_int (fun _ => rfl))) (ad_cons (e_D (e_var 2)) ad_nil))) (pg_sub (e_var 1) (e_un u_neg ok_neg (e_con pe_int (fun _ => rfl))) set_list)))) (ss_one (s_app (ps_expr (pe_bm PySem.F.plainAttrs_list PySem.F.slot_list_append PySem.F.type_list_append mt_append (e_var 1) (pa_cons (e_tup (ad_cons (e_D (e_var 2)) (ad_cons (e_D (e_var 2)) ad_nil))) pa_nil)))))))))
 (ss_one (s_ret (e_var 1)))))
theorem sc_set_text : FnScope N_set_text ["characters"] (defScope s_set_text) := ⟨rfl, rfl, rfl, by decide +kernel, rfl, by decide +kernel, by decide +kernel⟩
theorem ok_set_text (T : Dl.Fz fa fn xs kds w K mg) (D_character_text : Def P w K mg base 1 (He.ga K "character_text") ["character", "barred"] (spD ⟨K, true⟩ pf_Lescaped)) (D_members_of : Def P w K mg base 1 (He.ga K "members_of") ["characters"] (spD ⟨K, true⟩ pf_Lruns)) : Def P w K mg base 2 (He.ga K "set_text") ["characters"] (spD ⟨K, true⟩ pf_Lset) := by
  obtain ⟨fd, F⟩ := T.c.def_ 16 (d := df_set_text) rfl
  refine Def.of (k := 1) (N := N_set_text) F sc_set_text (fun _ _ _ _ _ _ us hl => match us, hl with | [_], _ => rfl) (spD_len fun ws st k ex h => by unfold pf_Lset at h; split at h <;> first | rfl | exact h.elim) (fun cdv A outer s H vs Q E hr h => ⟨lS (XN (cxOf (L2.CX P w) P w K mg base N_set_text df_set_text.qual df_set_text.scope (He.ga K "set_text") cdv A outer s H E) true) (fun cls d _ H => E cls d H) (t_set_text), ?_, body_ok (kp := false) (Nm := N_set_text) r_set_text h⟩)
  exact (ss_cons (s_if (t_cmpD (o_eq' hr.units) ok_eq (e_I (e_cb c_lenW ok_len (by rfl) (T.free 2) PySem.boot_len (a_cons (e_var 0) a_nil))) (e_I (e_con pe_int (fun _ => rfl))) (nomark _)) (ss_one (s_ret (e_call D_character_text (hr.mono (by decide)) rfl (T.glo 25) (fun σ => passAt (takes_of rfl rfl rfl rfl) σ) (a_cons (e_var 0) (a_cons (e_I (e_con (e_gstr rfl (T.strg 24)) (fun _ => rfl))) a_nil))))) ss_nil)
 (ss_cons (s_if (t_cmpD (o_eq' hr.units) ok_eq (e_var 0) (e_I (e_con (e_gstr rfl (T.strg 0)) (fun _ => rfl))) (nomark _)) (ss_one (s_ret (e_I (e_con pe_str (fun _ => rfl))))) ss_nil)
 (ss_cons (s_asg (ps_set (i := 1) sc_set_text.nd rfl (Or.inl rfl) (e_lstM ad_nil)))
 (ss_cons (s_for (vs := [2, 3]) (gV := (gTup K 2 (gCons (gName 2) (gCons (gName 3) gNil)))) (gok_tup (gsok_cons (gok_name (by decide)) (gsok_cons (gok_name (by decide)) gsok_nil))) (passes_of rfl) rfl (i_sq (e_D (e_call D_members_of (hr.mono (by decide)) rfl (T.glo 26) (fun σ => passAt (takes_of rfl rfl rfl rfl) σ) (a_cons (e_var 0) a_nil)))) (pg_tup rfl (pgs_cons (pg_name (i := 2) sc_set_text.nd rfl (Or.inl rfl)) (pgs_cons (pg_name (i := 3) sc_set_text.nd rfl (Or.inl rfl)) pgs_nil)))
 (ss_cons (s_app (ps_expr (pe_bm PySem.F.plainAttrs_list PySem.F.slot_list_append PySem.F.type_list_append mt_append (e_var 1) (pa_cons (e_D (e_call D_character_text (hr.mono (by decide)) rfl (T.glo 25) (fun σ => passAt (takes_of rfl rfl rfl rfl) σ) (a_cons (e_var 2) (a_cons (e_I (e_con (e_gstr rfl (T.strg 11)) (fun _ => rfl))) a_nil)))) pa_nil))))
 (ss_one (s_if (t_cmpD (o_ne' hr.units) ok_ne (e_var 2) (e_var 3) (nomark _)) (ss_one (s_app (ps_expr (pe_bm PySem.F.plainAttrs_list PySem.F.slot_list_append PySem.F.type_list_append mt_append (e_var 1) (pa_cons (e_op o_add' ok_add (e_con pe_str (fun _ => rfl)) (e_D (e_call D_character_text (hr.mono (by decide)) rfl (T.glo 25) (fun σ => passAt (takes_of rfl rfl rfl rfl) σ) (a_cons (e_var 3) (a_cons (e_I (e_con (e_gstr rfl (T.strg 11)) (fun _ => rfl))) a_nil))))) pa_nil))))) ss_nil))))
 (ss_one (s_ret (e_I (e_op o_add' ok_add (e_op o_add' ok_add (e_con pe_str (fun _ => rfl)) (e_m1 PySem.F.slot_str_join PySem.F.type_str_join m_join ok_join (e_I (e_con pe_str (fun _ => rfl))) (e_var 1))) (e_con pe_str (fun _ => rfl))))))))))
theorem sc_part_text : FnScope N_part_text ["tree", "barred"] (defScope s_part_text) := ⟨rfl, rfl, rfl, by decide +kernel, rfl, by decide +kernel, by decide +kernel⟩
theorem ok_part_text (n : Nat) (T : Dl.Fz fa fn xs kds w K mg) (D_write_pattern : Def P w K mg base (10 * n) (He.ga K "write_pattern") ["tree"] (spD ⟨K, true⟩ (pf_write n))) : Def P w K mg base (10 * n + 7) (He.ga K "part_text") ["tree", "barred"] (spD ⟨K, true⟩ (pf_part_text n)) := by
  obtain ⟨fd, F⟩ := T.c.def_ 17 (d := df_part_text) rfl
  refine Def.of (N := N_part_text) F sc_part_text (fun _ _ _ _ _ _ us hl => match us, hl with | [_, _], _ => rfl) (spD_len fun ws st k ex h => by unfold pf_part_text at h; split at h <;> first | rfl | exact h.elim) (fun cdv A outer s H vs Q E hr h => ⟨lS (XN (cxOf (L2.CX P w) P w K mg base N_part_text df_part_text.qual df_part_text.scope (He.ga K "part_text") cdv A outer s H E) true) (fun cls d _ H => E cls d H) (t_part_text n), ?_, body_ok (kp := false) (Nm := N_part_text) r_part_text h⟩)
  exact (ss_cons (s_asg (ps_set (i := 2) sc_part_text.nd rfl (Or.inl rfl) (e_call D_write_pattern (hr.mono (by omega)) rfl (T.glo 27) (fun σ => passAt (takes_of rfl rfl rfl rfl) σ) (a_cons (e_var 0) a_nil))))
 (ss_one (s_ret (e_ifW (t_cmpD (o_in hr.units65) ok_in (e_I (e_ix (e_var 0) (e_con pe_int (fun _ => rfl)))) (e_var 1) (by rfl)) (e_I (e_op o_add' ok_add (e_op o_add' ok_add (e_con pe_str (fun _ => rfl)) (e_D (e_var 2))) (e_con pe_str (fun _ => rfl)))) (e_var 2)))))
theorem sc_write_pattern : FnScope N_write_pattern ["tree"] (defScope s_write_pattern) := ⟨rfl, rfl, rfl, by decide +kernel, rfl, by decide +kernel, by decide +kernel⟩
theorem ok_write_pattern (n : Nat) (T : Dl.Fz fa fn xs kds w K mg) (D_set_text : Def P w K mg base 2 (He.ga K "set_text") ["characters"] (spD ⟨K, true⟩ pf_Lset)) (D_part_text : Def P w K mg base (10 * n + 7) (He.ga K "part_text") ["tree", "barred"] (spD ⟨K, true⟩ (pf_part_text n))) (D_write_pattern : Def P w K mg base (10 * n) (He.ga K "write_pattern") ["tree"] (spD ⟨K, true⟩ (pf_write n))) : Def P w K mg base (10 * n + 10) (He.ga K "write_pattern") ["tree"] (spD ⟨K, true⟩ (pf_write (n + 1))) := by
  obtain ⟨fd, F⟩ := T.c.def_ 18 (d := df_write_pattern) rfl
  refine Def.of (N := N_write_pattern) F sc_write_pattern (fun _ _ _ _ _ _ us hl => match us, hl with | [_], _ => rfl) (spD_len fun ws st k ex h => by unfold pf_write at h; split at h <;> first | rfl | exact h.elim) (fun cdv A outer s H vs Q E hr h => ⟨lS (XN (cxOf (L2.CX P w) P w K mg base N_write_pattern df_write_pattern.qual df_write_pattern.scope (He.ga K "write_pattern") cdv A outer s H E) true) (fun cls d _ H => E cls d H) (t_write_pattern n), ?_, body_ok (kp := false) (Nm := N_write_pattern) r_write_pattern h⟩)
  exact (ss_cons (s_if (t_cmpD (o_eq' hr.units) ok_eq (e_I (e_ix (e_var 0) (e_con pe_int (fun _ => rfl)))) (e_I (e_con pe_str (fun _ => rfl))) (nomark _)) (ss_one (s_ret (e_call D_set_text (hr.mono (by omega)) rfl (T.glo 28) (fun σ => passAt (takes_of rfl rfl rfl rfl) σ) (a_cons (e_I (e_ix (e_var 0) (e_con pe_int (fun _ => rfl)))) a_nil)))) ss_nil)
 (ss_cons (s_if (t_cmpD (o_eq' hr.units) ok_eq (e_I (e_ix (e_var 0) (e_con pe_int (fun _ => rfl)))) (e_I (e_con pe_str (fun _ => rfl))) (nomark _)) (ss_one (s_ret (e_I (e_m1 PySem.F.slot_str_join PySem.F.type_str_join m_join ok_join (e_I (e_con pe_str (fun _ => rfl))) (e_I (e_lcD (own := [("part", 1)]) (g := (gN 1)) (gV := (gName 1)) (gok_name (by decide)) rfl sc_write_pattern.nd (i_sq (e_ix (e_var 0) (e_con pe_int (fun _ => rfl)))) (blkOk_by (own := [("part", 1)]) (N := N_write_pattern) (sc := defScope s_write_pattern) (by decide +kernel)) (fun _ _ _ _ _ => (pg_name (i := 1) sc_write_pattern.nd rfl (Or.inl rfl))) (fun _ _ _ _ _ => ts_nil) (fun _ _ _ _ _ => (e_D (e_call D_part_text (hr.mono (by omega)) rfl (T.glo 29) (fun _ => pass_none (fun _ _ _ _ h => h)) (a_cons (e_var 1) (a_cons (e_I (e_tup (ad_cons (e_con pe_str (fun _ => rfl)) ad_nil))) a_nil))))))))))) ss_nil)
 (ss_cons (s_if (t_cmpD (o_eq' hr.units) ok_eq (e_I (e_ix (e_var 0) (e_con pe_int (fun _ => rfl)))) (e_I (e_con pe_str (fun _ => rfl))) (nomark _)) (ss_one (s_ret (e_I (e_m1 PySem.F.slot_str_join PySem.F.type_str_join m_join ok_join (e_I (e_con pe_str (fun _ => rfl))) (e_I (e_lcD (own := [("part", 1)]) (g := (gN 1)) (gV := (gName 1)) (gok_name (by decide)) rfl sc_write_pattern.nd (i_sq (e_ix (e_var 0) (e_con pe_int (fun _ => rfl)))) (blkOk_by (own := [("part", 1)]) (N := N_write_pattern) (sc := defScope s_write_pattern) (by decide +kernel)) (fun _ _ _ _ _ => (pg_name (i := 1) sc_write_pattern.nd rfl (Or.inl rfl))) (fun _ _ _ _ _ => ts_nil) (fun _ _ _ _ _ => (e_D (e_call D_write_pattern (hr.mono (by omega)) rfl (T.glo 27) (fun _ => pass_none (fun _ _ _ _ h => h)) (a_cons (e_var 1) a_nil)))))))))) ss_nil)
 (ss_one (s_ret (e_I (e_op o_add' ok_add (e_D (e_call D_part_text (hr.mono (by omega)) rfl (T.glo 29) (fun σ => passAt (takes_of rfl rfl rfl rfl) σ) (a_cons (e_I (e_ix (e_var 0) (e_con pe_int (fun _ => rfl)))) (a_cons (e_I (e_tup (ad_cons (e_con pe_str (fun _ => rfl)) (ad_cons (e_con pe_str (fun _ => rfl)) (ad_cons (e_con pe_str (fun _ => rfl)) (ad_cons (e_con pe_str (fun _ => rfl)) (ad_cons (e_con pe_str (fun _ => rfl)) ad_nil))))))) a_nil)))) (e_glIx (T.gd 1) (pe_glob (v := .ref (He.ga K "SIGNS")) rfl (T.glo 30) rfl) (e_ix (e_var 0) (e_con pe_int (fun _ => rfl))) (fun _ _ => rfl)))))))))
theorem no_write_pattern (T : Dl.Fz fa fn xs kds w K mg) : Def P w K mg base 0 (He.ga K "write_pattern") ["tree"] (spD ⟨K, true⟩ (pf_write 0)) := by
  obtain ⟨fd, F⟩ := T.c.def_ 18 (d := df_write_pattern) rfl
  exact (Def.zero F (fun _ _ _ _ _ _ us hl => match us, hl with | [_], _ => rfl)).imp fun vs H Q E h => by
    obtain ⟨M, ρ, ws, st, k, ex, r, rw, hf, _⟩ := h
    exact (pf_write0 : ∀ ws st k ex, ¬ (pf_write 0) ws st k ex) _ _ _ _ hf
theorem all_write_pattern (T : Dl.Fz fa fn xs kds w K mg) (D_set_text : Def P w K mg base 2 (He.ga K "set_text") ["characters"] (spD ⟨K, true⟩ pf_Lset)) : ∀ n : Nat, Def P w K mg base (10 * n) (He.ga K "write_pattern") ["tree"] (spD ⟨K, true⟩ (pf_write n))
  | 0 => (no_write_pattern T).mono (by omega)
  | n + 1 => ok_write_pattern n T D_set_text (ok_part_text n T (all_write_pattern T D_set_text n)) (all_write_pattern T D_set_text n)
theorem sc_can_be_empty : FnScope N_can_be_empty ["tree"] (defScope s_can_be_empty) := ⟨rfl, rfl, rfl, by decide +kernel, rfl, by decide +kernel, by decide +kernel⟩
theorem ok_can_be_empty (n : Nat) (T : Dl.Fz fa fn xs kds w K mg) (D_can_be_empty : Def P w K mg base (10 * n) (He.ga K "can_be_empty") ["tree"] (spD ⟨K, true⟩ (pf_cbe n))) : Def P w K mg base (10 * n + 10) (He.ga K "can_be_empty") ["tree"] (spD ⟨K, true⟩ (pf_cbe (n + 1))) := by
  obtain ⟨fd, F⟩ := T.c.def_ 19 (d := df_can_be_empty) rfl
  refine Def.of (N := N_can_be_empty) F sc_can_be_empty (fun _ _ _ _ _ _ us hl => match us, hl with | [_], _ => rfl) (spD_len fun ws st k ex h => by unfold pf_cbe at h; split at h <;> first | rfl | exact h.elim) (fun cdv A outer s H vs Q E hr h => ⟨lS (XN (cxOf (L2.CX P w) P w K mg base N_can_be_empty df_can_be_empty.qual df_can_be_empty.scope (He.ga K "can_be_empty") cdv A outer s H E) true) (fun cls d _ H => E cls d H) (t_can_be_empty n), ?_, body_ok (kp := false) (Nm := N_can_be_empty) r_can_be_empty h⟩)
  exact (ss_cons (s_if (t_cmpD (o_eq' hr.units) ok_eq (e_I (e_ix (e_var 0) (e_con pe_int (fun _ => rfl)))) (e_I (e_con pe_str (fun _ => rfl))) (nomark _)) (ss_one (s_ret (e_I (e_con pe_bl (fun _ => rfl))))) ss_nil)
 (ss_cons (s_if (t_cmpD (o_eq' hr.units) ok_eq (e_I (e_ix (e_var 0) (e_con pe_int (fun _ => rfl)))) (e_I (e_con pe_str (fun _ => rfl))) (nomark _)) (ss_one (s_ret (e_I (e_cb (cr_all rfl) ok_all (by rfl) (T.free 32) (by decide +kernel) (a_cons (e_I (e_lcD (own := [("part", 1)]) (g := (gN 1)) (gV := (gName 1)) (gok_name (by decide)) rfl sc_can_be_empty.nd (i_sq (e_ix (e_var 0) (e_con pe_int (fun _ => rfl)))) (blkOk_by (own := [("part", 1)]) (N := N_can_be_empty) (sc := defScope s_can_be_empty) (by decide +kernel)) (fun _ _ _ _ _ => (pg_name (i := 1) sc_can_be_empty.nd rfl (Or.inl rfl))) (fun _ _ _ _ _ => ts_nil) (fun _ _ _ _ _ => (e_D (e_call D_can_be_empty (hr.mono (by omega)) rfl (T.glo 31) (fun _ => pass_none (fun _ _ _ _ h => h)) (a_cons (e_var 1) a_nil)))))) a_nil))))) ss_nil)
 (ss_cons (s_if (t_cmpD (o_eq' hr.units) ok_eq (e_I (e_ix (e_var 0) (e_con pe_int (fun _ => rfl)))) (e_I (e_con pe_str (fun _ => rfl))) (nomark _)) (ss_one (s_ret (e_I (e_cb (cr_any rfl) ok_any (by rfl) (T.free 1) (by decide +kernel) (a_cons (e_I (e_lcD (own := [("part", 1)]) (g := (gN 1)) (gV := (gName 1)) (gok_name (by decide)) rfl sc_can_be_empty.nd (i_sq (e_ix (e_var 0) (e_con pe_int (fun _ => rfl)))) (blkOk_by (own := [("part", 1)]) (N := N_can_be_empty) (sc := defScope s_can_be_empty) (by decide +kernel)) (fun _ _ _ _ _ => (pg_name (i := 1) sc_can_be_empty.nd rfl (Or.inl rfl))) (fun _ _ _ _ _ => ts_nil) (fun _ _ _ _ _ => (e_D (e_call D_can_be_empty (hr.mono (by omega)) rfl (T.glo 31) (fun _ => pass_none (fun _ _ _ _ h => h)) (a_cons (e_var 1) a_nil)))))) a_nil))))) ss_nil)
 (ss_one (s_ret (e_orV (e_I (e_cmpD (o_ne' hr.units) ok_ne (e_I (e_ix (e_var 0) (e_con pe_int (fun _ => rfl)))) (e_I (e_con pe_str (fun _ => rfl))) (nomark _))) (e_or1 (e_call D_can_be_empty (hr.mono (by omega)) rfl (T.glo 31) (fun σ => passAt (takes_of rfl rfl rfl rfl) σ) (a_cons (e_I (e_ix (e_var 0) (e_con pe_int (fun _ => rfl)))) a_nil)))))))))
theorem no_can_be_empty (T : Dl.Fz fa fn xs kds w K mg) : Def P w K mg base 0 (He.ga K "can_be_empty") ["tree"] (spD ⟨K, true⟩ (pf_cbe 0)) := by
  obtain ⟨fd, F⟩ := T.c.def_ 19 (d := df_can_be_empty) rfl
  exact (Def.zero F (fun _ _ _ _ _ _ us hl => match us, hl with | [_], _ => rfl)).imp fun vs H Q E h => by
    obtain ⟨M, ρ, ws, st, k, ex, r, rw, hf, _⟩ := h
    exact (pf_cbe0 : ∀ ws st k ex, ¬ (pf_cbe 0) ws st k ex) _ _ _ _ hf
theorem all_can_be_empty (T : Dl.Fz fa fn xs kds w K mg) : ∀ n : Nat, Def P w K mg base (10 * n) (He.ga K "can_be_empty") ["tree"] (spD ⟨K, true⟩ (pf_cbe n))
  | 0 => (no_can_be_empty T).mono (by omega)
  | n + 1 => ok_can_be_empty n T (all_can_be_empty T n)
theorem sc_Lchars : FnScope N_Lchars ["_law_pool_here"] (defScope s_Lchars) := ⟨rfl, rfl, rfl, by decide +kernel, rfl, by decide +kernel, by decide +kernel⟩
theorem ok_Lchars (T : Dl.Fz fa fn xs kds w K mg) (D_Ltake : Def P w K mg base 2 (He.ga K "_law_take") ["_law_pool_here", "_law_many"] (spD ⟨K, true⟩ pf_take)) : Def P w K mg base 3 (He.ga K "_law_chars") ["_law_pool_here"] (spD ⟨K, true⟩ pf_Lchars) := by
  obtain ⟨fd, F⟩ := T.c.def_ 22 (d := df_Lchars) rfl
  refine Def.of (k := 2) (N := N_Lchars) F sc_Lchars (fun _ _ _ _ _ _ us hl => match us, hl with | [_], _ => rfl) (spD_len fun ws st k ex h => by unfold pf_Lchars at h; split at h <;> first | rfl | exact h.elim) (fun cdv A outer s H vs Q E hr h => ⟨lS (XN (cxOf (L2.CX P w) P w K mg base N_Lchars df_Lchars.qual df_Lchars.scope (He.ga K "_law_chars") cdv A outer s H E) true) (fun cls d _ H => E cls d H) (t_Lchars), ?_, body_ok (kp := false) (Nm := N_Lchars) r_Lchars h⟩)
  exact (ss_cons (s_asg (ps_set (i := 1) sc_Lchars.nd rfl (Or.inl rfl) (e_I (e_con pe_str (fun _ => rfl)))))
 (ss_cons (s_asg (ps_set (i := 2) sc_Lchars.nd rfl (Or.inl rfl) (e_call D_Ltake (hr.mono (by decide)) rfl (T.glo 34) (fun σ => passAt (takes_of rfl rfl rfl rfl) σ) (a_cons (e_var 0) (a_cons (e_I (e_con pe_int (fun _ => rfl))) a_nil)))))
 (ss_cons (s_if (t_cmpD (o_eq' hr.units) ok_eq (e_var 2) (e_I (e_con pe_int (fun _ => rfl))) (nomark _)) (ss_one (s_ret (e_var 1))) ss_nil)
 (ss_cons (s_if (t_cmpD o_lt' ok_lt (e_var 2) (e_I (e_con pe_int (fun _ => rfl))) (nomark _)) (ss_one (s_ret (e_I (e_ix (e_I (e_con pe_str (fun _ => rfl))) (e_D (e_call D_Ltake (hr.mono (by decide)) rfl (T.glo 34) (fun σ => passAt (takes_of rfl rfl rfl rfl) σ) (a_cons (e_var 0) (a_cons (e_I (e_con pe_int (fun _ => rfl))) a_nil)))))))) ss_nil)
 (ss_cons (s_if (t_cmpD (o_eq' hr.units) ok_eq (e_var 2) (e_I (e_con pe_int (fun _ => rfl))) (nomark _)) (ss_one (s_ret (e_I (e_ix (e_var 1) (e_D (e_call D_Ltake (hr.mono (by decide)) rfl (T.glo 34) (fun σ => passAt (takes_of rfl rfl rfl rfl) σ) (a_cons (e_var 0) (a_cons (e_I (e_con pe_int (fun _ => rfl))) a_nil)))))))) ss_nil)
 (ss_cons (s_asg (ps_set (i := 3) sc_Lchars.nd rfl (Or.inl rfl) (e_call D_Ltake (hr.mono (by decide)) rfl (T.glo 34) (fun σ => passAt (takes_of rfl rfl rfl rfl) σ) (a_cons (e_var 0) (a_cons (e_I (e_con pe_int (fun _ => rfl))) a_nil)))))
 (ss_cons (s_asg (ps_set (i := 4) sc_Lchars.nd rfl (Or.inl rfl) (e_I (e_op o_add' ok_add (e_D (e_var 3)) (e_D (e_call D_Ltake (hr.mono (by decide)) rfl (T.glo 34) (fun σ => passAt (takes_of rfl rfl rfl rfl) σ) (a_cons (e_var 0) (a_cons (e_I (e_cb (c_min2 rfl) ok_min (by rfl) (T.free 35) (by decide +kernel) (a_cons (e_I (e_op o_sub ok_sub (e_con pe_int (fun _ => rfl)) (e_D (e_var 3)))) (a_cons (e_I (e_con pe_int (fun _ => rfl))) a_nil)))) a_nil))))))))
 (ss_cons (s_if (t_cmpD (o_eq' hr.units) ok_eq (e_var 2) (e_I (e_con pe_int (fun _ => rfl))) (nomark _)) (ss_one (s_ret (e_I (e_sl (e_var 1) (o_some (e_D (e_var 3))) (o_some (e_op o_add' ok_add (e_D (e_var 4)) (e_con pe_int (fun _ => rfl)))))))) ss_nil)
 (ss_cons (s_asg (ps_set (i := 5) sc_Lchars.nd rfl (Or.inl rfl) (e_call D_Ltake (hr.mono (by decide)) rfl (T.glo 34) (fun σ => passAt (takes_of rfl rfl rfl rfl) σ) (a_cons (e_var 0) (a_cons (e_I (e_con pe_int (fun _ => rfl))) a_nil)))))
 (ss_cons (s_if (t_chainD o_le' o_le' ok_le ok_le (e_var 3) (e_var 5) (e_var 4)) (ss_one (s_ret (e_I (e_sl (e_var 1) (o_some (e_D (e_var 3))) (o_some (e_op o_add' ok_add (e_D (e_var 4)) (e_con pe_int (fun _ => rfl)))))))) ss_nil)
 (ss_cons (s_if (t_cmpD o_lt' ok_lt (e_var 5) (e_var 3) (nomark _)) (ss_one (s_ret (e_I (e_op o_add' ok_add (e_ix (e_var 1) (e_D (e_var 5))) (e_sl (e_var 1) (o_some (e_D (e_var 3))) (o_some (e_op o_add' ok_add (e_D (e_var 4)) (e_con pe_int (fun _ => rfl))))))))) ss_nil)
 (ss_one (s_ret (e_I (e_op o_add' ok_add (e_sl (e_var 1) (o_some (e_D (e_var 3))) (o_some (e_op o_add' ok_add (e_D (e_var 4)) (e_con pe_int (fun _ => rfl))))) (e_ix (e_var 1) (e_D (e_var 5))))))))))))))))))
theorem sc_Lflat : FnScope N_Lflat ["_law_head", "_law_parts"] (defScope s_Lflat) := ⟨rfl, rfl, rfl, by decide +kernel, rfl, by decide +kernel, by decide +kernel⟩
theorem ok_Lflat (T : Dl.Fz fa fn xs kds w K mg) : Def P w K mg base 1 (He.ga K "_law_flat") ["_law_head", "_law_parts"] (spD ⟨K, true⟩ pf_Lflat) := by
  obtain ⟨fd, F⟩ := T.c.def_ 23 (d := df_Lflat) rfl
  refine Def.of (k := 0) (N := N_Lflat) F sc_Lflat (fun _ _ _ _ _ _ us hl => match us, hl with | [_, _], _ => rfl) (spD_len fun ws st k ex h => by unfold pf_Lflat at h; split at h <;> first | rfl | exact h.elim) (fun cdv A outer s H vs Q E hr h => ⟨lS (XN (cxOf (L2.CX P w) P w K mg base N_Lflat df_Lflat.qual df_Lflat.scope (He.ga K "_law_flat") cdv A outer s H E) true) (fun cls d _ H => E cls d H) (t_Lflat), ?_, body_ok (kp := false) (Nm := N_Lflat) r_Lflat h⟩)
  exact (ss_cons (s_asg (ps_set (i := 2) sc_Lflat.nd rfl (Or.inl rfl) (e_lstM ad_nil)))
 (ss_cons (s_forK (vs := [3]) (gV := (gName 3)) (gok_name (by decide)) (passes_of rfl) rfl (i_sq (e_D (e_var 1))) (pg_name (i := 3) sc_Lflat.nd rfl (Or.inl rfl))
 (ss_one (s_if (t_cmpD (o_eq' hr.units) ok_eq (e_I (e_ix (e_var 3) (e_con pe_int (fun _ => rfl)))) (e_var 0) (nomark _)) (ss_one (s_asg (ps_set (i := 2) sc_Lflat.nd rfl (Or.inl rfl) (e_addM (e_var 2) (e_I (e_cty call_list_of ok_list (by rfl) (T.free 36) (by decide +kernel) (a_cons (e_I (e_ix (e_var 3) (e_con pe_int (fun _ => rfl)))) a_nil))))))) (ss_one (s_app (ps_expr (pe_bm PySem.F.plainAttrs_list PySem.F.slot_list_append PySem.F.type_list_append mt_append (e_var 2) (pa_cons (e_D (e_var 3)) pa_nil))))))))
 (ss_one (s_ret (e_I (e_tup (ad_cons (e_D (e_var 0)) (ad_cons (e_cty call_tuple_of ok_tuple (by rfl) (T.free 3) (by decide +kernel) (a_cons (e_var 2) a_nil)) ad_nil))))))))
theorem sc_Ltree : FnScope N_Ltree ["_law_pool_here", "_law_deep"] (defScope s_Ltree) := ⟨rfl, rfl, rfl, by decide +kernel, rfl, by decide +kernel, by decide +kernel⟩
theorem ok_Ltree (n : Nat) (T : Dl.Fz fa fn xs kds w K mg) (D_Ltake : Def P w K mg base 2 (He.ga K "_law_take") ["_law_pool_here", "_law_many"] (spD ⟨K, true⟩ pf_take)) (D_Lchars : Def P w K mg base 3 (He.ga K "_law_chars") ["_law_pool_here"] (spD ⟨K, true⟩ pf_Lchars)) (D_Lflat : Def P w K mg base 1 (He.ga K "_law_flat") ["_law_head", "_law_parts"] (spD ⟨K, true⟩ pf_Lflat)) (D_Ltree : Def P w K mg base (10 * n) (He.ga K "_law_tree") ["_law_pool_here", "_law_deep"] (spD ⟨K, true⟩ (pf_Ltree n))) : Def P w K mg base (10 * n + 10) (He.ga K "_law_tree") ["_law_pool_here", "_law_deep"] (spD ⟨K, true⟩ (pf_Ltree (n + 1))) := by
  obtain ⟨fd, F⟩ := T.c.def_ 24 (d := df_Ltree) rfl
  refine Def.of (N := N_Ltree) F sc_Ltree (fun _ _ _ _ _ _ us hl => match us, hl with | [_, _], _ => rfl) (spD_len fun ws st k ex h => by unfold pf_Ltree at h; split at h <;> first | rfl | exact h.elim) (fun cdv A outer s H vs Q E hr h => ⟨lS (XN (cxOf (L2.CX P w) P w K mg base N_Ltree df_Ltree.qual df_Ltree.scope (He.ga K "_law_tree") cdv A outer s H E) true) (fun cls d _ H => E cls d H) (t_Ltree n), ?_, body_ok (kp := false) (Nm := N_Ltree) r_Ltree h⟩)
  exact (ss_cons (s_asg (ps_set (i := 2) sc_Ltree.nd rfl (Or.inl rfl) (e_call D_Ltake (hr.mono (by omega)) rfl (T.glo 34) (fun σ => passAt (takes_of rfl rfl rfl rfl) σ) (a_cons (e_var 0) (a_cons (e_I (e_con pe_int (fun _ => rfl))) a_nil)))))
 (ss_cons (s_if (PW.pt (w_or (t_cmpD o_lt' ok_lt (e_var 1) (e_I (e_con pe_int (fun _ => rfl))) (nomark _)) (w_or1 (t_cmpD o_lt' ok_lt (e_var 2) (e_I (e_con pe_int (fun _ => rfl))) (nomark _))))) (ss_one (s_ret (e_I (e_tup (ad_cons (e_con pe_str (fun _ => rfl)) (ad_cons (e_D (e_call D_Lchars (hr.mono (by omega)) rfl (T.glo 37) (fun σ => passAt (takes_of rfl rfl rfl rfl) σ) (a_cons (e_var 0) a_nil))) ad_nil)))))) ss_nil)
 (ss_cons (s_if (t_cmpD o_lt' ok_lt (e_var 2) (e_I (e_con pe_int (fun _ => rfl))) (nomark _)) (ss_cons (s_setLcD (i := 3) (own := [("_law_k", 4)]) (g := (gN 4)) (gV := (gName 4)) (gok_name (by decide)) rfl sc_Ltree.nd rfl rfl (sw_true rfl rfl rfl (by decide +kernel)) (i_rg1 rfl (T.free 38) (pa_cons (e_op o_add' ok_add (e_con pe_int (fun _ => rfl)) (e_D (e_call D_Ltake (hr.mono (by omega)) rfl (T.glo 34) (fun σ => passAt (takes_of rfl rfl rfl rfl) σ) (a_cons (e_var 0) (a_cons (e_I (e_con pe_int (fun _ => rfl))) a_nil))))) pa_nil)) (blkOk_by (own := [("_law_k", 4)]) (N := N_Ltree) (sc := defScope s_Ltree) (by decide +kernel)) (fun _ _ _ _ _ => (pg_name (i := 4) sc_Ltree.nd rfl (Or.inl rfl))) (fun _ _ _ _ _ => ts_nil) (fun _ _ _ _ _ => (e_D (e_call D_Ltree (hr.mono (by omega)) rfl (T.glo 39) (fun _ => pass_none (fun _ _ _ _ h => h)) (a_cons (e_var 0) (a_cons (e_I (e_op o_sub ok_sub (e_D (e_var 1)) (e_con pe_int (fun _ => rfl)))) a_nil))))))
 (ss_one (s_ret (e_call D_Lflat (hr.mono (by omega)) rfl (T.glo 40) (fun σ => passAt (takes_of rfl rfl rfl rfl) σ) (a_cons (e_I (e_ix (e_I (e_tup (ad_cons (e_con pe_str (fun _ => rfl)) (ad_cons (e_con pe_str (fun _ => rfl)) (ad_cons (e_con pe_str (fun _ => rfl)) ad_nil))))) (e_op o_sub ok_sub (e_D (e_var 2)) (e_con pe_int (fun _ => rfl))))) (a_cons (e_var 3) a_nil)))))) ss_nil)
 (ss_one (s_ret (e_I (e_tup (ad_cons (e_ix (e_I (e_tup (ad_cons (e_con pe_str (fun _ => rfl)) (ad_cons (e_con pe_str (fun _ => rfl)) (ad_cons (e_con pe_str (fun _ => rfl)) ad_nil))))) (e_D (e_call D_Ltake (hr.mono (by omega)) rfl (T.glo 34) (fun σ => passAt (takes_of rfl rfl rfl rfl) σ) (a_cons (e_var 0) (a_cons (e_I (e_con pe_int (fun _ => rfl))) a_nil))))) (ad_cons (e_D (e_call D_Ltree (hr.mono (by omega)) rfl (T.glo 39) (fun σ => passAt (takes_of rfl rfl rfl rfl) σ) (a_cons (e_var 0) (a_cons (e_I (e_op o_sub ok_sub (e_D (e_var 1)) (e_con pe_int (fun _ => rfl)))) a_nil)))) ad_nil)))))))))
theorem no_Ltree (T : Dl.Fz fa fn xs kds w K mg) : Def P w K mg base 0 (He.ga K "_law_tree") ["_law_pool_here", "_law_deep"] (spD ⟨K, true⟩ (pf_Ltree 0)) := by
  obtain ⟨fd, F⟩ := T.c.def_ 24 (d := df_Ltree) rfl
  exact (Def.zero F (fun _ _ _ _ _ _ us hl => match us, hl with | [_, _], _ => rfl)).imp fun vs H Q E h => by
    obtain ⟨M, ρ, ws, st, k, ex, r, rw, hf, _⟩ := h
    exact (pf_Ltree0 : ∀ ws st k ex, ¬ (pf_Ltree 0) ws st k ex) _ _ _ _ hf
theorem all_Ltree (T : Dl.Fz fa fn xs kds w K mg) (D_Ltake : Def P w K mg base 2 (He.ga K "_law_take") ["_law_pool_here", "_law_many"] (spD ⟨K, true⟩ pf_take)) (D_Lchars : Def P w K mg base 3 (He.ga K "_law_chars") ["_law_pool_here"] (spD ⟨K, true⟩ pf_Lchars)) (D_Lflat : Def P w K mg base 1 (He.ga K "_law_flat") ["_law_head", "_law_parts"] (spD ⟨K, true⟩ pf_Lflat)) : ∀ n : Nat, Def P w K mg base (10 * n) (He.ga K "_law_tree") ["_law_pool_here", "_law_deep"] (spD ⟨K, true⟩ (pf_Ltree n))
  | 0 => (no_Ltree T).mono (by omega)
  | n + 1 => ok_Ltree n T D_Ltake D_Lchars D_Lflat (all_Ltree T D_Ltake D_Lchars D_Lflat n)
theorem sc_Lempty : FnScope N_Lempty ["_law_tree_here"] (defScope s_Lempty) := ⟨rfl, rfl, rfl, by decide +kernel, rfl, by decide +kernel, by decide +kernel⟩
theorem ok_Lempty (n : Nat) (T : Dl.Fz fa fn xs kds w K mg) (D_Lempty : Def P w K mg base (10 * n) (He.ga K "_law_empty") ["_law_tree_here"] (spD ⟨K, true⟩ (pf_cbe n))) : Def P w K mg base (10 * n + 10) (He.ga K "_law_empty") ["_law_tree_here"] (spD ⟨K, true⟩ (pf_cbe (n + 1))) := by
  obtain ⟨fd, F⟩ := T.c.def_ 25 (d := df_Lempty) rfl
  refine Def.of (N := N_Lempty) F sc_Lempty (fun _ _ _ _ _ _ us hl => match us, hl with | [_], _ => rfl) (spD_len fun ws st k ex h => by unfold pf_cbe at h; split at h <;> first | rfl | exact h.elim) (fun cdv A outer s H vs Q E hr h => ⟨lS (XN (cxOf (L2.CX P w) P w K mg base N_Lempty df_Lempty.qual df_Lempty.scope (He.ga K "_law_empty") cdv A outer s H E) true) (fun cls d _ H => E cls d H) (t_Lempty n), ?_, body_ok (kp := false) (Nm := N_Lempty) r_Lempty h⟩)
  exact (ss_cons (s_asg (ps_set (i := 1) sc_Lempty.nd rfl (Or.inl rfl) (e_I (e_ix (e_var 0) (e_con pe_int (fun _ => rfl))))))
 (ss_cons (s_if (t_cmpD (o_eq' hr.units) ok_eq (e_var 1) (e_I (e_con pe_str (fun _ => rfl))) (nomark _)) (ss_one (s_ret (e_I (e_con pe_bl (fun _ => rfl))))) ss_nil)
 (ss_cons (s_if (t_cmpD (o_eq' hr.units) ok_eq (e_var 1) (e_I (e_con pe_str (fun _ => rfl))) (nomark _)) (ss_one (s_ret (e_I (e_cb (cr_all rfl) ok_all (by rfl) (T.free 32) (by decide +kernel) (a_cons (e_I (e_lcD (own := [("_law_part", 2)]) (g := (gN 2)) (gV := (gName 2)) (gok_name (by decide)) rfl sc_Lempty.nd (i_sq (e_ix (e_var 0) (e_con pe_int (fun _ => rfl)))) (blkOk_by (own := [("_law_part", 2)]) (N := N_Lempty) (sc := defScope s_Lempty) (by decide +kernel)) (fun _ _ _ _ _ => (pg_name (i := 2) sc_Lempty.nd rfl (Or.inl rfl))) (fun _ _ _ _ _ => ts_nil) (fun _ _ _ _ _ => (e_D (e_call D_Lempty (hr.mono (by omega)) rfl (T.glo 41) (fun _ => pass_none (fun _ _ _ _ h => h)) (a_cons (e_var 2) a_nil)))))) a_nil))))) ss_nil)
 (ss_cons (s_if (t_cmpD (o_eq' hr.units) ok_eq (e_var 1) (e_I (e_con pe_str (fun _ => rfl))) (nomark _)) (ss_one (s_ret (e_I (e_cb (cr_any rfl) ok_any (by rfl) (T.free 1) (by decide +kernel) (a_cons (e_I (e_lcD (own := [("_law_part", 2)]) (g := (gN 2)) (gV := (gName 2)) (gok_name (by decide)) rfl sc_Lempty.nd (i_sq (e_ix (e_var 0) (e_con pe_int (fun _ => rfl)))) (blkOk_by (own := [("_law_part", 2)]) (N := N_Lempty) (sc := defScope s_Lempty) (by decide +kernel)) (fun _ _ _ _ _ => (pg_name (i := 2) sc_Lempty.nd rfl (Or.inl rfl))) (fun _ _ _ _ _ => ts_nil) (fun _ _ _ _ _ => (e_D (e_call D_Lempty (hr.mono (by omega)) rfl (T.glo 41) (fun _ => pass_none (fun _ _ _ _ h => h)) (a_cons (e_var 2) a_nil)))))) a_nil))))) ss_nil)
 (ss_one (s_ret (e_orV (e_I (e_cmpD (o_ne' hr.units) ok_ne (e_var 1) (e_I (e_con pe_str (fun _ => rfl))) (nomark _))) (e_or1 (e_call D_Lempty (hr.mono (by omega)) rfl (T.glo 41) (fun σ => passAt (takes_of rfl rfl rfl rfl) σ) (a_cons (e_I (e_ix (e_var 0) (e_con pe_int (fun _ => rfl)))) a_nil))))))))))
theorem no_Lempty (T : Dl.Fz fa fn xs kds w K mg) : Def P w K mg base 0 (He.ga K "_law_empty") ["_law_tree_here"] (spD ⟨K, true⟩ (pf_cbe 0)) := by
  obtain ⟨fd, F⟩ := T.c.def_ 25 (d := df_Lempty) rfl
  exact (Def.zero F (fun _ _ _ _ _ _ us hl => match us, hl with | [_], _ => rfl)).imp fun vs H Q E h => by
    obtain ⟨M, ρ, ws, st, k, ex, r, rw, hf, _⟩ := h
    exact (pf_cbe0 : ∀ ws st k ex, ¬ (pf_cbe 0) ws st k ex) _ _ _ _ hf
theorem all_Lempty (T : Dl.Fz fa fn xs kds w K mg) : ∀ n : Nat, Def P w K mg base (10 * n) (He.ga K "_law_empty") ["_law_tree_here"] (spD ⟨K, true⟩ (pf_cbe n))
  | 0 => (no_Lempty T).mono (by omega)
  | n + 1 => ok_Lempty n T (all_Lempty T n)
theorem sc_Lescaped : FnScope N_Lescaped ["_law_sign", "_law_barred"] (defScope s_Lescaped) := ⟨rfl, rfl, rfl, by decide +kernel, rfl, by decide +kernel, by decide +kernel⟩
theorem ok_Lescaped (T : Dl.Fz fa fn xs kds w K mg) : Def P w K mg base 1 (He.ga K "_law_escaped") ["_law_sign", "_law_barred"] (spD ⟨K, true⟩ pf_Lescaped) := by
  obtain ⟨fd, F⟩ := T.c.def_ 26 (d := df_Lescaped) rfl
  refine Def.of (k := 0) (N := N_Lescaped) F sc_Lescaped (fun _ _ _ _ _ _ us hl => match us, hl with | [_, _], _ => rfl) (spD_len fun ws st k ex h => by unfold pf_Lescaped at h; split at h <;> first | rfl | exact h.elim) (fun cdv A outer s H vs Q E hr h => ⟨lS (XN (cxOf (L2.CX P w) P w K mg base N_Lescaped df_Lescaped.qual df_Lescaped.scope (He.ga K "_law_escaped") cdv A outer s H E) true) (fun cls d _ H => E cls d H) (t_Lescaped), ?_, body_ok (kp := false) (Nm := N_Lescaped) r_Lescaped h⟩)
  exact (ss_cons (s_if (t_cmpD (o_eq' hr.units) ok_eq (e_var 0) (e_I (e_con pe_str (fun _ => rfl))) (nomark _)) (ss_one (s_ret (e_I (e_con pe_str (fun _ => rfl))))) ss_nil)
 (ss_cons (s_if (t_cmpD (o_in hr.units65) ok_in (e_var 0) (e_var 1) (by rfl)) (ss_one (s_ret (e_I (e_op o_add' ok_add (e_con pe_str (fun _ => rfl)) (e_D (e_var 0)))))) ss_nil)
 (ss_one (s_ret (e_var 0)))))
theorem sc_Lruns : FnScope N_Lruns ["_law_chars_here"] (defScope s_Lruns) := ⟨rfl, rfl, rfl, by decide +kernel, rfl, by decide +kernel, by decide +kernel⟩
theorem ok_Lruns (T : Dl.Fz fa fn xs kds w K mg) : Def P w K mg base 1 (He.ga K "_law_runs") ["_law_chars_here"] (spD ⟨K, true⟩ pf_Lruns) := by
  obtain ⟨fd, F⟩ := T.c.def_ 27 (d := df_Lruns) rfl
  refine Def.of (k := 0) (N := N_Lruns) F sc_Lruns (fun _ _ _ _ _ _ us hl => match us, hl with | [_], _ => rfl) (spD_len fun ws st k ex h => by unfold pf_Lruns at h; split at h <;> first | rfl | exact h.elim) (fun cdv A outer s H vs Q E hr h => ⟨lS (XN (cxOf (L2.CX P w) P w K mg base N_Lruns df_Lruns.qual df_Lruns.scope (He.ga K "_law_runs") cdv A outer s H E) true) (fun cls d _ H => E cls d H) (t_Lruns), ?_, body_ok (kp := false) (Nm := N_Lruns) r_Lruns h⟩)
  exact (ss_cons (s_asg (ps_set (i := 1) sc_Lruns.nd rfl (Or.inl rfl) (e_I (e_con pe_str (fun _ => rfl)))))
 (ss_cons (s_asg (ps_set (i := 2) sc_Lruns.nd rfl (Or.inl rfl) (e_lstM ad_nil)))
 (ss_cons (s_asg (ps_set (i := 3) sc_Lruns.nd rfl (Or.inl rfl) (e_I (e_un u_neg ok_neg (e_con pe_int (fun _ => rfl))))))
 (ss_cons (s_for (vs := [4]) (gV := (gName 4)) (gok_name (by decide)) (passes_of rfl) rfl (i_rg1 rfl (T.free 38) (pa_cons (e_con pe_int (fun _ => rfl)) pa_nil)) (pg_name (i := 4) sc_Lruns.nd rfl (Or.inl rfl))
 (ss_one (s_if (t_cmpD (o_in hr.units65) ok_in (e_I (e_ix (e_var 1) (e_D (e_var 4)))) (e_var 0) (by rfl)) (ss_cons (s_if (t_cmpD (o_eq' hr.units) ok_eq (e_var 3) (e_I (e_op o_sub ok_sub (e_D (e_var 4)) (e_con pe_int (fun _ => rfl)))) (nomark _)) (ss_one (s_setL (ps_asg (e_tup (ad_cons (e_ix (e_I (e_ix (e_var 2) (e_un u_neg ok_neg (e_con pe_int (fun _ => rfl))))) (e_con pe_int (fun _ => rfl))) (ad_cons (e_ix (e_var 1) (e_D (e_var 4))) ad_nil))) (pg_sub (e_var 2) (e_un u_neg ok_neg (e_con pe_int (fun _ => rfl))) set_list)))) (ss_one (s_app (ps_expr (pe_bm PySem.F.plainAttrs_list PySem.F.slot_list_append PySem.F.type_list_append mt_append (e_var 2) (pa_cons (e_tup (ad_cons (e_ix (e_var 1) (e_D (e_var 4))) (ad_cons (e_ix (e_var 1) (e_D (e_var 4))) ad_nil))) pa_nil))))))
 (ss_one (s_asg (ps_set (i := 3) sc_Lruns.nd rfl (Or.inl rfl) (e_var 4))))) ss_nil)))
 (ss_one (s_ret (e_var 2)))))))
theorem sc_Lset : FnScope N_Lset ["_law_chars_here"] (defScope s_Lset) := ⟨rfl, rfl, rfl, by decide +kernel, rfl, by decide +kernel, by decide +kernel⟩
theorem ok_Lset (T : Dl.Fz fa fn xs kds w K mg) (D_Lescaped : Def P w K mg base 1 (He.ga K "_law_escaped") ["_law_sign", "_law_barred"] (spD ⟨K, true⟩ pf_Lescaped)) (D_Lruns : Def P w K mg base 1 (He.ga K "_law_runs") ["_law_chars_here"] (spD ⟨K, true⟩ pf_Lruns)) : Def P w K mg base 2 (He.ga K "_law_set") ["_law_chars_here"] (spD ⟨K, true⟩ pf_Lset) := by
  obtain ⟨fd, F⟩ := T.c.def_ 28 (d := df_Lset) rfl
  refine Def.of (k := 1) (N := N_Lset) F sc_Lset (fun _ _ _ _ _ _ us hl => match us, hl with | [_], _ => rfl) (spD_len fun ws st k ex h => by unfold pf_Lset at h; split at h <;> first | rfl | exact h.elim) (fun cdv A outer s H vs Q E hr h => ⟨lS (XN (cxOf (L2.CX P w) P w K mg base N_Lset df_Lset.qual df_Lset.scope (He.ga K "_law_set") cdv A outer s H E) true) (fun cls d _ H => E cls d H) (t_Lset), ?_, body_ok (kp := false) (Nm := N_Lset) r_Lset h⟩)
  exact (ss_cons (s_if (t_cmpD (o_eq' hr.units) ok_eq (e_I (e_cb c_lenW ok_len (by rfl) (T.free 2) PySem.boot_len (a_cons (e_var 0) a_nil))) (e_I (e_con pe_int (fun _ => rfl))) (nomark _)) (ss_one (s_ret (e_call D_Lescaped (hr.mono (by decide)) rfl (T.glo 42) (fun σ => passAt (takes_of rfl rfl rfl rfl) σ) (a_cons (e_var 0) (a_cons (e_I (e_con pe_str (fun _ => rfl))) a_nil))))) ss_nil)
 (ss_cons (s_if (t_cmpD (o_eq' hr.units) ok_eq (e_I (e_cb c_lenW ok_len (by rfl) (T.free 2) PySem.boot_len (a_cons (e_var 0) a_nil))) (e_I (e_con pe_int (fun _ => rfl))) (nomark _)) (ss_one (s_ret (e_I (e_con pe_str (fun _ => rfl))))) ss_nil)
 (ss_cons (s_asg (ps_set (i := 1) sc_Lset.nd rfl (Or.inl rfl) (e_lstM ad_nil)))
 (ss_cons (s_for (vs := [2, 3]) (gV := (gTup K 2 (gCons (gName 2) (gCons (gName 3) gNil)))) (gok_tup (gsok_cons (gok_name (by decide)) (gsok_cons (gok_name (by decide)) gsok_nil))) (passes_of rfl) rfl (i_sq (e_D (e_call D_Lruns (hr.mono (by decide)) rfl (T.glo 43) (fun σ => passAt (takes_of rfl rfl rfl rfl) σ) (a_cons (e_var 0) a_nil)))) (pg_tup rfl (pgs_cons (pg_name (i := 2) sc_Lset.nd rfl (Or.inl rfl)) (pgs_cons (pg_name (i := 3) sc_Lset.nd rfl (Or.inl rfl)) pgs_nil)))
 (ss_cons (s_app (ps_expr (pe_bm PySem.F.plainAttrs_list PySem.F.slot_list_append PySem.F.type_list_append mt_append (e_var 1) (pa_cons (e_D (e_call D_Lescaped (hr.mono (by decide)) rfl (T.glo 42) (fun σ => passAt (takes_of rfl rfl rfl rfl) σ) (a_cons (e_var 2) (a_cons (e_I (e_con pe_str (fun _ => rfl))) a_nil)))) pa_nil))))
 (ss_one (s_if (t_cmpD (o_ne' hr.units) ok_ne (e_var 2) (e_var 3) (nomark _)) (ss_one (s_app (ps_expr (pe_bm PySem.F.plainAttrs_list PySem.F.slot_list_append PySem.F.type_list_append mt_append (e_var 1) (pa_cons (e_op o_add' ok_add (e_con pe_str (fun _ => rfl)) (e_D (e_call D_Lescaped (hr.mono (by decide)) rfl (T.glo 42) (fun σ => passAt (takes_of rfl rfl rfl rfl) σ) (a_cons (e_var 3) (a_cons (e_I (e_con pe_str (fun _ => rfl))) a_nil))))) pa_nil))))) ss_nil))))
 (ss_one (s_ret (e_I (e_op o_add' ok_add (e_op o_add' ok_add (e_con pe_str (fun _ => rfl)) (e_m1 PySem.F.slot_str_join PySem.F.type_str_join m_join ok_join (e_I (e_con pe_str (fun _ => rfl))) (e_var 1))) (e_con pe_str (fun _ => rfl))))))))))
theorem sc_Lcanonical : FnScope N_Lcanonical ["_law_tree_here"] (defScope s_Lcanonical) := ⟨rfl, rfl, rfl, by decide +kernel, rfl, by decide +kernel, by decide +kernel⟩
theorem ok_Lcanonical (n : Nat) (T : Dl.Fz fa fn xs kds w K mg) (D_Lset : Def P w K mg base 2 (He.ga K "_law_set") ["_law_chars_here"] (spD ⟨K, true⟩ pf_Lset)) (D_Lcanonical : Def P w K mg base (10 * n) (He.ga K "_law_canonical") ["_law_tree_here"] (spD ⟨K, true⟩ (pf_Lcanonical n))) : Def P w K mg base (10 * n + 10) (He.ga K "_law_canonical") ["_law_tree_here"] (spD ⟨K, true⟩ (pf_Lcanonical (n + 1))) := by
  obtain ⟨fd, F⟩ := T.c.def_ 29 (d := df_Lcanonical) rfl
  refine Def.of (N := N_Lcanonical) F sc_Lcanonical (fun _ _ _ _ _ _ us hl => match us, hl with | [_], _ => rfl) (spD_len fun ws st k ex h => by unfold pf_Lcanonical at h; split at h <;> first | rfl | exact h.elim) (fun cdv A outer s H vs Q E hr h => ⟨lS (XN (cxOf (L2.CX P w) P w K mg base N_Lcanonical df_Lcanonical.qual df_Lcanonical.scope (He.ga K "_law_canonical") cdv A outer s H E) true) (fun cls d _ H => E cls d H) (t_Lcanonical n), ?_, body_ok (kp := false) (Nm := N_Lcanonical) r_Lcanonical h⟩)
  exact (ss_cons (s_asg (ps_set (i := 1) sc_Lcanonical.nd rfl (Or.inl rfl) (e_I (e_ix (e_var 0) (e_con pe_int (fun _ => rfl))))))
 (ss_cons (s_if (t_cmpD (o_eq' hr.units) ok_eq (e_var 1) (e_I (e_con pe_str (fun _ => rfl))) (nomark _)) (ss_one (s_ret (e_call D_Lset (hr.mono (by omega)) rfl (T.glo 44) (fun σ => passAt (takes_of rfl rfl rfl rfl) σ) (a_cons (e_I (e_ix (e_var 0) (e_con pe_int (fun _ => rfl)))) a_nil)))) ss_nil)
 (ss_cons (s_if (t_cmpD (o_eq' hr.units) ok_eq (e_var 1) (e_I (e_con pe_str (fun _ => rfl))) (nomark _)) (ss_cons (s_asg (ps_set (i := 2) sc_Lcanonical.nd rfl (Or.inl rfl) (e_lstM ad_nil)))
 (ss_cons (s_for (vs := [3]) (gV := (gName 3)) (gok_name (by decide)) (passes_of rfl) rfl (i_sq (e_ix (e_var 0) (e_con pe_int (fun _ => rfl)))) (pg_name (i := 3) sc_Lcanonical.nd rfl (Or.inl rfl))
 (ss_one (s_app (ps_expr (pe_bm PySem.F.plainAttrs_list PySem.F.slot_list_append PySem.F.type_list_append mt_append (e_var 2) (pa_cons (e_D (e_ifW (t_cmpD (o_eq' hr.units) ok_eq (e_I (e_ix (e_var 3) (e_con pe_int (fun _ => rfl)))) (e_I (e_con pe_str (fun _ => rfl))) (nomark _)) (e_I (e_op o_add' ok_add (e_op o_add' ok_add (e_con pe_str (fun _ => rfl)) (e_D (e_call D_Lcanonical (hr.mono (by omega)) rfl (T.glo 45) (fun σ => passAt (takes_of rfl rfl rfl rfl) σ) (a_cons (e_var 3) a_nil)))) (e_con pe_str (fun _ => rfl)))) (e_call D_Lcanonical (hr.mono (by omega)) rfl (T.glo 45) (fun σ => passAt (takes_of rfl rfl rfl rfl) σ) (a_cons (e_var 3) a_nil)))) pa_nil))))))
 (ss_one (s_ret (e_I (e_m1 PySem.F.slot_str_join PySem.F.type_str_join m_join ok_join (e_I (e_con pe_str (fun _ => rfl))) (e_var 2))))))) ss_nil)
 (ss_cons (s_if (t_cmpD (o_eq' hr.units) ok_eq (e_var 1) (e_I (e_con pe_str (fun _ => rfl))) (nomark _)) (ss_one (s_ret (e_I (e_m1 PySem.F.slot_str_join PySem.F.type_str_join m_join ok_join (e_I (e_con pe_str (fun _ => rfl))) (e_I (e_lcD (own := [("_law_part", 3)]) (g := (gN 3)) (gV := (gName 3)) (gok_name (by decide)) rfl sc_Lcanonical.nd (i_sq (e_ix (e_var 0) (e_con pe_int (fun _ => rfl)))) (blkOk_by (own := [("_law_part", 3)]) (N := N_Lcanonical) (sc := defScope s_Lcanonical) (by decide +kernel)) (fun _ _ _ _ _ => (pg_name (i := 3) sc_Lcanonical.nd rfl (Or.inl rfl))) (fun _ _ _ _ _ => ts_nil) (fun _ _ _ _ _ => (e_D (e_call D_Lcanonical (hr.mono (by omega)) rfl (T.glo 45) (fun _ => pass_none (fun _ _ _ _ h => h)) (a_cons (e_var 3) a_nil)))))))))) ss_nil)
 (ss_cons (s_asg (ps_set (i := 4) sc_Lcanonical.nd rfl (Or.inl rfl) (e_call D_Lcanonical (hr.mono (by omega)) rfl (T.glo 45) (fun σ => passAt (takes_of rfl rfl rfl rfl) σ) (a_cons (e_I (e_ix (e_var 0) (e_con pe_int (fun _ => rfl)))) a_nil))))
 (ss_cons (s_if (t_cmpD (o_ne' hr.units) ok_ne (e_I (e_ix (e_I (e_ix (e_var 0) (e_con pe_int (fun _ => rfl)))) (e_con pe_int (fun _ => rfl)))) (e_I (e_con pe_str (fun _ => rfl))) (nomark _)) (ss_one (s_asg (ps_set (i := 4) sc_Lcanonical.nd rfl (Or.inl rfl) (e_I (e_op o_add' ok_add (e_op o_add' ok_add (e_con pe_str (fun _ => rfl)) (e_D (e_var 4))) (e_con pe_str (fun _ => rfl))))))) ss_nil)
 (ss_one (s_ret (e_I (e_op o_add' ok_add (e_D (e_var 4)) (e_get (hu_of hr) (fun z => nomatch z) (e_I (e_dispD (dp_cons (e_con pe_str (fun _ => rfl)) (e_con pe_str (fun _ => rfl)) (dp_cons (e_con pe_str (fun _ => rfl)) (e_con pe_str (fun _ => rfl)) (dp_cons (e_con pe_str (fun _ => rfl)) (e_con pe_str (fun _ => rfl)) dp_nil))) (by rfl) (by rfl) (fun z => by cases z) (by decide))) (e_D (e_var 1)))))))))))))
theorem no_Lcanonical (T : Dl.Fz fa fn xs kds w K mg) : Def P w K mg base 0 (He.ga K "_law_canonical") ["_law_tree_here"] (spD ⟨K, true⟩ (pf_Lcanonical 0)) := by
  obtain ⟨fd, F⟩ := T.c.def_ 29 (d := df_Lcanonical) rfl
  exact (Def.zero F (fun _ _ _ _ _ _ us hl => match us, hl with | [_], _ => rfl)).imp fun vs H Q E h => by
    obtain ⟨M, ρ, ws, st, k, ex, r, rw, hf, _⟩ := h
    exact (pf_Lcanonical0 : ∀ ws st k ex, ¬ (pf_Lcanonical 0) ws st k ex) _ _ _ _ hf
theorem all_Lcanonical (T : Dl.Fz fa fn xs kds w K mg) (D_Lset : Def P w K mg base 2 (He.ga K "_law_set") ["_law_chars_here"] (spD ⟨K, true⟩ pf_Lset)) : ∀ n : Nat, Def P w K mg base (10 * n) (He.ga K "_law_canonical") ["_law_tree_here"] (spD ⟨K, true⟩ (pf_Lcanonical n))
  | 0 => (no_Lcanonical T).mono (by omega)
  | n + 1 => ok_Lcanonical n T D_Lset (all_Lcanonical T D_Lset n)
theorem sc_Lis_integer : FnScope N_Lis_integer ["_law_actual"] (defScope s_Lis_integer) := ⟨rfl, rfl, rfl, by decide +kernel, rfl, by decide +kernel, by decide +kernel⟩
theorem ok_Lis_integer (T : Dl.Fz fa fn xs kds w K mg) : Def P w K mg base 1 (He.ga K "_law_is_integer") ["_law_actual"] (spD ⟨K, true⟩ Sm.pf_isint) := by
  obtain ⟨fd, F⟩ := T.c.def_ 30 (d := df_Lis_integer) rfl
  refine Def.of (k := 0) (N := N_Lis_integer) F sc_Lis_integer (fun _ _ _ _ _ _ us hl => match us, hl with | [_], _ => rfl) (spD_len fun ws st k ex h => by unfold Sm.pf_isint at h; split at h <;> first | rfl | exact h.elim) (fun cdv A outer s H vs Q E hr h => ⟨lS (XN (cxOf (L2.CX P w) P w K mg base N_Lis_integer df_Lis_integer.qual df_Lis_integer.scope (He.ga K "_law_is_integer") cdv A outer s H E) true) (fun cls d _ H => E cls d H) (t_Lis_integer), ?_, body_ok (kp := false) (Nm := N_Lis_integer) r_Lis_integer h⟩)
  exact (ss_one (s_ret (e_andV (e_I (e_cb c_isi ok_isi (by rfl) (T.free 46) (by decide +kernel) (a_cons (e_var 0) (a_cons (e_I (e_con (pe_bltn (v := .ty "int") (u := .type "int") (by rfl) (T.free 33) (by decide +kernel) rfl) (fun _ => rfl))) a_nil)))) (e_and1 (e_I (e_notW (e_I (e_cb c_isi ok_isi (by rfl) (T.free 46) (by decide +kernel) (a_cons (e_var 0) (a_cons (e_I (e_con (pe_bltn (v := .ty "bool") (u := .type "bool") (by rfl) (T.free 47) (by decide +kernel) rfl) (fun _ => rfl))) a_nil))))))))))
theorem sc_Lsame : FnScope N_Lsame ["_law_actual", "_law_due"] (defScope s_Lsame) := ⟨rfl, rfl, rfl, by decide +kernel, rfl, by decide +kernel, by decide +kernel⟩
theorem ok_Lsame (n : Nat) (T : Dl.Fz fa fn xs kds w K mg) (D_Lis_integer : Def P w K mg base 1 (He.ga K "_law_is_integer") ["_law_actual"] (spD ⟨K, true⟩ Sm.pf_isint)) (D_Lsame : Def P w K mg base (10 * n) (He.ga K "_law_same") ["_law_actual", "_law_due"] (spD ⟨K, true⟩ (Sm.pf_same n))) : Def P w K mg base (10 * n + 10) (He.ga K "_law_same") ["_law_actual", "_law_due"] (spD ⟨K, true⟩ (Sm.pf_same (n + 1))) := by
  obtain ⟨fd, F⟩ := T.c.def_ 31 (d := df_Lsame) rfl
  refine Def.of (N := N_Lsame) F sc_Lsame (fun _ _ _ _ _ _ us hl => match us, hl with | [_, _], _ => rfl) (spD_len fun ws st k ex h => by unfold Sm.pf_same at h; split at h <;> first | rfl | exact h.elim) (fun cdv A outer s H vs Q E hr h => ⟨lS (XN (cxOf (L2.CX P w) P w K mg base N_Lsame df_Lsame.qual df_Lsame.scope (He.ga K "_law_same") cdv A outer s H E) true) (fun cls d _ H => E cls d H) (t_Lsame n), ?_, body_ok (kp := false) (Nm := N_Lsame) r_Lsame h⟩)
  exact (ss_cons (s_if (t_tru (e_I (e_cb c_isi ok_isi (by rfl) (T.free 46) (by decide +kernel) (a_cons (e_var 1) (a_cons (e_I (e_con (pe_bltn (v := .ty "tuple") (u := .type "tuple") (by rfl) (T.free 3) (by decide +kernel) rfl) (fun _ => rfl))) a_nil))))) (ss_cons (s_if (PW.pt (w_or (t_not (t_tru (e_I (e_cb c_isi ok_isi (by rfl) (T.free 46) (by decide +kernel) (a_cons (e_var 0) (a_cons (e_I (e_con (pe_bltn (v := .ty "tuple") (u := .type "tuple") (by rfl) (T.free 3) (by decide +kernel) rfl) (fun _ => rfl))) a_nil)))))) (w_or1 (t_cmpD (o_ne' hr.units) ok_ne (e_I (e_cb c_lenW ok_len (by rfl) (T.free 2) PySem.boot_len (a_cons (e_var 0) a_nil))) (e_I (e_cb c_lenW ok_len (by rfl) (T.free 2) PySem.boot_len (a_cons (e_var 1) a_nil))) (nomark _))))) (ss_one (s_ret (e_I (e_con pe_bl (fun _ => rfl))))) ss_nil)
 (ss_one (s_ret (e_I (e_cb (cr_all rfl) ok_all (by rfl) (T.free 32) (by decide +kernel) (a_cons (e_I (e_lcD (own := [("_law_k", 2)]) (g := (gN 2)) (gV := (gName 2)) (gok_name (by decide)) rfl sc_Lsame.nd (i_rg1 rfl (T.free 38) (pa_cons (e_cb c_lenW ok_len (by rfl) (T.free 2) PySem.boot_len (a_cons (e_var 1) a_nil)) pa_nil)) (blkOk_by (own := [("_law_k", 2)]) (N := N_Lsame) (sc := defScope s_Lsame) (by decide +kernel)) (fun _ _ _ _ _ => (pg_name (i := 2) sc_Lsame.nd rfl (Or.inl rfl))) (fun _ _ _ _ _ => ts_nil) (fun _ _ _ _ _ => (e_D (e_call D_Lsame (hr.mono (by omega)) rfl (T.glo 48) (fun _ => pass_none (fun _ _ _ _ h => h)) (a_cons (e_I (e_ix (e_var 0) (e_D (e_var 2)))) (a_cons (e_I (e_ix (e_var 1) (e_D (e_var 2)))) a_nil))))))) a_nil)))))) ss_nil)
 (ss_cons (s_if (t_tru (e_I (e_cb c_isi ok_isi (by rfl) (T.free 46) (by decide +kernel) (a_cons (e_var 1) (a_cons (e_I (e_con (pe_bltn (v := .ty "list") (u := .type "list") (by rfl) (T.free 36) (by decide +kernel) rfl) (fun _ => rfl))) a_nil))))) (ss_cons (s_if (PW.pt (w_or (t_not (t_tru (e_I (e_cb c_isi ok_isi (by rfl) (T.free 46) (by decide +kernel) (a_cons (e_var 0) (a_cons (e_I (e_con (pe_bltn (v := .ty "list") (u := .type "list") (by rfl) (T.free 36) (by decide +kernel) rfl) (fun _ => rfl))) a_nil)))))) (w_or1 (t_cmpD (o_ne' hr.units) ok_ne (e_I (e_cb c_lenW ok_len (by rfl) (T.free 2) PySem.boot_len (a_cons (e_var 0) a_nil))) (e_I (e_cb c_lenW ok_len (by rfl) (T.free 2) PySem.boot_len (a_cons (e_var 1) a_nil))) (nomark _))))) (ss_one (s_ret (e_I (e_con pe_bl (fun _ => rfl))))) ss_nil)
 (ss_one (s_ret (e_I (e_cb (cr_all rfl) ok_all (by rfl) (T.free 32) (by decide +kernel) (a_cons (e_I (e_lcD (own := [("_law_k", 2)]) (g := (gN 2)) (gV := (gName 2)) (gok_name (by decide)) rfl sc_Lsame.nd (i_rg1 rfl (T.free 38) (pa_cons (e_cb c_lenW ok_len (by rfl) (T.free 2) PySem.boot_len (a_cons (e_var 1) a_nil)) pa_nil)) (blkOk_by (own := [("_law_k", 2)]) (N := N_Lsame) (sc := defScope s_Lsame) (by decide +kernel)) (fun _ _ _ _ _ => (pg_name (i := 2) sc_Lsame.nd rfl (Or.inl rfl))) (fun _ _ _ _ _ => ts_nil) (fun _ _ _ _ _ => (e_D (e_call D_Lsame (hr.mono (by omega)) rfl (T.glo 48) (fun _ => pass_none (fun _ _ _ _ h => h)) (a_cons (e_I (e_ix (e_var 0) (e_D (e_var 2)))) (a_cons (e_I (e_ix (e_var 1) (e_D (e_var 2)))) a_nil))))))) a_nil)))))) ss_nil)
 (ss_cons (s_if (t_isND (e_var 1)) (ss_one (s_ret (e_I (e_isND (e_var 0))))) ss_nil)
 (ss_cons (s_if (t_tru (e_I (e_cb c_isi ok_isi (by rfl) (T.free 46) (by decide +kernel) (a_cons (e_var 1) (a_cons (e_I (e_con (pe_bltn (v := .ty "bool") (u := .type "bool") (by rfl) (T.free 47) (by decide +kernel) rfl) (fun _ => rfl))) a_nil))))) (ss_one (s_ret (e_andV (e_I (e_cb c_isi ok_isi (by rfl) (T.free 46) (by decide +kernel) (a_cons (e_var 0) (a_cons (e_I (e_con (pe_bltn (v := .ty "bool") (u := .type "bool") (by rfl) (T.free 47) (by decide +kernel) rfl) (fun _ => rfl))) a_nil)))) (e_and1 (e_I (e_cmpD (o_eq' hr.units) ok_eq (e_var 0) (e_var 1) (nomark _))))))) ss_nil)
 (ss_cons (s_if (t_tru (e_I (e_cb c_isi ok_isi (by rfl) (T.free 46) (by decide +kernel) (a_cons (e_var 1) (a_cons (e_I (e_con (pe_bltn (v := .ty "str") (u := .type "str") (by rfl) (T.free 49) (by decide +kernel) rfl) (fun _ => rfl))) a_nil))))) (ss_one (s_ret (e_andV (e_I (e_cb c_isi ok_isi (by rfl) (T.free 46) (by decide +kernel) (a_cons (e_var 0) (a_cons (e_I (e_con (pe_bltn (v := .ty "str") (u := .type "str") (by rfl) (T.free 49) (by decide +kernel) rfl) (fun _ => rfl))) a_nil)))) (e_and1 (e_I (e_cmpD (o_eq' hr.units) ok_eq (e_var 0) (e_var 1) (nomark _))))))) ss_nil)
 (ss_one (s_ret (e_andV (e_call D_Lis_integer (hr.mono (by omega)) rfl (T.glo 50) (fun σ => passAt (takes_of rfl rfl rfl rfl) σ) (a_cons (e_var 0) a_nil)) (e_and1 (e_I (e_cmpD (o_eq' hr.units) ok_eq (e_var 0) (e_var 1) (nomark _))))))))))))
theorem no_Lsame (T : Dl.Fz fa fn xs kds w K mg) : Def P w K mg base 0 (He.ga K "_law_same") ["_law_actual", "_law_due"] (spD ⟨K, true⟩ (Sm.pf_same 0)) := by
  obtain ⟨fd, F⟩ := T.c.def_ 31 (d := df_Lsame) rfl
  exact (Def.zero F (fun _ _ _ _ _ _ us hl => match us, hl with | [_, _], _ => rfl)).imp fun vs H Q E h => by
    obtain ⟨M, ρ, ws, st, k, ex, r, rw, hf, _⟩ := h
    exact (Sm.pf_same0 : ∀ ws st k ex, ¬ (Sm.pf_same 0) ws st k ex) _ _ _ _ hf
theorem all_Lsame (T : Dl.Fz fa fn xs kds w K mg) (D_Lis_integer : Def P w K mg base 1 (He.ga K "_law_is_integer") ["_law_actual"] (spD ⟨K, true⟩ Sm.pf_isint)) : ∀ n : Nat, Def P w K mg base (10 * n) (He.ga K "_law_same") ["_law_actual", "_law_due"] (spD ⟨K, true⟩ (Sm.pf_same n))
  | 0 => (no_Lsame T).mono (by omega)
  | n + 1 => ok_Lsame n T D_Lis_integer (all_Lsame T D_Lis_integer n)
theorem sc_Lspelt : FnScope N_Lspelt ["_law_pool_here", "_law_sign", "_law_barred"] (defScope s_Lspelt) := ⟨rfl, rfl, rfl, by decide +kernel, rfl, by decide +kernel, by decide +kernel⟩
theorem ok_Lspelt (T : Dl.Fz fa fn xs kds w K mg) (D_Ltake : Def P w K mg base 2 (He.ga K "_law_take") ["_law_pool_here", "_law_many"] (spD ⟨K, true⟩ pf_take)) (D_Lescaped : Def P w K mg base 1 (He.ga K "_law_escaped") ["_law_sign", "_law_barred"] (spD ⟨K, true⟩ pf_Lescaped)) : Def P w K mg base 3 (He.ga K "_law_spelt") ["_law_pool_here", "_law_sign", "_law_barred"] (spD ⟨K, true⟩ pf_Lspelt) := by
  obtain ⟨fd, F⟩ := T.c.def_ 32 (d := df_Lspelt) rfl
  refine Def.of (k := 2) (N := N_Lspelt) F sc_Lspelt (fun _ _ _ _ _ _ us hl => match us, hl with | [_, _, _], _ => rfl) (spD_len fun ws st k ex h => by unfold pf_Lspelt at h; split at h <;> first | rfl | exact h.elim) (fun cdv A outer s H vs Q E hr h => ⟨lS (XN (cxOf (L2.CX P w) P w K mg base N_Lspelt df_Lspelt.qual df_Lspelt.scope (He.ga K "_law_spelt") cdv A outer s H E) true) (fun cls d _ H => E cls d H) (t_Lspelt), ?_, body_ok (kp := false) (Nm := N_Lspelt) r_Lspelt h⟩)
  exact (ss_cons (s_if (PW.pt (w_and (t_cmpD (o_eq' hr.units) ok_eq (e_var 1) (e_I (e_con pe_str (fun _ => rfl))) (nomark _)) (w_and1 (t_cmpD (o_eq' hr.units) ok_eq (e_call D_Ltake (hr.mono (by decide)) rfl (T.glo 34) (fun σ => passAt (takes_of rfl rfl rfl rfl) σ) (a_cons (e_var 0) (a_cons (e_I (e_con pe_int (fun _ => rfl))) a_nil))) (e_I (e_con pe_int (fun _ => rfl))) (nomark _))))) (ss_one (s_ret (e_var 1))) ss_nil)
 (ss_cons (s_if (t_cmpD (o_eq' hr.units) ok_eq (e_call D_Ltake (hr.mono (by decide)) rfl (T.glo 34) (fun σ => passAt (takes_of rfl rfl rfl rfl) σ) (a_cons (e_var 0) (a_cons (e_I (e_con pe_int (fun _ => rfl))) a_nil))) (e_I (e_con pe_int (fun _ => rfl))) (nomark _)) (ss_one (s_asg (ps_set (i := 2) sc_Lspelt.nd rfl (Or.inl rfl) (e_I (e_con pe_str (fun _ => rfl)))))) ss_nil)
 (ss_one (s_ret (e_call D_Lescaped (hr.mono (by decide)) rfl (T.glo 42) (fun σ => passAt (takes_of rfl rfl rfl rfl) σ) (a_cons (e_var 1) (a_cons (e_var 2) a_nil)))))))
theorem sc_Lmembers : FnScope N_Lmembers ["_law_pool_here", "_law_runs_here"] (defScope s_Lmembers) := ⟨rfl, rfl, rfl, by decide +kernel, rfl, by decide +kernel, by decide +kernel⟩
theorem ok_Lmembers (T : Dl.Fz fa fn xs kds w K mg) (D_Lspelt : Def P w K mg base 3 (He.ga K "_law_spelt") ["_law_pool_here", "_law_sign", "_law_barred"] (spD ⟨K, true⟩ pf_Lspelt)) (D_Ltake : Def P w K mg base 2 (He.ga K "_law_take") ["_law_pool_here", "_law_many"] (spD ⟨K, true⟩ pf_take)) : Def P w K mg base 4 (He.ga K "_law_members") ["_law_pool_here", "_law_runs_here"] (spD ⟨K, true⟩ pf_Lmembers) := by
  obtain ⟨fd, F⟩ := T.c.def_ 33 (d := df_Lmembers) rfl
  refine Def.of (k := 3) (N := N_Lmembers) F sc_Lmembers (fun _ _ _ _ _ _ us hl => match us, hl with | [_, _], _ => rfl) (spD_len fun ws st k ex h => by unfold pf_Lmembers at h; split at h <;> first | rfl | exact h.elim) (fun cdv A outer s H vs Q E hr h => ⟨lS (XN (cxOf (L2.CX P w) P w K mg base N_Lmembers df_Lmembers.qual df_Lmembers.scope (He.ga K "_law_members") cdv A outer s H E) true) (fun cls d _ H => E cls d H) (t_Lmembers), ?_, body_ok (kp := false) (Nm := N_Lmembers) r_Lmembers h⟩)
  exact (ss_cons (s_asg (ps_set (i := 2) sc_Lmembers.nd rfl (Or.inl rfl) (e_lstM ad_nil)))
 (ss_cons (s_for (vs := [3, 4]) (gV := (gTup K 2 (gCons (gName 3) (gCons (gName 4) gNil)))) (gok_tup (gsok_cons (gok_name (by decide)) (gsok_cons (gok_name (by decide)) gsok_nil))) (passes_of rfl) rfl (i_sq (e_D (e_var 1))) (pg_tup rfl (pgs_cons (pg_name (i := 3) sc_Lmembers.nd rfl (Or.inl rfl)) (pgs_cons (pg_name (i := 4) sc_Lmembers.nd rfl (Or.inl rfl)) pgs_nil)))
 (ss_cons (s_asg (ps_set (i := 5) sc_Lmembers.nd rfl (Or.inl rfl) (e_call D_Lspelt (hr.mono (by decide)) rfl (T.glo 51) (fun σ => passAt (takes_of rfl rfl rfl rfl) σ) (a_cons (e_var 0) (a_cons (e_var 3) (a_cons (e_I (e_con pe_str (fun _ => rfl))) a_nil))))))
 (ss_cons (s_asg (ps_set (i := 6) sc_Lmembers.nd rfl (Or.inl rfl) (e_call D_Lspelt (hr.mono (by decide)) rfl (T.glo 51) (fun σ => passAt (takes_of rfl rfl rfl rfl) σ) (a_cons (e_var 0) (a_cons (e_var 4) (a_cons (e_I (e_con pe_str (fun _ => rfl))) a_nil))))))
 (ss_one (s_if (t_cmpD (o_ne' hr.units) ok_ne (e_var 3) (e_var 4) (nomark _)) (ss_one (s_app (ps_expr (pe_bm PySem.F.plainAttrs_list PySem.F.slot_list_append PySem.F.type_list_append mt_append (e_var 2) (pa_cons (e_op o_add' ok_add (e_op o_add' ok_add (e_D (e_var 5)) (e_con pe_str (fun _ => rfl))) (e_D (e_var 6))) pa_nil))))) (ss_one (s_if (t_cmpD (o_eq' hr.units) ok_eq (e_call D_Ltake (hr.mono (by decide)) rfl (T.glo 34) (fun σ => passAt (takes_of rfl rfl rfl rfl) σ) (a_cons (e_var 0) (a_cons (e_I (e_con pe_int (fun _ => rfl))) a_nil))) (e_I (e_con pe_int (fun _ => rfl))) (nomark _)) (ss_one (s_app (ps_expr (pe_bm PySem.F.plainAttrs_list PySem.F.slot_list_append PySem.F.type_list_append mt_append (e_var 2) (pa_cons (e_op o_add' ok_add (e_op o_add' ok_add (e_D (e_var 5)) (e_con pe_str (fun _ => rfl))) (e_D (e_var 5))) pa_nil))))) (ss_one (s_app (ps_expr (pe_bm PySem.F.plainAttrs_list PySem.F.slot_list_append PySem.F.type_list_append mt_append (e_var 2) (pa_cons (e_D (e_var 5)) pa_nil))))))))))))
 (ss_cons (s_asg (ps_set (i := 7) sc_Lmembers.nd rfl (Or.inl rfl) (e_lstM ad_nil)))
 (ss_cons (s_for (vs := [8]) (gV := (gName 8)) (gok_name (by decide)) (passes_of rfl) rfl (i_rg1 rfl (T.free 38) (pa_cons (e_cb c_lenW ok_len (by rfl) (T.free 2) PySem.boot_len (a_cons (e_var 2) a_nil)) pa_nil)) (pg_name (i := 8) sc_Lmembers.nd rfl (Or.inl rfl))
 (ss_cons (s_ins (ps_expr (pe_bm PySem.F.plainAttrs_list PySem.F.slot_list_insert PySem.F.type_list_insert mt_ins (e_var 7) (pa_cons (e_D (e_call D_Ltake (hr.mono (by decide)) rfl (T.glo 34) (fun σ => passAt (takes_of rfl rfl rfl rfl) σ) (a_cons (e_var 0) (a_cons (e_I (e_op o_add' ok_add (e_cb c_lenW ok_len (by rfl) (T.free 2) PySem.boot_len (a_cons (e_var 7) a_nil)) (e_con pe_int (fun _ => rfl)))) a_nil)))) (pa_cons (e_ix (e_var 2) (e_D (e_var 8))) pa_nil)))))
 (ss_one (s_if (t_cmpD (o_eq' hr.units) ok_eq (e_call D_Ltake (hr.mono (by decide)) rfl (T.glo 34) (fun σ => passAt (takes_of rfl rfl rfl rfl) σ) (a_cons (e_var 0) (a_cons (e_I (e_con pe_int (fun _ => rfl))) a_nil))) (e_I (e_con pe_int (fun _ => rfl))) (nomark _)) (ss_one (s_app (ps_expr (pe_bm PySem.F.plainAttrs_list PySem.F.slot_list_append PySem.F.type_list_append mt_append (e_var 7) (pa_cons (e_ix (e_var 2) (e_D (e_var 8))) pa_nil))))) ss_nil))))
 (ss_one (s_ret (e_I (e_m1 PySem.F.slot_str_join PySem.F.type_str_join m_join ok_join (e_I (e_con pe_str (fun _ => rfl))) (e_var 7)))))))))
theorem sc_Lany_set : FnScope N_Lany_set ["_law_pool_here", "_law_chars_here"] (defScope s_Lany_set) := ⟨rfl, rfl, rfl, by decide +kernel, rfl, by decide +kernel, by decide +kernel⟩
theorem ok_Lany_set (T : Dl.Fz fa fn xs kds w K mg) (D_Ltake : Def P w K mg base 2 (He.ga K "_law_take") ["_law_pool_here", "_law_many"] (spD ⟨K, true⟩ pf_take)) (D_Lspelt : Def P w K mg base 3 (He.ga K "_law_spelt") ["_law_pool_here", "_law_sign", "_law_barred"] (spD ⟨K, true⟩ pf_Lspelt)) (D_Lset : Def P w K mg base 2 (He.ga K "_law_set") ["_law_chars_here"] (spD ⟨K, true⟩ pf_Lset)) (D_Lmembers : Def P w K mg base 4 (He.ga K "_law_members") ["_law_pool_here", "_law_runs_here"] (spD ⟨K, true⟩ pf_Lmembers)) (D_Lruns : Def P w K mg base 1 (He.ga K "_law_runs") ["_law_chars_here"] (spD ⟨K, true⟩ pf_Lruns)) : Def P w K mg base 5 (He.ga K "_law_any_set") ["_law_pool_here", "_law_chars_here"] (spD ⟨K, true⟩ pf_Lany_set) := by
  obtain ⟨fd, F⟩ := T.c.def_ 34 (d := df_Lany_set) rfl
  refine Def.of (k := 4) (N := N_Lany_set) F sc_Lany_set (fun _ _ _ _ _ _ us hl => match us, hl with | [_, _], _ => rfl) (spD_len fun ws st k ex h => by unfold pf_Lany_set at h; split at h <;> first | rfl | exact h.elim) (fun cdv A outer s H vs Q E hr h => ⟨lS (XN (cxOf (L2.CX P w) P w K mg base N_Lany_set df_Lany_set.qual df_Lany_set.scope (He.ga K "_law_any_set") cdv A outer s H E) true) (fun cls d _ H => E cls d H) (t_Lany_set), ?_, body_ok (kp := false) (Nm := N_Lany_set) r_Lany_set h⟩)
  exact (ss_cons (s_asg (ps_set (i := 2) sc_Lany_set.nd rfl (Or.inl rfl) (e_call D_Ltake (hr.mono (by decide)) rfl (T.glo 34) (fun σ => passAt (takes_of rfl rfl rfl rfl) σ) (a_cons (e_var 0) (a_cons (e_I (e_con pe_int (fun _ => rfl))) a_nil)))))
 (ss_cons (s_if (PW.pt (w_and (t_cmpD (o_eq' hr.units) ok_eq (e_var 2) (e_I (e_con pe_int (fun _ => rfl))) (nomark _)) (w_and1 (t_cmpD (o_eq' hr.units) ok_eq (e_I (e_cb c_lenW ok_len (by rfl) (T.free 2) PySem.boot_len (a_cons (e_var 1) a_nil))) (e_I (e_con pe_int (fun _ => rfl))) (nomark _))))) (ss_one (s_ret (e_call D_Lspelt (hr.mono (by decide)) rfl (T.glo 51) (fun σ => passAt (takes_of rfl rfl rfl rfl) σ) (a_cons (e_var 0) (a_cons (e_var 1) (a_cons (e_I (e_con pe_str (fun _ => rfl))) a_nil)))))) ss_nil)
 (ss_cons (s_if (PW.pt (w_or (t_cmpD (o_eq' hr.units) ok_eq (e_var 2) (e_I (e_con pe_int (fun _ => rfl))) (nomark _)) (w_or1 (t_cmpD (o_eq' hr.units) ok_eq (e_I (e_cb c_lenW ok_len (by rfl) (T.free 2) PySem.boot_len (a_cons (e_var 1) a_nil))) (e_I (e_con pe_int (fun _ => rfl))) (nomark _))))) (ss_one (s_ret (e_call D_Lset (hr.mono (by decide)) rfl (T.glo 44) (fun σ => passAt (takes_of rfl rfl rfl rfl) σ) (a_cons (e_var 1) a_nil)))) ss_nil)
 (ss_cons (s_if (t_cmpD (o_eq' hr.units) ok_eq (e_var 2) (e_I (e_con pe_int (fun _ => rfl))) (nomark _)) (ss_one (s_ret (e_I (e_op o_add' ok_add (e_op o_add' ok_add (e_con pe_str (fun _ => rfl)) (e_D (e_call D_Lmembers (hr.mono (by decide)) rfl (T.glo 52) (fun σ => passAt (takes_of rfl rfl rfl rfl) σ) (a_cons (e_var 0) (a_cons (e_call D_Lruns (hr.mono (by decide)) rfl (T.glo 43) (fun σ => passAt (takes_of rfl rfl rfl rfl) σ) (a_cons (e_var 1) a_nil)) a_nil))))) (e_con pe_str (fun _ => rfl)))))) ss_nil)
 (ss_cons (s_asg (ps_set (i := 3) sc_Lany_set.nd rfl (Or.inl rfl) (e_I (e_m1 PySem.F.slot_str_join PySem.F.type_str_join m_join ok_join (e_I (e_con pe_str (fun _ => rfl))) (e_I (e_lcD (own := [("_law_sign", 4)]) (g := (gN 4)) (gV := (gName 4)) (gok_name (by decide)) rfl sc_Lany_set.nd (i_st (e_con (e_gstr rfl (T.strg 0)) (fun _ => rfl))) (blkOk_by (own := [("_law_sign", 4)]) (N := N_Lany_set) (sc := defScope s_Lany_set) (by decide +kernel)) (fun _ _ _ _ _ => (pg_name (i := 4) sc_Lany_set.nd rfl (Or.inl rfl))) (fun _ _ _ _ _ => (ts_one (t_cmpD (o_notIn hr.units65) ok_notIn (e_var 4) (e_var 1) (by rfl)))) (fun _ _ _ _ _ => (e_D (e_var 4)))))))))
 (ss_one (s_ret (e_I (e_op o_add' ok_add (e_op o_add' ok_add (e_con pe_str (fun _ => rfl)) (e_D (e_call D_Lmembers (hr.mono (by decide)) rfl (T.glo 52) (fun σ => passAt (takes_of rfl rfl rfl rfl) σ) (a_cons (e_var 0) (a_cons (e_call D_Lruns (hr.mono (by decide)) rfl (T.glo 43) (fun σ => passAt (takes_of rfl rfl rfl rfl) σ) (a_cons (e_var 3) a_nil)) a_nil))))) (e_con pe_str (fun _ => rfl)))))))))))
theorem sc_Lwrapped : FnScope N_Lwrapped ["_law_pool_here", "_law_text", "_law_is_needed"] (defScope s_Lwrapped) := ⟨rfl, rfl, rfl, by decide +kernel, rfl, by decide +kernel, by decide +kernel⟩
theorem ok_Lwrapped (T : Dl.Fz fa fn xs kds w K mg) (D_Ltake : Def P w K mg base 2 (He.ga K "_law_take") ["_law_pool_here", "_law_many"] (spD ⟨K, true⟩ pf_take)) : Def P w K mg base 3 (He.ga K "_law_wrapped") ["_law_pool_here", "_law_text", "_law_is_needed"] (spD ⟨K, true⟩ pf_Lwrapped) := by
  obtain ⟨fd, F⟩ := T.c.def_ 35 (d := df_Lwrapped) rfl
  refine Def.of (k := 2) (N := N_Lwrapped) F sc_Lwrapped (fun _ _ _ _ _ _ us hl => match us, hl with | [_, _, _], _ => rfl) (spD_len fun ws st k ex h => by unfold pf_Lwrapped at h; split at h <;> first | rfl | exact h.elim) (fun cdv A outer s H vs Q E hr h => ⟨lS (XN (cxOf (L2.CX P w) P w K mg base N_Lwrapped df_Lwrapped.qual df_Lwrapped.scope (He.ga K "_law_wrapped") cdv A outer s H E) true) (fun cls d _ H => E cls d H) (t_Lwrapped), ?_, body_ok (kp := false) (Nm := N_Lwrapped) r_Lwrapped h⟩)
  exact (ss_cons (s_asg (ps_set (i := 3) sc_Lwrapped.nd rfl (Or.inl rfl) (e_I (e_cty c_intA ok_int (by rfl) (T.free 33) (by decide +kernel) (a_cons (e_var 2) a_nil)))))
 (ss_cons (s_if (t_cmpD (o_eq' hr.units) ok_eq (e_call D_Ltake (hr.mono (by decide)) rfl (T.glo 34) (fun σ => passAt (takes_of rfl rfl rfl rfl) σ) (a_cons (e_var 0) (a_cons (e_I (e_con pe_int (fun _ => rfl))) a_nil))) (e_I (e_con pe_int (fun _ => rfl))) (nomark _)) (ss_one (s_asg (ps_set (i := 3) sc_Lwrapped.nd rfl (Or.inl rfl) (e_I (e_op o_add' ok_add (e_op o_add' ok_add (e_D (e_var 3)) (e_con pe_int (fun _ => rfl))) (e_D (e_call D_Ltake (hr.mono (by decide)) rfl (T.glo 34) (fun σ => passAt (takes_of rfl rfl rfl rfl) σ) (a_cons (e_var 0) (a_cons (e_I (e_con pe_int (fun _ => rfl))) a_nil))))))))) ss_nil)
 (ss_one (s_ret (e_I (e_op o_add' ok_add (e_op o_add' ok_add (e_op o_mul' ok_mul (e_con pe_str (fun _ => rfl)) (e_D (e_var 3))) (e_D (e_var 1))) (e_op o_mul' ok_mul (e_con pe_str (fun _ => rfl)) (e_D (e_var 3)))))))))
theorem sc_Lspelled : FnScope N_Lspelled ["_law_pool_here", "_law_tree_here"] (defScope s_Lspelled) := ⟨rfl, rfl, rfl, by decide +kernel, rfl, by decide +kernel, by decide +kernel⟩
theorem ok_Lspelled (n : Nat) (T : Dl.Fz fa fn xs kds w K mg) (D_Lwrapped : Def P w K mg base 3 (He.ga K "_law_wrapped") ["_law_pool_here", "_law_text", "_law_is_needed"] (spD ⟨K, true⟩ pf_Lwrapped)) (D_Lany_set : Def P w K mg base 5 (He.ga K "_law_any_set") ["_law_pool_here", "_law_chars_here"] (spD ⟨K, true⟩ pf_Lany_set)) (D_Ltake : Def P w K mg base 2 (He.ga K "_law_take") ["_law_pool_here", "_law_many"] (spD ⟨K, true⟩ pf_take)) (D_Lspelled : Def P w K mg base (10 * n) (He.ga K "_law_spelled") ["_law_pool_here", "_law_tree_here"] (spD ⟨K, true⟩ (pf_Lspelled n))) : Def P w K mg base (10 * n + 10) (He.ga K "_law_spelled") ["_law_pool_here", "_law_tree_here"] (spD ⟨K, true⟩ (pf_Lspelled (n + 1))) := by
  obtain ⟨fd, F⟩ := T.c.def_ 36 (d := df_Lspelled) rfl
  refine Def.of (N := N_Lspelled) F sc_Lspelled (fun _ _ _ _ _ _ us hl => match us, hl with | [_, _], _ => rfl) (spD_len fun ws st k ex h => by unfold pf_Lspelled at h; split at h <;> first | rfl | exact h.elim) (fun cdv A outer s H vs Q E hr h => ⟨lS (XN (cxOf (L2.CX P w) P w K mg base N_Lspelled df_Lspelled.qual df_Lspelled.scope (He.ga K "_law_spelled") cdv A outer s H E) true) (fun cls d _ H => E cls d H) (t_Lspelled n), ?_, body_ok (kp := false) (Nm := N_Lspelled) r_Lspelled h⟩)
  exact (ss_cons (s_asg (ps_set (i := 2) sc_Lspelled.nd rfl (Or.inl rfl) (e_I (e_ix (e_var 1) (e_con pe_int (fun _ => rfl))))))
 (ss_cons (s_if (t_cmpD (o_eq' hr.units) ok_eq (e_var 2) (e_I (e_con pe_str (fun _ => rfl))) (nomark _)) (ss_one (s_ret (e_call D_Lwrapped (hr.mono (by omega)) rfl (T.glo 54) (fun σ => passAt (takes_of rfl rfl rfl rfl) σ) (a_cons (e_var 0) (a_cons (e_call D_Lany_set (hr.mono (by omega)) rfl (T.glo 53) (fun σ => passAt (takes_of rfl rfl rfl rfl) σ) (a_cons (e_var 0) (a_cons (e_I (e_ix (e_var 1) (e_con pe_int (fun _ => rfl)))) a_nil))) (a_cons (e_I (e_con pe_bl (fun _ => rfl))) a_nil)))))) ss_nil)
 (ss_cons (s_if (t_cmpD (o_eq' hr.units) ok_eq (e_var 2) (e_I (e_con pe_str (fun _ => rfl))) (nomark _)) (ss_cons (s_setLcD (i := 3) (own := [("_law_part", 5)]) (g := (gN 5)) (gV := (gName 5)) (gok_name (by decide)) rfl sc_Lspelled.nd rfl rfl (sw_true rfl rfl rfl (by decide +kernel)) (i_sq (e_ix (e_var 1) (e_con pe_int (fun _ => rfl)))) (blkOk_by (own := [("_law_part", 5)]) (N := N_Lspelled) (sc := defScope s_Lspelled) (by decide +kernel)) (fun _ _ _ _ _ => (pg_name (i := 5) sc_Lspelled.nd rfl (Or.inl rfl))) (fun _ _ _ _ _ => ts_nil) (fun _ _ _ _ _ => (e_D (e_call D_Lwrapped (hr.mono (by omega)) rfl (T.glo 54) (fun _ => pass_none (fun _ _ _ _ h => h)) (a_cons (e_var 0) (a_cons (e_call D_Lspelled (hr.mono (by omega)) rfl (T.glo 55) (fun _ => pass_none (fun _ _ _ _ h => h)) (a_cons (e_var 0) (a_cons (e_var 5) a_nil))) (a_cons (e_I (e_cmpD (o_eq' hr.units) ok_eq (e_I (e_ix (e_var 5) (e_con pe_int (fun _ => rfl)))) (e_I (e_con pe_str (fun _ => rfl))) (nomark _))) a_nil)))))))
 (ss_cons (s_if (PW.pt (w_and (t_cmpD o_gt ok_gt (e_I (e_cb c_lenW ok_len (by rfl) (T.free 2) PySem.boot_len (a_cons (e_var 3) a_nil))) (e_I (e_con pe_int (fun _ => rfl))) (nomark _)) (w_and1 (t_cmpD (o_eq' hr.units) ok_eq (e_call D_Ltake (hr.mono (by omega)) rfl (T.glo 34) (fun σ => passAt (takes_of rfl rfl rfl rfl) σ) (a_cons (e_var 0) (a_cons (e_I (e_con pe_int (fun _ => rfl))) a_nil))) (e_I (e_con pe_int (fun _ => rfl))) (nomark _))))) (ss_one (s_asg (ps_set (i := 3) sc_Lspelled.nd rfl (Or.inl rfl) (e_I (e_op o_add' ok_add (e_lst (ad_cons (e_op o_add' ok_add (e_op o_add' ok_add (e_op o_add' ok_add (e_con pe_str (fun _ => rfl)) (e_ix (e_var 3) (e_con pe_int (fun _ => rfl)))) (e_ix (e_var 3) (e_con pe_int (fun _ => rfl)))) (e_con pe_str (fun _ => rfl))) ad_nil)) (e_sl (e_var 3) (o_some (e_con pe_int (fun _ => rfl))) o_none)))))) ss_nil)
 (ss_one (s_ret (e_I (e_m1 PySem.F.slot_str_join PySem.F.type_str_join m_join ok_join (e_I (e_con pe_str (fun _ => rfl))) (e_var 3))))))) ss_nil)
 (ss_cons (s_if (t_cmpD (o_eq' hr.units) ok_eq (e_var 2) (e_I (e_con pe_str (fun _ => rfl))) (nomark _)) (ss_cons (s_setLcD (i := 3) (own := [("_law_part", 5)]) (g := (gN 5)) (gV := (gName 5)) (gok_name (by decide)) rfl sc_Lspelled.nd rfl rfl (sw_true rfl rfl rfl (by decide +kernel)) (i_sq (e_ix (e_var 1) (e_con pe_int (fun _ => rfl)))) (blkOk_by (own := [("_law_part", 5)]) (N := N_Lspelled) (sc := defScope s_Lspelled) (by decide +kernel)) (fun _ _ _ _ _ => (pg_name (i := 5) sc_Lspelled.nd rfl (Or.inl rfl))) (fun _ _ _ _ _ => ts_nil) (fun _ _ _ _ _ => (e_D (e_call D_Lwrapped (hr.mono (by omega)) rfl (T.glo 54) (fun _ => pass_none (fun _ _ _ _ h => h)) (a_cons (e_var 0) (a_cons (e_call D_Lspelled (hr.mono (by omega)) rfl (T.glo 55) (fun _ => pass_none (fun _ _ _ _ h => h)) (a_cons (e_var 0) (a_cons (e_var 5) a_nil))) (a_cons (e_I (e_con pe_bl (fun _ => rfl))) a_nil)))))))
 (ss_cons (s_if (PW.pt (w_and (t_cmpD o_gt ok_gt (e_I (e_cb c_lenW ok_len (by rfl) (T.free 2) PySem.boot_len (a_cons (e_var 3) a_nil))) (e_I (e_con pe_int (fun _ => rfl))) (nomark _)) (w_and1 (t_cmpD (o_eq' hr.units) ok_eq (e_call D_Ltake (hr.mono (by omega)) rfl (T.glo 34) (fun σ => passAt (takes_of rfl rfl rfl rfl) σ) (a_cons (e_var 0) (a_cons (e_I (e_con pe_int (fun _ => rfl))) a_nil))) (e_I (e_con pe_int (fun _ => rfl))) (nomark _))))) (ss_one (s_asg (ps_set (i := 3) sc_Lspelled.nd rfl (Or.inl rfl) (e_I (e_op o_add' ok_add (e_sl (e_var 3) o_none (o_some (e_un u_neg ok_neg (e_con pe_int (fun _ => rfl))))) (e_lst (ad_cons (e_op o_add' ok_add (e_op o_add' ok_add (e_op o_add' ok_add (e_op o_add' ok_add (e_con pe_str (fun _ => rfl)) (e_ix (e_var 3) (e_un u_neg ok_neg (e_con pe_int (fun _ => rfl))))) (e_con pe_str (fun _ => rfl))) (e_ix (e_var 3) (e_un u_neg ok_neg (e_con pe_int (fun _ => rfl))))) (e_con pe_str (fun _ => rfl))) ad_nil))))))) ss_nil)
 (ss_one (s_ret (e_I (e_m1 PySem.F.slot_str_join PySem.F.type_str_join m_join ok_join (e_I (e_con pe_str (fun _ => rfl))) (e_var 3))))))) ss_nil)
 (ss_cons (s_asg (ps_set (i := 4) sc_Lspelled.nd rfl (Or.inl rfl) (e_call D_Lwrapped (hr.mono (by omega)) rfl (T.glo 54) (fun σ => passAt (takes_of rfl rfl rfl rfl) σ) (a_cons (e_var 0) (a_cons (e_call D_Lspelled (hr.mono (by omega)) rfl (T.glo 55) (fun σ => passAt (takes_of rfl rfl rfl rfl) σ) (a_cons (e_var 0) (a_cons (e_I (e_ix (e_var 1) (e_con pe_int (fun _ => rfl)))) a_nil))) (a_cons (e_I (e_cmpD (o_ne' hr.units) ok_ne (e_I (e_ix (e_I (e_ix (e_var 1) (e_con pe_int (fun _ => rfl)))) (e_con pe_int (fun _ => rfl)))) (e_I (e_con pe_str (fun _ => rfl))) (nomark _))) a_nil))))))
 (ss_one (s_ret (e_I (e_op o_add' ok_add (e_D (e_var 4)) (e_get (hu_of hr) (fun z => nomatch z) (e_I (e_dispD (dp_cons (e_con pe_str (fun _ => rfl)) (e_con pe_str (fun _ => rfl)) (dp_cons (e_con pe_str (fun _ => rfl)) (e_con pe_str (fun _ => rfl)) (dp_cons (e_con pe_str (fun _ => rfl)) (e_con pe_str (fun _ => rfl)) dp_nil))) (by rfl) (by rfl) (fun z => by cases z) (by decide))) (e_D (e_var 2))))))))))))
theorem no_Lspelled (T : Dl.Fz fa fn xs kds w K mg) : Def P w K mg base 0 (He.ga K "_law_spelled") ["_law_pool_here", "_law_tree_here"] (spD ⟨K, true⟩ (pf_Lspelled 0)) := by
  obtain ⟨fd, F⟩ := T.c.def_ 36 (d := df_Lspelled) rfl
  exact (Def.zero F (fun _ _ _ _ _ _ us hl => match us, hl with | [_, _], _ => rfl)).imp fun vs H Q E h => by
    obtain ⟨M, ρ, ws, st, k, ex, r, rw, hf, _⟩ := h
    exact (pf_Lspelled0 : ∀ ws st k ex, ¬ (pf_Lspelled 0) ws st k ex) _ _ _ _ hf
theorem all_Lspelled (T : Dl.Fz fa fn xs kds w K mg) (D_Lwrapped : Def P w K mg base 3 (He.ga K "_law_wrapped") ["_law_pool_here", "_law_text", "_law_is_needed"] (spD ⟨K, true⟩ pf_Lwrapped)) (D_Lany_set : Def P w K mg base 5 (He.ga K "_law_any_set") ["_law_pool_here", "_law_chars_here"] (spD ⟨K, true⟩ pf_Lany_set)) (D_Ltake : Def P w K mg base 2 (He.ga K "_law_take") ["_law_pool_here", "_law_many"] (spD ⟨K, true⟩ pf_take)) : ∀ n : Nat, Def P w K mg base (10 * n) (He.ga K "_law_spelled") ["_law_pool_here", "_law_tree_here"] (spD ⟨K, true⟩ (pf_Lspelled n))
  | 0 => (no_Lspelled T).mono (by omega)
  | n + 1 => ok_Lspelled n T D_Lwrapped D_Lany_set D_Ltake (all_Lspelled T D_Lwrapped D_Lany_set D_Ltake n)
theorem sc_law : FnScope N_law ["_law_script"] (defScope s_law) := ⟨rfl, rfl, rfl, by decide +kernel, rfl, by decide +kernel, by decide +kernel⟩
theorem ok_law (T : Dl.Fz fa fn xs kds w K mg) (D_Lpool : Def P w K mg base 1 (He.ga K "_law_pool") ["_law_script"] (spD ⟨K, true⟩ pf_pool)) (D_Ltree : Def P w K mg base 60 (He.ga K "_law_tree") ["_law_pool_here", "_law_deep"] (spD ⟨K, true⟩ (pf_Ltree 6))) (D_Ltake : Def P w K mg base 2 (He.ga K "_law_take") ["_law_pool_here", "_law_many"] (spD ⟨K, true⟩ pf_take)) (D_Lwrapped : Def P w K mg base 3 (He.ga K "_law_wrapped") ["_law_pool_here", "_law_text", "_law_is_needed"] (spD ⟨K, true⟩ pf_Lwrapped)) (D_Lspelled : Def P w K mg base 60 (He.ga K "_law_spelled") ["_law_pool_here", "_law_tree_here"] (spD ⟨K, true⟩ (pf_Lspelled 6))) (D_Lcanonical : Def P w K mg base 60 (He.ga K "_law_canonical") ["_law_tree_here"] (spD ⟨K, true⟩ (pf_Lcanonical 6))) (D_Lsame : Def P w K mg base 120 (He.ga K "_law_same") ["_law_actual", "_law_due"] (spD ⟨K, true⟩ (Sm.pf_same 12))) (D_read_pattern : Def P w K mg base 111 (He.ga K "read_pattern") ["text"] (spD ⟨K, true⟩ pf_read_pattern)) (D_write_pattern : Def P w K mg base 120 (He.ga K "write_pattern") ["tree"] (spD ⟨K, true⟩ (pf_write 12))) (D_Lempty : Def P w K mg base 80 (He.ga K "_law_empty") ["_law_tree_here"] (spD ⟨K, true⟩ (pf_cbe 8))) (D_can_be_empty : Def P w K mg base 80 (He.ga K "can_be_empty") ["tree"] (spD ⟨K, true⟩ (pf_cbe 8))) {fd : FuncData} (F : FunD K "law" "law" (defArgs s_law) (defBody s_law) (defScope s_law) [] [] (He.ga K "law") fd) : FnOk P w K mg base (L2.CX P w) 130 (He.ga K "law") fd ["_law_script"] (Dl.sp_law K) := by
  refine fn_by (k := 129) (N := N_law) F sc_law (fun vs H Q E h => by unfold Dl.sp_law at h; split at h <;> first | rfl | exact h.elim) (fun cdv A outer s H vs Q E hr h => ⟨lS (XN (cxOf (L2.CX P w) P w K mg base N_law "law" (defScope s_law) (He.ga K "law") cdv A outer s H E) true) (fun cls d _ H => E cls d H) (t_law), ?_, body_ok (kp := false) (Nm := N_law) r_law (law_ok (N := ⟨K, true⟩) h)⟩)
  exact (ss_cons (s_asg (ps_set (i := 1) sc_law.nd rfl (Or.inl rfl) (e_call D_Lpool (hr.mono (by decide)) rfl (T.glo 56) (fun σ => passAt (takes_of rfl rfl rfl rfl) σ) (a_cons (e_var 0) a_nil))))
 (ss_cons (s_asg (ps_set (i := 2) sc_law.nd rfl (Or.inl rfl) (e_I (e_con pe_str (fun _ => rfl)))))
 (ss_cons (s_asg (ps_set (i := 3) sc_law.nd rfl (Or.inl rfl) (e_call D_Ltree (hr.mono (by decide)) rfl (T.glo 39) (fun σ => passAt (takes_of rfl rfl rfl rfl) σ) (a_cons (e_var 1) (a_cons (e_I (e_op o_add' ok_add (e_con pe_int (fun _ => rfl)) (e_D (e_call D_Ltake (hr.mono (by decide)) rfl (T.glo 34) (fun σ => passAt (takes_of rfl rfl rfl rfl) σ) (a_cons (e_var 1) (a_cons (e_I (e_con pe_int (fun _ => rfl))) a_nil)))))) a_nil)))))
 (ss_cons (s_asg (ps_set (i := 4) sc_law.nd rfl (Or.inl rfl) (e_call D_Lwrapped (hr.mono (by decide)) rfl (T.glo 54) (fun σ => passAt (takes_of rfl rfl rfl rfl) σ) (a_cons (e_var 1) (a_cons (e_call D_Lspelled (hr.mono (by decide)) rfl (T.glo 55) (fun σ => passAt (takes_of rfl rfl rfl rfl) σ) (a_cons (e_var 1) (a_cons (e_var 3) a_nil))) (a_cons (e_I (e_con pe_bl (fun _ => rfl))) a_nil))))))
 (ss_cons (s_asg (ps_set (i := 5) sc_law.nd rfl (Or.inl rfl) (e_call D_Lcanonical (hr.mono (by decide)) rfl (T.glo 45) (fun σ => passAt (takes_of rfl rfl rfl rfl) σ) (a_cons (e_var 3) a_nil))))
 (ss_cons (s_if (PW.pt (w_or (t_not (t_tru (e_call D_Lsame (hr.mono (by decide)) rfl (T.glo 48) (fun σ => passAt (takes_of rfl rfl rfl rfl) σ) (a_cons (e_I (e_con (e_gstr rfl (T.strg 0)) (fun _ => rfl))) (a_cons (e_var 2) a_nil))))) (w_or1 (t_not (t_tru (e_call D_Lsame (hr.mono (by decide)) rfl (T.glo 48) (fun σ => passAt (takes_of rfl rfl rfl rfl) σ) (a_cons (e_call D_read_pattern (hr.mono (by decide)) rfl (T.glo 57) (fun σ => passAt (takes_of rfl rfl rfl rfl) σ) (a_cons (e_var 4) a_nil)) (a_cons (e_var 3) a_nil)))))))) (ss_one (s_ret (e_I (e_con pe_bl (fun _ => rfl))))) ss_nil)
 (ss_cons (s_if (PW.pt (w_or (t_not (t_tru (e_call D_Lsame (hr.mono (by decide)) rfl (T.glo 48) (fun σ => passAt (takes_of rfl rfl rfl rfl) σ) (a_cons (e_call D_write_pattern (hr.mono (by decide)) rfl (T.glo 27) (fun σ => passAt (takes_of rfl rfl rfl rfl) σ) (a_cons (e_var 3) a_nil)) (a_cons (e_var 5) a_nil))))) (w_or1 (t_not (t_tru (e_call D_Lsame (hr.mono (by decide)) rfl (T.glo 48) (fun σ => passAt (takes_of rfl rfl rfl rfl) σ) (a_cons (e_call D_read_pattern (hr.mono (by decide)) rfl (T.glo 57) (fun σ => passAt (takes_of rfl rfl rfl rfl) σ) (a_cons (e_var 5) a_nil)) (a_cons (e_var 3) a_nil)))))))) (ss_one (s_ret (e_I (e_con pe_bl (fun _ => rfl))))) ss_nil)
 (ss_one (s_ret (e_call D_Lsame (hr.mono (by decide)) rfl (T.glo 48) (fun σ => passAt (takes_of rfl rfl rfl rfl) σ) (a_cons (e_call D_can_be_empty (hr.mono (by decide)) rfl (T.glo 31) (fun σ => passAt (takes_of rfl rfl rfl rfl) σ) (a_cons (e_var 3) a_nil)) (a_cons (e_call D_Lempty (hr.mono (by decide)) rfl (T.glo 41) (fun σ => passAt (takes_of rfl rfl rfl rfl) σ) (a_cons (e_var 3) a_nil)) a_nil))))))))))))
theorem facts {h : Heap} {f : Addr} (X : K.In h) (G : h.Ns mainGlobals mg) (hfa : mg ("law" : Str) = some (.ref f)) (c : He.SaysX fa fn (tabD kds) [] exB w h K) :
    ∃ fd : FuncData, (∀ (s : Shared) (v : Value), BindsTo s fd ⟨[v], []⟩ [("_law_script", v)]) ∧ ∀ base : Heap, K.In base → base.Ns mainGlobals mg → FnOk P w K mg base CX0 130 f fd ["_law_script"] (Dl.sp_law K) := by
  have T : Dl.Fz fa fn xs kds w K mg := ⟨⟨⟨⟨h, X, G⟩, c.t.d⟩, (He.ba c.more).1⟩, gds_of c.t (He.ba c.more).2⟩
  obtain ⟨fd, F⟩ := c.t.d.def_ 37 (d := df_law) rfl
  have e := hfa.symm.trans (T.glo 58)
  cases e
  have b := FunD.bindsA (ps := ["_law_script"]) F fun _ _ _ _ _ _ us hl => match us, hl with | [_], _ => rfl
  refine ⟨fd, fun s v => b s [v] rfl, fun base _ _ => ?_⟩
  have D_BadPattern_init : Def P w K mg base 1 (He.ma K (He.ga K "BadPattern") "__init__") ["self", "position"] (sp_xinit1 K "position") := ok_BadPattern_init T
  have D_chars_of : Def P w K mg base 1 (He.ga K "chars_of") ["members"] (spD ⟨K, true⟩ pf_chars_of) := ok_chars_of T
  have D_joined : Def P w K mg base 1 (He.ga K "joined") ["head", "parts"] (spD ⟨K, true⟩ pf_joined) := ok_joined T
  have D_PatternReader_init : Def P w K mg base 1 (He.ma K (He.ga K "PatternReader") "__init__") ["self", "text"] (spD ⟨K, true⟩ pf_PatternReader_init) := ok_PatternReader_init T
  have D_PatternReader_sign : Def P w K mg base 1 (He.ma K (He.ga K "PatternReader") "sign") ["self"] (spD ⟨K, true⟩ pf_PatternReader_sign) := ok_PatternReader_sign T
  have D_PatternReader_escape : Def P w K mg base 3 (He.ma K (He.ga K "PatternReader") "escape") ["self"] (spD ⟨K, true⟩ pf_PatternReader_escape) := ok_PatternReader_escape T D_PatternReader_sign D_BadPattern_init
  have D_PatternReader_member_character : Def P w K mg base 4 (He.ma K (He.ga K "PatternReader") "member_character") ["self"] (spD ⟨K, true⟩ pf_PatternReader_member_character) := ok_PatternReader_member_character T D_PatternReader_sign D_PatternReader_escape D_BadPattern_init
  have D_PatternReader_member : Def P w K mg base 5 (He.ma K (He.ga K "PatternReader") "member") ["self"] (spD ⟨K, true⟩ pf_PatternReader_member) := ok_PatternReader_member T D_PatternReader_member_character D_PatternReader_sign D_BadPattern_init
  have D_PatternReader_characters : Def P w K mg base 6 (He.ma K (He.ga K "PatternReader") "characters") ["self"] (spD ⟨K, true⟩ pf_PatternReader_characters) := ok_PatternReader_characters T D_PatternReader_sign D_PatternReader_member D_chars_of D_BadPattern_init
  have D_PatternReader_alternatives : Def P w K mg base 110 (He.ma K (He.ga K "PatternReader") "alternatives") ["self"] (spD ⟨K, true⟩ (pf_alts 26)) := all_PatternReader_alternatives T D_PatternReader_sign D_PatternReader_escape D_BadPattern_init D_PatternReader_characters D_joined 26
  have D_read_pattern : Def P w K mg base 111 (He.ga K "read_pattern") ["text"] (spD ⟨K, true⟩ pf_read_pattern) := ok_read_pattern T D_PatternReader_init D_PatternReader_alternatives D_BadPattern_init
  have D_character_text : Def P w K mg base 1 (He.ga K "character_text") ["character", "barred"] (spD ⟨K, true⟩ pf_Lescaped) := ok_character_text T
  have D_members_of : Def P w K mg base 1 (He.ga K "members_of") ["characters"] (spD ⟨K, true⟩ pf_Lruns) := ok_members_of T
  have D_set_text : Def P w K mg base 2 (He.ga K "set_text") ["characters"] (spD ⟨K, true⟩ pf_Lset) := ok_set_text T D_character_text D_members_of
  have D_write_pattern : Def P w K mg base 120 (He.ga K "write_pattern") ["tree"] (spD ⟨K, true⟩ (pf_write 12)) := all_write_pattern T D_set_text 12
  have D_can_be_empty : Def P w K mg base 80 (He.ga K "can_be_empty") ["tree"] (spD ⟨K, true⟩ (pf_cbe 8)) := all_can_be_empty T 8
  have O_Lpool : Def P w K mg base 1 (He.ga K "_law_pool") ["_law_script"] (sp_pool K) := ok_Lpool T
  have D_Lpool : Def P w K mg base 1 (He.ga K "_law_pool") ["_law_script"] (spD ⟨K, true⟩ pf_pool) := O_Lpool.imp fun vs H Q E h => pool_ok h
  have O_Ltake : Def P w K mg base 2 (He.ga K "_law_take") ["_law_pool_here", "_law_many"] (sp_take 2) := ok_Ltake 1 T (ok_Ltake 0 T ((no_Ltake T).imp fun vs H Q E h => by unfold sp_take at h; split at h; exact absurd h.1 (by decide); exact h))
  have D_Ltake : Def P w K mg base 2 (He.ga K "_law_take") ["_law_pool_here", "_law_many"] (spD ⟨K, true⟩ pf_take) := O_Ltake.imp fun vs H Q E h => take_ok h
  have D_Lchars : Def P w K mg base 3 (He.ga K "_law_chars") ["_law_pool_here"] (spD ⟨K, true⟩ pf_Lchars) := ok_Lchars T D_Ltake
  have D_Lflat : Def P w K mg base 1 (He.ga K "_law_flat") ["_law_head", "_law_parts"] (spD ⟨K, true⟩ pf_Lflat) := ok_Lflat T
  have D_Ltree : Def P w K mg base 60 (He.ga K "_law_tree") ["_law_pool_here", "_law_deep"] (spD ⟨K, true⟩ (pf_Ltree 6)) := all_Ltree T D_Ltake D_Lchars D_Lflat 6
  have D_Lempty : Def P w K mg base 80 (He.ga K "_law_empty") ["_law_tree_here"] (spD ⟨K, true⟩ (pf_cbe 8)) := all_Lempty T 8
  have D_Lescaped : Def P w K mg base 1 (He.ga K "_law_escaped") ["_law_sign", "_law_barred"] (spD ⟨K, true⟩ pf_Lescaped) := ok_Lescaped T
  have D_Lruns : Def P w K mg base 1 (He.ga K "_law_runs") ["_law_chars_here"] (spD ⟨K, true⟩ pf_Lruns) := ok_Lruns T
  have D_Lset : Def P w K mg base 2 (He.ga K "_law_set") ["_law_chars_here"] (spD ⟨K, true⟩ pf_Lset) := ok_Lset T D_Lescaped D_Lruns
  have D_Lcanonical : Def P w K mg base 60 (He.ga K "_law_canonical") ["_law_tree_here"] (spD ⟨K, true⟩ (pf_Lcanonical 6)) := all_Lcanonical T D_Lset 6
  have D_Lis_integer : Def P w K mg base 1 (He.ga K "_law_is_integer") ["_law_actual"] (spD ⟨K, true⟩ Sm.pf_isint) := ok_Lis_integer T
  have D_Lsame : Def P w K mg base 120 (He.ga K "_law_same") ["_law_actual", "_law_due"] (spD ⟨K, true⟩ (Sm.pf_same 12)) := all_Lsame T D_Lis_integer 12
  have D_Lspelt : Def P w K mg base 3 (He.ga K "_law_spelt") ["_law_pool_here", "_law_sign", "_law_barred"] (spD ⟨K, true⟩ pf_Lspelt) := ok_Lspelt T D_Ltake D_Lescaped
  have D_Lmembers : Def P w K mg base 4 (He.ga K "_law_members") ["_law_pool_here", "_law_runs_here"] (spD ⟨K, true⟩ pf_Lmembers) := ok_Lmembers T D_Lspelt D_Ltake
  have D_Lany_set : Def P w K mg base 5 (He.ga K "_law_any_set") ["_law_pool_here", "_law_chars_here"] (spD ⟨K, true⟩ pf_Lany_set) := ok_Lany_set T D_Ltake D_Lspelt D_Lset D_Lmembers D_Lruns
  have D_Lwrapped : Def P w K mg base 3 (He.ga K "_law_wrapped") ["_law_pool_here", "_law_text", "_law_is_needed"] (spD ⟨K, true⟩ pf_Lwrapped) := ok_Lwrapped T D_Ltake
  have D_Lspelled : Def P w K mg base 60 (He.ga K "_law_spelled") ["_law_pool_here", "_law_tree_here"] (spD ⟨K, true⟩ (pf_Lspelled 6)) := all_Lspelled T D_Lwrapped D_Lany_set D_Ltake 6
  exact fn_to0 (ok_law T D_Lpool D_Ltree D_Ltake D_Lwrapped D_Lspelled D_Lcanonical D_Lsame D_read_pattern D_write_pattern D_Lempty D_can_be_empty F) (fun _ _ _ _ h => h)
end
abbrev R : PySem.W.OpenRow := PySem.W.OpenLaw.row PySem.Challenge.rw_tongues_k06_patterns_read
abbrev hk : PySem.W.Hook := He.hookX 5 fa fn (tabD kds) [] exB
def ob (s : PySem.W.SharedT) : He.AlX := He.obsX 5 fa fn (tabD kds) [] exB (HandSHeadRun.getT s)
theorem ob_eq (s : PySem.W.SharedT) : ob s = hk.obs s.abs := He.obsX_eq (HandSHeadRun.getT_eq s)
def loose : List Str := (["TongueError", "BadPattern", "ALPHABET", "OUTSIDE", "INSIDE", "ESCAPED", "REPEATS", "SIGNS", "chars_of", "joined", "PatternReader", "read_pattern", "character_text", "members_of", "set_text", "part_text", "write_pattern", "can_be_empty", "_law_pool", "_law_take"] : List Str) ++ (["_law_chars", "_law_flat", "_law_tree", "_law_empty", "_law_escaped", "_law_runs", "_law_set", "_law_canonical", "_law_is_integer", "_law_same", "_law_spelt", "_law_members", "_law_any_set", "_law_wrapped", "_law_spelled"] : List Str)
theorem run (w : World) : HandSHeadRun.RunEq R (PySem.W.view R.prog [38]) hk ob 3000 loose w := PySem.W.byRow2 "special-get-raises" (P := fun w => HandSHeadRun.RunEq R (PySem.W.view R.prog [38]) hk ob 3000 loose w) (fun w os => by kernel_rfl) (fun w os => by kernel_rfl) w
end Dl.Qt
open PySem PySem.W PySem.Calls PyProof.Rows
set_option maxRecDepth 100000 in
set_option maxHeartbeats 0 in
theorem PySem.Challenge.cw_tongues_k06_patterns_read_holds : PySem.Challenge.rw_tongues_k06_patterns_read.Holds := by
  w_on; o_law
  refine HandSHeadRun.head_any (r := OpenLaw.row PySem.Challenge.rw_tongues_k06_patterns_read) (q := view (OpenLaw.row PySem.Challenge.rw_tongues_k06_patterns_read).prog [38]) (H := Dl.Qt.hk) (ob := Dl.Qt.ob) (M := 3000) (loose := Dl.Qt.loose) (d := HandSHeadRun.topDef (OpenLaw.row PySem.Challenge.rw_tongues_k06_patterns_read).prog 38) (kwd := []) Dl.Qt.ob_eq
    (by kernel_rfl) (fun s => by kernel_rfl) Dl.Qt.run (by kernel_rfl) (by kernel_rfl) (by kernel_rfl) (by rfl) (by first | assumption | decide +kernel) (by decide +kernel) ⟨rfl, rfl, rfl, rfl, rfl, by decide +kernel⟩ ?hw ?hc
  case hw => w_witness2
  case hc =>
    refine L2.walk_ofE (l := PySem.Challenge.rw_tongues_k06_patterns_read) (n := 63) (k := 130) (x := "_law_script") (CX := L2.CX0) rfl (by decide) (by kernel_rfl) ⟨rfl, by decide, by decide⟩ ?F (fun _ _ _ _ z => z)
    intro w mg fa h Y G hmg0
    obtain ⟨K, KX, c⟩ := Y
    have hmg : mg ("law" : PySem.Str) = some (.ref fa) := by
      have e : (HandSHeadRun.topDef (OpenLaw.row PySem.Challenge.rw_tongues_k06_patterns_read).prog 38).name = ("law" : PySem.Str) := by kernel_rfl
      rw [← e]
      exact hmg0
    obtain ⟨fd, hb, hF⟩ := Dl.Qt.facts (P := (PySem.Challenge.rw_tongues_k06_patterns_read).prog) (w := w) KX G hmg c
    exact ⟨K, fd, Dl.sp_law K, KX, hb, fun H a ns hl _ hS => ⟨ns, hS, hl, fun _ => rfl⟩, hF⟩
end
