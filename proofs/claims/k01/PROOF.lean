import PyProof.Rows.All
import Wide.All
import OpenK.AllK
import Wide.FinOn
import KE.KStateDown
import Lean
import HandS.ForMost
import HandS.Defaults
import HandS.Head0
import HandS.Head1
import HandS.Head2
import HandS.HeadEnd
import HandS.HeadHook1
import HandS.HeadHook2
import HandS.HeadHook3
import HandS.HeadHook4
import HandS.HeadWalk
import HandS.EndBits
import HandS.EndTab
import HandS.Property
import HandS.Star
import HandS.FStr
import PyProof.FString
import PyProof.FString4
import KE.KCallOwn
import KE.KOpsOwn
import HandS.WideBits
import HandS.Wide
import PyProof.ReprRoads
import HandS.IsInst
import HandS.Style
import HandS.MakeKw
import HandS.TupAny
import HandS.Conv
import PyProof.LongRange
import KE.GoesMore
import HandS.Zip
import PyProof.TwoTypes
import PyProof.FactsInt
import HandS.Ends
import PyProof.ReprLen
import HandS.NoneIn
import HandS.SetBool
import KE.KDictDisplayH
import PyProof.Rows.TupTab
import PyProof.DictRoadsH
import PyProof.EqKinds
import PyProof.StrLawsTight
import PyProof.StrLawsLast
import PyProof.MeetsStr3
import KE.KxPart
import HandS.Deep
import PyProof.P3In
import KE.KeyNested
import HandS.SortRule
import HandS.Rev
import HandS.List
import PyProof.WalkInts
import PyProof.Rows.CallKwBuiltin
import PyProof.CallFns
import HandS.TupMul
import HandS.MakeKwOnly
import HandS.ExcInit
import HandS.ExcIs
import KE.KExcMake
import KE.KExcIs
import KE.KIsAll
import HandS.Dict
import PyProof.RowDictHeap
import PyProof.StrLawsRepr
import PySem.Challenge.RW_spillruns_k01_constants_and_errors
set_option Elab.async false
set_option linter.all false
set_option maxRecDepth 100000
set_option maxHeartbeats 4000000
namespace Sp
open PySem PySem.Spec PyProof.Rows L2

section
variable {X : Cx}
theorem OpR.imp {f : Value → Value → Sem Value} {r r' : R2} (h : OpR X f r) (hi : ∀ x y H Q, r' x y H Q → r x y H Q) : OpR X f r' :=
  fun pins s σ H x y v u Q I rx ry q => h pins s σ H x y v u Q I rx ry (hi _ _ _ _ q)
theorem UnR.imp {f : Value → Sem Value} {r r' : V → Hp → VK → Prop} (h : UnR X f r) (hi : ∀ x H Q, r' x H Q → r x H Q) : UnR X f r' :=
  fun pins s σ H x v Q I rx q => h pins s σ H x v Q I rx (hi _ _ _ q)
theorem CallR.imp {f : Value} {r r' : List V → Hp → VK → Prop} (h : CallR X f r) (hi : ∀ xs H Q, r' xs H Q → r xs H Q) : CallR X f r' :=
  fun pins s σ H xs us Q I rx q => h pins s σ H xs us Q I rx (hi _ _ _ q)
theorem IxR.imp {r r' : R2} (h : IxR X r) (hi : ∀ x y H Q, r' x y H Q → r x y H Q) : IxR X r' :=
  fun e1 e2 pins s σ H x y v u Q I rx ry q => h e1 e2 pins s σ H x y v u Q I rx ry (hi _ _ _ _ q)
theorem PSet.imp {r r' : TSet} (h : PSet X r) (hi : ∀ x y z H Q, r' x y z H Q → r x y z H Q) : PSet X r' :=
  fun pins s σ H x y z v u w Q I rx ry rz q => h pins s σ H x y z v u w Q I rx ry rz (hi _ _ _ _ _ q)
theorem PE.imp {e : Expr} {t t' : TE} (h : PE X e t) (hi : ∀ σ H Q, t' σ H Q → t σ H Q) : PE X e t' := ⟨fun pins s σ H Q I q => h.run pins s σ H Q I (hi _ _ _ q)⟩
theorem PS.imp {e : Stmt} {t t' : TS} (h : PS X e t) (hi : ∀ D σ H, t' D σ H → t D σ H) : PS X e t' := ⟨fun pins s σ H D I q => h.run pins s σ H D I (hi _ _ _ q)⟩
end

/-! ### names -/
def at? (σ : L2.St) (i : Nat) : Option V := (σ[i]?).bind id
def fV (i : Nat) : TE := fun σ H Q => match at? σ i with
  | some v => Q v H
  | none => False
section
variable {X : Cx}
theorem vv (i : Nat) {x : Str} {pos : Pos} (hN : X.N[i]? = some x := by rfl) (hv : Vis X.env.scope x := by first | exact Or.inl rfl | exact Or.inr (Or.inl rfl) | exact Or.inr (Or.inr rfl)) (hd : (x == ("__debug__" : Str)) = false := by decide)
    (hcd : (x == ("__classdict__" : Str)) = false := by decide) : PE X (.Name x pos) (fV i) := PE.imp (pe_var hN hv hd hcd) fun σ H Q h => by
  unfold fV at h
  cases e : σ[i]? with
  | none => rw [at?, e] at h; exact h.elim
  | some o =>
    cases o with
    | none => rw [at?, e] at h; exact h.elim
    | some v =>
      rw [at?, e] at h
      exact ⟨v, e, h⟩
end

/-! ### ints -/
def i2 (g : Int → Int → V) : R2 := fun x y H Q => match x, y with
  | .int i, .int j => Q (g i j) H
  | _, _ => False
def i2c (C : Int → Int → Prop) (g : Int → Int → V) : R2 := fun x y H Q => match x, y with
  | .int i, .int j => C i j ∧ Q (g i j) H
  | _, _ => False
def i1 (g : Int → V) : V → Hp → VK → Prop := fun x H Q => match x with
  | .int i => Q (g i) H
  | _ => False
theorem i2_of {g : Int → Int → V} (x y : V) (H : Hp) (Q : VK) (h : i2 g x y H Q) : rI0 g x y H Q := by
  cases x <;> cases y <;> first
    | exact h.elim
    | exact ⟨_, _, rfl, rfl, h⟩
theorem i2c_of {C : Int → Int → Prop} {g : Int → Int → V} (x y : V) (H : Hp) (Q : VK) (h : i2c C g x y H Q) : rI C g x y H Q := by
  cases x <;> cases y <;> first
    | exact h.elim
    | exact ⟨_, _, rfl, rfl, h.1, h.2⟩
theorem i1_of {g : Int → V} (x : V) (H : Hp) (Q : VK) (h : i1 g x H Q) : rU g x H Q := by
  cases x <;> first
    | exact h.elim
    | exact ⟨_, rfl, h⟩
abbrev fAdd : R2 := i2 fun i j => .int (i + j)
abbrev fSub : R2 := i2 fun i j => .int (i - j)
abbrev fMul : R2 := i2c CMul fun i j => .int (i * j)
abbrev fMulW : R2 := i2c CMulW fun i j => .int (i * j)
abbrev fMod : R2 := i2c (fun _ j => 0 < j) fun i j => .int (i % j)
abbrev fDiv : R2 := i2c CDivW fun i j => .int (i / j)
abbrev fDivN : R2 := i2c CDivN fun i j => .int (i.fdiv j)
abbrev fPow : R2 := i2c CPow fun i j => .int (i ^ j.toNat)
abbrev fLt : R2 := i2 fun i j => .bl (decide (i < j))
abbrev fLe : R2 := i2 fun i j => .bl (decide (i ≤ j))
abbrev fGt : R2 := i2 fun i j => .bl (decide (j < i))
abbrev fGe : R2 := i2 fun i j => .bl (decide (j ≤ i))
abbrev fNeg : V → Hp → VK → Prop := i1 fun i => .int (-i)
/-- == of scalars -/
def fEq : R2 := fun x y H Q => match scal x y with
  | true => Q (.bl (decide (x = y))) H
  | false => False
def fNe : R2 := fun x y H Q => match scal x y with
  | true => Q (.bl (!decide (x = y))) H
  | false => False
/-- is None, is not None -/
def fIsN : R2 := fun x y H Q => match y with
  | .non => Q (.bl (decide (x = .non))) H
  | _ => False
def fNotN : R2 := fun x y H Q => match y with
  | .non => Q (.bl (!decide (x = .non))) H
  | _ => False
/-- texts -/
def fAddS : R2 := fun x y H Q => match x, y with
  | .str i, .str j => i.length + j.length ≤ sizeLine ∧ Q (.str (i ++ j)) H
  | _, _ => False
section
variable {X : Cx}
theorem o_add : OpR X (binaryOp .Add) fAdd := OpR.imp op_add i2_of
theorem o_sub : OpR X (binaryOp .Sub) fSub := OpR.imp op_sub i2_of
theorem o_mul : OpR X (binaryOp .Mult) fMul := OpR.imp op_mul i2c_of
theorem o_mulW : OpR X (binaryOp .Mult) fMulW := OpR.imp op_mulW i2c_of
theorem o_mod : OpR X (binaryOp .Mod) fMod := OpR.imp op_mod i2c_of
theorem o_div : OpR X (binaryOp .FloorDiv) fDiv := OpR.imp op_fdivW i2c_of
theorem o_divN : OpR X (binaryOp .FloorDiv) fDivN := OpR.imp op_fdivN i2c_of
theorem o_pow : OpR X (binaryOp .Pow) fPow := OpR.imp op_pow i2c_of
theorem o_lt : OpR X (compareOp .Lt) fLt := OpR.imp op_lt i2_of
theorem o_le : OpR X (compareOp .LtE) fLe := OpR.imp op_le i2_of
theorem o_gt : OpR X (compareOp .Gt) fGt := OpR.imp op_gt i2_of
theorem o_ge : OpR X (compareOp .GtE) fGe := OpR.imp op_ge i2_of
theorem o_neg : UnR X (unaryOp .USub) fNeg := UnR.imp un_neg i1_of
theorem o_eq : OpR X (compareOp .Eq) fEq := OpR.imp op_eq fun x y H Q h => by
  unfold fEq at h
  cases e : scal x y with
  | true => rw [e] at h; exact ⟨e, h⟩
  | false => rw [e] at h; exact h.elim
theorem o_ne : OpR X (compareOp .NotEq) fNe := OpR.imp op_ne fun x y H Q h => by
  unfold fNe at h
  cases e : scal x y with
  | true => rw [e] at h; exact ⟨e, h⟩
  | false => rw [e] at h; exact h.elim
theorem o_isN : OpR X (compareOp .Is) fIsN := OpR.imp op_isN fun x y H Q h => by
  cases y <;> first
    | exact h.elim
    | exact ⟨rfl, h⟩
theorem o_notN : OpR X (compareOp .IsNot) fNotN := OpR.imp op_notN fun x y H Q h => by
  cases y <;> first
    | exact h.elim
    | exact ⟨rfl, h⟩
theorem o_addS : OpR X (binaryOp .Add) fAddS := OpR.imp op_add_str fun x y H Q h => by
  cases x <;> cases y <;> first
    | exact h.elim
    | exact ⟨_, _, rfl, rfl, h.1, h.2⟩
end

/-! ### tests -/
def onB (x : V) (k : Bool → Prop) : Prop := match x with
  | .bl b => k b
  | _ => False
theorem onB_ex {x : V} {k : Bool → Prop} (h : onB x k) : ∃ b, x = .bl b ∧ k b := by
  cases x <;> first
    | exact h.elim
    | exact ⟨_, rfl, h⟩
def fT (t : TE) : TT := fun σ H Q => t σ H fun x H' => onB x fun k => Q k H'
def fChain (r r' : R2) (ta tb tc : TE) : TE := fun σ H Q => ta σ H fun x H1 => tb σ H1 fun y H2 => r x y H2 fun z H3 => onB z fun k =>
  (if k = true then tc σ H3 fun w' H4 => r' y w' H4 Q else Q (.bl false) H3)
def fAndV (ta tb : TE) : TE := fun σ H Q => ta σ H fun x H1 => onB x fun c => if c = true then tb σ H1 Q else Q (.bl false) H1
def fOrV (ta tb : TE) : TE := fun σ H Q => ta σ H fun x H1 => onB x fun c => if c = true then Q (.bl true) H1 else tb σ H1 Q
def fNotV (ta : TE) : TE := fun σ H Q => ta σ H fun x H1 => onB x fun c => Q (.bl (!c)) H1
section
variable {X : Cx} {a b c : Expr} {ta tb tc : TE} {pos : Pos} {rest : List Expr}
theorem t_cmp {op : CmpOp} {r : R2} (ho : OpR X (compareOp op) r) (ha : PE X a ta) (hb : PE X b tb) (hm : behindInMarks op b = false) : PT X (.Compare a [op] [b] pos) (fT (tOp r ta tb)) := by
  refine ⟨fun pins s σ H Q I h => ?_⟩
  refine wpAny_isTrue_Compare1 (thn (ha.run pins s σ H _ I h) fun v s1 ⟨x, H1, I1, r1, q1⟩ => thn (hb.run pins s1 σ H1 _ I1 q1) fun u s2 ⟨y, H2, I2, r2, q2⟩ =>
    thn (ho pins s2 σ H2 x y v u _ I2 r1 r2 q2) fun c s3 ⟨z, H3, I3, r3, q3⟩ => ?_) hm
  obtain ⟨k, rfl, q3⟩ := onB_ex q3
  cases r3
  exact wpAny_truthy_bool ⟨H3, I3, q3⟩
theorem t_val {e : Expr} {t : TE} (h : PE X e t) (he : ∀ whole, isTrue e X.env whole = (do let v ← whole; standAt e.pos; holding [v] (truthy v)) := by intro _; rfl) : PT X e (fT t) := by
  refine ⟨fun pins s σ H Q I hw => ?_⟩
  refine isTrue_plain (thn (h.run pins s σ H _ I hw) fun v s1 ⟨x, H1, I1, r1, q1⟩ => ?_) (he _)
  obtain ⟨k, rfl, q⟩ := onB_ex q1
  cases r1
  exact wpAny_truthy_bool ⟨H1, I1, q⟩
theorem e_chain {op op' : CmpOp} {r r' : R2} (ho : OpR X (compareOp op) r) (ho' : OpR X (compareOp op') r') (ha : PE X a ta) (hb : PE X b tb) (hc : PE X c tc)
    (hm : lastMarks [op, op'] [b, c] = false := by with_unfolding_all rfl) : PE X (.Compare a [op, op'] [b, c] pos) (fChain r r' ta tb tc) := by
  refine ⟨fun pins s σ H Q I h => ?_⟩
  refine Compare_chain (thn (ha.run pins s σ H _ I h) fun v s1 ⟨x, H1, I1, r1, q1⟩ => chain_link (thn (hb.run pins s1 σ H1 _ I1 q1) fun u s2 ⟨y, H2, I2, r2, q2⟩ =>
    thn (ho pins s2 σ H2 x y v u _ I2 r1 r2 q2) fun d s3 ⟨z, H3, I3, r3, q3⟩ => ?_)) hm
  obtain ⟨k, rfl, q3⟩ := onB_ex q3
  cases r3
  refine wpAny_truthy_bool ?_
  cases k with
  | false => exact ite_ff ⟨.bl false, H3, I3, rfl, q3⟩
  | true => exact ite_tt (chain_last (thn (hc.run pins s3 σ H3 _ I3 q3) fun w' s4 ⟨z', H4, I4, r4, q4⟩ => ho' pins s4 σ H4 y z' u w' Q I4 r2 r4 q4))
theorem t_chain {op op' : CmpOp} {r r' : R2} (ho : OpR X (compareOp op) r) (ho' : OpR X (compareOp op') r') (ha : PE X a ta) (hb : PE X b tb) (hc : PE X c tc)
    (hm : lastMarks [op, op'] [b, c] = false := by with_unfolding_all rfl) : PT X (.Compare a [op, op'] [b, c] pos) (fT (fChain r r' ta tb tc)) := by
  refine ⟨fun pins s σ H Q I h => ?_⟩
  refine isTrue_chain (thn (ha.run pins s σ H _ I h) fun v s1 ⟨x, H1, I1, r1, q1⟩ => test_link (thn (hb.run pins s1 σ H1 _ I1 q1) fun u s2 ⟨y, H2, I2, r2, q2⟩ =>
    thn (ho pins s2 σ H2 x y v u _ I2 r1 r2 q2) fun d s3 ⟨z, H3, I3, r3, q3⟩ => ?_)) hm
  obtain ⟨k, rfl, q3⟩ := onB_ex q3
  cases r3
  refine wpAny_truthy_bool ?_
  cases k with
  | false => exact ite_ff ⟨H3, I3, q3⟩
  | true =>
    refine ite_tt (test_last (thn (hc.run pins s3 σ H3 _ I3 q3) fun w' s4 ⟨z', H4, I4, r4, q4⟩ => thn (ho' pins s4 σ H4 y z' u w' _ I4 r2 r4 q4) fun d' s5 ⟨z2, H5, I5, r5, q5⟩ => ?_))
    obtain ⟨k2, rfl, q5⟩ := onB_ex q5
    cases r5
    exact wpAny_truthy_bool ⟨H5, I5, q5⟩
theorem e_and (ha : PE X a ta) (hb : PE X (.BoolOp .And (b :: rest) pos) tb) : PE X (.BoolOp .And (a :: b :: rest) pos) (fAndV ta tb) := by
  refine ⟨fun pins s σ H Q I h => ?_⟩
  refine BoolOp_and (thn (ha.run pins s σ H _ I h) fun v s1 ⟨x, H1, I1, r1, q1⟩ => ?_)
  obtain ⟨c, rfl, q1⟩ := onB_ex q1
  cases r1
  refine wpAny_truthy_bool ?_
  cases c with
  | true => exact hb.run pins s1 σ H1 Q I1 q1
  | false => exact ⟨.bl false, H1, I1, rfl, q1⟩
theorem e_or (ha : PE X a ta) (hb : PE X (.BoolOp .Or (b :: rest) pos) tb) : PE X (.BoolOp .Or (a :: b :: rest) pos) (fOrV ta tb) := by
  refine ⟨fun pins s σ H Q I h => ?_⟩
  refine BoolOp_or (thn (ha.run pins s σ H _ I h) fun v s1 ⟨x, H1, I1, r1, q1⟩ => ?_)
  obtain ⟨c, rfl, q1⟩ := onB_ex q1
  cases r1
  refine wpAny_truthy_bool ?_
  cases c with
  | false => exact hb.run pins s1 σ H1 Q I1 q1
  | true => exact ⟨.bl true, H1, I1, rfl, q1⟩
theorem e_not (ha : PE X a ta) : PE X (.UnaryOp .Not a pos) (fNotV ta) := by
  refine ⟨fun pins s σ H Q I h => ?_⟩
  refine UnaryOp_ (thn (ha.run pins s σ H _ I h) fun v s1 ⟨x, H1, I1, r1, q1⟩ => ?_)
  obtain ⟨c, rfl, q1⟩ := onB_ex q1
  cases r1
  exact not_of (wpAny_truthy_bool ⟨.bl (!c), H1, I1, rfl, q1⟩)
end

/-! ### items, slices -/
/-- an item of a list, of a tuple, of a text -/
def onRef (x : V) (k : Addr → Prop) : Prop := match x with
  | .ref a => k a
  | _ => False
theorem onRef_ex {x : V} {k : Addr → Prop} (h : onRef x k) : ∃ b, x = .ref b ∧ k b := by
  cases x <;> first
    | exact h.elim
    | exact ⟨_, rfl, h⟩
def onInt (x : V) (k : Int → Prop) : Prop := match x with
  | .int a => k a
  | _ => False
theorem onInt_ex {x : V} {k : Int → Prop} (h : onInt x k) : ∃ b, x = .int b ∧ k b := by
  cases x <;> first
    | exact h.elim
    | exact ⟨_, rfl, h⟩
def onStr (x : V) (k : Str → Prop) : Prop := match x with
  | .str a => k a
  | _ => False
theorem onStr_ex {x : V} {k : Str → Prop} (h : onStr x k) : ∃ b, x = .str b ∧ k b := by
  cases x <;> first
    | exact h.elim
    | exact ⟨_, rfl, h⟩
def fIxL (K : PySem.W.Frag) : R2 := fun x y H Q => onRef x fun p => onInt y fun i => ∃ xs, SqL K H p xs ∧ ∃ v, atI xs i = some v ∧ Q v H
def fIxT (K : PySem.W.Frag) : R2 := fun x y H Q => onRef x fun p => onInt y fun i => ∃ xs, SqT K H p xs ∧ ∃ v, atI xs i = some v ∧ Q v H
def fSetL : V → V → V → Hp → (Hp → Prop) → Prop := fun o i v H Q => onRef o fun p => onInt i fun k => ∃ xs, H p = some (.lst xs) ∧ ∃ j, ixN xs.length k = some j ∧ Q (upd H p (.lst (xs.set j v)))
def fCatL : R2 := fun x y H Q => onRef x fun l => onRef y fun b => ∃ xs zs, H l = some (.lst xs) ∧ H b = some (.lst zs) ∧ xs.length + zs.length ≤ sizeLine ∧ ∀ p, H p = none → Q (.ref p) (upd H p (.lst (xs ++ zs)))
section
variable {X : Cx}
theorem x_list : IxR X (fIxL X.K) := IxR.imp ix_list fun x y H Q h => by
  obtain ⟨p, rfl, h1⟩ := onRef_ex h
  obtain ⟨i, rfl, xs, h2, v, h3, h4⟩ := onInt_ex h1
  exact ⟨p, xs, i, v, rfl, rfl, h2, h3, h4⟩
theorem x_tup : IxR X (fIxT X.K) := IxR.imp ix_tup fun x y H Q h => by
  obtain ⟨p, rfl, h1⟩ := onRef_ex h
  obtain ⟨i, rfl, xs, h2, v, h3, h4⟩ := onInt_ex h1
  exact ⟨p, xs, i, v, rfl, rfl, h2, h3, h4⟩
theorem s_list : PSet X fSetL := PSet.imp set_list fun o i v H Q h => by
  obtain ⟨p, rfl, h1⟩ := onRef_ex h
  obtain ⟨k, rfl, xs, h2, j, h3, h4⟩ := onInt_ex h1
  exact ⟨p, xs, k, j, rfl, rfl, h2, h3, h4⟩
theorem o_catL : OpR X (binaryOp .Add) fCatL := OpR.imp op_cat fun x y H Q h => by
  obtain ⟨l, rfl, h1⟩ := onRef_ex h
  obtain ⟨b, rfl, xs, zs, h2⟩ := onRef_ex h1
  exact ⟨l, b, xs, zs, rfl, rfl, h2⟩
end

/-! ### calls of builtins -/
def on1 (xs : List V) (k : V → Prop) : Prop := match xs with
  | [x] => k x
  | _ => False
theorem on1_ex {xs : List V} {k : V → Prop} (h : on1 xs k) : ∃ x, xs = [x] ∧ k x := by
  cases xs with
  | nil => exact h.elim
  | cons x r =>
    cases r with
    | nil => exact ⟨_, rfl, h⟩
    | cons _ _ => exact h.elim
def on2 (xs : List V) (k : V → V → Prop) : Prop := match xs with
  | [x, y] => k x y
  | _ => False
theorem on2_ex {xs : List V} {k : V → V → Prop} (h : on2 xs k) : ∃ x y, xs = [x, y] ∧ k x y := by
  cases xs with
  | nil => exact h.elim
  | cons x r =>
    cases r with
    | nil => exact h.elim
    | cons y r =>
      cases r with
      | nil => exact ⟨_, _, rfl, h⟩
      | cons _ _ => exact h.elim
def fLen (K : PySem.W.Frag) : List V → Hp → VK → Prop := fun xs H Q => on1 xs fun x => match x with
  | .str y => y.length ≤ sizeLine ∧ Q (.int y.length) H
  | .ref p => ∃ ys, (SqL K H p ys ∨ SqT K H p ys) ∧ Q (.int ys.length) H
  | _ => False
def fInt1 : List V → Hp → VK → Prop := fun xs H Q => on1 xs fun x => match x with
  | .int i => Q (.int i) H
  | .bl k => Q (.int (if k then 1 else 0)) H
  | _ => False
def fAbs : List V → Hp → VK → Prop := fun xs H Q => on1 xs fun x => onInt x fun i => Q (.int (if i < 0 then -i else i)) H
def fMax2 : List V → Hp → VK → Prop := fun xs H Q => on2 xs fun x y => onInt x fun i => onInt y fun j => Q (.int (if j > i then j else i)) H
def fMin2 : List V → Hp → VK → Prop := fun xs H Q => on2 xs fun x y => onInt x fun i => onInt y fun j => Q (.int (if j < i then j else i)) H
def fDivmod : List V → Hp → VK → Prop := fun xs H Q => on2 xs fun x y => onInt x fun i => onInt y fun j => CDivW i j ∧ ∀ p, H p = none → Q (.ref p) (upd H p (.tup [.int (i / j), .int (i % j)]))
def fStrI : List V → Hp → VK → Prop := fun xs H Q => on1 xs fun x => onInt x fun i => i.natAbs.log2 < 1920 ∧ Q (.str (toString i)) H
def fTupOfL (K : PySem.W.Frag) : List V → Hp → VK → Prop := fun xs H Q => on1 xs fun x => onRef x fun p => ∃ ys, SqL K H p ys ∧ ∀ l, H l = none → Q (.ref l) (upd H l (.tup ys))
def fLstOf (K : PySem.W.Frag) : List V → Hp → VK → Prop := fun xs H Q => on1 xs fun x => onRef x fun p => ∃ ys, (SqL K H p ys ∨ SqT K H p ys) ∧ ∀ l, H l = none → Q (.ref l) (upd H l (.lst ys))
def fAll (K : PySem.W.Frag) : List V → Hp → VK → Prop := fun xs H Q => on1 xs fun x => onRef x fun p => ∃ bs : List Bool, SqL K H p (bs.map V.bl) ∧ Q (.bl (bs.all id)) H
section
variable {X : Cx}
theorem c_len : CallR X (.builtin "len") (fLen X.K) := fun pins s σ H xs us Q I r h => by
  obtain ⟨x, rfl, h⟩ := on1_ex h
  cases x with
  | str y => exact call_len_str pins s σ H _ us Q I r ⟨y, rfl, h.1, h.2⟩
  | ref p =>
    obtain ⟨ys, h1, h2⟩ := h
    exact call_len_seq pins s σ H _ us Q I r ⟨p, ys, rfl, h1, h2⟩
  | _ => exact h.elim
theorem c_int1 : CallR X (.type "int") fInt1 := fun pins s σ H xs us Q I r h => by
  obtain ⟨x, rfl, h⟩ := on1_ex h
  cases x with
  | int i => exact call_int1 pins s σ H _ us Q I r (.inl ⟨i, rfl, h⟩)
  | bl k => exact call_int1 pins s σ H _ us Q I r (.inr ⟨k, rfl, h⟩)
  | _ => exact h.elim
theorem c_abs : CallR X (.builtin "abs") fAbs := CallR.imp call_abs fun xs H Q h => by
  obtain ⟨x, rfl, h⟩ := on1_ex h
  obtain ⟨i, rfl, h⟩ := onInt_ex h
  exact ⟨i, rfl, h⟩
theorem c_max2 (hc : X.calm = true) : CallR X (.builtin "max") fMax2 := CallR.imp (call_max2 hc) fun xs H Q h => by
  obtain ⟨x, y, rfl, h⟩ := on2_ex h
  obtain ⟨i, rfl, h⟩ := onInt_ex h
  obtain ⟨j, rfl, h⟩ := onInt_ex h
  exact ⟨i, j, rfl, h⟩
theorem c_min2 (hc : X.calm = true) : CallR X (.builtin "min") fMin2 := CallR.imp (call_min2 hc) fun xs H Q h => by
  obtain ⟨x, y, rfl, h⟩ := on2_ex h
  obtain ⟨i, rfl, h⟩ := onInt_ex h
  obtain ⟨j, rfl, h⟩ := onInt_ex h
  exact ⟨i, j, rfl, h⟩
theorem c_divmod : CallR X (.builtin "divmod") fDivmod := CallR.imp call_divmodW fun xs H Q h => by
  obtain ⟨x, y, rfl, h⟩ := on2_ex h
  obtain ⟨i, rfl, h⟩ := onInt_ex h
  obtain ⟨j, rfl, h, q⟩ := onInt_ex h
  exact ⟨i, j, rfl, ⟨h.1, PyProof.noPylong_of_log2 h.2⟩, q⟩
theorem c_strI : CallR X (.type "str") fStrI := CallR.imp call_str_int fun xs H Q h => by
  obtain ⟨x, rfl, h⟩ := on1_ex h
  obtain ⟨i, rfl, h⟩ := onInt_ex h
  exact ⟨i, rfl, h⟩
theorem c_tupL : CallR X (.type "tuple") (fTupOfL X.K) := CallR.imp call_tuple_of fun xs H Q h => by
  obtain ⟨x, rfl, h⟩ := on1_ex h
  obtain ⟨p, rfl, ys, h1, h2⟩ := onRef_ex h
  exact ⟨p, ys, rfl, .inl ⟨h1, h2⟩⟩
theorem c_list : CallR X (.type "list") (fLstOf X.K) := CallR.imp call_list_of fun xs H Q h => by
  obtain ⟨x, rfl, h⟩ := on1_ex h
  obtain ⟨p, rfl, ys, h1, h2⟩ := onRef_ex h
  exact ⟨p, ys, rfl, h1, h2⟩
theorem c_all (hc : X.calm = true) : CallR X (.builtin "all") (fAll X.K) := CallR.imp (cr_all hc) fun xs H Q h => by
  obtain ⟨x, rfl, h⟩ := on1_ex h
  obtain ⟨p, rfl, bs, h1, h2⟩ := onRef_ex h
  exact ⟨p, bs, rfl, h1, h2⟩
end

/-! ### repr of data -/
/-- data at x, shown as y -/
def ShownAs (K : PySem.W.Frag) (H : Hp) (x : V) (y : Str) : Prop := ∃ d, Dp K H x d ∧ isDisplay d = true ∧ d.showable = true ∧ d.depth ≤ 60 ∧ d.shown.length ≤ sizeLine ∧ d.shown = y
def fRepr (K : PySem.W.Frag) : List V → Hp → VK → Prop := fun xs H Q => on1 xs fun x => ∃ y, ShownAs K H x y ∧ Q (.str y) H
theorem dp_noDict {K : PySem.W.Frag} {H : Hp} : ∀ (d : PyData) (v : V), Dp K H v d → d.hasDict = false := by
  intro d v h
  refine Dp.rec (motive_1 := fun v d _ => d.hasDict = false) (motive_2 := fun vs ds _ => PyData.hasDictAll ds = false) ?_ ?_ ?_ ?_ ?_ ?_ ?_ ?_ h
  · rfl
  · intro b; rfl
  · intro b; rfl
  · intro b; rfl
  · intro a xs ds _ _ ih; simpa [PyData.hasDict] using ih
  · intro a xs ds _ _ ih; simpa [PyData.hasDict] using ih
  · rfl
  · intro v vs d ds _ _ h1 h2; simp [PyData.hasDictAll, h1, h2]
section
variable {X : Cx}
theorem c_repr (hg : X.A.guards = some []) (hu : X.A.units + 64 < cLine) : CallR X (.builtin "repr") (fRepr X.K) := fun pins s σ H xs us Q I r h => by
  obtain ⟨x, rfl, _, ⟨d, hd, h1, h2, h3, h4, rfl⟩, q⟩ := on1_ex h
  obtain ⟨u, rfl, rx⟩ := vals1 r
  obtain ⟨as, rd⟩ := Dp.reads I d x u hd rx
  obtain ⟨a, rfl⟩ := isRef_of_reads rd h1
  exact repr_of_reads' rd h2 (PyData.noDict_hsm (dp_noDict _ _ hd)) hg (by omega) (fun _ _ e => e) (fun h' u tk hk => ⟨.str d.shown, H, I.kept hk, ⟨_, rfl⟩, q⟩) h4
end
/-! ### promises by number of arguments -/
theorem on1_len {xs : List V} {k : V → Prop} (h : on1 xs k) : xs.length = 1 := by
  obtain ⟨_, rfl, _⟩ := on1_ex h
  rfl
theorem on2_len {xs : List V} {k : V → V → Prop} (h : on2 xs k) : xs.length = 2 := by
  obtain ⟨_, _, rfl, _⟩ := on2_ex h
  rfl
def on0 (xs : List V) (k : Prop) : Prop := match xs with
  | [] => k
  | _ => False
theorem on0_ex {xs : List V} {k : Prop} (h : on0 xs k) : xs = [] ∧ k := by
  cases xs with
  | nil => exact ⟨rfl, h⟩
  | cons _ _ => exact h.elim
theorem on0_len {xs : List V} {k : Prop} (h : on0 xs k) : xs.length = 0 := by
  obtain ⟨rfl, _⟩ := on0_ex h
  rfl
def on3 (xs : List V) (k : V → V → V → Prop) : Prop := match xs with
  | [x, y, z] => k x y z
  | _ => False
theorem on3_ex {xs : List V} {k : V → V → V → Prop} (h : on3 xs k) : ∃ x y z, xs = [x, y, z] ∧ k x y z := by
  match xs, h with
  | [x, y, z], h => exact ⟨x, y, z, rfl, h⟩
  | [], h => exact h.elim
  | [_], h => exact h.elim
  | [_, _], h => exact h.elim
  | _ :: _ :: _ :: _ :: _, h => exact h.elim
theorem on3_len {xs : List V} {k : V → V → V → Prop} (h : on3 xs k) : xs.length = 3 := by
  obtain ⟨_, _, _, rfl, _⟩ := on3_ex h
  rfl
def on4 (xs : List V) (k : V → V → V → V → Prop) : Prop := match xs with
  | [x, y, z, u] => k x y z u
  | _ => False
theorem on4_ex {xs : List V} {k : V → V → V → V → Prop} (h : on4 xs k) : ∃ x y z u, xs = [x, y, z, u] ∧ k x y z u := by
  match xs, h with
  | [x, y, z, u], h => exact ⟨x, y, z, u, rfl, h⟩
  | [], h => exact h.elim
  | [_], h => exact h.elim
  | [_, _], h => exact h.elim
  | [_, _, _], h => exact h.elim
  | _ :: _ :: _ :: _ :: _ :: _, h => exact h.elim
theorem on4_len {xs : List V} {k : V → V → V → V → Prop} (h : on4 xs k) : xs.length = 4 := by
  obtain ⟨_, _, _, _, rfl, _⟩ := on4_ex h
  rfl
def on5 (xs : List V) (k : V → V → V → V → V → Prop) : Prop := match xs with
  | [x, y, z, u, t] => k x y z u t
  | _ => False
theorem on5_ex {xs : List V} {k : V → V → V → V → V → Prop} (h : on5 xs k) : ∃ x y z u t, xs = [x, y, z, u, t] ∧ k x y z u t := by
  match xs, h with
  | [x, y, z, u, t], h => exact ⟨x, y, z, u, t, rfl, h⟩
  | [], h => exact h.elim
  | [_], h => exact h.elim
  | [_, _], h => exact h.elim
  | [_, _, _], h => exact h.elim
  | [_, _, _, _], h => exact h.elim
  | _ :: _ :: _ :: _ :: _ :: _ :: _, h => exact h.elim
theorem on5_len {xs : List V} {k : V → V → V → V → V → Prop} (h : on5 xs k) : xs.length = 5 := by
  obtain ⟨_, _, _, _, _, rfl, _⟩ := on5_ex h
  rfl

/-! ### defs that are called where nothing is being shown (repr asks that) -/
structure FnG (P : Program) (w : World) (K : PySem.W.Frag) (mg : Str → Option Value) (base : Heap) (CX : CXT) (k : Nat) (f : Addr) (fd : FuncData) (ps : List Str) (sp : Sp) : Prop where
  len : ∀ vs H Q E, sp vs H Q E → vs.length = ps.length
  run : ∀ (A : Around) (outer : List Env) (s : Shared) (H : Hp) (args : Args) (us : List Value) (vs : List V) (Q : VK) (E : XK), A.guards = some [] → Room k A → Env0 P w K mg base A outer s H → BindsTo s fd args (ps.zip us) → Vals vs us → sp vs H Q E →
    codeAny (model P w) A (.call (.ref f) args) (CR CX outer P w H s Q E) s
section
variable {P : Program} {w : World} {K : PySem.W.Frag} {mg : Str → Option Value} {base : Heap} {CX : CXT} {k : Nat} {f : Addr} {fd : FuncData} {ps : List Str} {sp : Sp}
theorem gOk (F : FnOk P w K mg base CX k f fd ps sp) : FnG P w K mg base CX k f fd ps sp := ⟨F.len, fun A outer s H args us vs Q E _ hr => F.run A outer s H args us vs Q E hr⟩
end
theorem fnG_of {CX : CXT} {P : Program} {w : World} {K : PySem.W.Frag} {mg : Str → Option Value} {base : Heap} {k : Nat} {f : Addr} {name qual : Str} {params : Arguments} {body : List Stmt} {scope : Scope} {dV kV doc pm cdv ct oc : Value} {an od : Option Addr}
    {osl : Array (Option Value)} {N ps : List Str} {sp : Sp} (lk : K.lookup f = some ⟨oc, od, .func (PySem.W.fnOf name qual params body scope dV kV doc pm an cdv ct), osl⟩) (hcd : PySem.W.codeIn K cdv qual = true) (S : FnScope N ps scope)
    (len : ∀ vs H Q E, sp vs H Q E → vs.length = ps.length)
    (hbody : ∀ (A : Around) (outer : List Env) (s : Shared) (H : Hp) (vs : List V) (Q : VK) (E : XK), A.guards = some [] → Room k (A.deeper (envOfC qual scope s.heap.objs.size f cdv)) → sp vs H Q E →
      ∃ t, PSs (cxOf CX P w K mg base N qual scope f cdv A outer s H E) body t ∧ t { nx := fun _ H' => Q .non H', rt := Q } (L2.start N vs) H) :
    FnG P w K mg base CX (k + 1) f (PySem.W.fnOf name qual params body scope dV kV doc pm an cdv ct) ps sp := by
  refine ⟨len, fun A outer s H args us vs Q E hgd hr e0 hb r hsp => ?_⟩
  have hl := len _ _ _ _ hsp
  have KX : K.In s.heap := e0.mod.kin.keeps fun b o e => (e0.bs b o e).1
  have kinds : ∀ y ∈ ps.zip us, scope.names.lookup y.1 = some .local ∨ (scope.names.lookup y.1 = some .cell ∧ ((cellsFrom (s.heap.objs.size + 1) scope.names []).lookup y.1).isSome = true) := by
    rintro ⟨n, v⟩ hy
    exact (S.par n (List.of_mem_zip hy).1).imp id fun z => ⟨z, PySem.W.cellsFrom_some _ _ _ (.inl z)⟩
  refine codeAny_call_function hr.depth (KX _ _ lk) rfl S.co S.gen rfl (PySem.W.codeRec_of KX hcd) (hb _ _ _ _ (wpAny_newFunctionEnv_cells S.kind kinds fun env he s1 x => ?_))
  subst he
  refine ⟨(e0.mod.nolimit.keeps fun b o e => (e0.bs b o e).1).keeps x.toInCall.keep, codeAny_func ?_⟩
  obtain ⟨t, ht, hq⟩ := hbody A outer s H vs Q E hgd (hr.deeper _) hsp
  refine wpAny_mono (ht.run [] s1 (L2.start N vs) H _ (inv_start S hr.hd e0 hl r x) hq) (fun fl s' hs => ?_) fun e s' hs => hs
  cases fl with
  | ret u =>
    obtain ⟨v, _, H', J, rv, q⟩ := hs
    exact ⟨v, H', J.os, J.bare, J.base, J.hok, rv, q⟩
  | next =>
    obtain ⟨_, H', J, q⟩ := hs
    exact ⟨V.non, H', J.os, J.bare, J.base, J.hok, rfl, q⟩
  | brk => exact (hs.choose_spec.choose_spec.2 : False).elim
  | cont => exact (hs.choose_spec.choose_spec.2 : False).elim
theorem FunD.okG {P : Program} {w : World} {K : PySem.W.Frag} {mg : Str → Option Value} {base : Heap} {x qual : Str} {params : Arguments} {body : List Stmt} {scope : Scope} {dvs : List V} {kws : List (Str × V)} {f : Addr} {fd : FuncData} {CX : CXT} {N ps : List Str} {k : Nat} {sp : Sp}
    (F : FunD K x qual params body scope dvs kws f fd) (S : FnScope N ps scope) (len : ∀ vs H Q E, sp vs H Q E → vs.length = ps.length)
    (hbody : ∀ (cdv : Value) (A : Around) (outer : List Env) (s : Shared) (H : Hp) (vs : List V) (Q : VK) (E : XK), A.guards = some [] → Room k (A.deeper (envOfC qual scope s.heap.objs.size f cdv)) → sp vs H Q E →
      ∃ t, PSs (cxOf CX P w K mg base N qual scope f cdv A outer s H E) body t ∧ t { nx := fun _ H' => Q .non H', rt := Q } (L2.start N vs) H) : FnG P w K mg base CX (k + 1) f fd ps sp := by
  obtain ⟨oc, od, dV, kV, doc, pm, an, cdv, ct, osl, rfl, lk, hcd, _, _⟩ := F.ex
  exact fnG_of lk hcd S len fun A outer s H vs Q E hg hr hsp => hbody cdv A outer s H vs Q E hg hr hsp
section
variable {X : Cx} {CX : CXT} {k : Nat} {f C : Addr} {fd : FuncData} {ps : List Str} {sp : Sp} {dvs : List V} {ds : List Value} {E : XK} {x m : Str} {p pos apos : Pos} {e o : Expr} {es : List Expr} {ta : TE} {t : TA}
theorem run_fnG {pins : List (Addr × Obj)} {σ : L2.St} {H : Hp} {s : Shared} {Q : VK} {us : List Value} {vs : List V} (hgd : X.A.guards = some []) (F : FnG X.prog X.w X.K X.mg X.base CX k f fd ps sp) (hr : Room k X.A) (hb : Binds X.K fd ps ds) (hd : Vals dvs ds) (hx : Passes CX X E)
    (I : L2.Inv X pins σ H s) (r : Vals vs us) (h : sp (vs ++ dvs) H Q E) : wpAny (model X.prog X.w) X.A (call (.ref f) us) (EP X pins σ Q) X.xe s := by
  have r2 : Vals (vs ++ dvs) (us ++ ds) := r.append hd
  refine wpAny_call (codeAny_mono (F.run X.A X.stack s H ⟨us, []⟩ (us ++ ds) (vs ++ dvs) Q E hgd hr I.env0 (hb s us I.kIn (by rw [← r2.length]; exact F.len _ _ _ _ h)) r2 h) fun res s' hq => ?_)
  match res, hq with
  | .error e, hq => exact hx pins σ H s e s' I hq
  | .ok (.ret u), hq => exact I.after hq
  | .ok .next, hq => exact hq.elim
  | .ok .brk, hq => exact hq.elim
  | .ok .cont, hq => exact hq.elim
theorem e_callG (hgd : X.A.guards = some []) (F : FnG X.prog X.w X.K X.mg X.base CX k f fd ps sp) (hr : Room k X.A) (hg : Gl X x) (hm : X.mg x = some (.ref f)) (hk : PySem.W.keepIn X.K (.ref f) = true) (hb : Binds X.K fd ps ds) (hd : Vals dvs ds) (hx : Passes CX X E)
    (ha : PA X (e :: es) t) (hdb : (x == ("__debug__" : Str)) = false := by decide) (he : starEach (e :: es) X.env = (false, eval e X.env) :: starEach es X.env := by rfl) (hpl : (backTo pos (starEach es X.env)).any (·.1) = false := by rfl) :
    PE X (.Call (.Name x p) (e :: es) [] pos) (tCall sp dvs E t) :=
  ⟨fun pins s σ H Q I h => wpAny_Call_Name_kw (ld_glob I hg hm (PySem.W.callWith_K (h₀ := X.base) I.ok.mod.kin hk (thn (ha.run pos pins s σ H _ I h) fun us s1 ⟨vs, H1, I1, r, q⟩ => ⟨I1.kIn, run_fnG hgd F hr hb hd hx I1 r q⟩) he hpl) hdb)⟩
theorem e_call0G (hgd : X.A.guards = some []) (F : FnG X.prog X.w X.K X.mg X.base CX k f fd ps sp) (hr : Room k X.A) (hg : Gl X x) (hm : X.mg x = some (.ref f)) (hk : PySem.W.keepIn X.K (.ref f) = true) (hb : Binds X.K fd ps ds) (hd : Vals dvs ds) (hx : Passes CX X E)
    (hdb : (x == ("__debug__" : Str)) = false := by decide) : PE X (.Call (.Name x p) [] [] pos) (tCall sp dvs E tNil) :=
  ⟨fun pins s σ H Q I h => wpAny_Call_Name_kw (ld_glob I hg hm (PySem.W.callWith_K0 I.kIn hk (run_fnG (us := []) hgd F hr hb hd hx I .nil h)) hdb)⟩
end
end Sp
namespace Sp
open PySem PySem.Spec PyProof.Rows L2

/-! ### enumerate(tuple) -/
theorem meets_enumT (l : Addr) (items : Array Value) (n : Nat) (dct : Option Addr) (sl : Array (Option Value)) :
    Meets (Builtin.«enumerate.__new__» ⟨[.type "enumerate", .ref l], []⟩) (fun _ R s => s.heap.get? l = some { cls := .type "tuple", dict := dct, data := .seq items n, slots := sl } ∧
      R (.ok (.ret (.ref (s.heap.push { cls := .type "tuple_iterator", data := .fields #[.ref l, .int 0 0] }).objs.size)))
        { s with heap := (s.heap.push { cls := .type "tuple_iterator", data := .fields #[.ref l, .int 0 0] }).push { cls := .type "enumerate", data := .fields #[.none, .bool false, .ref s.heap.objs.size, rawInt 0, .none, .none] } }) :=
  .of_wp fun prog w A R s h => by
    obtain ⟨hp, g, d, tk, os⟩ := s
    obtain ⟨hl, h⟩ := h
    have sub := sub_enumerate
    have tt : Heap.IsTuple (Shared.heap ⟨hp, g, d, tk, os⟩) l items := ⟨_, hl, rfl, n, rfl⟩
    wp_walk using AutoSeq1.wpAny_loadPart' hl
    refine wpAny_stack_any fun st => wpAny_pure ?_
    split
    · rename_i c _ _ _ _ _
      cases (c == Value.type "enumerate") <;> (wp_walk using AutoSeq1.wpAny_loadPart' hl, wpAny_pyIter_tuple tt; exact ⟨_, rfl, h⟩)
    · wp_walk using AutoSeq1.wpAny_loadPart' hl, wpAny_pyIter_tuple tt
      exact ⟨_, rfl, h⟩
section
variable {prog : Program} {w : World} {A : Around} {E : Value → Shared → Prop} {s : Shared}
theorem call_enumT {l : Addr} {items : Array Value} {Q : Value → Shared → Prop} (hL : s.heap.IsTuple l items)
    (h : ∀ h', IsEnum h' (s.heap.objs.size + 1) s.heap.objs.size 0 .none → h'.IsTupleIter s.heap.objs.size l 0 → (∀ b o, s.heap.get? b = some o → h'.get? b = some o) → Q (.ref (s.heap.objs.size + 1)) { s with heap := h' }) :
    wpAny (model prog w) A (call (.type "enumerate") [.ref l]) Q E s := by
  obtain ⟨⟨c, dct, dt, sl⟩, hl, hc, n, hd⟩ := hL
  obtain rfl : c = .type "tuple" := hc
  obtain rfl : dt = .seq items n := hd
  refine callType_new F.called_enumerate (by decide) (F.typeCall_enumerate_1 _) (F.newCall_enumerate_1 _) (fun obj => F.args_object_init_2 obj _) F.entry_enumerate_new (meets_enumT l items n dct sl) ⟨hl, ?_⟩
  have hz : (s.heap.push { cls := .type "tuple_iterator", data := .fields #[.ref l, .int 0 0] }).objs.size = s.heap.objs.size + 1 := Heap.size_push ..
  show _ ∧ _
  rw [hz]
  have he : IsEnum ((s.heap.push { cls := .type "tuple_iterator", data := .fields #[.ref l, .int 0 0] }).push { cls := .type "enumerate", data := .fields #[.none, .bool false, .ref s.heap.objs.size, rawInt 0, .none, .none] }) (s.heap.objs.size + 1) s.heap.objs.size 0 .none := by
    have q := Heap.get?_push_size (s.heap.push { cls := .type "tuple_iterator", data := .fields #[.ref l, .int 0 0] }) (o := { cls := .type "enumerate", data := .fields #[.none, .bool false, .ref s.heap.objs.size, rawInt 0, .none, .none] }) rfl
    rw [hz] at q
    exact q
  exact ⟨⟨_, he, rfl⟩, h _ he ⟨_, Heap.get?_push_of_some _ (Heap.get?_push_size _ rfl), rfl, rfl⟩ fun b o x => Heap.get?_push_of_some _ (Heap.get?_push_of_some _ x)⟩
end
/-- the tuple at a, its items in new pairs with their places -/
def IteT (K : PySem.W.Frag) (a : Addr) : It where
  go := fun i H => ∃ (xs : List V) (x : V), SqT K H a xs ∧ xs[i]? = some x
  yld := fun i H v H' => ∃ T x, v = .ref T ∧ H T = none ∧ H' = upd H T (.tup [.int (i : Nat), x]) ∧ ∀ xs, SqT K H a xs → xs[i]? = some x
  stop := fun i H => ∃ xs : List V, SqT K H a xs ∧ xs.length = i
theorem turn_enumT {P : Program} {w : World} {K : PySem.W.Frag} {elts : List Expr} {kk : Nat} {tpos : Pos} (a e it : Addr) :
    Turn P w K (.Tuple elts kk tpos) (IteT K a) [e, it] e (fun i h => (∃ old, IsEnum h e it ((i : Nat) : Int) old) ∧ h.IsTupleIter it a i ∧ e ≠ it) where
  mem := by simp
  obj := fun i h st b hb => by
    obtain ⟨⟨old, he⟩, ⟨o, ho, hc, hd⟩, _⟩ := st
    rcases (by simpa using hb : b = e ∨ b = it) with rfl | rfl
    · exact ⟨_, he, fun v q => nomatch q⟩
    · exact ⟨o, ho, fun v q => by rw [hd] at q; cases q⟩
  keep := fun i h h' st k => let ⟨⟨old, he⟩, hi, hne⟩ := st; ⟨⟨old, k e (by simp) _ he⟩, hi.at fun o q => k it (by simp) o q, hne⟩
  item := by
    intro X hP hw hK hc i pins s σ H E I hf st hg
    subst hP hw hK
    obtain ⟨⟨old, he⟩, hit, hne⟩ := st
    obtain ⟨xs, x, hq, hx⟩ := hg
    obtain ⟨its, rv, tp, hz⟩ := I.tuple hq
    have tp0 : s.heap.IsTuple a its.toArray := tp
    have hai : a ≠ it := fun z => by
      obtain ⟨o, ho, hcl, _⟩ := tp
      obtain ⟨o2, ho2, hcl2, _⟩ := hit
      rw [z, ho2] at ho
      cases ho
      rw [hcl2] at hcl
      exact absurd hcl (by decide)
    have hea : e ≠ a := fun z => by
      obtain ⟨o, ho, hcl, _⟩ := tp
      have he2 := he
      unfold IsEnum at he2
      rw [z, ho] at he2
      cases he2
      exact absurd (show Value.type "enumerate" = Value.type "tuple" from hcl) (by decide)
    obtain ⟨u, hu, ru⟩ := rv.get hx
    have hel : e < s.heap.objs.size := Heap.lt_size he
    have hil : it < s.heap.objs.size := by obtain ⟨_, q, _⟩ := hit; exact Heap.lt_size q
    have hlt : i < its.toArray.size := by
      rw [List.size_toArray]
      exact (List.getElem?_eq_some_iff.mp hu).1
    refine wpAny_pyNext_enum_itemD (A := X.A) (Draws.tuple (A := X.A.in1) (I.ok.hd hc) it a hai its.toArray) he ⟨hit, tp0⟩ hlt hne (by simp [hne, hea]) fun x' h' tk hx' ho st' hT hsz hk => ?_
    have exu : x' = u := by
      have q : its.toArray[i]? = some x' := hx'
      simp only [List.getElem?_toArray] at q
      rw [hu] at q
      exact (Option.some.inj q).symm
    subst exu
    refine ⟨_, rfl, wpAny_letOwnedTupleGo_enum (s := { s with heap := h', toks := tk + 1 }) ho fun h'' he' sb => ?_⟩
    have hT2 := (sb.2 _ (Nat.ne_of_gt hel)).trans hT
    have new : ObjOk X.prog X.w (upd H s.heap.objs.size (.tup [.int (i : Nat), x])) h'' s.heap.objs.size (.tup [.int (i : Nat), x]) := ⟨by show 2 ≤ sizeLine; decide, [.int i tk, x'], .cons ⟨_, rfl⟩ (.cons ru .nil), ⟨_, hT2, rfl, _, rfl⟩⟩
    have I1 : L2.Inv X pins σ (upd H s.heap.objs.size (.tup [.int (i : Nat), x])) { s with heap := h'', toks := tk + 1 } := by
      refine I.turnedNew (ch := [e, it]) (fun b ob hb q => ?_) hf (Nat.le_refl _) new
      have n1 : b ≠ e := fun z => hb (by simp [z])
      have n2 : b ≠ it := fun z => hb (by simp [z])
      exact (sb.2 b n1).trans (hk b ob n1 n2 q)
    refine ⟨.ref s.heap.objs.size, _, I1, rfl, ⟨_, x, rfl, I.hok.fresh (Nat.le_refl _), rfl, fun ys hy => by rw [I.tuple_inj hy hq]; exact hx⟩, ⟨⟨x', by simpa using he'⟩, st'.1.at fun o q => (sb.2 it (Ne.symm hne)).trans q, hne⟩, fun b hb => ?_⟩
    have hb' : b < s.heap.objs.size := by
      rcases (by simpa using hb : b = e ∨ b = it) with rfl | rfl
      · exact hel
      · exact hil
    rw [upd_ne (Nat.ne_of_lt hb')]
    exact (hf b hb).1
  done := by
    intro X hP hw hK hc i pins s σ H E I hf st hg
    subst hP hw hK
    obtain ⟨⟨old, he⟩, hit, hne⟩ := st
    obtain ⟨xs, hq, hx⟩ := hg
    obtain ⟨its, rv, tp, hz⟩ := I.tuple hq
    have tp0 : s.heap.IsTuple a its.toArray := tp
    have hai : a ≠ it := fun z => by
      obtain ⟨o, ho, hcl, _⟩ := tp
      obtain ⟨o2, ho2, hcl2, _⟩ := hit
      rw [z, ho2] at ho
      cases ho
      rw [hcl2] at hcl
      exact absurd hcl (by decide)
    obtain ⟨f0, f1, f2, f3, f4, f5⟩ := hf it (by simp)
    have hn : i = its.toArray.size := by
      rw [List.size_toArray, ← rv.length, hx]
    exact wpAny_pyNext_enum_endD (A := X.A) (Draws.tuple (A := X.A.in1) (I.ok.hd hc) it a hai its.toArray) he ⟨by rw [← hn]; exact hit, tp0⟩ fun h' eb => ⟨rfl, I.turned (t' := s.toks) (fun b o hb q => eb b o hb q) f0 f1 f3 f4 f5⟩
  self := fun A i s Q E st h => let ⟨⟨_, he⟩, _⟩ := st; wpAny_pyIter_enum he h
def iEnumT (K : PySem.W.Frag) (ta : TA) : TI := fun σ H R => ta σ H fun vs H1 => on1 vs fun x => onRef x fun a => (∃ xs, SqT K H1 a xs) ∧ R (IteT K a) H1
theorem pi_enumT {X : Cx} {e : Expr} {ta : TA} {p pos tpos : Pos} {elts : List Expr} {kk : Nat} (hg : Gl X "enumerate") (hm : X.mg "enumerate" = none) (ha : PA X [e] ta) (hs : starEach [e] X.env = [(false, eval e X.env)] := by rfl) :
    PI X (.Tuple elts kk tpos) (.Call (.Name "enumerate" p) [e] [] pos) (iEnumT X.K ta) := by
  refine ⟨fun pins s σ H R I h => Call_ (ld_blt I hg hm boot_enumerate (PyProof.Rows.callWith_type1 (thn (ha.run pos pins s σ H _ I h) fun us s1 ⟨vs, H1, I1, r1, q1⟩ => ?_) hs rfl))⟩
  obtain ⟨x, rfl, q2⟩ := on1_ex q1
  obtain ⟨a, rfl, ⟨xs, hq⟩, q⟩ := onRef_ex q2
  obtain ⟨u, rfl, ru⟩ := vals1 r1
  cases ru
  obtain ⟨its, rv, tp, hz⟩ := I1.tuple hq
  refine call_enumT (show s1.heap.IsTuple a its.toArray from tp) fun h' he hit hk => wpAny_pyIter_enum he ?_
  refine ⟨s1.heap.objs.size + 1, [s1.heap.objs.size + 1, s1.heap.objs.size], _, _, H1, rfl, I1.kept (t' := s1.toks) hk, turn_enumT a (s1.heap.objs.size + 1) s1.heap.objs.size, ⟨⟨.none, he⟩, hit, Nat.succ_ne_self _⟩, fun b hb => ?_, q⟩
  have hle : s1.heap.objs.size ≤ b := by
    rcases (by simpa using hb : b = s1.heap.objs.size + 1 ∨ b = s1.heap.objs.size) with rfl | rfl <;> omega
  exact I1.fpOk hle (I1.hok.fresh hle)
/-- a for over enumerate(tuple) -/
theorem for_enumT {K : PySem.W.Frag} {a : Addr} {xs : List V} {g : TG} {tb : TS} {D : Ends} {σ : L2.St} {H : Hp} (Pv : Nat → L2.St → Hp → Prop) (h0 : Pv 0 σ H) (hG : ∀ i σ H, i ≤ xs.length → Pv i σ H → SqT K H a xs)
    (hs : ∀ i x σ H T, xs[i]? = some x → Pv i σ H → H T = none → g (.ref T) σ (upd H T (.tup [.int (i : Nat), x])) fun σ2 H2 => tb { D with nx := Pv (i + 1), ct := Pv (i + 1), bk := D.nx } σ2 H2) (hd : ∀ σ H, Pv xs.length σ H → D.nx σ H) :
    ∃ W : Nat → Nat → L2.St → Hp → Prop, (∃ m, W 0 m σ H) ∧ ∀ i m σ H, W i m σ H →
      ((IteT K a).stop i H ∧ D.nx σ H) ∨ ((IteT K a).go i H ∧ ∃ N : L2.St → Hp → Prop, (∀ σ' H', N σ' H' → ∃ m', m' < m ∧ W (i + 1) m' σ' H') ∧ ∀ x H', (IteT K a).yld i H x H' → g x σ H' fun σ2 H2 => tb { D with nx := N, ct := N, bk := D.nx } σ2 H2) := by
  refine ⟨fun i m σ H => m = xs.length - i ∧ i ≤ xs.length ∧ Pv i σ H, ⟨xs.length, by simp, Nat.zero_le _, h0⟩, ?_⟩
  rintro i m σ H ⟨rfl, hi, pv⟩
  have q := hG i σ H hi pv
  by_cases hlt : i < xs.length
  · refine .inr ⟨⟨xs, xs[i], q, by simp [hlt]⟩, Pv (i + 1), fun σ' H' p' => ⟨xs.length - (i + 1), by omega, rfl, hlt, p'⟩, fun v H' y => ?_⟩
    obtain ⟨T, x, rfl, hT, rfl, hx⟩ := y
    exact hs i x σ H T (hx xs q) pv hT
  · obtain rfl : i = xs.length := by omega
    exact .inl ⟨⟨xs, q, rfl⟩, hd σ H pv⟩

/-! ### isinstance, max, min -/
def fIsi (K : PySem.W.Frag) : List V → Hp → VK → Prop := fun xs H Q => on2 xs fun x c => ∃ (t u : Value) (b : Bool), ClsV c u ∧ TyX K H x t ∧ PySem.W.kitOne K t u = some b ∧ Q (.bl b) H
def fMax (K : PySem.W.Frag) : List V → Hp → VK → Prop := fun xs H Q => on1 xs fun x => onRef x fun a => ∃ ns : List Int, SqL K H a (ns.map V.int) ∧ 0 < ns.length ∧ ∀ m, m ∈ ns → (∀ y, y ∈ ns → y ≤ m) → Q (.int m) H
def fMin (K : PySem.W.Frag) : List V → Hp → VK → Prop := fun xs H Q => on1 xs fun x => onRef x fun a => ∃ ns : List Int, SqL K H a (ns.map V.int) ∧ 0 < ns.length ∧ ∀ m, m ∈ ns → (∀ y, y ∈ ns → m ≤ y) → Q (.int m) H
section
variable {X : Cx}
theorem c_isi : CallR X (.builtin "isinstance") (fIsi X.K) := CallR.imp call_isi fun xs H Q h => by
  obtain ⟨x, c, rfl, t, u, b, h1⟩ := on2_ex h
  exact ⟨x, c, t, u, b, rfl, h1⟩
theorem c_max (hc : X.calm = true) : CallR X (.builtin "max") (fMax X.K) := CallR.imp (cr_max hc) fun xs H Q h => by
  obtain ⟨x, rfl, h1⟩ := on1_ex h
  obtain ⟨a, rfl, ns, h2⟩ := onRef_ex h1
  exact ⟨a, ns, rfl, h2⟩
theorem c_min (hc : X.calm = true) : CallR X (.builtin "min") (fMin X.K) := CallR.imp (cr_min hc) fun xs H Q h => by
  obtain ⟨x, rfl, h1⟩ := on1_ex h
  obtain ⟨a, rfl, ns, h2⟩ := onRef_ex h1
  exact ⟨a, ns, rfl, h2⟩
end
/-- is it an int, a bool, .. -/
theorem isi_ty {K : PySem.W.Frag} {x c : V} {H : Hp} {Q : VK} {a b : String} {r : Bool} (hx : TyX K H x (.type a)) (hc : ClsV c (.type b)) (hk : kitB a b = some r) (q : Q (.bl r) H) : fIsi K [x, c] H Q := ⟨_, _, _, hc, hx, kit_ty hk, q⟩

/-! ### calls by keywords alone -/
section
variable {X : Cx} {CX : CXT} {k n : Nat} {f C : Addr} {fd : FuncData} {ps ks : List Str} {sp : L2.Sp} {E : XK} {x m : Str} {p pos apos : Pos} {o : Expr} {kws : List Keyword} {ta : TE} {t tk : TA} {g : List Value → List Value → List Value} {gV : List V → List V → List V}
theorem e_makeK0 (M : Mk X.K C f) (F : FnOk X.prog X.w X.K X.mg X.base CX k f fd ps sp) (hr : Room (k + 1) X.A) (hg : Gl X x) (hm : X.mg x = some (.ref C)) (hb : KBn X.K fd ps 1 ks g gV) (hx : Passes CX X E) (hkw : PK X kws tk)
    (hall : (backToKw pos (keywordEach kws X.env)).all (·.1.isSome) = true := by rfl) (hks : (backToKw pos (keywordEach kws X.env)).filterMap (·.1) = ks := by rfl) (hdb : (x == ("__debug__" : Str)) = false := by decide)
    (hpl : ((backTo pos (starEach [] X.env)).any (·.1) || (backToKw pos (keywordEach kws X.env)).any (·.1.isNone)) = false := by rfl) :
    PE X (.Call (.Name x p) [] kws pos) (tMakeN C 0 ks.length sp gV E tNil tk) := by
  refine ⟨fun pins s σ H Q I h => wpAny_Call_Name_kw (ld_glob I hg hm (PySem.W.callWith_KW0 (h₀ := X.base) I.ok.mod.kin M.kp hall (thn (hkw.run pos pins s σ H _ I h) fun ws s2 ⟨zs, H2, I2, rz, l1, l2, q2⟩ => ⟨I2.kIn, ?_⟩) hpl) hdb)⟩
  rw [hks]
  exact run_makeN (us := []) (vs := []) M F hr hb hx I2 .nil rz l1 l2 q2
/-- o.m(k = v, ..) -/
def tMethK (C : Addr) (m : Str) (mm : Nat) (sp : L2.Sp) (gV : List V → List V → List V) (E : XK) (ta : TE) (tk : TA) : TE := fun σ H Q => ta σ H fun x H1 => onRef x fun a => (∃ dx fs, H1 a = some (.ins C dx fs) ∧ fs.lookup m = none) ∧
  tk σ H1 fun zs H2 => zs.length = mm ∧ sp (gV [x] zs) H2 Q E
theorem e_methK0 {pl : Sem Bool} (he : PE X o ta) (c : Cls X.K C) (hm : Meth X.K C m f) (F : FnOk X.prog X.w X.K X.mg X.base CX k f fd ps sp) (hr : Room k X.A) (hb : KBn X.K fd ps 1 ks g gV) (hx : Passes CX X E) (hkw : PK X kws tk)
    (hall : (backToKw pos (keywordEach kws X.env)).all (·.1.isSome) = true := by rfl) (hks : (backToKw pos (keywordEach kws X.env)).filterMap (·.1) = ks := by rfl)
    (hpl : ((backTo pos (starEach [] X.env)).any (·.1) || (backToKw pos (keywordEach kws X.env)).any (·.1.isNone)) = false := by rfl)
    (ht : eval (.Call (.Attribute o m apos) [] kws pos) X.env = (do
      let ov ← eval o X.env
      standAt apos.atName
      let (f, first) ← holding [ov] (getMethod ov m pl)
      callWith pos f first (backTo pos (starEach [] X.env)) (backToKw pos (keywordEach kws X.env))) := by rfl) :
    PE X (.Call (.Attribute o m apos) [] kws pos) (tMethK C m ks.length sp gV E ta tk) := by
  refine ⟨fun pins s σ H Q I h => PySem.W.methodCall_KW (pl := pl) (thn (he.run pins s σ H _ I h) fun u s1 ⟨x, H1, I1, rx, q⟩ => ?_) ht⟩
  obtain ⟨a, rfl, ⟨dx, fs, ea, l⟩, q⟩ := onRef_ex q
  obtain rfl : u = Value.ref a := rx
  refine getmeth_ok I1 ea c hm l (PySem.W.callWith_KW0 (first := [.ref a]) (h₀ := X.base) I.ok.mod.kin hm.kp hall (thn (hkw.run pos pins s1 σ H1 _ I1 q) fun ws s2 ⟨zs, H2, I2, rz, l2, q2⟩ => ⟨I2.kIn, ?_⟩) hpl)
  rw [hks]
  exact run_fnN (us := [.ref a]) (vs := [.ref a]) F hr hb hx I2 (.cons rfl .nil) rz rfl l2 q2
end

/-! ### lists and tuples alike -/
def SqS (K : PySem.W.Frag) (H : Hp) (a : Addr) (xs : List V) : Prop := SqL K H a xs ∨ SqT K H a xs
def fIxQ (K : PySem.W.Frag) : R2 := fun x y H Q => onRef x fun p => onInt y fun i => ∃ xs, SqS K H p xs ∧ ∃ v, atI xs i = some v ∧ Q v H
def fSlQ (K : PySem.W.Frag) : V → Option Int → Option Int → Hp → VK → Prop := fun x lo hi H Q => rSlL K x lo hi H Q ∨ rSlA K x lo hi H Q
def fTupQ (K : PySem.W.Frag) : List V → Hp → VK → Prop := fun xs H Q => on1 xs fun x => onRef x fun p => ∃ ys, (SqL K H p ys ∧ ∀ l, H l = none → Q (.ref l) (upd H l (.tup ys))) ∨ (SqT K H p ys ∧ Q (.ref p) H)
section
variable {X : Cx}
theorem x_seq : IxR X (fIxQ X.K) := IxR.imp ix_seq fun x y H Q h => by
  obtain ⟨p, rfl, h1⟩ := onRef_ex h
  obtain ⟨i, rfl, xs, h2, v, h3, h4⟩ := onInt_ex h1
  rcases h2 with h2 | h2
  · exact .inl ⟨p, xs, i, v, rfl, rfl, h2, h3, h4⟩
  · exact .inr (.inl ⟨p, xs, i, v, rfl, rfl, h2, h3, h4⟩)
theorem sl_seq : SlR X (fSlQ X.K) := SlR.or sl_list sl_tupA
theorem c_tupQ : CallR X (.type "tuple") (fTupQ X.K) := CallR.imp call_tuple_of fun xs H Q h => by
  obtain ⟨x, rfl, h1⟩ := on1_ex h
  obtain ⟨p, rfl, ys, h2⟩ := onRef_ex h1
  exact ⟨p, ys, rfl, h2⟩
end
theorem Same.upd {H : Hp} {q : Addr} {o : HO} (hq : H q = none) : Same H (upd H q o) := fun b u h => by rw [upd_ne (ne_of_none h hq)]; exact h
theorem sameT {K : PySem.W.Frag} {H H' : Hp} {a : Addr} {xs : List V} (e : Same H H') (h : SqT K H a xs) : SqT K H' a xs := by
  rcases h with (h | ⟨o, h⟩) | h
  · exact .inl (.inl (e _ _ h))
  · exact .inl (.inr ⟨o, e _ _ h⟩)
  · exact .inr h
theorem sameS {K : PySem.W.Frag} {H H' : Hp} {a : Addr} {xs : List V} (e : Same H H') (h : SqS K H a xs) : SqS K H' a xs := h.imp (fun z => e.seq z) (fun z => sameT e z)

/-! ### comprehensions over a range: what holds between the turns -/
theorem lc_rangeI {lo : Int} {n : Nat} {g : TG} {te : TE} {vs : List Nat} {σ : L2.St} {H1 : Hp} {D : Addr} {Qd : Hp → Prop} (hz : n ≤ 1000000) (J : Nat → List V → Hp → Prop) (h0 : J 0 [] (upd H1 D (.lst [])))
    (hs : ∀ (i : Nat) (acc : List V) (H : Hp), i < n → acc.length = i → H D = some (.lst acc) → J i acc H → ∀ R : VK, (∀ y H4, H4 D = some (.lst acc) → J (i + 1) (acc ++ [y]) (upd H4 D (.lst (acc ++ [y]))) → R y H4) →
      g (.int (lo + i)) (wipe σ vs) H fun σ2 H2 => wipe σ2 vs = wipe σ vs ∧ te σ2 H2 R)
    (hd : ∀ acc H, acc.length = n → H D = some (.lst acc) → J n acc H → Qd H) :
    ∃ W : Nat → Nat → Hp → Prop, (∃ m, W 0 m (upd H1 D (.lst []))) ∧ ∀ i m H, W i m H →
      ((Itr lo n).stop i H ∧ Qd H) ∨ ((Itr lo n).go i H ∧ ∃ Nx : Hp → Prop, (∀ H', Nx H' → ∃ m', m' < m ∧ W (i + 1) m' H') ∧ ∀ x H', (Itr lo n).yld i H x H' → g x (wipe σ vs) H' fun σ2 H2 => wipe σ2 vs = wipe σ vs ∧ tYes σ2 H2 fun b H3 =>
        if b = true then te σ2 H3 fun y H4 => ∃ acc, H4 D = some (.lst acc) ∧ acc.length < sizeLine ∧ Nx (upd H4 D (.lst (acc ++ [y]))) else Nx H3) := by
  refine lc_range (fun i H => ∃ acc, acc.length = i ∧ H D = some (.lst acc) ∧ J i acc H) ⟨[], rfl, upd_same, h0⟩ (fun i H hi h => ?_) (fun H h => ?_)
  · obtain ⟨acc, hl, hD, hJ⟩ := h
    have q := hs i acc H hi hl hD hJ (fun y H4 => ∃ acc, H4 D = some (.lst acc) ∧ acc.length < sizeLine ∧ ∃ ac2, ac2.length = i + 1 ∧ (upd H4 D (.lst (acc ++ [y]))) D = some (.lst ac2) ∧ J (i + 1) ac2 (upd H4 D (.lst (acc ++ [y])))) (fun y H4 e j => ⟨acc, e, by rw [hl, sizeLine_eq]; omega, acc ++ [y], by simp [hl], upd_same, j⟩)
    exact q
  · obtain ⟨acc, hl, hD, hJ⟩ := h
    exact hd acc H hl hD hJ
/-- the elements are f i, nothing else changes -/
theorem lc_rangeF {lo : Int} {n : Nat} {g : TG} {te : TE} {vs : List Nat} {σ : L2.St} {H1 : Hp} {D : Addr} {Qd : Hp → Prop} (f : Nat → V) (hn : H1 D = none) (hz : n ≤ 1000000)
    (hs : ∀ (i : Nat) (H : Hp), i < n → Same H1 H → ∀ R : VK, (∀ H4, Same H H4 → R (f i) H4) → g (.int (lo + i)) (wipe σ vs) H fun σ2 H2 => wipe σ2 vs = wipe σ vs ∧ te σ2 H2 R)
    (hd : ∀ H, Same H1 H → H D = some (.lst ((List.range n).map f)) → Qd H) :
    ∃ W : Nat → Nat → Hp → Prop, (∃ m, W 0 m (upd H1 D (.lst []))) ∧ ∀ i m H, W i m H →
      ((Itr lo n).stop i H ∧ Qd H) ∨ ((Itr lo n).go i H ∧ ∃ Nx : Hp → Prop, (∀ H', Nx H' → ∃ m', m' < m ∧ W (i + 1) m' H') ∧ ∀ x H', (Itr lo n).yld i H x H' → g x (wipe σ vs) H' fun σ2 H2 => wipe σ2 vs = wipe σ vs ∧ tYes σ2 H2 fun b H3 =>
        if b = true then te σ2 H3 fun y H4 => ∃ acc, H4 D = some (.lst acc) ∧ acc.length < sizeLine ∧ Nx (upd H4 D (.lst (acc ++ [y]))) else Nx H3) := by
  refine lc_rangeI hz (fun i acc H => acc = (List.range i).map f ∧ Same H1 H) ⟨rfl, Same.upd hn⟩ (fun i acc H hi hl hD hJ R hR => ?_) (fun acc H hl hD hJ => ?_)
  · refine hs i H hi hJ.2 R fun H4 e => hR (f i) H4 (e _ _ hD) ⟨?_, fun b o h => ?_⟩
    · rw [List.range_succ, List.map_append, ← hJ.1]
      rfl
    · rw [upd_ne (ne_of_none h hn)]
      exact e _ _ (hJ.2 _ _ h)
  · exact hd H hJ.2 (by rw [hD, hJ.1])

/-! ### range(a, b) of ints of any size -/
theorem turn_long {P : Program} {w : World} {K : PySem.W.Frag} {tg : Expr} (it : Addr) (lo : Int) (n : Nat) : Turn P w K tg (Itr lo n) [it] it (fun i h => IsLongIter h it (lo + (i : Nat) * 1) ((n : Int) - (i : Nat)) 1) where
  mem := by simp
  obj := fun i h st b hb => by
    obtain rfl : b = it := by simpa using hb
    exact ⟨_, st, fun v z => nomatch z⟩
  keep := fun i h h' st k => k it (by simp) _ st
  item := by
    intro X hP hw hK hc i pins s σ H E I hf st hg
    subst hP hw hK
    obtain ⟨f0, f1, f2, f3, f4, f5⟩ := hf it (by simp)
    have hg2 : i < n := hg
    refine wpAny_pyNext_long_item st (by omega) fun h' st' sb => ?_
    have I1 : L2.Inv X pins σ H { s with heap := h', toks := s.toks + 1 } := I.turned (fun b o hb e => (sb.2 b hb).trans e) f0 f1 f3 f4 f5
    have st2 : IsLongIter h' it (lo + ((i + 1 : Nat) : Int) * 1) ((n : Int) - ((i + 1 : Nat) : Int)) 1 := by
      have e1 : lo + ((i + 1 : Nat) : Int) * 1 = lo + (i : Int) * 1 + 1 := by omega
      have e2 : (n : Int) - ((i + 1 : Nat) : Int) = (n : Int) - (i : Int) - 1 := by omega
      rw [e1, e2]
      exact st'
    refine ⟨_, rfl, go_of (s := { s with heap := h', toks := s.toks + 1 }) (n := "longrange_iterator") st2 rfl rfl (by decide) ⟨.int (lo + i), H, I1, ⟨s.toks, by rw [Int.mul_one]⟩, ⟨rfl, rfl⟩, st2, fun b hb => (hf b hb).1⟩⟩
  done := by
    intro X hP hw hK hc i pins s σ H E I hf st hg
    subst hP hw hK
    obtain ⟨f0, f1, f2, f3, f4, f5⟩ := hf it (by simp)
    have hg2 : n ≤ i := hg
    exact wpAny_pyNext_long_end (I.ok.hd hc) st (by omega) fun h' eb => ⟨rfl, I.turned (t' := s.toks) (fun b o hb e => eb b o hb e) f0 f1 f3 f4 f5⟩
  self := fun _ _ _ _ _ st h => wpAny_pyIter_longiter st h
def iRngL (ta : TA) : TI := fun σ H R => ta σ H fun vs H1 => on2 vs fun x y => onInt x fun i => onInt y fun j => R (Itr i (j - i).toNat) H1
section
variable {X : Cx} {tg : Expr}
theorem rangeL_it {pins : List (Addr × Obj)} {σ : L2.St} {H : Hp} {s : Shared} {R : It → Hp → Prop} {E : Value → Shared → Prop} {lo hi : Int} {t u v : Tok} {tk : Nat} (I : L2.Inv X pins σ H s)
    (q : R (Itr lo (hi - lo).toNat) H) : wpAny (model X.prog X.w) X.A (pyIter (.ref s.heap.objs.size)) (PIE X pins σ tg R) E { s with heap := s.heap.push { cls := .type "range", data := .fields #[.int lo t, .int hi u, .int 1 v] }, toks := tk } := by
  have I1 : L2.Inv X pins σ H { s with heap := s.heap.push { cls := .type "range", data := .fields #[.int lo t, .int hi u, .int 1 v] }, toks := tk } := I.kept fun b o e => Heap.get?_push_of_some _ e
  have e1 : lo + ((0 : Nat) : Int) * 1 = lo := by simp
  have e2 : (((hi - lo).toNat : Nat) : Int) - ((0 : Nat) : Int) = Builtin.Range.rangeSize lo hi 1 := by rw [rangeSize_one]; split <;> omega
  have fp : ∀ b, b ∈ [(s.heap.push { cls := .type "range", data := .fields #[.int lo t, .int hi u, .int 1 v] }).objs.size] → FpOk X pins H b := fun b hb => by
    obtain rfl : b = (s.heap.push { cls := .type "range", data := .fields #[.int lo t, .int hi u, .int 1 v] }).objs.size := by simpa using hb
    exact I1.fpOk (Nat.le_refl _) (I1.hok.fresh (Nat.le_refl _))
  cases hs : Builtin.Range.small lo hi 1 with
  | true =>
    refine wpAny_pyIter_range (IsRange.new ..) hs ⟨_, [(s.heap.push { cls := .type "range", data := .fields #[.int lo t, .int hi u, .int 1 v] }).objs.size], _, _, H, rfl, I1.kept (t' := tk) fun b o e => Heap.get?_push_of_some _ e, turn_range _ lo (hi - lo).toNat, ?_, fp, q⟩
    show IsRangeIter _ _ (lo + ((0 : Nat) : Int) * 1) ((((hi - lo).toNat : Nat) : Int) - ((0 : Nat) : Int)) 1
    rw [e1, e2]
    exact Heap.get?_push_size _ rfl
  | false =>
    refine wpAny_pyIter_longrange (IsRange.new ..) hs ⟨_, [(s.heap.push { cls := .type "range", data := .fields #[.int lo t, .int hi u, .int 1 v] }).objs.size], _, _, H, rfl, I1.kept (t' := tk) fun b o e => Heap.get?_push_of_some _ e, turn_long _ lo (hi - lo).toNat, ?_, fp, q⟩
    show IsLongIter _ _ (lo + ((0 : Nat) : Int) * 1) ((((hi - lo).toNat : Nat) : Int) - ((0 : Nat) : Int)) 1
    rw [e1, e2]
    exact Heap.get?_push_size _ rfl
theorem pi_rangeL {a b : Expr} {ta : TA} {p pos : Pos} (hg : Gl X "range") (hm : X.mg "range" = none) (ha : PA X [a, b] ta) (hs : starEach [a, b] X.env = (false, eval a X.env) :: starEach [b] X.env := by rfl) (hs2 : starEach [b] X.env = [(false, eval b X.env)] := by rfl) :
    PI X tg (.Call (.Name "range" p) [a, b] [] pos) (iRngL ta) := by
  refine ⟨fun pins s σ H R I h => Call_ (ld_blt I hg hm boot_range (PyProof.Rows.callWith_type1 (thn (ha.run pos pins s σ H _ I h) fun us s1 ⟨vs, H1, I1, r1, q1⟩ => ?_) (by rw [hs, hs2]) (by rw [hs2]; rfl)))⟩
  obtain ⟨x, y, rfl, q2⟩ := on2_ex q1
  obtain ⟨i, rfl, q3⟩ := onInt_ex q2
  obtain ⟨j, rfl, q⟩ := onInt_ex q3
  obtain ⟨u, v, rfl, ⟨t, rfl⟩, ⟨t', rfl⟩⟩ := vals2 r1
  exact call_range_2 (rangeL_it I1 q)
end

/-- a comprehension over a list: what holds between the turns -/
theorem lc_listI {K : PySem.W.Frag} {a : Addr} {xs : List V} {g : TG} {te : TE} {vs : List Nat} {σ : L2.St} {H1 : Hp} {D : Addr} {Qd : Hp → Prop} (hz : xs.length ≤ 1000000) (J : Nat → List V → Hp → Prop) (h0 : J 0 [] (upd H1 D (.lst [])))
    (hl : ∀ i acc H, i ≤ xs.length → H D = some (.lst acc) → J i acc H → SqL K H a xs)
    (hs : ∀ (i : Nat) (x : V) (acc : List V) (H : Hp), xs[i]? = some x → acc.length = i → H D = some (.lst acc) → J i acc H → ∀ R : VK, (∀ y H4, H4 D = some (.lst acc) → J (i + 1) (acc ++ [y]) (upd H4 D (.lst (acc ++ [y]))) → R y H4) →
      g x (wipe σ vs) H fun σ2 H2 => wipe σ2 vs = wipe σ vs ∧ te σ2 H2 R)
    (hd : ∀ acc H, acc.length = xs.length → H D = some (.lst acc) → J xs.length acc H → Qd H) :
    ∃ W : Nat → Nat → Hp → Prop, (∃ m, W 0 m (upd H1 D (.lst []))) ∧ ∀ i m H, W i m H →
      ((Itl K a).stop i H ∧ Qd H) ∨ ((Itl K a).go i H ∧ ∃ Nx : Hp → Prop, (∀ H', Nx H' → ∃ m', m' < m ∧ W (i + 1) m' H') ∧ ∀ x H', (Itl K a).yld i H x H' → g x (wipe σ vs) H' fun σ2 H2 => wipe σ2 vs = wipe σ vs ∧ tYes σ2 H2 fun b H3 =>
        if b = true then te σ2 H3 fun y H4 => ∃ acc, H4 D = some (.lst acc) ∧ acc.length < sizeLine ∧ Nx (upd H4 D (.lst (acc ++ [y]))) else Nx H3) := by
  refine lc_list (xs := xs) (fun i H => ∃ acc, acc.length = i ∧ H D = some (.lst acc) ∧ J i acc H) ⟨[], rfl, upd_same, h0⟩ (fun i H hi h => ?_) (fun i x H hx h => ?_) (fun H h => ?_)
  · obtain ⟨acc, _, hD, hJ⟩ := h
    exact hl i acc H hi hD hJ
  · obtain ⟨acc, hac, hD, hJ⟩ := h
    have hi := (List.getElem?_eq_some_iff.mp hx).1
    exact hs i x acc H hx hac hD hJ (fun y H4 => ∃ acc, H4 D = some (.lst acc) ∧ acc.length < sizeLine ∧ ∃ ac2, ac2.length = i + 1 ∧ (upd H4 D (.lst (acc ++ [y]))) D = some (.lst ac2) ∧ J (i + 1) ac2 (upd H4 D (.lst (acc ++ [y])))) (fun y H4 e j => ⟨acc, e, by rw [hac, sizeLine_eq]; omega, acc ++ [y], by simp [hac], upd_same, j⟩)
  · obtain ⟨acc, hac, hD, hJ⟩ := h
    exact hd acc H hac hD hJ
/-- the elements are f of the items, nothing else changes -/
theorem lc_listF {K : PySem.W.Frag} {a : Addr} {xs : List V} {g : TG} {te : TE} {vs : List Nat} {σ : L2.St} {H1 : Hp} {D : Addr} {Qd : Hp → Prop} (f : V → V) (hn : H1 D = none) (hz : xs.length ≤ 1000000) (hS : SqL K H1 a xs)
    (hs : ∀ (i : Nat) (x : V) (H : Hp), xs[i]? = some x → Same H1 H → ∀ R : VK, (∀ H4, Same H H4 → R (f x) H4) → g x (wipe σ vs) H fun σ2 H2 => wipe σ2 vs = wipe σ vs ∧ te σ2 H2 R)
    (hd : ∀ H, Same H1 H → H D = some (.lst (xs.map f)) → Qd H) :
    ∃ W : Nat → Nat → Hp → Prop, (∃ m, W 0 m (upd H1 D (.lst []))) ∧ ∀ i m H, W i m H →
      ((Itl K a).stop i H ∧ Qd H) ∨ ((Itl K a).go i H ∧ ∃ Nx : Hp → Prop, (∀ H', Nx H' → ∃ m', m' < m ∧ W (i + 1) m' H') ∧ ∀ x H', (Itl K a).yld i H x H' → g x (wipe σ vs) H' fun σ2 H2 => wipe σ2 vs = wipe σ vs ∧ tYes σ2 H2 fun b H3 =>
        if b = true then te σ2 H3 fun y H4 => ∃ acc, H4 D = some (.lst acc) ∧ acc.length < sizeLine ∧ Nx (upd H4 D (.lst (acc ++ [y]))) else Nx H3) := by
  refine lc_listI (xs := xs) hz (fun i acc H => acc = (xs.take i).map f ∧ Same H1 H) ⟨rfl, Same.upd hn⟩ (fun i acc H _ _ hJ => hJ.2.seq hS) (fun i x acc H hx hl hD hJ R hR => ?_) (fun acc H hl hD hJ => ?_)
  · refine hs i x H hx hJ.2 R fun H4 e => hR (f x) H4 (e _ _ hD) ⟨?_, fun b o h => ?_⟩
    · have hi := (List.getElem?_eq_some_iff.mp hx).1
      rw [List.take_add_one, hx, List.map_append, ← hJ.1]
      rfl
    · rw [upd_ne (ne_of_none h hn)]
      exact e _ _ (hJ.2 _ _ h)
  · exact hd H hJ.2 (by rw [hD, hJ.1, List.take_length])

/-- keywords where there are no defaults -/
theorem FunD.kbinds0 {K : PySem.W.Frag} {x qual : Str} {params : Arguments} {body : List Stmt} {scope : Scope} {kws : List (Str × V)} {f : Addr} {fd : FuncData} {ps : List Str} (F : FunD K x qual params body scope [] kws f fd) (n : Nat) (ks : List Str) (g : {α : Type} → List α → List α → List α)
    (hrel : ∀ {vs zs : List V} {us ws : List Value}, Vals vs us → Vals zs ws → Vals (g vs zs) (g us ws))
    (h : ∀ (kV doc pm : Value) (an : Option Addr) (cdv ct : Value) (us ws : List Value), us.length = n → ws.length = ks.length → bindArgs (PySem.W.fnOf x qual params body scope .none kV doc pm an cdv ct) ⟨us, ks.zip ws⟩ = pure (ps.zip (g us ws))) :
    KBn K fd ps n ks (fun us ws => g us ws) (fun vs zs => g vs zs) := by
  obtain ⟨oc, od, dV, kV, doc, pm, an, cdv, ct, osl, rfl, lk, hcd, hD, hK⟩ := F.ex
  rcases hD with ⟨_, rfl⟩ | ⟨e, _⟩
  · exact ⟨fun s us ws X l1 l2 => .of_eq (h kV doc pm an cdv ct us ws l1 l2), fun r1 r2 => hrel r1 r2⟩
  · exact absurd rfl e
end Sp
namespace Sp
open PySem PySem.Spec PyProof.Rows L2

/-! ### a def that can be called from below a running body -/
def CallK (X : Cx) (k : Nat) (f : Addr) (sp : L2.Sp) (E : XK) : Prop :=
  ∀ (A : Around) (pins : List (Addr × Obj)) (s : Shared) (σ : L2.St) (H : Hp) (us : List Value) (vs : List V) (Q : VK), Room k A → A.frames = X.A.frames → A.guards = X.A.guards → L2.Inv X pins σ H s → Vals vs us → sp vs H Q E →
    codeAny (model X.prog X.w) A (.call (.ref f) ⟨us, []⟩) (fun r s' => match r with
      | .ok (.ret v) => EP X pins σ Q v s'
      | .ok _ => False
      | .error e => X.xe e s') s
section
variable {X : Cx} {CX : CXT} {k : Nat} {f C : Addr} {fd : FuncData} {ps : List Str} {sp : L2.Sp} {dvs : List V} {ds : List Value} {E : XK} {x m : Str} {p pos apos : Pos} {e o : Expr} {es : List Expr} {ta tf : TE} {t : TA}
theorem env0_at {A : Around} {pins : List (Addr × Obj)} {σ : L2.St} {H : Hp} {s : Shared} (hf : A.frames = X.A.frames) (I : L2.Inv X pins σ H s) : Env0 X.prog X.w X.K X.mg X.base A X.stack s H := by
  have e := I.env0
  exact ⟨by rw [hf]; exact e.frames, e.mod, e.bs, e.bsz, e.funs, e.frf, e.hok, e.bare⟩
theorem ckOk (F : FnOk X.prog X.w X.K X.mg X.base CX k f fd ps sp) (hb : Binds X.K fd ps ds) (hd : Vals dvs ds) (hx : Passes CX X E) : CallK X k f (fun vs => sp (vs ++ dvs)) E := by
  intro A pins s σ H us vs Q hr hf hg I r h
  have r2 : Vals (vs ++ dvs) (us ++ ds) := r.append hd
  refine codeAny_mono (F.run A X.stack s H ⟨us, []⟩ (us ++ ds) (vs ++ dvs) Q E hr (env0_at hf I) (hb s us I.kIn (by rw [← r2.length]; exact F.len _ _ _ _ h)) r2 h) fun res s' hq => ?_
  match res, hq with
  | .error e, hq => exact hx pins σ H s e s' I hq
  | .ok (.ret u), hq => exact I.after hq
  | .ok .next, hq => exact hq.elim
  | .ok .brk, hq => exact hq.elim
  | .ok .cont, hq => exact hq.elim
theorem ckG (hgd : X.A.guards = some []) (F : FnG X.prog X.w X.K X.mg X.base CX k f fd ps sp) (hb : Binds X.K fd ps ds) (hd : Vals dvs ds) (hx : Passes CX X E) : CallK X k f (fun vs => sp (vs ++ dvs)) E := by
  intro A pins s σ H us vs Q hr hf hg I r h
  have r2 : Vals (vs ++ dvs) (us ++ ds) := r.append hd
  refine codeAny_mono (F.run A X.stack s H ⟨us, []⟩ (us ++ ds) (vs ++ dvs) Q E (hg.trans hgd) hr (env0_at hf I) (hb s us I.kIn (by rw [← r2.length]; exact F.len _ _ _ _ h)) r2 h) fun res s' hq => ?_
  match res, hq with
  | .error e, hq => exact hx pins σ H s e s' I hq
  | .ok (.ret u), hq => exact I.after hq
  | .ok .next, hq => exact hq.elim
  | .ok .brk, hq => exact hq.elim
  | .ok .cont, hq => exact hq.elim
theorem CallK.run {A : Around} {pins : List (Addr × Obj)} {σ : L2.St} {H : Hp} {s : Shared} {Q : VK} {us : List Value} {vs : List V} (c : CallK X k f sp E) (hr : Room k A) (hf : A.frames = X.A.frames) (hg : A.guards = X.A.guards) (I : L2.Inv X pins σ H s) (r : Vals vs us) (h : sp vs H Q E) :
    wpAny (model X.prog X.w) A (call (.ref f) us) (EP X pins σ Q) X.xe s := by
  refine wpAny_call (codeAny_mono (c A pins s σ H us vs Q hr hf hg I r h) fun res s' hq => ?_)
  match res, hq with
  | .error e, hq => exact hq
  | .ok (.ret u), hq => exact hq
  | .ok .next, hq => exact hq.elim
  | .ok .brk, hq => exact hq.elim
  | .ok .cont, hq => exact hq.elim

/-- o is an instance of C -/
def InsV (C : Addr) (H : Hp) (a : Addr) : Prop := ∃ dx fs, H a = some (.ins C dx fs)

/-! ### e.f, a property -/
def tPropV (C : Addr) (sp : L2.Sp) (E : XK) (ta : TE) : TE := fun σ H Q => ta σ H fun x H1 => onRef x fun a => InsV C H1 a ∧ sp [.ref a] H1 Q E
theorem e_prop {g pa : Addr} (he : PE X e ta) (c : Cls X.K C) (hp : PropOf X.K C m pa g) (F : CallK X.nox k g sp E) (hr : Room (k + 1) X.A)
    (hab : attributeBase e m X.env (eval e X.env) = eval e X.env := by rfl) : PE X (.Attribute e m pos) (tPropV C sp E ta) := by
  refine ⟨fun pins s σ H Q I h => ?_⟩
  refine attr_of hab (thn (he.run pins s σ H _ I h) fun u s1 ⟨x, H1, I1, rx, q⟩ => ?_)
  obtain ⟨a, rfl, ⟨dx, fs, ea⟩, q⟩ := onRef_ex q
  obtain rfl : u = Value.ref a := rx
  obtain ⟨mA, O, _, _, _, _⟩ := ins_get I1.hok ea
  obtain ⟨od, J, _⟩ := O.look
  obtain ⟨rest, hrec⟩ := hp.rec_
  have I2 := I1.tok (s1.toks + 1)
  have hc : (PySem.W.clsIn X.K C).isSome = true := by
    obtain ⟨cd, hc, _⟩ := PySem.W.any_some c.hd
    rw [hc]
    rfl
  refine PySem.W.get_bind I1.kIn J (PySem.W.plainGet_of (c.get m)).1 (PySem.W.findObj_data hc hp.at_ hp.get hp.tak) (PySem.W.plainGet_of (c.get m)).2 (wpAny_call (PySem.W.prop_get (s := { s1 with toks := s1.toks + 1 }) I1.kIn hrec ?_))
  refine codeAny_mono (F X.A.in1 pins { s1 with toks := s1.toks + 1 } σ H1 [.ref a] [.ref a] Q hr.in1 rfl rfl (I2.wish _) (.cons rfl .nil) q) fun r s' hq => ?_
  match r, hq with
  | .error e, hq => exact False.elim hq
  | .ok (.ret u), hq =>
    obtain ⟨v, H', I3, rv, q3⟩ := hq
    show wpAny _ _ (handedOut u) _ _ _
    rw [PySem.W.handedOut_of (handed_of rv)]
    exact wpAny_pure ⟨v, H', I3.unwish, rv, q3⟩
  | .ok .next, hq => exact hq.elim
  | .ok .brk, hq => exact hq.elim
  | .ok .cont, hq => exact hq.elim

/-! ### o(e, ..), o an instance -/
def tCallV (C : Addr) (sp : L2.Sp) (E : XK) (tf : TE) (t : TA) : TE := fun σ H Q => tf σ H fun y H1 => onRef y fun a => t σ H1 fun vs H2 => InsV C H2 a ∧ sp (.ref a :: vs) H2 Q E
theorem e_callI {g : Addr} {fe : Expr} (hf : PE X fe tf) (c : Meth X.K C "__call__" g) (hfi : PySem.W.fnIn X.K g = true) (F : CallK X k g sp E) (hr : Room k X.A) (ha : PA X (e :: es) t)
    (ht : eval (.Call fe (e :: es) [] pos) X.env = (do callWith pos (← eval fe X.env) [] (backTo pos (starEach (e :: es) X.env)) (backToKw pos (keywordEach [] X.env))) := by rfl)
    (he : starEach (e :: es) X.env = (false, eval e X.env) :: starEach es X.env := by rfl) (hpl : (backTo pos (starEach es X.env)).any (·.1) = false := by rfl) : PE X (.Call fe (e :: es) [] pos) (tCallV C sp E tf t) := by
  refine ⟨fun pins s σ H Q I h => ?_⟩
  refine Call_ (thn (hf.run pins s σ H _ I h) fun u s1 ⟨y, H1, I1, ry, q⟩ => ?_) ht
  obtain ⟨a, rfl, q⟩ := onRef_ex q
  obtain rfl : u = Value.ref a := ry
  refine StX.callO_with (thn (ha.run pos pins s1 σ H1 _ I1 q) fun us s2 ⟨vs, H2, I2, r, ⟨dx, fs, hi⟩, q2⟩ => ?_) he hpl
  obtain ⟨mA, O, _⟩ := ins_get I2.hok hi
  obtain ⟨od, J, _⟩ := O.look
  refine ⟨⟨C, _, _, J, rfl⟩, wpAny_call (PySem.W.kco_code I2.kIn J rfl c.at_ c.fn hfi (codeAny_mono (F X.A pins s2 σ H2 (.ref a :: us) (.ref a :: vs) Q hr rfl rfl I2 (.cons rfl r) q2) fun res s' hq => ?_))⟩
  match res, hq with
  | .error e, hq => exact hq
  | .ok (.ret u), hq => exact hq
  | .ok .next, hq => exact hq.elim
  | .ok .brk, hq => exact hq.elim
  | .ok .cont, hq => exact hq.elim
theorem fnIn_of {K : PySem.W.Frag} {x qual : Str} {params : Arguments} {body : List Stmt} {scope : Scope} {dvs : List V} {kws : List (Str × V)} {f : Addr} {fd : FuncData} (F : FunD K x qual params body scope dvs kws f fd) : PySem.W.fnIn K f = true := by
  obtain ⟨oc, od, dV, kV, doc, pm, an, cdv, ct, osl, rfl, lk, _⟩ := F.ex
  unfold PySem.W.fnIn
  rw [lk]

/-! ### == and != by an own __eq__ -/
def onBl (v : V) (k : Bool → Prop) : Prop := match v with
  | .bl b => k b
  | _ => False
theorem onBl_ex {v : V} {k : Bool → Prop} (h : onBl v k) : ∃ b, v = .bl b ∧ k b := by
  cases v with
  | bl b => exact ⟨b, rfl, h⟩
  | _ => exact h.elim
def fOwnEq (K : PySem.W.Frag) (C : Addr) (sp : L2.Sp) (E : XK) : R2 := fun x y H Q => onRef x fun a => InsV C H a ∧ (∃ t, TyX K H y t ∧ PySem.W.notFirst K C t = true) ∧ sp [x, y] H (fun v H' => onBl v fun b => Q (.bl b) H') E
def fOwnNe (K : PySem.W.Frag) (C : Addr) (sp : L2.Sp) (E : XK) : R2 := fun x y H Q => onRef x fun a => InsV C H a ∧ (∃ t, TyX K H y t ∧ PySem.W.notFirst K C t = true) ∧ sp [x, y] H (fun v H' => onBl v fun b => Q (.bl (!b)) H') E
theorem o_ownEq {g : Addr} (c : Meth X.K C "__eq__" g) (F : CallK X k g sp E) (hr : Room k X.A) : OpR X (compareOp .Eq) (fOwnEq X.K C sp E) := by
  intro pins s σ H x y v u Q I rx ry hq
  obtain ⟨a, rfl, ⟨dx, fs, ea⟩, ⟨t, ty, hn⟩, h⟩ := onRef_ex hq
  cases (show v = Value.ref a from rx)
  obtain ⟨mA, O, _⟩ := ins_get I.hok ea
  obtain ⟨od, J, _⟩ := O.look
  obtain ⟨m, hF⟩ := I.fr
  obtain ⟨P, kx, hP, _⟩ := kit_of I ry ty
  show wpAny (model X.prog X.w) X.A (richCompare .Eq (.ref a) u) (EP X pins σ Q) X.xe s
  refine PySem.W.cmp_K (op := .Eq) (tb := t) hr.units0 hF I.ok.mod.kin J (kx.ty _ _ I.kIn hP) hn c.at_ c.fn ?_
  refine wpAny_mono (F.run hr rfl rfl I (.cons (show RelV (.ref a) (Value.ref a) from rfl) (.cons ry .nil)) h) (fun r s' hs => ?_) fun _ _ x => x
  obtain ⟨z, H', I', rz, hz⟩ := hs
  obtain ⟨b, rfl, q⟩ := onBl_ex hz
  cases rz
  exact ⟨.bl b, H', I', rfl, q⟩

/-- what isinstance, != ask of a class -/
structure InsF (K : PySem.W.Frag) (C : Addr) : Prop where
  ca : PySem.W.findIn K (.ref C) "__class__" = some (some (.builtin "object.__class__"))
  cg : PySem.W.specialIn K (.builtin "object.__class__") "__get__" = some (some (.builtin "getset_descriptor.__get__"))
  ct : PySem.W.takesIn K (.builtin "object.__class__") = some true
  ob : PySem.W.mroIn K C (.type "object") = some true
theorem bind_ne (self : Value) : bindSpecial (.builtin "object.__ne__") self = pure (.builtin "object.__ne__", [self]) :=
  (Slot.of (T := "object") (name := "__ne__") (owner := "object") (n := "__ne__") (by rw [typeLookup_type, builtinLookup_eq_fast]; kernel_rfl) (by decide +kernel) (by decide +kernel) (by decide +kernel)
    (.inl (by decide +kernel)) (by rw [isSubtype_type]; kernel_rfl)).bind self
theorem plain_ne : plainId "object.__ne__" = true := by decide +kernel
theorem ifBound_ne {M : Model} {A : Around} {E : Value → Shared → Prop} {s : Shared} {K : PySem.W.Frag} {x C : Addr} {ox : Obj} {od : Option Obj} {args : List Value} {Q : Option Value → Shared → Prop} (X : K.In s.heap) (I : PySem.W.InstAt s.heap x ox C od)
    (hs : PySem.W.findIn K (.ref C) "__ne__" = some (some (.builtin "object.__ne__")))
    (h : wpAny M A (call (.builtin "object.__ne__") (.ref x :: args)) (fun v => Q (some v)) E s) : wpAny M A (callSpecialIfBound? (.ref x) "__ne__" args) Q E s := by
  simp only [callSpecialIfBound?, bindSpecialIfBound?]
  refine wpAny_holding (wpAny_bind (wpAny_bind (wpAny_bind (I.type.here ((PySem.W.looks_findIn X hs).here ?_)))))
  simp only [bind_ne]
  refine wpAny_bind (wpAny_askSetting (wpAny_ite ?_))
  have fin : wpAny M A (call (.builtin "object.__ne__") ([.ref x] ++ args) >>= fun v => pure (some v)) Q E s := wpAny_bind (wpAny_mono h (fun v s' h' => wpAny_pure h') fun _ _ h' => h')
  split
  · exact wpAny_bind (wpAny_pure (wpAny_pure fin))
  · exact wpAny_tryCatch (wpAny_bind (wpAny_pure (wpAny_pure fin)))
theorem objNe_K {prog : Program} {w : World} {A : Around} {E : Value → Shared → Prop} {s : Shared} {K : PySem.W.Frag} {x C g : Addr} {b : Value} {ox : Obj} {od : Option Obj} {Q : Fin → Shared → Prop} (X : K.In s.heap) (I : PySem.W.InstAt s.heap x ox C od) (hu : A.units < cLine)
    (hs : PySem.W.findIn K (.ref C) "__eq__" = some (some (.ref g))) (hf : PySem.W.isFn K (.ref g) = true)
    (hcall : wpAny (model prog w) A (call (.ref g) [.ref x, b]) (fun v s' => ∃ b, v = .bool b ∧ Q (.done (.ret (.bool (!b)))) s') E s) :
    wpAny (model prog w) A (Builtin.«object.__ne__» ⟨[.ref x, b], []⟩) Q E s := by
  obtain ⟨h, gs, d, t, os⟩ := s
  unfold Builtin.«object.__ne__»
  repeat (first
    | with_reducible refine wpAny_cRoomFor hu ?_
    | (refine wpAny_bind (m := callSpecialIfBound? (.ref x) (Str.ofString "__eq__") [b])
        (PySem.W.ifBound_K X I hs hf (wpAny_mono hcall (fun r s' hr => by
          obtain ⟨b, rfl, hq⟩ := hr
          repeat (first | exact hq | exact wpAny_pure hq | exact wpAny_truthy_bool hq | (refine wpAny_bind (m := truthy (.bool _)) (wpAny_truthy_bool ?_)) | wp_step)) fun _ _ e => e)))
    | wp_step)
theorem o_ownNe {g : Addr} (c : Meth X.K C "__eq__" g) (hne : PySem.W.findIn X.K (.ref C) "__ne__" = some (some (.builtin "object.__ne__"))) (hI : InsF X.K C) (F : CallK X k g sp E) (hr : Room (k + 1) X.A) : OpR X (compareOp .NotEq) (fOwnNe X.K C sp E) := by
  intro pins s σ H x y v u Q I rx ry hq
  obtain ⟨a, rfl, ⟨dx, fs, ea⟩, ⟨t, ty, hn⟩, h⟩ := onRef_ex hq
  cases (show v = Value.ref a from rx)
  obtain ⟨mA, O, _⟩ := ins_get I.hok ea
  obtain ⟨od, J, _⟩ := O.look
  obtain ⟨m, hF⟩ := I.fr
  obtain ⟨P, kx, hP, _⟩ := kit_of I ry ty
  have key : wpAny (model X.prog X.w) X.A.in1 (call (.ref g) [.ref a, u]) (fun v s' => ∃ b, v = .bool b ∧ EP X pins σ Q (.bool (!b)) s') X.xe s := by
    refine wpAny_mono (F.run hr.in1 rfl rfl I (.cons (show RelV (.ref a) (Value.ref a) from rfl) (.cons ry .nil)) h) (fun r s' hs => ?_) fun _ _ x => x
    obtain ⟨z, H', I', rz, hz⟩ := hs
    obtain ⟨b, rfl, q⟩ := onBl_ex hz
    cases rz
    exact ⟨b, rfl, .bl (!b), H', I', rfl, q⟩
  have hi : PySem.W.Looks (model X.prog X.w) s.heap (isInstance (.ref a) (.type "object")) true := by
    unfold isInstance
    exact J.type.andThen (PySem.W.looks_subIn (t := .ref C) I.kIn hI.ob)
  have one : wpAny (model X.prog X.w) X.A (tryCompare (.ref a) (cmpInfo .NotEq).2.1 u) (fun r s' => ∃ v, r = some v ∧ EP X pins σ Q v s') X.xe s := by
    rw [cmpInfo_NotEq]
    dsimp only
    unfold tryCompare
    refine wpAny_bind (ifBound_ne I.kIn J hne (wpAny_call (codeAny_call_builtin plain_ne PySem.F.cmpEntry_ne (PySem.W.check_slot PySem.F.cmpKind_ne PySem.F.cmpSplit_ne hi (PySem.F.cmpArgs_ne _ _) ?_))))
    refine objNe_K (A := X.A.in1) I.kIn J hr.in1.units0 c.at_ c.fn (wpAny_mono key (fun v s' hv => ?_) fun _ _ e => e)
    obtain ⟨b, rfl, hq⟩ := hv
    exact ⟨b, rfl, wpAny_pure ⟨_, rfl, hq⟩⟩
  show wpAny (model X.prog X.w) X.A (richCompare .NotEq (.ref a) u) (EP X pins σ Q) X.xe s
  unfold richCompare
  simp only [oneThing_ref]
  refine wpAny_holding (wpAny_bind (wpAny_cRoomFor hr.units0 ?_))
  refine wpAny_bind (J.type.here (wpAny_bind ((kx.ty _ _ I.kIn hP).here ?_)))
  split
  · rename_i q
    have e : PySem.W.subIn X.K t (.ref C) = some false := by
      rcases Bool.or_eq_true_iff.mp hn with e | e
      · rw [beq_iff_eq.mp e] at q; simp at q
      · exact beq_iff_eq.mp e
    refine wpAny_bind ((PySem.W.looks_subIn I.kIn e).here ?_)
    simp only [Bool.false_eq_true, if_false]
    refine wpAny_bind (wpAny_mono one (fun r s' z => ?_) fun _ _ e => e)
    obtain ⟨v, rfl, hq⟩ := z
    exact wpAny_pure hq
  · refine wpAny_bind (wpAny_pure ?_)
    simp only [Bool.false_eq_true, if_false]
    refine wpAny_bind (wpAny_mono one (fun r s' z => ?_) fun _ _ e => e)
    obtain ⟨v, rfl, hq⟩ := z
    exact wpAny_pure hq

/-! ### repr, str, bool of an instance -/
def fReprI (C : Addr) (sp : L2.Sp) (E : XK) : List V → Hp → VK → Prop := fun xs H Q => on1 xs fun x => onRef x fun a => InsV C H a ∧ sp [x] H (fun v H' => onStr v fun y => Q (.str y) H') E
theorem c_reprI {g : Addr} (c : Meth X.K C "__repr__" g) (F : CallK X k g sp E) (hr : Room (k + 1) X.A) : CallR X (.builtin "repr") (fReprI C sp E) := by
  intro pins s σ H xs us Q I r h
  obtain ⟨x, rfl, h⟩ := on1_ex h
  obtain ⟨a, rfl, ⟨dx, fs, ea⟩, h⟩ := onRef_ex h
  obtain ⟨u, rfl, rx⟩ := vals1 r
  cases (show u = Value.ref a from rx)
  obtain ⟨mA, O, _⟩ := ins_get I.hok ea
  obtain ⟨od, J, _⟩ := O.look
  obtain ⟨m, hF⟩ := I.fr
  refine PySem.W.repr_K hr.in1.units0 hF I.ok.mod.kin J c.at_ c.fn ?_
  refine wpAny_mono (F.run hr.in1 rfl rfl I (.cons (show RelV (.ref a) (Value.ref a) from rfl) .nil) h) (fun r s' hs => ?_) fun _ _ x => x
  obtain ⟨z, H', I', rz, hz⟩ := hs
  obtain ⟨y, rfl, q⟩ := onStr_ex hz
  obtain ⟨tk, rfl⟩ := rz
  exact ⟨.str y, H', I', ⟨tk, rfl⟩, q⟩
/-- str(o) by an own __str__ -/
theorem c_strO {g : Addr} (c : Meth X.K C "__str__" g) (F : CallK X k g sp E) (hr : Room (k + 2) X.A) : CallR X (.type "str") (fReprI C sp E) := by
  intro pins s σ H xs us Q I r h
  obtain ⟨x, rfl, h⟩ := on1_ex h
  obtain ⟨a, rfl, ⟨dx, fs, ea⟩, h⟩ := onRef_ex h
  obtain ⟨u, rfl, rx⟩ := vals1 r
  cases (show u = Value.ref a from rx)
  obtain ⟨mA, O, _⟩ := ins_get I.hok ea
  obtain ⟨od, J, _⟩ := O.look
  refine PySem.W.kso_call hr.in1.in1.units0 I.kIn J c.at_ c.fn ?_
  refine wpAny_mono (F.run hr.in1.in1 rfl rfl I (.cons (show RelV (.ref a) (Value.ref a) from rfl) .nil) h) (fun r s' hs => ?_) fun _ _ x => x
  obtain ⟨z, H', I', rz, hz⟩ := hs
  obtain ⟨y, rfl, q⟩ := onStr_ex hz
  obtain ⟨tk, rfl⟩ := rz
  exact ⟨.str y, H', I', ⟨tk, rfl⟩, q⟩
theorem truthy_I {M : Model} {A : Around} {E : Value → Shared → Prop} {s : Shared} {K : PySem.W.Frag} {x C : Addr} {ox : Obj} {od : Option Obj} {Q : Bool → Shared → Prop} (X : K.In s.heap) (I : PySem.W.InstAt s.heap x ox C od) (hs : NoAttr K C "__bool__") (hl : NoAttr K C "__len__")
    (h : Q true s) : wpAny M A (truthy (.ref x)) Q E s := by
  unfold truthy
  refine wpAny_bind (m := callSpecial? (.ref x) (Str.ofString "__bool__")) (wpAny_bind (wpAny_bind (I.type.here ((PySem.W.looks_findIn X hs).here (wpAny_pure ?_)))))
  refine wpAny_bind (wpAny_bind (I.type.here ((PySem.W.looks_findIn X hl).here ?_)))
  exact wpAny_pure h
theorem meets_bool_I (K : PySem.W.Frag) (x C : Addr) (hb : NoAttr K C "__bool__") (hl : NoAttr K C "__len__") :
    Meets (Builtin.«bool.__new__» ⟨[.type "bool", .ref x], []⟩) (fun _ R s => (K.In s.heap ∧ ∃ ox od, PySem.W.InstAt s.heap x ox C od) ∧ R (.ok (.ret (.bool true))) s) :=
  Meets.of_wp fun prog w A R s hs => by
    obtain ⟨⟨hK, ox, od, J⟩, hs⟩ := hs
    obtain ⟨hp, g, d, tk, os⟩ := s
    have f1 := PySem.F.conv_sub_bool
    repeat (any_goals (first | assumption | (with_reducible refine truthy_I hK J hb hl ?_) | wp_step))
    all_goals first | exact ⟨_, rfl, hs⟩ | exact hs | skip
def fBoolI (C : Addr) : List V → Hp → VK → Prop := fun xs H Q => on1 xs fun x => onRef x fun a => InsV C H a ∧ Q (.bl true) H
theorem c_boolI (hb : NoAttr X.K C "__bool__") (hl : NoAttr X.K C "__len__") : CallR X (.type "bool") (fBoolI C) := by
  intro pins s σ H xs us Q I r h
  obtain ⟨x, rfl, h⟩ := on1_ex h
  obtain ⟨a, rfl, ⟨dx, fs, ea⟩, h⟩ := onRef_ex h
  obtain ⟨u, rfl, rx⟩ := vals1 r
  cases (show u = Value.ref a from rx)
  obtain ⟨mA, O, _⟩ := ins_get I.hok ea
  obtain ⟨od, J, _⟩ := O.look
  exact call_bool_1 (meets_bool_I X.K a C hb hl) ⟨⟨I.kIn, _, _, J⟩, rfl, .bl true, H, I, rfl, h⟩

/-! ### f-strings -/
/-- {x!r} of data -/
def tFmtD (K : PySem.W.Frag) (te : TE) : TE := fun σ H Q => te σ H fun x H1 => fRepr K [x] H1 Q
theorem e_fmtD {pos : Pos} (hg : X.A.guards = some []) (hu : X.A.units + 64 < cLine) (he : PE X e ta) : PE X (.FormattedValue e 114 none pos) (tFmtD X.K ta) := by
  refine ⟨fun pins s σ H Q I h => ?_⟩
  refine wpAny_FormattedValue_repr (thn (he.run pins s σ H _ I h) fun u s1 hv => ?_)
  obtain ⟨x, H1, I1, rx, _, ⟨d, hd, h1, h2, h3, h4, rfl⟩, q⟩ := hv
  obtain ⟨as, rd⟩ := Dp.reads I1 d x u hd rx
  obtain ⟨a, rfl⟩ := isRef_of_reads rd h1
  exact pyReprObj_of_reads rd h2 (PyData.noDict_hsm (dp_noDict _ _ hd)) hg (by omega) (fun _ _ e => e) (fun h' u tk hk => wpAny_formatField_str ⟨.str d.shown, H1, I1.kept hk, ⟨_, rfl⟩, q⟩ ⟨.str d.shown, H1, (I1.kept (t' := tk) hk).tok _, ⟨_, rfl⟩, q⟩ h4) h4
/-- {x} of an int, a text -/
def tFmtV (te : TE) : TE := fun σ H Q => te σ H fun x H1 => match x with
  | .int i => i.natAbs.log2 < 1920 ∧ Q (.str (toString i)) H1
  | .str y => y.length ≤ sizeLine ∧ Q (.str y) H1
  | _ => False
theorem e_fmtV {pos : Pos} (he : PE X e ta) : PE X (.FormattedValue e (-1) none pos) (tFmtV ta) := by
  refine ⟨fun pins s σ H Q I h => ?_⟩
  refine wpAny_FormattedValue_plain (thn (he.run pins s σ H _ I h) fun v s1 hv => ?_)
  obtain ⟨x, H1, I1, r1, q⟩ := hv
  cases x with
  | str y =>
    obtain ⟨t, rfl⟩ := r1
    obtain ⟨hz, q⟩ := q
    exact wpAny_formatField_str ⟨.str y, H1, I1, ⟨t, rfl⟩, q⟩ ⟨.str y, H1, I1.tok _, ⟨_, rfl⟩, q⟩ hz
  | int i =>
    obtain ⟨t, rfl⟩ := r1
    obtain ⟨hz, q⟩ := q
    exact wpAny_formatField_int hz ⟨.str (toString i), H1, I1.tok _, ⟨_, rfl⟩, q⟩
  | _ => exact q.elim
def tJsV : List TE → Str → L2.St → Hp → (Str → Hp → Prop) → Prop
  | [], acc, _, H, Q => Q acc H
  | t :: ts, acc, σ, H, Q => t σ H fun x H1 => onStr x fun y => (acc ++ y).length ≤ sizeLine ∧ tJsV ts (acc ++ y) σ H1 Q
theorem pjV_run {pins : List (Addr × Obj)} {σ : L2.St} {es : List Expr} {ts : List TE} (h : PJ X es ts) : ∀ (acc : Str) (s : Shared) (H : Hp) (Q : Str → Hp → Prop) (R : Str → Shared → Prop), acc.length ≤ sizeLine → L2.Inv X pins σ H s → tJsV ts acc σ H Q →
    (∀ out s1 H1, out.length ≤ sizeLine → L2.Inv X pins σ H1 s1 → Q out H1 → R out s1) → Joins (model X.prog X.w) X.A X.xe (evalEach es X.env) acc R s := by
  induction h with
  | nil =>
    intro acc s H Q R hz I q k
    have e0 : evalEach [] X.env = [] := by first | rfl | simp [evalEach]
    rw [e0]
    exact k acc s H hz I q
  | @cons e t es ts he r ih =>
    intro acc s H Q R hz I q k
    have e0 : evalEach (e :: es) X.env = eval e X.env :: evalEach es X.env := by first | rfl | simp [evalEach]
    rw [e0]
    refine thn (he.run pins s σ H _ I q) fun v s1 hv => ?_
    obtain ⟨x, H1, I1, r1, h1⟩ := hv
    obtain ⟨y, rfl, hy, q1⟩ := onStr_ex h1
    obtain ⟨tk, rfl⟩ := r1
    exact ⟨y, tk, rfl, hy, ih (acc ++ y) s1 H1 Q R hy I1 q1 k⟩
def tJn (ts : List TE) : TE := fun σ H Q => tJsV ts Str.empty σ H fun out H1 => Q (.str out) H1
/-- f'..' of two parts or more -/
theorem e_joined {v1 v2 : Expr} {rest : List Expr} {ts : List TE} {pos : Pos} (h : PJ X (v1 :: v2 :: rest) ts) : PE X (.JoinedStr (v1 :: v2 :: rest) pos) (tJn ts) := by
  refine ⟨fun pins s σ H Q I q => ?_⟩
  exact wpAny_JoinedStr (pjV_run h Str.empty s H (fun out H1 => Q (.str out) H1) _ (Nat.zero_le _) I q fun out s1 H1 hz I1 q1 => ⟨hz, .str out, H1, I1.tok _, ⟨_, rfl⟩, q1⟩)
end

/-! ### a Hook with defs at any place, and any facts -/
def fnAt (K : PySem.W.Frag) (f : Addr) : He.FnW := match K.lookup f with
  | some ⟨_, _, .func fd, _⟩ => some (fd.name, fd.qualname, fd.params, fd.body, fd.scope, fd.globals, fd.closure, fd.builtins)
  | _ => none
structure DefA where
  at_ : PySem.W.Frag → Addr
  name : Str
  qual : Str
  params : Arguments
  body : List Stmt
  scope : Scope
  dfl : List He.Dv := []
  kwd : List (Str × He.Dv) := []
def DefA.val (d : DefA) : He.FnW := some (d.name, d.qual, d.params, .stmts d.body, d.scope, mainGlobals, [], builtinsNs)
def DefA.dvs (K : PySem.W.Frag) (d : DefA) : List V := d.dfl.map (He.Dv.v K)
def DefA.kws (K : PySem.W.Frag) (d : DefA) : List (Str × V) := d.kwd.map fun q => (q.1, q.2.v K)
def DefA.ok (K : PySem.W.Frag) (d : DefA) : Bool := PySem.W.keepIn K (.ref (d.at_ K)) && (match K.lookup (d.at_ K) with
  | some ⟨_, _, .func fd, _⟩ => PySem.W.codeIn K fd.code d.qual && (He.dflB K fd.defaults (d.dvs K) && He.kwdB K fd.kwdefaults (d.kws K))
  | _ => false)
theorem DefA.funD {K : PySem.W.Frag} {d : DefA} (e : fnAt K (d.at_ K) = d.val) (c : d.ok K = true) : ∃ fd, FunD K d.name d.qual d.params d.body d.scope (d.dvs K) (d.kws K) (d.at_ K) fd := by
  obtain ⟨kp, c2⟩ := He.ba c
  unfold fnAt at e
  cases q : K.lookup (d.at_ K) with
  | none =>
    rw [q] at c2
    cases c2
  | some o =>
    obtain ⟨oc, od, dt, osl⟩ := o
    rw [q] at c2 e
    cases dt with
    | func fd =>
      obtain ⟨n1, n2, n3, n4, n5, n6, n7, n8, n9, n10, n11, n12, n13, n14, n15⟩ := fd
      have e2 : (some (n1, n2, n3, n4, n5, n6, n7, n15) : He.FnW) = some (d.name, d.qual, d.params, .stmts d.body, d.scope, mainGlobals, [], builtinsNs) := e
      simp only [Option.some.injEq, Prod.mk.injEq] at e2
      obtain ⟨h1, h2, h3, h4, h5, h6, h7, h8⟩ := e2
      subst h1 h2 h3 h4 h5 h6 h7 h8
      have c3 : (PySem.W.codeIn K n13 d.qual && (He.dflB K n8 (d.dvs K) && He.kwdB K n9 (d.kws K))) = true := c2
      obtain ⟨k1, k2⟩ := He.ba c3
      obtain ⟨k3, k4⟩ := He.ba k2
      exact ⟨_, ⟨oc, od, n8, n9, n10, n11, n12, n13, n14, osl, rfl, q, k1, He.dflB_ok k3, He.kwdB_ok k4⟩, kp⟩
    | _ => cases c2
abbrev AlA : Type := He.AlX × List He.FnW
def allB (da : List DefA) (exs : List (PySem.W.Frag → Bool)) (K : PySem.W.Frag) : Bool := (da.all fun d => d.ok K) && exs.all fun f => f K
def obsA (n : Nat) (fa : List He.Fa) (fn : List He.DefD) (da : List DefA) (exs : List (PySem.W.Frag → Bool)) (g : Addr → Option Obj) : AlA :=
  (He.obsX n fa fn [] [] (allB da exs) g, da.map fun d => fnAt (He.frT g (He.asD g n)) (d.at_ (He.frT g (He.asD g n))))
def valA (fn : List He.DefD) (da : List DefA) (w : World) : AlA := (He.valX fn [] w, da.map DefA.val)
structure SaysA (fa : List He.Fa) (fn : List He.DefD) (da : List DefA) (exs : List (PySem.W.Frag → Bool)) (K : PySem.W.Frag) : Prop where
  d : He.SaysD fa fn K
  ok : allB da exs K = true
  fn : (da.map fun d => fnAt K (d.at_ K)) = da.map DefA.val
theorem SaysA.def_ {fa : List He.Fa} {fn : List He.DefD} {da : List DefA} {exs : List (PySem.W.Frag → Bool)} {K : PySem.W.Frag} (c : SaysA fa fn da exs K) (i : Nat) {d : DefA} (h : da[i]? = some d := by rfl) : ∃ fd, FunD K d.name d.qual d.params d.body d.scope (d.dvs K) (d.kws K) (d.at_ K) fd := by
  have c2 := (He.ba c.ok).1
  have e2 : (da.map fun d => fnAt K (d.at_ K))[i]? = (da.map DefA.val)[i]? := by rw [c.fn]
  rw [List.getElem?_map, List.getElem?_map, h] at e2
  exact DefA.funD (Option.some.inj e2) (List.all_eq_true.mp c2 d (List.mem_of_getElem? h))
theorem SaysA.ex {fa : List He.Fa} {fn : List He.DefD} {da : List DefA} {exs : List (PySem.W.Frag → Bool)} {K : PySem.W.Frag} (c : SaysA fa fn da exs K) (i : Nat) {f : PySem.W.Frag → Bool} (h : exs[i]? = some f := by rfl) : f K = true :=
  List.all_eq_true.mp (He.ba c.ok).2 f (List.mem_of_getElem? h)
def hookA (n : Nat) (fa : List He.Fa) (fn : List He.DefD) (da : List DefA) (exs : List (PySem.W.Frag → Bool)) : PySem.W.Hook where
  α := AlA
  obs := fun s => obsA n fa fn da exs s.heap.get?
  val := fun w => valA fn da w
  says := fun w h => ∃ K : PySem.W.Frag, K.In h ∧ SaysA fa fn da exs K
  of := fun _ _ e => by
    have e1 := congrArg Prod.fst e
    have e2 := congrArg Prod.snd e
    have q := He.saysX_of e1
    exact ⟨_, He.frT_in, q.t.d, q.more, e2⟩
  keeps := fun _ _ _ ⟨K, hK, c⟩ k => ⟨K, PySem.W.Frag.In.keeps hK k, c⟩
theorem obsA_eq {n : Nat} {fa : List He.Fa} {fn : List He.DefD} {da : List DefA} {exs : List (PySem.W.Frag → Bool)} {g : Addr → Option Obj} {s : Shared} (h : ∀ a, g a = s.heap.get? a) : obsA n fa fn da exs g = (hookA n fa fn da exs).obs s := by
  have e : g = s.heap.get? := funext h
  rw [e] <;> rfl
/-! facts for it -/
def pA (C m : Str) (K : PySem.W.Frag) : Addr := He.ma K (He.ga K C) m
def recA (T : String) (C m : Str) (K : PySem.W.Frag) : Addr := match PySem.W.recIn K (pA C m K) T with
  | some (.ref g :: _) => g
  | _ => 0
def propB (C m : Str) (K : PySem.W.Frag) : Bool := He.eqO (PySem.W.findIn K (.ref (He.ga K C)) m) (some (some (.ref (pA C m K)))) && (He.eqO (PySem.W.specialIn K (.ref (pA C m K)) "__get__") (some (some (.builtin "property.__get__"))) &&
  (decide (PySem.W.takesIn K (.ref (pA C m K)) = some true) && (match PySem.W.recIn K (pA C m K) "property" with
    | some (.ref _ :: _) => true
    | _ => false)))
theorem propB_ok {C m : Str} {K : PySem.W.Frag} (h : propB C m K = true) : PropOf K (He.ga K C) m (pA C m K) (recA "property" C m K) := by
  obtain ⟨h1, h⟩ := He.ba h
  obtain ⟨h2, h⟩ := He.ba h
  obtain ⟨h3, h⟩ := He.ba h
  refine ⟨He.eqO_ok h1, He.eqO_ok h2, of_decide_eq_true h3, ?_⟩
  unfold recA
  cases e : PySem.W.recIn K (pA C m K) "property" with
  | none => rw [e] at h; cases h
  | some r =>
    rw [e] at h
    cases r with
    | nil => cases h
    | cons u rest =>
      cases u with
      | ref g => exact ⟨rest, rfl⟩
      | _ => cases h
def insB (C : Str) (K : PySem.W.Frag) : Bool := He.eqO (PySem.W.findIn K (.ref (He.ga K C)) "__class__") (some (some (.builtin "object.__class__"))) && (He.eqO (PySem.W.specialIn K (.builtin "object.__class__") "__get__") (some (some (.builtin "getset_descriptor.__get__"))) &&
  (decide (PySem.W.takesIn K (.builtin "object.__class__") = some true) && decide (PySem.W.mroIn K (He.ga K C) (.type "object") = some true)))
theorem insB_ok {C : Str} {K : PySem.W.Frag} (h : insB C K = true) : InsF K (He.ga K C) := by
  obtain ⟨h1, h⟩ := He.ba h
  obtain ⟨h2, h⟩ := He.ba h
  obtain ⟨h3, h4⟩ := He.ba h
  exact ⟨He.eqO_ok h1, He.eqO_ok h2, of_decide_eq_true h3, of_decide_eq_true h4⟩
def blB (C m : Str) (id : String) (K : PySem.W.Frag) : Bool := He.eqO (PySem.W.findIn K (.ref (He.ga K C)) m) (some (some (.builtin id)))
theorem blB_ok {C m : Str} {id : String} {K : PySem.W.Frag} (h : blB C m id K = true) : PySem.W.findIn K (.ref (He.ga K C)) m = some (some (.builtin id)) := He.eqO_ok h
def sfB (C : Str) (K : PySem.W.Frag) : Bool := PySem.W.selfFirst K (He.ga K C)
/-- the class of an instance by its name is another one than that -/
def unB (C D : Str) (K : PySem.W.Frag) : Bool := decide (PySem.W.subIn K (.ref (He.ga K C)) (.ref (He.ga K D)) = some false)
theorem InsF.ty {K : PySem.W.Frag} {C a dx : Addr} {fs : List (Str × V)} {H : Hp} (I : InsF K C) (c : Cls K C) (e : H a = some (.ins C dx fs)) : TyX K H (.ref a) (.ref C) := .base (.ins e c I.ca I.cg I.ct I.ob)
theorem nf_self {K : PySem.W.Frag} {C : Addr} : PySem.W.notFirst K C (.ref C) = true := by simp [PySem.W.notFirst]

/-! ### calls without defaults; isinstance of an own class -/
section
variable {X : Cx} {CX : CXT} {k : Nat} {f C : Addr} {fd : FuncData} {ps : List Str} {sp : L2.Sp} {E : XK}
theorem ck0 (F : FnOk X.prog X.w X.K X.mg X.base CX k f fd ps sp) (hb : Binds X.K fd ps []) (hx : Passes CX X E) : CallK X k f sp E := by
  have h := ckOk F hb .nil hx
  simp only [List.append_nil] at h
  exact h
theorem ckG0 (hgd : X.A.guards = some []) (F : FnG X.prog X.w X.K X.mg X.base CX k f fd ps sp) (hb : Binds X.K fd ps []) (hx : Passes CX X E) : CallK X k f sp E := by
  have h := ckG hgd F hb .nil hx
  simp only [List.append_nil] at h
  exact h
end
/-- is it of this own class -/
def ownB (C : Str) (K : PySem.W.Frag) : Bool := (["NoneType", "bool", "int", "str", "list", "tuple", "dict", "float", "set", "bytes"] : List String).all fun T => decide (PySem.W.kitOne K (.type T) (.ref (He.ga K C)) = some false) && PySem.W.notFirst K (He.ga K C) (.type T)
/-- a value of a built-in type -/
structure OwnF (K : PySem.W.Frag) (C : Addr) : Prop where
  isi : ∀ T ∈ (["NoneType", "bool", "int", "str", "list", "tuple", "dict", "float", "set", "bytes"] : List String), PySem.W.kitOne K (.type T) (.ref C) = some false
  nf : ∀ T ∈ (["NoneType", "bool", "int", "str", "list", "tuple", "dict", "float", "set", "bytes"] : List String), PySem.W.notFirst K C (.type T) = true
theorem ownB_ok {C : Str} {K : PySem.W.Frag} (h : ownB C K = true) : OwnF K (He.ga K C) :=
  ⟨fun T hT => of_decide_eq_true (He.ba (List.all_eq_true.mp h T hT)).1, fun T hT => (He.ba (List.all_eq_true.mp h T hT)).2⟩
theorem kit_self {K : PySem.W.Frag} {C : Addr} : PySem.W.kitOne K (.ref C) (.ref C) = some true := by simp [PySem.W.kitOne]
/-- two own classes -/
def isoB (C D : Str) (b : Bool) (K : PySem.W.Frag) : Bool := decide (PySem.W.kitOne K (.ref (He.ga K C)) (.ref (He.ga K D)) = some b)

/-! ### the end, where the law's def may show things -/
theorem lawG {P : Program} {w : World} {K : PySem.W.Frag} {mg mb : Str → Option Value} {CX : CXT} {k : Nat} {fa a : Addr} {fd : FuncData} {x : Str} {sp : L2.Sp} {s : Shared} {vs : List Value} {ns : List Int}
    (KX : K.In s.heap) (hns : s.heap.Ns mainGlobals mg) (hb : s.heap.Ns builtinsNs mb) (hbb : ∀ x : Str, x ≠ "__name__" → mb x = bootBuiltins x) (hlim : s.heap.NoLimit) (hg : s.gens = #[])
    (ha : s.heap.get? a = some { cls := .type "list", data := .seq vs.toArray }) (hi : IntsAre vs ns) (hl : ns.length ≤ sizeLine) (hr : Room k callerA)
    (F : ∀ base : Heap, FnG P w K mg base CX k fa fd [x] sp) (hbind : ∀ (s : Shared) (u : Value), BindsTo s fd ⟨[u], []⟩ [(x, u)])
    (hsp : ∀ H : Hp, SqL K H a (ns.map V.int) → sp [.ref a] H (fun v _ => v = .bl true) fun _ _ _ => False)
    (hCX : ∀ H e s', CX [] H s (fun _ _ _ => False) e s' → False) :
    codeAny (model P w) callerA (.call (.ref fa) ⟨[.ref a], []⟩) (fun r s' => r = .ok (.ret (.bool true)) ∧ OldK s.heap s'.heap ∧ s'.os = s.os ∧ AllBare s'.gens) s := by
  have rv := vals_ints hi
  have lenV := hi.length
  -- what is tracked is the script or nothing
  have go : ∀ H : Hp, SqL K H a (ns.map V.int) → HOk P w H s.heap → (∀ b u, H b = some u → b = a ∧ K.lookup a = none ∧ ∃ o xs, u = .frz o (.lst xs)) →
      codeAny (model P w) callerA (.call (.ref fa) ⟨[.ref a], []⟩) (fun r s' => r = .ok (.ret (.bool true)) ∧ OldK s.heap s'.heap ∧ s'.os = s.os ∧ AllBare s'.gens) s := by
    intro H hS hok hA
    have none_of : ∀ {b : Addr}, b ≠ a → H b = none := fun {b} hne => by
      cases q : H b with
      | none => rfl
      | some u => exact absurd (hA b u q).1 hne
    have ns_of : ∀ {b : Addr} {m : Str → Option Value}, s.heap.Ns b m → (hidT s.heap H).Ns b m := fun {b m} ⟨o, es, ep, e, d, r⟩ => by
      refine ⟨o, es, ep, hidT_get e (none_of fun z => ?_), d, r⟩
      rw [z, ha] at e
      cases e
      cases d
    have hK : K.In (hidT s.heap H) := fun b o e => by
      refine hidT_get (KX b o e) ?_
      cases q : H b with
      | none => rfl
      | some u =>
        obtain ⟨z, l, _⟩ := hA b u q
        rw [z, l] at e
        cases e
    obtain ⟨mc, l1, l2⟩ := hlim
    have e0 : Env0 P w K mg (hidT s.heap H) callerA [] s H := ⟨rfl, ⟨hK, ns_of hns, ⟨mb, ns_of hb, hbb⟩, ⟨mc, ns_of l1, l2⟩⟩, fun b o e => of_hidT e, Nat.le_of_eq (hidT_size _ _), trivial, fun b hb => absurd (show b ∈ ([] : List Addr) from hb) (by simp), hok, .of_eq hg⟩
    refine codeAny_mono ((F _).run callerA [] s H ⟨[.ref a], []⟩ [.ref a] [.ref a] _ _ rfl hr e0 (hbind s (.ref a)) (.cons rfl .nil) (hsp H hS)) fun r s' h => ?_
    match r, h with
    | .error e, h => exact (hCX H e s' h).elim
    | .ok .next, h => exact False.elim h
    | .ok .brk, h => exact False.elim h
    | .ok .cont, h => exact False.elim h
    | .ok (.ret u), h =>
      obtain ⟨v, H', os, bare, un, hok', r', q⟩ := h
      cases (show v = .bl true from q)
      obtain rfl : u = Value.bool true := r'
      refine ⟨rfl, OldK.of_keep fun b o e => ?_, os, bare⟩
      cases q : H b with
      | none => exact un.keep b o e q (by intro z; exact absurd (show b ∈ ([] : List Addr) from z) (by simp)) (by simp)
      | some u =>
        obtain ⟨_, _, ob, xs, rfl⟩ := hA b u q
        have e1 := (hok b _ q).1
        have e2 := (hok' b _ (un.frzs b ob _ q)).1
        rw [e] at e1
        cases e1
        exact e2
  cases hk : K.lookup a with
  | some o =>
    have e := KX a o hk
    rw [ha] at e
    cases e
    exact go (fun _ => none) (.inr ⟨_, vs.toArray, _, hk, rfl, rfl, rfl, by rw [List.size_toArray, lenV]; exact hl, by simpa using rv⟩) (fun b u z => by cases z) fun b u z => by cases z
  | none =>
    refine go (fun b => if b = a then some (.frz { cls := .type "list", data := .seq vs.toArray } (.lst (ns.map V.int))) else none) (.inl (.inr ⟨{ cls := .type "list", data := .seq vs.toArray }, if_pos rfl⟩)) (fun b u z => ?_) (fun b u z => ?_)
    · by_cases hb : b = a
      · cases (if_pos hb).symm.trans z
        rw [hb]
        exact ⟨ha, by rw [List.length_map]; exact hl, vs, _, rv, ha⟩
      · cases (if_neg hb).symm.trans z
    · by_cases hb : b = a
      · cases (if_pos hb).symm.trans z
        exact ⟨hb, hk, _, _, rfl⟩
      · cases (if_neg hb).symm.trans z
theorem walkG {l : PySem.W.OpenLaw} {n k : Nat} {q : Program} {loose : List Str} {XP : (Str → Option Value) → Heap → Prop} {YP : World → Heap → Prop} {d : DefRec} {x : Str}
    (hn : l.most = some n) (hn2 : n ≤ sizeLine) (hdf : d.params.defaults = []) (hr : Room k callerA)
    (F : ∀ (w : World) (mg : Str → Option Value) (fa : Addr) (h : Heap), YP w h → h.Ns mainGlobals mg → mg d.name = some (.ref fa) → ∃ K : PySem.W.Frag, K.In h ∧ ∃ fd sp, (∀ (s : Shared) (u : Value), BindsTo s fd ⟨[u], []⟩ [(x, u)]) ∧
      (∀ (H : Hp) (a : Addr) (ns : List Int), ns.length ≤ n → SqL K H a (ns.map V.int) → sp [.ref a] H (fun v _ => v = .bl true) fun _ _ _ => False) ∧ ∀ base : Heap, FnG l.prog w K mg base CX0 k fa fd [x] sp) :
    PySem.W.WalkO q loose XP YP l.row.toRowW d [] (fun f vs => PySem.call f vs) := by
  refine Att.attach_callB hn hdf fun w s₀ s₁ mg mb fa o pm cd doc a vs ns G Y ho hd hcd hmg hobj hints hlen hbits hg => ?_
  obtain ⟨K, KX, fd, sp, hb, hsp, hF⟩ := F w mg fa _ Y G.T.g hmg
  exact lawG KX G.T.g G.T.b G.T.builtins G.T.nolimit hg hobj hints (Nat.le_trans hlen hn2) hr hF hb (fun H hS => hsp H a ns hlen hS) fun _ _ _ z => z

/-! ### how long what is shown is -/
mutual
def cells : PyData → Nat
  | .none | .bool _ | .int _ => 1
  | .str x => 1 + (reprText x).length
  | .list xs | .tuple xs => 1 + cellsAll xs
  | .dict _ => 0
def cellsAll : List PyData → Nat
  | [] => 0
  | x :: xs => cells x + cellsAll xs
end
theorem shownAll_len (xs : List PyData) : (PyData.shownAll xs).length = xs.length := by
  induction xs with
  | nil => rfl
  | cons x r ih => simp [PyData.shownAll, ih]
mutual
theorem shownAll_le : ∀ (xs : List PyData), PyData.showableAll xs = true → PyData.hasDictAll xs = false → ((PyData.shownAll xs).map (·.length)).sum + 2 * xs.length ≤ 2000 * cellsAll xs
  | [], _, _ => by simp [PyData.shownAll, cellsAll]
  | x :: xs, h, hd => by
    simp only [PyData.showableAll, Bool.and_eq_true] at h
    simp only [PyData.hasDictAll, Bool.or_eq_false_iff] at hd
    have a := shown_le' x h.1 hd.1
    have b := shownAll_le xs h.2 hd.2
    simp only [PyData.shownAll, List.map_cons, List.sum_cons, cellsAll, List.length_cons]
    omega
theorem shown_le' : ∀ (d : PyData), d.showable = true → d.hasDict = false → d.shown.length + 2 ≤ 2000 * cells d
  | .none, _, _ => by show (4 : Nat) + 2 ≤ 2000 * 1; decide
  | .bool b, _, _ => by cases b <;> (show _ + 2 ≤ 2000 * 1; decide)
  | .int i, h, _ => by
    have e := int_text_length_le (a := i) (k := 1920) (by decide) (by simpa [PyData.showable] using h)
    simp only [PyData.shown, cells, PySem.ofString_length]
    omega
  | .str x, _, _ => by
    simp only [PyData.shown, cells]
    omega
  | .list xs, h, hd => by
    have e := shownAll_le xs (by simpa [PyData.showable] using h) (by simpa [PyData.hasDict] using hd)
    have e2 := listText_len_le (PyData.shownAll xs)
    rw [shownAll_len] at e2
    simp only [PyData.shown, cells]
    omega
  | .tuple xs, h, hd => by
    have e := shownAll_le xs (by simpa [PyData.showable] using h) (by simpa [PyData.hasDict] using hd)
    have e2 := tupleText_len_le (PyData.shownAll xs)
    rw [shownAll_len] at e2
    simp only [PyData.shown, cells]
    omega
  | .dict kvs, _, hd => by simp [PyData.hasDict] at hd
end
theorem shown_le (d : PyData) (h : d.showable = true) (hd : d.hasDict = false) : d.shown.length ≤ 2000 * cells d := by
  have := shown_le' d h hd
  omega
theorem log_of {i : Int} (h : i.natAbs ≤ 10 ^ 100) : i.natAbs.log2 < 1920 := by
  rcases Nat.eq_zero_or_pos i.natAbs with z | z
  · rw [z]
    decide
  · refine (Nat.log2_lt (by omega)).mpr (Nat.lt_of_le_of_lt h ?_)
    have e : (10 : Nat) ^ 100 < 2 ^ 400 := by decide +kernel
    exact Nat.lt_trans e (Nat.pow_lt_pow_right (by decide) (by decide))
theorem showInts : ∀ {ns : List Int}, (∀ z ∈ ns, z.natAbs ≤ 10 ^ 100) → PyData.showableAll (ns.map PyData.int) = true
  | [], _ => rfl
  | n :: ns, h => by
    rw [List.map_cons]
    simp only [PyData.showableAll, PyData.showable, Bool.and_eq_true]
    exact ⟨decide_eq_true (log_of (h n (List.mem_cons_self ..))), showInts fun z hz => h z (List.mem_cons_of_mem _ hz)⟩
theorem cellsInts : ∀ (ns : List Int), cellsAll (ns.map PyData.int) = ns.length
  | [] => rfl
  | n :: ns => by rw [List.map_cons]; simp only [cellsAll, cells, cellsInts ns, List.length_cons]; omega
theorem depthInts : ∀ (ns : List Int), PyData.depthAll (ns.map PyData.int) ≤ 1
  | [] => by simp [PyData.depthAll]
  | n :: ns => by have := depthInts ns; simp [PyData.depthAll, PyData.depth]; omega
theorem hdInts : ∀ (ns : List Int), PyData.hasDictAll (ns.map PyData.int) = false
  | [] => rfl
  | n :: ns => by have := hdInts ns; simp [PyData.hasDictAll, PyData.hasDict]; simpa using this
end Sp
namespace Sp
open PySem PySem.Spec PyProof.Rows L2

theorem intAdd_ref {prog : Program} {w : World} {A : Around} {E : Value → Shared → Prop} {s : Shared} {Q : Fin → Shared → Prop} {i : Int} {t : Tok} {x C dx : Addr} (hx : s.heap.get? x = some (PySem.W.instObj C dx)) (h : Q (.done (.ret .notImplemented)) s) :
    wpAny (model prog w) A (Builtin.«int.__add__» ⟨[.int i t, .ref x], []⟩) Q E s := by
  obtain ⟨hp, g, d, tk, os⟩ := s
  unfold Builtin.«int.__add__» Builtin.Int.intBinary
  repeat (first
    | exact h
    | (with_reducible refine wpAny_load hx ?_)
    | wp_step)
theorem intAdd_call {prog : Program} {w : World} {A : Around} {E : Value → Shared → Prop} {s : Shared} {P : Shared → Prop} {i : Int} {t : Tok} {x C dx : Addr} (hx : s.heap.get? x = some (PySem.W.instObj C dx)) (h : P s) :
    wpAny (model prog w) A (call (.builtin "int.__add__") [.int i t, .ref x]) (fun v s' => v = .notImplemented ∧ P s') E s :=
  wpAny_call (codeAny_call_builtin (id := "int.__add__") F.slot_int_add.plain F.entry_int_add (F.slot_int_add.check _ _ _ _ _ _ _ _ (typeIs_int s i t) (F.args_int_add_2 _ _) (intAdd_ref hx ⟨rfl, h⟩)))
theorem intAdd_try {prog : Program} {w : World} {A : Around} {E : Value → Shared → Prop} {s : Shared} {R : Option Value → Shared → Prop} {i : Int} {t : Tok} {x C dx : Addr} (hx : s.heap.get? x = some (PySem.W.instObj C dx)) (h : R none s) :
    wpAny (model prog w) A (tryMethod (.int i t) (PySem.dunder "add") (.ref x)) R E s :=
  wpAny_tryMethod_declines (self := .int i t) (name := PySem.dunder "add") (id := "int.__add__") (T := "int") (Q := R) (typeIs_int s i t) F.slot_int_add (intAdd_call (P := fun s' => R none s') hx h)
theorem relNI {v : V} {u : Value} (r : RelV v u) : u ≠ .notImplemented := by
  intro z
  cases v <;> subst z <;> first | (obtain ⟨_, r⟩ := r; cases r) | cases r
theorem backNI {Q : Value → Shared → Prop} {u : Value} {s' : Shared} (h : u ≠ .notImplemented) (q : Q u s') : PySem.W.CmpBack Q u s' := by
  cases u <;> first | exact absurd rfl h | exact q
section
variable {prog : Program} {w : World} {A : Around} {E : Value → Shared → Prop} {s : Shared} {K : PySem.W.Frag} {x C dx f g : Addr} {od : Option Obj}
theorem radd_K {i : Int} {t : Tok} {Q : Value → Shared → Prop} (X : K.In s.heap) (I : PySem.W.InstAt s.heap x (PySem.W.instObj C dx) C od) (hx : s.heap.get? x = some (PySem.W.instObj C dx)) (hc : PySem.W.selfFirst K C = true)
    (ha : PySem.W.findIn K (.ref C) "__add__" = some (some (.ref g))) (hs : PySem.W.findIn K (.ref C) "__radd__" = some (some (.ref f))) (hf : PySem.W.isFn K (.ref f) = true) (hsub : PySem.W.subIn K (.ref C) (.type "int") = some false)
    (h : wpAny (model prog w) A (call (.ref f) [.ref x, .int i t]) (PySem.W.CmpBack Q) E s) : wpAny (model prog w) A (binaryOp .Add (.int i t) (.ref x)) Q E s := by
  obtain ⟨cd, rest, hcd, hm⟩ := PySem.W.ksp_first hc
  have er : ("__radd__" : Str) = PySem.dunderR "add" := by decide +kernel
  rw [er] at hs
  have one := PySem.W.ksp_try X I hs hf h
  have L3 : PySem.W.Looks (model prog w) s.heap (fillsNumberSlot (.ref C) "add") true := PySem.W.fills_K X hcd hm ha
  have L5 : PySem.W.Looks (model prog w) s.heap (isSubtype (.ref C) (.type "int")) false := PySem.W.looks_subIn X hsub
  simp only [binaryOp, Operator.info]
  refine wpAny_holding (wpAny_bind ?_)
  unfold binaryOp1
  refine wpAny_bind (wpAny_typeOf (typeIs_int s i t) ?_)
  refine wpAny_bind (I.type.here ?_)
  refine wpAny_bind ?_
  refine wpAny_of_eq F.fills_int_add ?_
  have hne : (Value.type "int" == Value.ref C) = false := Bool.eq_false_iff.mpr fun q => by cases beq_iff_eq.mp q
  simp only [hne, Bool.false_eq_true, if_false]
  refine wpAny_bind (L3.here ?_)
  simp only [Bool.and_self, if_true]
  refine wpAny_bind (L5.here ?_)
  have hpy : numberSlotInPython (.type "int") "add" = pure false := rfl
  simp only [Bool.false_eq_true, if_false, pure_bind, Bool.not_false, Bool.and_self, if_true, hpy]
  refine wpAny_bind (m := tryMethod (.int i t) (PySem.dunder "add") (.ref x)) ?_
  refine intAdd_try hx ?_
  refine wpAny_bind (wpAny_mono one (fun r s' hr => ?_) fun _ _ e => e)
  obtain ⟨v, rfl, hq⟩ := hr
  exact wpAny_bind (wpAny_rule (wpAny_pure (wpAny_pure hq)))
end
/-- what + asks of a class -/
structure AddF (K : PySem.W.Frag) (C : Addr) : Prop where
  ia : (PySem.W.findIn K (.type "int") "__add__").isSome = true
  ir : (PySem.W.findIn K (.type "int") "__radd__").isSome = true
  s1 : PySem.W.subIn K (.type "int") (.ref C) = some false
  s2 : PySem.W.subIn K (.ref C) (.type "int") = some false
def addB (C : Str) (K : PySem.W.Frag) : Bool := (PySem.W.findIn K (.type "int") "__add__").isSome && ((PySem.W.findIn K (.type "int") "__radd__").isSome && (decide (PySem.W.subIn K (.type "int") (.ref (He.ga K C)) = some false) && decide (PySem.W.subIn K (.ref (He.ga K C)) (.type "int") = some false)))
theorem addB_ok {C : Str} {K : PySem.W.Frag} (h : addB C K = true) : AddF K (He.ga K C) := by
  obtain ⟨h1, h⟩ := He.ba h
  obtain ⟨h2, h⟩ := He.ba h
  obtain ⟨h3, h4⟩ := He.ba h
  exact ⟨h1, h2, of_decide_eq_true h3, of_decide_eq_true h4⟩
/-- o + p by own methods: p an instance of the same class, or an int; or o an int -/
def fOwnAdd (C : Addr) (sp spR : L2.Sp) (E : XK) : R2 := fun x y H Q => match x, y with
  | .ref a, .ref b => InsV C H a ∧ InsV C H b ∧ sp [x, y] H Q E
  | .ref a, .int _ => InsV C H a ∧ sp [x, y] H Q E
  | .int _, .ref b => InsV C H b ∧ spR [y, x] H Q E
  | _, _ => False
section
variable {X : Cx} {k : Nat} {C : Addr} {sp spR : L2.Sp} {E : XK}
theorem o_ownAdd {g g' : Addr} (c : Meth X.K C "__add__" g) (c' : Meth X.K C "__radd__" g') (hsf : PySem.W.selfFirst X.K C = true) (hA : AddF X.K C) (F : CallK X k g sp E) (F' : CallK X k g' spR E) (hr : Room k X.A) : OpR X (binaryOp .Add) (fOwnAdd C sp spR E) := by
  intro pins s σ H x y v u Q I rx ry hq
  have back : ∀ {M : Sem Value}, wpAny (model X.prog X.w) X.A M (EP X pins σ Q) X.xe s → wpAny (model X.prog X.w) X.A M (PySem.W.CmpBack (EP X pins σ Q)) X.xe s := fun h => by
    refine wpAny_mono h (fun r s' hs => ?_) fun _ _ e => e
    obtain ⟨z, H', I', rz, hz⟩ := id hs
    exact backNI (relNI rz) hs
  obtain ⟨m, hF⟩ := I.fr
  match x, y, rx, ry, hq with
  | .ref a, .ref b, rx, ry, hq =>
    obtain ⟨⟨dx, fs, ea⟩, ⟨dx', fs', eb⟩, h⟩ := hq
    cases (show v = Value.ref a from rx)
    cases (show u = Value.ref b from ry)
    obtain ⟨mA, O, _⟩ := ins_get I.hok ea
    obtain ⟨od, J, _⟩ := O.look
    obtain ⟨mB, O', _⟩ := ins_get I.hok eb
    obtain ⟨od', J', _⟩ := O'.look
    exact PySem.W.binop_K hF I.ok.mod.kin J J'.type hsf c.at_ c.fn (back (F.run hr rfl rfl I (.cons (show RelV (.ref a) (Value.ref a) from rfl) (.cons ry .nil)) h))
  | .ref a, .int i, rx, ry, hq =>
    obtain ⟨⟨dx, fs, ea⟩, h⟩ := hq
    cases (show v = Value.ref a from rx)
    obtain ⟨tk, rfl⟩ := id ry
    obtain ⟨mA, O, _⟩ := ins_get I.hok ea
    obtain ⟨od, J, _⟩ := O.look
    obtain ⟨fo, h1⟩ := Option.isSome_iff_exists.mp hA.ia
    obtain ⟨ro, h2⟩ := Option.isSome_iff_exists.mp hA.ir
    exact PySem.W.ksp_binT (T := "int") (op := .Add) hF I.ok.mod.kin J rfl hsf c.at_ c.fn c'.at_ (.inr ⟨_, rfl⟩) h1 h2 hA.s1 (back (F.run hr rfl rfl I (.cons (show RelV (.ref a) (Value.ref a) from rfl) (.cons ry .nil)) h))
  | .int i, .ref b, rx, ry, hq =>
    obtain ⟨⟨dx, fs, eb⟩, h⟩ := hq
    cases (show u = Value.ref b from ry)
    obtain ⟨tk, rfl⟩ := id rx
    obtain ⟨mA, O, _⟩ := ins_get I.hok eb
    obtain ⟨od, J, _⟩ := O.look
    exact radd_K I.kIn J O.1 hsf c.at_ c'.at_ c'.fn hA.s2 (back (F'.run hr rfl rfl I (.cons (show RelV (.ref b) (Value.ref b) from rfl) (.cons rx .nil)) h))
  | .non, _, _, _, hq => exact hq.elim
  | .bl _, _, _, _, hq => exact hq.elim
  | .str _, _, _, _, hq => exact hq.elim
  | .int _, .non, _, _, hq => exact hq.elim
end

/-- a comprehension over zip of two lists of one length: the elements are f of the items, nothing else changes -/
theorem lc_zipF {K : PySem.W.Frag} {a b : Addr} {xs ys : List V} {g : TG} {te : TE} {vs : List Nat} {σ : L2.St} {H1 : Hp} {D : Addr} {Qd : Hp → Prop} (f : V → V → V) (hn : H1 D = none) (hl : xs.length = ys.length) (hz : xs.length ≤ 1000000) (hA : SqL K H1 a xs) (hB : SqL K H1 b ys)
    (hs : ∀ (i : Nat) (x y : V) (T : Addr) (H : Hp), xs[i]? = some x → ys[i]? = some y → Same H1 H → H T = none → ∀ R : VK, (∀ H4, Same (upd H T (.tup [x, y])) H4 → R (f x y) H4) → g (.ref T) (wipe σ vs) (upd H T (.tup [x, y])) fun σ2 H2 => wipe σ2 vs = wipe σ vs ∧ te σ2 H2 R)
    (hd : ∀ H, Same H1 H → H D = some (.lst (List.zipWith f xs ys)) → Qd H) :
    ∃ W : Nat → Nat → Hp → Prop, (∃ m, W 0 m (upd H1 D (.lst []))) ∧ ∀ i m H, W i m H →
      ((Itz K a b).stop i H ∧ Qd H) ∨ ((Itz K a b).go i H ∧ ∃ Nx : Hp → Prop, (∀ H', Nx H' → ∃ m', m' < m ∧ W (i + 1) m' H') ∧ ∀ x H', (Itz K a b).yld i H x H' → g x (wipe σ vs) H' fun σ2 H2 => wipe σ2 vs = wipe σ vs ∧ tYes σ2 H2 fun b H3 =>
        if b = true then te σ2 H3 fun y H4 => ∃ acc, H4 D = some (.lst acc) ∧ acc.length < sizeLine ∧ Nx (upd H4 D (.lst (acc ++ [y]))) else Nx H3) := by
  have hzl : (List.zipWith f xs ys).length = xs.length := by rw [List.length_zipWith]; omega
  refine ⟨fun i m H => m = xs.length - i ∧ i ≤ xs.length ∧ Same H1 H ∧ H D = some (.lst ((List.zipWith f xs ys).take i)), ⟨xs.length, rfl, Nat.zero_le _, Same.upd hn, upd_same⟩, ?_⟩
  rintro i m H ⟨rfl, hi, e1, hD⟩
  have qx := e1.seq hA
  have qy := e1.seq hB
  by_cases hlt : i < xs.length
  · have hx : xs[i]? = some xs[i] := List.getElem?_eq_getElem hlt
    have hlt2 : i < ys.length := by omega
    have hy : ys[i]? = some ys[i] := List.getElem?_eq_getElem hlt2
    refine .inr ⟨⟨xs, ys, _, _, qx, qy, hx, hy⟩, fun H' => Same H1 H' ∧ H' D = some (.lst ((List.zipWith f xs ys).take (i + 1))), fun H' p' => ⟨xs.length - (i + 1), by omega, rfl, hlt, p'⟩, fun v H' y => ?_⟩
    obtain ⟨T, x', y', rfl, hT, rfl, f1, f2⟩ := y
    have hx' := f1 xs qx
    have hy' := f2 ys qy
    refine hs i x' y' T H hx' hy' e1 hT _ fun H4 e4 => ?_
    have hTD : D ≠ T := ne_of_none hD hT
    have hD4 : H4 D = some (.lst ((List.zipWith f xs ys).take i)) := e4 _ _ (by rw [upd_ne hTD]; exact hD)
    have hget : (List.zipWith f xs ys)[i]? = some (f x' y') := by rw [List.getElem?_zipWith, hx', hy']
    refine ⟨_, hD4, by rw [List.length_take, sizeLine_eq]; omega, fun b o hb => ?_, ?_⟩
    · rw [upd_ne (ne_of_none hb hn)]
      exact e4 _ _ (by rw [upd_ne (ne_of_none (e1 _ _ hb) hT)]; exact e1 _ _ hb)
    · rw [upd_same, List.take_add_one, hget]
      rfl
  · have e : i = xs.length := by omega
    subst e
    refine .inl ⟨⟨xs, ys, qx, qy, Or.inl (Nat.le_refl _)⟩, hd H e1 ?_⟩
    rw [hD, List.take_of_length_le (by omega)]
end Sp
namespace Sp
open PySem PySem.Spec PyProof.Rows L2
/-- a comprehension over a list: the elements are f of the places, nothing else changes -/
theorem lc_listN {K : PySem.W.Frag} {a : Addr} {xs : List V} {g : TG} {te : TE} {vs : List Nat} {σ : L2.St} {H1 : Hp} {D : Addr} {Qd : Hp → Prop} (f : Nat → V) (hn : H1 D = none) (hz : xs.length ≤ 1000000) (hS : SqL K H1 a xs)
    (hs : ∀ (i : Nat) (x : V) (H : Hp), xs[i]? = some x → Same H1 H → ∀ R : VK, (∀ H4, Same H H4 → R (f i) H4) → g x (wipe σ vs) H fun σ2 H2 => wipe σ2 vs = wipe σ vs ∧ te σ2 H2 R)
    (hd : ∀ H, Same H1 H → H D = some (.lst ((List.range xs.length).map f)) → Qd H) :
    ∃ W : Nat → Nat → Hp → Prop, (∃ m, W 0 m (upd H1 D (.lst []))) ∧ ∀ i m H, W i m H →
      ((Itl K a).stop i H ∧ Qd H) ∨ ((Itl K a).go i H ∧ ∃ Nx : Hp → Prop, (∀ H', Nx H' → ∃ m', m' < m ∧ W (i + 1) m' H') ∧ ∀ x H', (Itl K a).yld i H x H' → g x (wipe σ vs) H' fun σ2 H2 => wipe σ2 vs = wipe σ vs ∧ tYes σ2 H2 fun b H3 =>
        if b = true then te σ2 H3 fun y H4 => ∃ acc, H4 D = some (.lst acc) ∧ acc.length < sizeLine ∧ Nx (upd H4 D (.lst (acc ++ [y]))) else Nx H3) := by
  refine lc_listI (xs := xs) hz (fun i acc H => acc = (List.range i).map f ∧ Same H1 H) ⟨rfl, Same.upd hn⟩ (fun i acc H _ _ hJ => hJ.2.seq hS) (fun i x acc H hx hl hD hJ R hR => ?_) (fun acc H hl hD hJ => ?_)
  · refine hs i x H hx hJ.2 R fun H4 e => hR (f i) H4 (e _ _ hD) ⟨?_, fun b o h => ?_⟩
    · rw [List.range_succ, List.map_append, ← hJ.1]
      rfl
    · rw [upd_ne (ne_of_none h hn)]
      exact e _ _ (hJ.2 _ _ h)
  · exact hd H hJ.2 (by rw [hD, hJ.1])
/-! ### where ways meet again -/
def tCut (t u : TS) : TS := fun D σ H => ∃ Mid : L2.St → Hp → Prop, t { D with nx := Mid } σ H ∧ ∀ σ' H', Mid σ' H' → u D σ' H'
theorem pss_cut {X : Cx} {st : Stmt} {rest : List Stmt} {t u : TS} (h1 : PS X st t) (h2 : PSs X rest u) : PSs X (st :: rest) (tCut t u) := by
  refine ⟨fun pins s σ H D I h => ?_⟩
  obtain ⟨Mid, hm, hu⟩ := h
  refine wpAny_execs_cons (thn (h1.run pins s σ H { D with nx := Mid } I hm) fun f s1 q => ?_)
  cases f with
  | next =>
    obtain ⟨σ', H', I', q⟩ := q
    exact h2.run pins s1 σ' H' D I' (hu σ' H' q)
  | ret v => exact q
  | brk => exact q
  | cont => exact q
end Sp
namespace Sp
open PySem PySem.Spec PyProof.Rows L2

/-- a number: an int, or a truth that counts as 1 or 0 -/
def isN : Int → Value → Bool
  | k, .int i _ => i == k
  | k, .bool b => PpSet.b2 b == k
  | _, _ => false
theorem isN_shape {k : Int} {v : Value} (h : isN k v = true) : (∃ t, v = .int k t) ∨ ∃ b, v = .bool b ∧ PpSet.b2 b = k := by
  cases v with
  | int i t => exact .inl ⟨t, by rw [show i = k from eq_of_beq h]⟩
  | bool b => exact .inr ⟨b, rfl, eq_of_beq h⟩
  | _ => exact absurd h Bool.false_ne_true
theorem beq_decI (a b : Int) : (a == b) = decide (a = b) := by
  by_cases h : a = b
  · rw [h, decide_eq_true rfl, beq_self_eq_true]
  · rw [decide_eq_false h, beq_eq_false_iff_ne.mpr h]
def numK (prog : Program) (w : World) : PySem.KeyKind prog w Int where
  is := isN
  hash := hashInt
  inj := fun v a b ha hb => by
    rcases isN_shape ha with ⟨t, rfl⟩ | ⟨x, rfl, rfl⟩
    · exact eq_of_beq hb
    · exact eq_of_beq hb
  byValue := fun k v h => by
    rcases isN_shape h with ⟨t, rfl⟩ | ⟨x, rfl, rfl⟩ <;> rfl
  pyHash := fun hv h => by
    rcases isN_shape hv with ⟨t, rfl⟩ | ⟨x, rfl, rfl⟩
    · exact wpAny_pyHash_int h
    · exact PpSet.pyHash_bool h
  eqBool := fun {A E s a b u v Q} hu hv h => by
    rcases isN_shape hu with ⟨t, rfl⟩ | ⟨x, rfl, rfl⟩
    · rcases isN_shape hv with ⟨t', rfl⟩ | ⟨y, rfl, rfl⟩
      · rw [← beq_decI] at h
        exact SeqAt.EqAt.int_int a t b t' _ _ _ _ h
      · rw [← beq_decI] at h
        exact SeqAt.EqAt.int_bool a t y _ _ _ _ h
    · rcases isN_shape hv with ⟨t', rfl⟩ | ⟨y, rfl, rfl⟩
      · rw [← beq_decI] at h
        exact SeqAt.EqAt.bool_int x b t' _ _ _ _ h
      · refine SeqAt.EqAt.bool_bool x y _ _ _ _ ?_
        have e : decide (PpSet.b2 x = PpSet.b2 y) = (x == y) := by cases x <;> cases y <;> decide
        rw [← e]
        exact h
  «strs» := fun k x t v h => absurd h Bool.false_ne_true

/-- the number of a value -/
def numV : V → Option Int
  | .int i => some i
  | .bl b => some (PpSet.b2 b)
  | _ => none
theorem isN_of {x : V} {k : Int} {u : Value} (h : numV x = some k) (r : RelV x u) : isN k u = true := by
  cases x with
  | int i =>
    obtain ⟨t, rfl⟩ := r
    cases h
    exact beq_self_eq_true _
  | bl b =>
    cases (show u = Value.bool b from r)
    cases h
    exact beq_self_eq_true _
  | _ => cases h
theorem itemsAre_of {prog : Program} {w : World} : ∀ {vs : List V} {ks : List Int} {us : List Value}, vs.map numV = ks.map some → Vals vs us → ItemsAre (numK prog w) ks us
  | [], ks, _, h, .nil => by
    cases ks with
    | nil => exact .nil
    | cons _ _ => cases h
  | x :: vs, ks, _, h, .cons r t => by
    cases ks with
    | nil => cases h
    | cons k ks =>
      rw [List.map_cons, List.map_cons] at h
      injection h with h1 h2
      exact .cons (isN_of h1 r) (itemsAre_of h2 t)
/-- a tuple of these numbers at a -/
def KeyT (K : PySem.W.Frag) (H : Hp) (k : List Int) (a : Addr) : Prop := ∃ vs, SqT K H a vs ∧ vs.map numV = k.map some
theorem KeyT.same {K : PySem.W.Frag} {H H' : Hp} {k : List Int} {a : Addr} (e : Same H H') (h : KeyT K H k a) : KeyT K H' k a := by
  obtain ⟨vs, h1, h2⟩ := h
  exact ⟨vs, sameT e h1, h2⟩
theorem keyT_is {X : Cx} {pins : List (Addr × Obj)} {σ : L2.St} {H : Hp} {s : Shared} {k : List Int} {a : Addr} (I : L2.Inv X pins σ H s) (h : KeyT X.K H k a) : (tupleKind (numK X.prog X.w)).is s.heap k a := by
  obtain ⟨vs, hs, e⟩ := h
  obtain ⟨its, rv, ⟨o, h1, h2, n, h3⟩, hz⟩ := I.tuple hs
  exact ⟨o, its.toArray, n, h1, h2, h3, by simpa using itemsAre_of e rv⟩
def ctH (k : List Int) : Int := reduceHash (Builtin.Tuple.tupleHashOf (k.map hashInt))
def ctE (x : List Int × Addr × Value) : DictEntry := ⟨ctH x.1, .ref x.2.1, x.2.2⟩
/-- the dict at d: its entries -/
def CD (d : Addr) (xs : List (List Int × Addr × Value)) : HO := .ext fun h => ∃ o es ep, h.get? d = some o ∧ o.ExactDict ∧ o.data = .dict es ep ∧ es.toList = xs.map ctE ∧ (xs.map (·.1)).Nodup
/-- a dict with these keys -/
def CDict (K : PySem.W.Frag) (H : Hp) (d : Addr) (ks : List (List Int)) : Prop := ∃ xs, H d = some (CD d xs) ∧ (∀ x ∈ xs, KeyT K H x.1 x.2.1) ∧ xs.map (·.1) = ks ∧ xs.length ≤ sizeLine ∧ (d == sysModules) = false
theorem CDict.same {K : PySem.W.Frag} {H H' : Hp} {d : Addr} {ks : List (List Int)} (e : Same H H') (h : CDict K H d ks) : CDict K H' d ks := by
  obtain ⟨xs, h1, h2, h3⟩ := h
  exact ⟨xs, e _ _ h1, fun x hx => (h2 x hx).same e, h3⟩
section
variable {X : Cx} {pins : List (Addr × Obj)} {σ : L2.St} {H : Hp} {s : Shared} {d : Addr} {xs : List (List Int × Addr × Value)}
theorem cd_at (I : L2.Inv X pins σ H s) (h : H d = some (CD d xs)) (hk : ∀ x ∈ xs, KeyT X.K H x.1 x.2.1) : s.heap.DictOfH (tupleKind (numK X.prog X.w)) d xs := by
  obtain ⟨⟨o, es, ep, h1, h2, h3, h4, h5⟩, _⟩ := (show ObjOk X.prog X.w H s.heap d (CD d xs) from I.hok d _ h)
  exact ⟨o, es, ep, h1, h2, h3, h4, fun x hx => keyT_is I (hk x hx), h5⟩
theorem cd_ok {P : Program} {w : World} {H : Hp} {h : Heap} (x : h.DictOfH (tupleKind (numK P w)) d xs) : ObjOk P w H h d (CD d xs) := by
  obtain ⟨o, es, ep, h1, h2, h3, h4, _, h5⟩ := x
  refine ⟨⟨o, es, ep, h1, h2, h3, h4, h5⟩, ⟨o, h1⟩, ?_⟩
  rintro ha hb ⟨o, es, ep, h1, h2⟩ k
  exact ⟨o, es, ep, k o h1, h2⟩
end
theorem atKey_iff {α : Type} [DecidableEq α] {xs : List (α × Addr × Value)} {k : α} : (atKey xs k).isSome = true ↔ k ∈ xs.map (·.1) := by
  induction xs with
  | nil => simp [atKey]
  | cons x r ih =>
    obtain ⟨a, b⟩ := x
    unfold atKey at ih ⊢
    rw [List.find?_cons, List.map_cons]
    by_cases h : a = k
    · simp [h]
    · have h2 : ¬ k = a := fun z => h z.symm
      rw [show decide ((a, b).1 = k) = false from decide_eq_false h]
      simp only [List.mem_cons, h2, false_or]
      exact ih
/-- k in d, k not in d -/
def fInC (K : PySem.W.Frag) (neg : Bool) : R2 := fun x y H Q => onRef x fun a => onRef y fun d => ∃ k ks, KeyT K H k a ∧ CDict K H d ks ∧ ∀ b : Bool, (b = true ↔ k ∈ ks) → Q (.bl (neg != b)) H
section
variable {X : Cx}
theorem o_inC (hu : X.A.units + 64 < cLine) : OpR X (compareOp .In) (fInC X.K false) := by
  intro pins s σ H x y v u Q I rx ry hq
  obtain ⟨a, rfl, hq2⟩ := onRef_ex hq
  obtain ⟨d, rfl, k, ks, hk, ⟨xs, h1, h2, h3, h4, h5⟩, q⟩ := onRef_ex hq2
  cases (show v = Value.ref a from rx)
  cases (show u = Value.ref d from ry)
  refine wpAny_in_heap (tupleKind_room_in1 (by omega)) (keyT_is I hk) h5 (cd_at I h1 h2) ?_
  refine ⟨.bl _, H, I.tok _, rfl, ?_⟩
  have z := q (atKey xs k).isSome (by rw [atKey_iff, h3])
  simpa using z
theorem o_notInC (hu : X.A.units + 64 < cLine) : OpR X (compareOp .NotIn) (fInC X.K true) := by
  intro pins s σ H x y v u Q I rx ry hq
  obtain ⟨a, rfl, hq2⟩ := onRef_ex hq
  obtain ⟨d, rfl, k, ks, hk, ⟨xs, h1, h2, h3, h4, h5⟩, q⟩ := onRef_ex hq2
  cases (show v = Value.ref a from rx)
  cases (show u = Value.ref d from ry)
  refine wpAny_notIn_heap (tupleKind_room_in1 (by omega)) (keyT_is I hk) h5 (cd_at I h1 h2) ?_
  refine ⟨.bl _, H, I.tok _, rfl, ?_⟩
  have z := q (atKey xs k).isSome (by rw [atKey_iff, h3])
  simpa using z
/-- d[k] = v, k new -/
def fSetC (K : PySem.W.Frag) : V → V → V → Hp → (Hp → Prop) → Prop := fun o i v H Q => onRef o fun d => onRef i fun a => ∃ k ks, KeyT K H k a ∧ CDict K H d ks ∧ k ∉ ks ∧ ks.length < 100000 ∧ ∀ H', (∀ b u, b ≠ d → H b = some u → H' b = some u) → (∀ b, b ≠ d → H b = none → H' b = none) → CDict K H' d (ks ++ [k]) → Q H'
theorem s_cd (hu : X.A.units + 64 < cLine) : PSet X (fSetC X.K) := by
  intro pins s σ H o i v uo ui uv Q I ro ri rv hq
  obtain ⟨d, rfl, hq2⟩ := onRef_ex hq
  obtain ⟨a, rfl, k, ks, hk, ⟨xs, h1, h2, h3, h4, h5⟩, hn, hl, q⟩ := onRef_ex hq2
  cases (show uo = Value.ref d from ro)
  cases (show ui = Value.ref a from ri)
  have hat : atKey xs k = none := by
    have e := atKey_iff (xs := xs) (k := k)
    rw [h3] at e
    cases z : atKey xs k with
    | none => rfl
    | some p => rw [z] at e; exact absurd (e.mp rfl) hn
  have hlx : xs.length < 100000 := by
    rw [← h3, List.length_map] at hl
    exact hl
  refine wpAny_setItem_heap (tupleKind_room_in1 (by omega)) (keyT_is I hk) (cd_at I h1 h2) (fun h' hd hs => ?_) h4
  rw [storedH_new hat] at hd
  have he : ∃ q, h'.get? d = some q := let ⟨q, _, _, hq, _⟩ := hd; ⟨q, hq⟩
  have nd : ∀ {b : Addr} {ys : List V}, SqT X.K H b ys → SqT X.K (upd H d (CD d (xs ++ [(k, a, uv)]))) b ys := fun {b ys} hb => by
    rcases hb with (hb | ⟨ob, hb⟩) | hb
    · exact .inl (.inl (by rw [upd_ne (ne_of hb h1 (fun z => by cases z))]; exact hb))
    · exact .inl (.inr ⟨ob, by rw [upd_ne (ne_of hb h1 (fun z => by cases z))]; exact hb⟩)
    · exact .inr hb
  have nk : ∀ {k : List Int} {b : Addr}, KeyT X.K H k b → KeyT X.K (upd H d (CD d (xs ++ [(k, a, uv)]))) k b := fun {k b} ⟨vs, hb, e⟩ => by
    refine ⟨vs, ?_, e⟩
    rcases hb with (hb | ⟨ob, hb⟩) | hb
    · exact .inl (.inl (by rw [upd_ne (ne_of hb h1 (fun z => by cases z))]; exact hb))
    · exact .inl (.inr ⟨ob, by rw [upd_ne (ne_of hb h1 (fun z => by cases z))]; exact hb⟩)
    · exact .inr hb
  have I2 : L2.Inv X pins σ (upd H d (CD d (xs ++ [(k, a, uv)]))) { s with heap := h', toks := s.toks + (tupleKind (numK X.prog X.w)).draws k } := d_write I (by rw [h1]; exact True.intro) hs he (cd_ok hd)
  refine ⟨_, I2, q _ (fun b u hb hbu => by rw [upd_ne hb]; exact hbu) (fun b hb hbu => by rw [upd_ne hb]; exact hbu) ⟨xs ++ [(k, a, uv)], upd_same, fun x hx => ?_, ?_, ?_, h5⟩⟩
  · rcases List.mem_append.mp hx with hx | hx
    · obtain ⟨vs, hb, e⟩ := h2 x hx
      exact ⟨vs, nd hb, e⟩
    · rw [List.mem_singleton.mp hx]
      obtain ⟨vs, hb, e⟩ := hk
      exact ⟨vs, nd hb, e⟩
  · rw [List.map_append, h3]
    rfl
  · rw [List.length_append, sizeLine_eq]
    show xs.length + 1 ≤ _
    omega
/-- {k: v}, k a tuple of numbers -/
def tDispC (K : PySem.W.Frag) (tk tv : TE) : TE := fun σ H Q => ∀ d, H d = none → tk σ (upd H d (.dK [])) fun x H1 => tv σ H1 fun _ H2 => onRef x fun a => H2 d = some (.dK []) ∧ ∃ k, KeyT K H2 k a ∧
  ∀ H', (∀ b u, b ≠ d → H2 b = some u → H' b = some u) → (∀ b, b ≠ d → H2 b = none → H' b = none) → CDict K H' d [k] → Q (.ref d) H'
theorem e_dispC {k v : Expr} {tk tv : TE} {pos : Pos} (hk : PE X k tk) (hv : PE X v tv) (hu : X.A.units + 64 < cLine) : PE X (.Dict [some k] [v] pos) (tDispC X.K tk tv) := by
  refine ⟨fun pins s σ H Q I q => ?_⟩
  have hn := I.hok.fresh (Nat.le_refl s.heap.objs.size)
  have I1 := I.laid (a := s.heap.objs.size) (o := .dK []) (h' := s.heap.push { cls := .type "dict", data := .dict #[] }) (t' := s.toks) (fun _ _ q => Heap.get?_push_of_some _ q) (Nat.le_refl _) (dk_empty s.heap I.big)
  have hshape := zip_pairTrees [some k] [v] X.env pos rfl rfl
  have hlen := pairTrees_length [some k] [v] X.env pos rfl rfl
  have h0 : pairTrees [some k] [v] X.env pos ≠ [] := fun z => by rw [z] at hlen; cases hlen
  have hlen2 : (pairTrees [some k] [v] X.env pos).length = 1 := hlen
  rw [arm_eval_Dict, hshape, dictDisplay_pairs _ h0 (by rw [hlen2]; decide)]
  refine wpAny_bind (wpAny_standAt (wpAny_bind (wpAny_subDictH (knd := tupleKind (numK X.prog X.w)) (Q := fun d s' => wpAny (model X.prog X.w) X.A (pure (Value.ref d)) (EP X pins σ Q) X.xe s') (show X.A.units < cLine by omega) (by rw [hlen2]; decide) ?_)))
  refine pairTrees_cons_walk (thn (hk.run pins _ σ _ _ I1 (q _ hn)) fun kv s1 ⟨x, H1, J1, rx, q1⟩ => thn (hv.run pins s1 σ H1 _ J1 q1) fun vv s2 ⟨y, H2, J2, ry, q2⟩ => pairTrees_nil_walk ?_)
  obtain ⟨a, rfl, e, kk, hkey, q3⟩ := onRef_ex q2
  cases (show kv = Value.ref a from rx)
  obtain ⟨z, hd0, vs0, r0, dd⟩ := dk_of J2.hok e
  cases r0
  refine ⟨[(kk, a, vv)], ⟨rfl, rfl, keyT_is J2 hkey, trivial⟩, ?_, fun h' tk' hd hs => wpAny_pure ?_⟩
  · obtain ⟨o, es, ep, h1, h2, h3, h4, h5, _⟩ := dd
    refine ⟨o, es, ep, h1, h2, h3, ?_, fun x hx => (by cases hx), List.nodup_nil⟩
    cases q : es.toList with
    | nil => rfl
    | cons a r =>
      rw [q] at h5
      first
        | exact h5.elim
        | cases h5
  · have he : ∃ q, h'.get? s.heap.objs.size = some q := let ⟨q, _, _, hq, _⟩ := hd; ⟨q, hq⟩
    have hd2 : h'.DictOfH (tupleKind (numK X.prog X.w)) s.heap.objs.size [(kk, a, vv)] := hd
    have I2 : L2.Inv X pins σ (upd H2 s.heap.objs.size (CD s.heap.objs.size [(kk, a, vv)])) { s2 with heap := h', toks := tk' } := d_write J2 (by rw [e]; exact True.intro) hs he (cd_ok hd2)
    refine ⟨.ref s.heap.objs.size, _, I2, rfl, q3 _ (fun b u hb hbu => by rw [upd_ne hb]; exact hbu) (fun b hb hbu => by rw [upd_ne hb]; exact hbu) ⟨[(kk, a, vv)], upd_same, fun x hx => ?_, rfl, by show 1 ≤ sizeLine; decide, hd0⟩⟩
    rw [List.mem_singleton.mp hx]
    obtain ⟨vs, hb, e2⟩ := hkey
    refine ⟨vs, ?_, e2⟩
    rcases hb with (hb | ⟨ob, hb⟩) | hb
    · exact .inl (.inl (by rw [upd_ne (ne_of hb e (fun z => by cases z))]; exact hb))
    · exact .inl (.inr ⟨ob, by rw [upd_ne (ne_of hb e (fun z => by cases z))]; exact hb⟩)
    · exact .inr hb
end
end Sp
namespace Sp
open PySem PySem.Spec PyProof.Rows L2
open PySem.StrLaws PySem.Builtin PySem.Builtin.Str
/-- the codes of a text -/
abbrev cl (x : Str) : List Nat := x.cps.toList
theorem cl_ext {x y : Str} (h : cl x = cl y) : x = y := PySem.Str.ext' (Array.ext' h)
theorem cl_app (x y : Str) : cl (x ++ y) = cl x ++ cl y := by
  show (x ++ y).cps.toList = _
  rw [PySem.Str.cps_append, Array.toList_append]
theorem cl_len (x : Str) : (cl x).length = x.length := by
  show x.cps.toList.length = x.cps.size
  exact Array.length_toList
theorem at_head {x y : Str} {c : Nat} {t : List Nat} {hi i : Nat} (hy : cl y = c :: t) (h : At x y hi i) : (cl x)[i]? = some c := by
  have h2 := h.2
  rw [subAt_eq, beq_iff_eq] at h2
  have e : ((cl x).drop i).take y.length = c :: t := h2.trans hy
  have e2 : (((cl x).drop i).take y.length)[0]? = some c := by rw [e]; rfl
  rw [List.getElem?_take] at e2
  split at e2
  · rw [List.getElem?_drop, Nat.add_zero] at e2
    exact e2
  · cases e2
theorem at_of {x y : Str} {p q : List Nat} (h : cl x = p ++ cl y ++ q) : At x y x.length p.length := by
  have hl : x.length = p.length + y.length + q.length := by
    rw [← cl_len x, h, List.length_append, List.length_append, cl_len]
  refine ⟨by omega, ?_⟩
  rw [subAt_eq, beq_iff_eq]
  show ((cl x).drop p.length).take y.length = cl y
  rw [h, List.append_assoc, List.drop_left, ← cl_len y, List.take_left]
theorem sub_cl (x : Str) (i j : Nat) : cl (strSub x i j) = ((cl x).drop i).take (j - i) := strSub_toList x i j
theorem join_cons2 (y p q : Str) (r : List Str) : Str.join y (p :: q :: r) = p ++ y ++ Str.join y (q :: r) := rfl
theorem split_aux {x y : Str} {c : Nat} {t : List Nat} (hy : cl y = c :: t) : ∀ (cs : List Str) (pre : List Nat) (cuts : List Nat) (f : Nat), cs ≠ [] → (∀ p ∈ cs, c ∉ cl p) → cl x = pre ++ cl (Str.join y cs) → ChainG x y x.length pre.length cuts f →
    (∀ k, f ≤ k → ¬ At x y x.length k) → partsFrom x y.length pre.length cuts = cs
  | [], _, _, _, h, _, _, _, _ => absurd rfl h
  | [p], pre, cuts, f, _, hf, hx, hc, hn => by
    have hx2 : cl x = pre ++ cl p := hx
    have no : ∀ k, pre.length ≤ k → ¬ At x y x.length k := fun k hk ha => by
      have e := at_head hy ha
      rw [hx2, List.getElem?_append_right hk] at e
      exact hf p (List.mem_singleton.mpr rfl) (List.mem_of_getElem? e)
    cases cuts with
    | cons c' r => exact absurd hc.2.1 (no c' hc.1)
    | nil =>
      show [strSub x pre.length x.length] = [p]
      refine congrArg (fun z => [z]) (cl_ext ?_)
      rw [sub_cl, hx2, List.drop_left, ← cl_len x, hx2, List.length_append, Nat.add_sub_cancel_left, List.take_length]
  | p :: q :: r, pre, cuts, f, _, hf, hx, hc, hn => by
    have hx2 : cl x = pre ++ cl p ++ cl y ++ cl (Str.join y (q :: r)) := by
      rw [hx, join_cons2, cl_app, cl_app]
      simp only [List.append_assoc]
    have hat : At x y x.length (pre ++ cl p).length := at_of (by rw [hx2, List.append_assoc])
    have hlen : (pre ++ cl p).length = pre.length + p.length := by rw [List.length_append, cl_len]
    have no : ∀ k, pre.length ≤ k → k < pre.length + p.length → ¬ At x y x.length k := fun k h1 h2 ha => by
      have e := at_head hy ha
      rw [hx2, List.append_assoc, List.append_assoc, List.getElem?_append_right h1, List.getElem?_append_left (by rw [cl_len]; omega)] at e
      exact hf p (List.mem_cons_self ..) (List.mem_of_getElem? e)
    cases cuts with
    | nil =>
      have e : f = pre.length := hc
      exact absurd hat (hn _ (by rw [hlen, e]; omega))
    | cons c' r' =>
      obtain ⟨h1, h2, h3, h4⟩ := hc
      have ec : c' = pre.length + p.length := by
        rcases Nat.lt_trichotomy c' (pre.length + p.length) with z | z | z
        · exact absurd h2 (no c' h1 z)
        · exact z
        · exact absurd (hlen ▸ hat) (h3 _ (by omega) z)
      subst ec
      have ih := split_aux hy (q :: r) (pre ++ cl p ++ cl y) r' f (by simp) (fun z hz => hf z (List.mem_cons_of_mem _ hz)) hx2 (by rw [List.length_append, hlen, cl_len]; exact h4) hn
      rw [List.length_append, hlen, cl_len] at ih
      show strSub x pre.length (pre.length + p.length) :: partsFrom x y.length (pre.length + p.length + y.length) r' = p :: q :: r
      rw [ih]
      refine congrArg (fun z => z :: q :: r) (cl_ext ?_)
      rw [sub_cl, hx2, List.append_assoc, List.append_assoc, List.drop_left, Nat.add_sub_cancel_left, ← cl_len p, List.take_left]
theorem split_join {y : Str} {c : Nat} {t : List Nat} (hy : cl y = c :: t) {cs : List Str} (hne : cs ≠ []) (hf : ∀ p ∈ cs, c ∉ cl p) (hk : ¬ strKind (Str.join y cs) < strKind y) : Txt.split (Str.join y cs) y = cs := by
  have hyl : y.length = t.length + 1 := by rw [← cl_len, hy]; rfl
  unfold Txt.split
  split
  · rename_i h
    rw [Bool.or_eq_true, decide_eq_true_eq, decide_eq_true_eq] at h
    rcases h with h | h
    · cases cs with
      | nil => exact absurd rfl hne
      | cons p r =>
        cases r with
        | nil => rfl
        | cons q r =>
          rw [join_cons2, PySem.Str.length_append, PySem.Str.length_append] at h
          omega
    · exact absurd h hk
  · obtain ⟨f, hG, hn⟩ := occ_tight (Str.join y cs) y (by omega)
    have key := split_aux hy cs [] _ f hne hf rfl hG hn
    split
    · rename_i h
      have e : occurrences (Str.join y cs) y 0 (Str.join y cs).length ((Str.join y cs).length + 1) = [] := by
        cases q : occurrences (Str.join y cs) y 0 (Str.join y cs).length ((Str.join y cs).length + 1) with
        | nil => rfl
        | cons _ _ => rw [q] at h; cases h
      rw [e] at key
      have key2 : [strSub (Str.join y cs) 0 (Str.join y cs).length] = cs := key
      rw [sub_whole] at key2
      exact key2
    · rw [partsBetween_eq]
      exact key
/-- cut at the last place -/
theorem rpart_found {y h d : Str} {c : Nat} {t : List Nat} (hy : cl y = c :: t) (ht : c ∉ t) (hd : c ∉ cl d) : Txt.rpartition (h ++ y ++ d) y = (h, y, d) := by
  have hx : cl (h ++ y ++ d) = cl h ++ cl y ++ cl d := by rw [cl_app, cl_app]
  have hat : At (h ++ y ++ d) y (h ++ y ++ d).length (cl h).length := at_of hx
  have no : ∀ k, (cl h).length < k → ¬ At (h ++ y ++ d) y (h ++ y ++ d).length k := fun k hk ha => by
    have e := at_head hy ha
    rw [hx, hy] at e
    obtain ⟨j, rfl⟩ : ∃ j, k = (cl h).length + 1 + j := ⟨k - (cl h).length - 1, by omega⟩
    rw [List.append_assoc, List.getElem?_append_right (by omega), show (cl h).length + 1 + j - (cl h).length = j + 1 by omega, List.cons_append, List.getElem?_cons_succ] at e
    rcases List.mem_append.mp (List.mem_of_getElem? e) with z | z
    · exact ht z
    · exact hd z
  rcases last_spec (h ++ y ++ d) y with ⟨_, z⟩ | ⟨i, e, ha, hz⟩
  · exact absurd hat (z _)
  · have ei : i = (cl h).length := by
      rcases Nat.lt_trichotomy i (cl h).length with z | z | z
      · exact absurd hat (hz _ z)
      · exact z
      · exact absurd ha (no i z)
    unfold Txt.rpartition
    rw [e]
    dsimp only
    rw [ei]
    have l1 : (cl h).length = h.length := cl_len h
    have e1 : strSub (h ++ y ++ d) 0 (cl h).length = h := cl_ext (by rw [sub_cl, hx, List.drop_zero, Nat.sub_zero, List.append_assoc, List.take_left])
    have e2 : strSub (h ++ y ++ d) ((cl h).length + y.length) (h ++ y ++ d).length = d := cl_ext (by
      rw [sub_cl, hx, ← cl_len y, ← List.length_append, List.drop_left, ← cl_len (h ++ y ++ d), hx, List.length_append, Nat.add_sub_cancel_left, List.take_length])
    rw [e1, e2]
theorem rpart_none {y x : Str} {c : Nat} {t : List Nat} (hy : cl y = c :: t) (hx : c ∉ cl x) : Txt.rpartition x y = (Str.empty, Str.empty, x) := by
  rcases last_spec x y with ⟨e, _⟩ | ⟨i, _, ha, _⟩
  · unfold Txt.rpartition
    rw [e]
  · exact absurd (List.mem_of_getElem? (at_head hy ha)) hx
section
variable {X : Cx}
theorem mt_rpartition : MtR X "str.rpartition" (fun x xs H Q => ∃ a b, x = .str a ∧ xs = [.str b] ∧ (b.length == 0) = false ∧ a.length ≤ sizeLine ∧
    ∀ p, H p = none → Q (.ref p) (upd H p (.tup [.str (Txt.rpartition a b).1, .str (Txt.rpartition a b).2.1, .str (Txt.rpartition a b).2.2]))) := by
  intro pins s σ H x xs v us Q I rx rs h
  obtain ⟨a, b, rfl, rfl, hb, hz, h⟩ := h
  obtain ⟨t, rfl⟩ := rx
  cases rs with
  | cons r1 rs =>
    cases rs
    obtain ⟨u, rfl⟩ := r1
    refine call_meets F.slot_str_rpartition (typeIs_str _ _ _) F.entry_str_rpartition (F.args_str_rpartition_2 _ _) (meets_str_rpartition a b t u hb hz) ?_
    unfold Txt.rpartition at h
    revert h
    cases lastOccurrence a b 0 a.length with
    | none => intro h; exact laid_parts I h
    | some i => intro h; exact laid_parts I h
end
end Sp
namespace Sp
open PySem PySem.Spec PyProof.Rows L2
/-- the tuple at a place of the written part -/
def tupB (p : PySem.W.Frag → Addr) (vs : List V) (K : PySem.W.Frag) : Bool := match K.lookup (p K) with
  | some ⟨.type "tuple", _, .seq its _, _⟩ => decide (its.size ≤ sizeLine) && He.relAll vs its.toList
  | _ => false
theorem tupB_ok {p : PySem.W.Frag → Addr} {vs : List V} {K : PySem.W.Frag} (h : tupB p vs K = true) : ∀ H : Hp, SqT K H (p K) vs := by
  intro H
  unfold tupB at h
  split at h
  · rename_i e
    obtain ⟨h1, h2⟩ := He.ba h
    exact .inr ⟨_, _, _, e, rfl, rfl, of_decide_eq_true h1, He.relAll_ok h2⟩
  · cases h
def fInT (K : PySem.W.Frag) : R2 := fun x y H Q => ∃ d ds, Dp K H x d ∧ Dp K H y (.tuple ds) ∧ SeqAt.shaped d = true ∧ SeqAt.shaped (.tuple ds) = true ∧ Q (.bl (ds.any fun z => PyData.eqv z d)) H
section
variable {X : Cx}
theorem o_inT (hu : X.A.units + 65 < cLine) : OpR X (compareOp .In) (fInT X.K) := by
  intro pins s σ H x y v u Q I rx ry h
  obtain ⟨d, ds, hd, he, sd, se, q⟩ := h
  obtain ⟨as, r1⟩ := Dp.reads I d x v hd rx
  obtain ⟨bs, r2⟩ := Dp.reads I (.tuple ds) y u he ry
  exact SeqAt.in_tuple_reads r2 r1 (SeqAt.canLay_of_shaped se) (SeqAt.canLay_of_shaped sd) (room_in_shaped sd hu) ⟨.bl _, H, I, rfl, q⟩
end
/-- x in xs, x not in xs of plain things -/
def fIn (K : PySem.W.Frag) (neg : Bool) : R2 := fun x y H Q => onRef y fun p => ∃ xs, (SqL K H p xs ∨ SqT K H p xs) ∧ flatV x = true ∧ xs.all flatV = true ∧ ∃ b, inV x xs = b ∧ Q (.bl (neg != b)) H
section
variable {X : Cx}
theorem o_inS : OpR X (compareOp .In) (fIn X.K false) := OpR.imp op_in_seq fun x y H Q h => by
  obtain ⟨p, rfl, xs, h1, h2, h3, b, rfl, q⟩ := onRef_ex h
  refine ⟨p, xs, rfl, h1, h2, h3, ?_⟩
  cases e : inV x xs <;> rw [e] at q <;> exact q
theorem o_notInS : OpR X (compareOp .NotIn) (fIn X.K true) := OpR.imp op_notIn_seq fun x y H Q h => by
  obtain ⟨p, rfl, xs, h1, h2, h3, b, rfl, q⟩ := onRef_ex h
  refine ⟨p, xs, rfl, h1, h2, h3, ?_⟩
  cases e : inV x xs <;> rw [e] at q <;> exact q
end
/-- a comprehension over a tuple: what holds between the turns -/
theorem lc_tupI {K : PySem.W.Frag} {a : Addr} {xs : List V} {g : TG} {te : TE} {vs : List Nat} {σ : L2.St} {H1 : Hp} {D : Addr} {Qd : Hp → Prop} (hz : xs.length ≤ 1000000) (J : Nat → List V → Hp → Prop) (h0 : J 0 [] (upd H1 D (.lst [])))
    (hl : ∀ i acc H, i ≤ xs.length → H D = some (.lst acc) → J i acc H → SqT K H a xs)
    (hs : ∀ (i : Nat) (x : V) (acc : List V) (H : Hp), xs[i]? = some x → acc.length = i → H D = some (.lst acc) → J i acc H → ∀ R : VK, (∀ y H4, H4 D = some (.lst acc) → J (i + 1) (acc ++ [y]) (upd H4 D (.lst (acc ++ [y]))) → R y H4) →
      g x (wipe σ vs) H fun σ2 H2 => wipe σ2 vs = wipe σ vs ∧ te σ2 H2 R)
    (hd : ∀ acc H, acc.length = xs.length → H D = some (.lst acc) → J xs.length acc H → Qd H) :
    ∃ W : Nat → Nat → Hp → Prop, (∃ m, W 0 m (upd H1 D (.lst []))) ∧ ∀ i m H, W i m H →
      ((Itt K a).stop i H ∧ Qd H) ∨ ((Itt K a).go i H ∧ ∃ Nx : Hp → Prop, (∀ H', Nx H' → ∃ m', m' < m ∧ W (i + 1) m' H') ∧ ∀ x H', (Itt K a).yld i H x H' → g x (wipe σ vs) H' fun σ2 H2 => wipe σ2 vs = wipe σ vs ∧ tYes σ2 H2 fun b H3 =>
        if b = true then te σ2 H3 fun y H4 => ∃ acc, H4 D = some (.lst acc) ∧ acc.length < sizeLine ∧ Nx (upd H4 D (.lst (acc ++ [y]))) else Nx H3) := by
  refine lc_tup (xs := xs) (fun i H => ∃ acc, acc.length = i ∧ H D = some (.lst acc) ∧ J i acc H) ⟨[], rfl, upd_same, h0⟩ (fun i H hi h => ?_) (fun i x H hx h => ?_) (fun H h => ?_)
  · obtain ⟨acc, _, hD, hJ⟩ := h
    exact hl i acc H hi hD hJ
  · obtain ⟨acc, hac, hD, hJ⟩ := h
    have hi := (List.getElem?_eq_some_iff.mp hx).1
    exact hs i x acc H hx hac hD hJ (fun y H4 => ∃ acc, H4 D = some (.lst acc) ∧ acc.length < sizeLine ∧ ∃ ac2, ac2.length = i + 1 ∧ (upd H4 D (.lst (acc ++ [y]))) D = some (.lst ac2) ∧ J (i + 1) ac2 (upd H4 D (.lst (acc ++ [y])))) (fun y H4 e j => ⟨acc, e, by rw [hac, sizeLine_eq]; omega, acc ++ [y], by simp [hac], upd_same, j⟩)
  · obtain ⟨acc, hac, hD, hJ⟩ := h
    exact hd acc H hac hD hJ
/-- the elements are f of the places, nothing else changes -/
theorem lc_tupN {K : PySem.W.Frag} {a : Addr} {xs : List V} {g : TG} {te : TE} {vs : List Nat} {σ : L2.St} {H1 : Hp} {D : Addr} {Qd : Hp → Prop} (f : Nat → V) (hn : H1 D = none) (hz : xs.length ≤ 1000000) (hS : SqT K H1 a xs)
    (hs : ∀ (i : Nat) (x : V) (H : Hp), xs[i]? = some x → Same H1 H → ∀ R : VK, (∀ H4, Same H H4 → R (f i) H4) → g x (wipe σ vs) H fun σ2 H2 => wipe σ2 vs = wipe σ vs ∧ te σ2 H2 R)
    (hd : ∀ H, Same H1 H → H D = some (.lst ((List.range xs.length).map f)) → Qd H) :
    ∃ W : Nat → Nat → Hp → Prop, (∃ m, W 0 m (upd H1 D (.lst []))) ∧ ∀ i m H, W i m H →
      ((Itt K a).stop i H ∧ Qd H) ∨ ((Itt K a).go i H ∧ ∃ Nx : Hp → Prop, (∀ H', Nx H' → ∃ m', m' < m ∧ W (i + 1) m' H') ∧ ∀ x H', (Itt K a).yld i H x H' → g x (wipe σ vs) H' fun σ2 H2 => wipe σ2 vs = wipe σ vs ∧ tYes σ2 H2 fun b H3 =>
        if b = true then te σ2 H3 fun y H4 => ∃ acc, H4 D = some (.lst acc) ∧ acc.length < sizeLine ∧ Nx (upd H4 D (.lst (acc ++ [y]))) else Nx H3) := by
  refine lc_tupI (xs := xs) hz (fun i acc H => acc = (List.range i).map f ∧ Same H1 H) ⟨rfl, Same.upd hn⟩ (fun i acc H _ _ hJ => sameT hJ.2 hS) (fun i x acc H hx hl hD hJ R hR => ?_) (fun acc H hl hD hJ => ?_)
  · refine hs i x H hx hJ.2 R fun H4 e => hR (f i) H4 (e _ _ hD) ⟨?_, fun b o h => ?_⟩
    · rw [List.range_succ, List.map_append, ← hJ.1]
      rfl
    · rw [upd_ne (ne_of_none h hn)]
      exact e _ _ (hJ.2 _ _ h)
  · exact hd H hJ.2 (by rw [hD, hJ.1])
/-- a comprehension whose elements are new things: by places -/
theorem newL {H1 H4 : Hp} {D : Addr} {acc : List V} {y : V} (hn : H1 D = none) (e : Same H1 H4) : Same H1 (upd H4 D (.lst (acc ++ [y]))) := fun b o h => by
  rw [upd_ne (ne_of_none h hn)]
  exact e _ _ h
/-! ### texts by methods -/
def rSplit : V → List V → Hp → VK → Prop := fun x xs H Q => ∃ a b, x = .str a ∧ xs = [.str b] ∧ (b.length == 0) = false ∧ a.length + 2 ≤ sizeLine ∧ rNewStrs (Txt.split a b) H Q
def rPart : V → List V → Hp → VK → Prop := fun x xs H Q => ∃ a b, x = .str a ∧ xs = [.str b] ∧ (b.length == 0) = false ∧ a.length ≤ sizeLine ∧
    ∀ p, H p = none → Q (.ref p) (upd H p (.tup [.str (Txt.partition a b).1, .str (Txt.partition a b).2.1, .str (Txt.partition a b).2.2]))
def rRPart : V → List V → Hp → VK → Prop := fun x xs H Q => ∃ a b, x = .str a ∧ xs = [.str b] ∧ (b.length == 0) = false ∧ a.length ≤ sizeLine ∧
    ∀ p, H p = none → Q (.ref p) (upd H p (.tup [.str (Txt.rpartition a b).1, .str (Txt.rpartition a b).2.1, .str (Txt.rpartition a b).2.2]))
def rStarts : V → List V → Hp → VK → Prop := fun x xs H Q => ∃ a b, x = .str a ∧ xs = [.str b] ∧ Q (.bl (Txt.startswith a b)) H
def rJoin (K : PySem.W.Frag) : V → List V → Hp → VK → Prop := fun x xs H Q => ∃ a p, ∃ ys : List Str, x = .str a ∧ xs = [.ref p] ∧ (SqL K H p (ys.map V.str) ∨ SqT K H p (ys.map V.str)) ∧
    (ys.map (·.length)).sum + ys.length * a.length ≤ 16777216 ∧ Q (.str (Txt.join a ys)) H
def fIntS : List V → Hp → VK → Prop := fun xs H Q => ∃ a n, xs = [.str a] ∧ PySem.intText? a = some n ∧ a.length ≤ 640 ∧ Q (.int n) H
end Sp
namespace Sp
open PySem PySem.Spec PyProof.Rows L2
theorem room65 {k : Nat} {A : Around} (r : Room k A) : A.units + 65 < cLine := by have := r.un; omega
def on6 (xs : List V) (k : V → V → V → V → V → V → Prop) : Prop := match xs with
  | [x, y, z, u, t, w] => k x y z u t w
  | _ => False
theorem on6_ex {xs : List V} {k : V → V → V → V → V → V → Prop} (h : on6 xs k) : ∃ x y z u t w, xs = [x, y, z, u, t, w] ∧ k x y z u t w := by
  match xs, h with
  | [x, y, z, u, t, w], h => exact ⟨x, y, z, u, t, w, rfl, h⟩
  | [], h => exact h.elim
  | [_], h => exact h.elim
  | [_, _], h => exact h.elim
  | [_, _, _], h => exact h.elim
  | [_, _, _, _], h => exact h.elim
  | [_, _, _, _, _], h => exact h.elim
  | _ :: _ :: _ :: _ :: _ :: _ :: _ :: _, h => exact h.elim
theorem on6_len {xs : List V} {k : V → V → V → V → V → V → Prop} (h : on6 xs k) : xs.length = 6 := by
  obtain ⟨_, _, _, _, _, _, rfl, _⟩ := on6_ex h
  rfl
/-- all but one thing stays -/
def KpX (x : Addr) (H H' : Hp) : Prop := ∀ b o, b ≠ x → H b = some o → H' b = some o
theorem KpX.refl (x : Addr) (H : Hp) : KpX x H H := fun _ _ _ h => h
theorem KpX.trans {x : Addr} {H H1 H2 : Hp} (a : KpX x H H1) (b : KpX x H1 H2) : KpX x H H2 := fun c o n h => b c o n (a c o n h)
theorem KpX.of {x : Addr} {H H' : Hp} (e : Same H H') : KpX x H H' := fun b o _ h => e b o h
theorem KpX.upd {x : Addr} {H : Hp} {o : HO} : KpX x H (upd H x o) := fun b u n h => by rw [upd_ne n]; exact h
theorem KpX.T {K : PySem.W.Frag} {x l C dx : Addr} {fs : List (Str × V)} {H H' : Hp} {xs : List V} (k : KpX x H H') (hx : H x = some (.ins C dx fs)) (h : SqT K H l xs) : SqT K H' l xs := by
  rcases h with (h | ⟨ob, h⟩) | h
  · exact .inl (.inl (k _ _ (ne_of h hx (fun z => by cases z)) h))
  · exact .inl (.inr ⟨ob, k _ _ (ne_of h hx (fun z => by cases z)) h⟩)
  · exact .inr h
/-- a list is changed: the tuples stay -/
theorem setL_T {K : PySem.W.Frag} {H : Hp} {l b : Addr} {xs zs ys : List V} (hl : H l = some (.lst xs)) (h : SqT K H b ys) : SqT K (upd H l (.lst zs)) b ys := by
  rcases h with (hb | ⟨ob, hb⟩) | hb
  · exact .inl (.inl (by rw [upd_ne (ne_of hb hl (fun z => by cases z))]; exact hb))
  · exact .inl (.inr ⟨ob, by rw [upd_ne (ne_of hb hl (fun z => by cases z))]; exact hb⟩)
  · exact .inr hb
theorem newO {H1 H4 : Hp} {D : Addr} {o : HO} (hn : H1 D = none) (e : Same H1 H4) : Same H1 (upd H4 D o) := fun b o h => by
  rw [upd_ne (ne_of_none h hn)]
  exact e _ _ h
end Sp
namespace Sp
open PySem PySem.Spec PyProof.Rows L2
abbrev PK := List Nat × Option Bool
def uV : Option Bool → V
  | none => .non
  | some b => .bl b
def uK : Option Bool → NestedKey
  | none => .none
  | some b => .num (if b = true then 1 else 0)
def nk (p : PK) : NestedKey := .tup [.tup (p.1.map fun i : Nat => NestedKey.num (i : Int)), uK p.2]
theorem nums_inj : ∀ {a b : List Nat}, (a.map fun i : Nat => NestedKey.num (i : Int)) = (b.map fun i : Nat => NestedKey.num (i : Int)) → a = b
  | [], [], _ => rfl
  | [], _ :: _, h => by cases h
  | _ :: _, [], h => by cases h
  | x :: a, y :: b, h => by
    rw [List.map_cons, List.map_cons] at h
    injection h with h1 h2
    injection h1 with h1
    rw [nums_inj h2, show x = y by omega]
theorem nk_inj {p q : PK} (h : nk p = nk q) : p = q := by
  obtain ⟨a, u⟩ := p
  obtain ⟨b, v⟩ := q
  unfold nk at h
  injection h with h
  injection h with h1 h2
  injection h1 with h1
  injection h2 with h2 _
  have e1 := nums_inj h1
  have e1 : a = b := e1
  have h2 : uK u = uK v := h2
  have e2 : u = v := by
    cases u with
    | none =>
      cases v with
      | none => rfl
      | some y => unfold uK at h2; cases h2
    | some x =>
      cases v with
      | none => unfold uK at h2; cases h2
      | some y =>
        unfold uK at h2
        injection h2 with h2
        cases x <;> cases y <;> first | rfl | (simp at h2)
  rw [e1, e2]
def uH : Option Bool → Int
  | none => reduceHash 0xFCA86420
  | some b => hashInt (if b = true then 1 else 0)
def pkH (p : PK) : Int := reduceHash (Builtin.Tuple.tupleHashOf [reduceHash (Builtin.Tuple.tupleHashOf (p.1.map fun i : Nat => hashInt (i : Int))), uH p.2])
theorem nums_hash (w : World) : ∀ a : List Nat, NestedKey.hashes w (a.map fun i : Nat => NestedKey.num (i : Int)) = a.map fun i : Nat => hashInt (i : Int)
  | [] => by simp [NestedKey.hashes]
  | x :: a => by
    rw [List.map_cons, List.map_cons, NestedKey.hashes, NestedKey.hash, nums_hash w a]
theorem uK_hash (w : World) (u : Option Bool) : (uK u).hash w = uH u := by
  cases u <;> simp [uK, uH, NestedKey.hash]
theorem nk_hash (w : World) (p : PK) : (nk p).hash w = pkH p := by
  unfold nk pkH
  rw [NestedKey.hash, NestedKey.hashes, NestedKey.hashes, NestedKey.hashes, NestedKey.hash, nums_hash, uK_hash]
theorem nums_depth : ∀ a : List Nat, NestedKey.depthAll (a.map fun i : Nat => NestedKey.num (i : Int)) = 0
  | [] => by simp [NestedKey.depthAll]
  | x :: a => by
    rw [List.map_cons, NestedKey.depthAll, nums_depth a, NestedKey.depth]
    rfl
theorem nk_depth (p : PK) : (nk p).depth ≤ 8 := by
  unfold nk
  rw [NestedKey.depth, NestedKey.depthAll, NestedKey.depthAll, NestedKey.depthAll, NestedKey.depth, nums_depth]
  have : (uK p.2).depth = 0 := by cases p.2 <;> simp [uK, NestedKey.depth]
  rw [this]
  decide
/-- the key at a -/
def KeyAt (K : PySem.W.Frag) (H : Hp) (p : PK) (a : Addr) : Prop := ∃ b, SqT K H a [.ref b, uV p.2] ∧ SqT K H b (p.1.map fun i : Nat => V.int (i : Int))
/-- tuples stay -/
def TK (K : PySem.W.Frag) (H H' : Hp) : Prop := ∀ l xs, SqT K H l xs → SqT K H' l xs
theorem TK.refl {K : PySem.W.Frag} {H : Hp} : TK K H H := fun _ _ h => h
theorem TK.trans {K : PySem.W.Frag} {H H1 H2 : Hp} (a : TK K H H1) (b : TK K H1 H2) : TK K H H2 := fun l xs h => b l xs (a l xs h)
theorem TK.of {K : PySem.W.Frag} {H H' : Hp} (e : Same H H') : TK K H H' := fun _ _ h => sameT e h
theorem TK.lst {K : PySem.W.Frag} {H : Hp} {l : Addr} {xs zs : List V} (hl : H l = some (.lst xs)) : TK K H (upd H l (.lst zs)) := fun _ _ h => setL_T hl h
theorem KeyAt.tk {K : PySem.W.Frag} {H H' : Hp} {p : PK} {a : Addr} (e : TK K H H') (h : KeyAt K H p a) : KeyAt K H' p a := by
  obtain ⟨b, h1, h2⟩ := h
  exact ⟨b, e _ _ h1, e _ _ h2⟩
theorem nums_is {h : Heap} : ∀ {a : List Nat} {us : List Value}, Vals (a.map fun i : Nat => V.int (i : Int)) us → NestedAll h (a.map fun i : Nat => NestedKey.num (i : Int)) us
  | [], _, .nil => .nil
  | x :: a, _, .cons r t => by
    obtain ⟨tk, rfl⟩ := (show ∃ t, _ = Value.int (x : Int) t from r)
    exact .cons (.int _ tk) (nums_is t)
theorem uK_is {h : Heap} {u : Option Bool} {v : Value} (r : RelV (uV u) v) : NestedIs h (uK u) v := by
  cases u with
  | none =>
    cases (show v = Value.none from r)
    exact .none
  | some b =>
    cases (show v = Value.bool b from r)
    exact .bool rfl
theorem keyAt_is {X : Cx} {pins : List (Addr × Obj)} {σ : L2.St} {H : Hp} {s : Shared} {p : PK} {a : Addr} (I : L2.Inv X pins σ H s) (h : KeyAt X.K H p a) : (nestedKind X.prog X.w).is s.heap (nk p) a := by
  obtain ⟨b, h1, h2⟩ := h
  obtain ⟨its, rv, ⟨o, e1, e2, n, e3⟩, hz⟩ := I.tuple h1
  obtain ⟨its2, rv2, ⟨o2, f1, f2, n2, f3⟩, hz2⟩ := I.tuple h2
  refine ⟨?_, nk_depth p⟩
  refine NestedIs.tup e1 e2 e3 ?_
  cases rv with
  | cons r t =>
    cases t with
    | cons r2 t2 =>
      cases t2
      rw [show _ = Value.ref b from r]
      exact .cons (NestedIs.tup f1 f2 f3 (nums_is rv2)) (.cons (uK_is r2) .nil)
def pdE (x : PK × Addr × Addr) : DictEntry := ⟨pkH x.1, .ref x.2.1, .ref x.2.2⟩
/-- the dict at d: its epoch, its entries -/
def PD (d : Addr) (ep : Nat) (xs : List (PK × Addr × Addr)) : HO := .ext fun h => ∃ o es, h.get? d = some o ∧ o.ExactDict ∧ o.data = .dict es ep ∧ es.toList = xs.map pdE ∧ (xs.map (·.1)).Nodup
/-- a dict with these keys and things -/
def PDict (K : PySem.W.Frag) (H : Hp) (d : Addr) (xs : List (PK × Addr × Addr)) : Prop := (∃ ep, H d = some (PD d ep xs)) ∧ (∀ x ∈ xs, KeyAt K H x.1 x.2.1) ∧ xs.length ≤ sizeLine ∧ (d == sysModules) = false
theorem PDict.to {K : PySem.W.Frag} {H H' : Hp} {d : Addr} {xs : List (PK × Addr × Addr)} (e : H' d = H d) (t : TK K H H') (h : PDict K H d xs) : PDict K H' d xs := by
  obtain ⟨⟨ep, h1⟩, h2, h3⟩ := h
  exact ⟨⟨ep, e.trans h1⟩, fun x hx => (h2 x hx).tk t, h3⟩
theorem PDict.same {K : PySem.W.Frag} {H H' : Hp} {d : Addr} {xs : List (PK × Addr × Addr)} (e : Same H H') (h : PDict K H d xs) : PDict K H' d xs := by
  obtain ⟨⟨ep, h1⟩, h2⟩ := id h
  exact h.to ((e _ _ h1).trans h1.symm) (TK.of e)
def upK (xs : List (PK × Addr × Addr)) : List (NestedKey × Addr × Value) := xs.map fun x => (nk x.1, x.2.1, .ref x.2.2)
theorem upK_keys (xs : List (PK × Addr × Addr)) : (upK xs).map (·.1) = (xs.map (·.1)).map nk := by
  unfold upK
  rw [List.map_map, List.map_map]
  rfl
theorem upK_ent (w : World) {prog : Program} (xs : List (PK × Addr × Addr)) : (upK xs).map (entryOfKey (nestedKind prog w)) = xs.map pdE := by
  unfold upK
  rw [List.map_map]
  refine List.map_congr_left fun x _ => ?_
  show (⟨(nk x.1).hash w, _, _⟩ : DictEntry) = ⟨pkH x.1, _, _⟩
  rw [nk_hash]
section
variable {X : Cx} {pins : List (Addr × Obj)} {σ : L2.St} {H : Hp} {s : Shared} {d : Addr} {ep : Nat} {xs : List (PK × Addr × Addr)}
theorem pd_at (I : L2.Inv X pins σ H s) (h : H d = some (PD d ep xs)) (hk : ∀ x ∈ xs, KeyAt X.K H x.1 x.2.1) : s.heap.DictOfH (nestedKind X.prog X.w) d (upK xs) := by
  obtain ⟨⟨o, es, h1, h2, h3, h4, h5⟩, _⟩ := (show ObjOk X.prog X.w H s.heap d (PD d ep xs) from I.hok d _ h)
  refine ⟨o, es, ep, h1, h2, h3, ?_, fun x hx => ?_, ?_⟩
  · rw [h4, upK_ent]
  · obtain ⟨y, hy, rfl⟩ := List.mem_map.mp hx
    exact keyAt_is I (hk y hy)
  · rw [upK_keys]
    exact List.Pairwise.map _ (fun a b z e => z (nk_inj e)) h5
theorem pd_ok {P : Program} {w : World} {H : Hp} {h : Heap} (x : h.DictOfH (nestedKind P w) d (upK xs)) : ∃ ep, ObjOk P w H h d (PD d ep xs) := by
  obtain ⟨o, es, ep, h1, h2, h3, h4, _, h5⟩ := x
  refine ⟨ep, ⟨o, es, h1, h2, h3, ?_, ?_⟩, ⟨o, h1⟩, ?_⟩
  · rw [h4, upK_ent]
  · rw [upK_keys] at h5
    exact (List.pairwise_map.mp h5).imp fun z e => z (congrArg nk e)
  · rintro ha hb ⟨o, es, h1, h2⟩ k
    exact ⟨o, es, k o h1, h2⟩
end
def valP (xs : List (PK × Addr × Addr)) (p : PK) : Option Addr := (xs.find? fun x => decide (x.1 = p)).map (·.2.2)
def putP (xs : List (PK × Addr × Addr)) (p : PK) (a v : Addr) : List (PK × Addr × Addr) :=
  if p ∈ xs.map (·.1) then xs.map (fun x => if x.1 = p then (x.1, x.2.1, v) else x) else xs ++ [(p, a, v)]
theorem upK_at (xs : List (PK × Addr × Addr)) (p : PK) : (atKey (upK xs) (nk p)).map (·.2) = (valP xs p).map Value.ref := by
  unfold atKey valP upK
  induction xs with
  | nil => rfl
  | cons x r ih =>
    rw [List.map_cons, List.find?_cons, List.find?_cons]
    by_cases h : x.1 = p
    · have h2 : nk x.1 = nk p := congrArg nk h
      simp [h, h2]
    · have h2 : ¬ nk x.1 = nk p := fun z => h (nk_inj z)
      simp only [decide_eq_false h, decide_eq_false h2]
      exact ih
theorem upK_some (xs : List (PK × Addr × Addr)) (p : PK) : (atKey (upK xs) (nk p)).isSome = decide (p ∈ xs.map (·.1)) := by
  rw [Bool.eq_iff_iff, atKey_iff, upK_keys, decide_eq_true_iff]
  constructor
  · intro h
    obtain ⟨q, hq, e⟩ := List.mem_map.mp h
    rw [← nk_inj e]
    exact hq
  · exact fun h => List.mem_map.mpr ⟨p, h, rfl⟩
theorem upK_put (xs : List (PK × Addr × Addr)) (p : PK) (a v : Addr) : storedH (upK xs) (nk p) a (.ref v) = upK (putP xs p a v) := by
  unfold storedH putP
  rw [upK_some]
  by_cases h : p ∈ xs.map (·.1)
  · rw [if_pos (decide_eq_true h), if_pos h]
    unfold upK
    rw [List.map_map, List.map_map]
    refine List.map_congr_left fun x _ => ?_
    show putAt (nk p) (Value.ref v) (nk x.1, x.2.1, Value.ref x.2.2) = _
    unfold putAt
    by_cases e : x.1 = p
    · have e2 : nk x.1 = nk p := congrArg nk e
      simp [e, e2]
    · have e2 : ¬ nk x.1 = nk p := fun z => e (nk_inj z)
      simp [e, e2]
  · rw [if_neg (by rw [decide_eq_false h]; exact Bool.false_ne_true), if_neg h]
    unfold upK
    rw [List.map_append]
    rfl
theorem putP_len {xs : List (PK × Addr × Addr)} {p : PK} {a v : Addr} : (putP xs p a v).length ≤ xs.length + 1 := by
  unfold putP
  split
  · rw [List.length_map]; omega
  · rw [List.length_append]; exact Nat.le_refl _
theorem putP_mem {xs : List (PK × Addr × Addr)} {p : PK} {a v : Addr} {x : PK × Addr × Addr} (h : x ∈ putP xs p a v) : (∃ y ∈ xs, x.1 = y.1 ∧ x.2.1 = y.2.1) ∨ (x.1 = p ∧ x.2.1 = a) := by
  unfold putP at h
  split at h
  · obtain ⟨y, hy, rfl⟩ := List.mem_map.mp h
    refine .inl ⟨y, hy, ?_⟩
    split <;> exact ⟨rfl, rfl⟩
  · rcases List.mem_append.mp h with h | h
    · exact .inl ⟨x, h, rfl, rfl⟩
    · rw [List.mem_singleton.mp h]
      exact .inr ⟨rfl, rfl⟩
/-- k in d, k not in d -/
def fInP (K : PySem.W.Frag) (neg : Bool) : R2 := fun x y H Q => onRef x fun a => onRef y fun d => ∃ p xs, KeyAt K H p a ∧ PDict K H d xs ∧ Q (.bl (neg != decide (p ∈ xs.map (·.1)))) H
def fGetP (K : PySem.W.Frag) : R2 := fun x y H Q => onRef x fun d => onRef y fun a => ∃ p xs v, KeyAt K H p a ∧ PDict K H d xs ∧ valP xs p = some v ∧ Q (.ref v) H
def fSetP (K : PySem.W.Frag) : V → V → V → Hp → (Hp → Prop) → Prop := fun o i v H Q => onRef o fun d => onRef i fun a => onRef v fun v => ∃ p xs, KeyAt K H p a ∧ PDict K H d xs ∧ xs.length < 100000 ∧ ∀ H', (∀ b u, b ≠ d → H b = some u → H' b = some u) → (∀ b, b ≠ d → H b = none → H' b = none) → TK K H H' → PDict K H' d (putP xs p a v) → Q H'
section
variable {X : Cx}
theorem room_nk {A : Around} (hu : A.units + 64 < cLine) {prog : Program} {w : World} : (nestedKind prog w).room A.in1 := by
  show A.units + 1 + 8 < cLine
  omega
theorem o_inP (hu : X.A.units + 64 < cLine) : OpR X (compareOp .In) (fInP X.K false) := by
  intro pins s σ H x y v u Q I rx ry hq
  obtain ⟨a, rfl, hq2⟩ := onRef_ex hq
  obtain ⟨d, rfl, p, xs, hk, ⟨⟨ep, h1⟩, h2, h4, h5⟩, q⟩ := onRef_ex hq2
  cases (show v = Value.ref a from rx)
  cases (show u = Value.ref d from ry)
  refine wpAny_in_heap (room_nk hu) (keyAt_is I hk) h5 (pd_at I h1 h2) ?_
  refine ⟨.bl _, H, I.tok _, rfl, ?_⟩
  rw [upK_some]
  simpa using q
theorem o_notInP (hu : X.A.units + 64 < cLine) : OpR X (compareOp .NotIn) (fInP X.K true) := by
  intro pins s σ H x y v u Q I rx ry hq
  obtain ⟨a, rfl, hq2⟩ := onRef_ex hq
  obtain ⟨d, rfl, p, xs, hk, ⟨⟨ep, h1⟩, h2, h4, h5⟩, q⟩ := onRef_ex hq2
  cases (show v = Value.ref a from rx)
  cases (show u = Value.ref d from ry)
  refine wpAny_notIn_heap (room_nk hu) (keyAt_is I hk) h5 (pd_at I h1 h2) ?_
  refine ⟨.bl _, H, I.tok _, rfl, ?_⟩
  rw [upK_some]
  simpa using q
theorem x_pd (hu : X.A.units + 64 < cLine) : IxR X (fGetP X.K) := by
  intro value slice pins s σ H x y v u Q I rx ry hq hs
  obtain ⟨d, rfl, hq2⟩ := onRef_ex hq
  obtain ⟨a, rfl, p, xs, val, hk, ⟨⟨ep, h1⟩, h2, h4, h5⟩, hv, q⟩ := onRef_ex hq2
  cases (show v = Value.ref d from rx)
  cases (show u = Value.ref a from ry)
  have hm := pd_at I h1 h2
  have e := upK_at xs p
  rw [hv] at e
  obtain ⟨⟨b, z⟩, ez, rfl⟩ : ∃ z, atKey (upK xs) (nk p) = some z ∧ z.2 = Value.ref val := by
    cases z : atKey (upK xs) (nk p) with
    | none => rw [z] at e; cases e
    | some z' => rw [z] at e; exact ⟨z', rfl, by simpa using e⟩
  exact tail_any hm.typeIs slot_dict_getitem.lookup (wpAny_getItem_heap (room_nk hu) (keyAt_is I hk) hm ez ⟨.ref val, H, I.tok _, rfl, q⟩) hs
theorem s_pd (hu : X.A.units + 64 < cLine) : PSet X (fSetP X.K) := by
  intro pins s σ H o i v uo ui uv Q I ro ri rv hq
  obtain ⟨d, rfl, hq2⟩ := onRef_ex hq
  obtain ⟨a, rfl, hq3⟩ := onRef_ex hq2
  obtain ⟨val, rfl, p, xs, hk, ⟨⟨ep, h1⟩, h2, h4, h5⟩, hl, q⟩ := onRef_ex hq3
  cases (show uo = Value.ref d from ro)
  cases (show ui = Value.ref a from ri)
  cases (show uv = Value.ref val from rv)
  refine wpAny_setItem_heap (room_nk hu) (keyAt_is I hk) (pd_at I h1 h2) (fun h' hd hs => ?_) (by unfold upK; rw [List.length_map]; exact h4)
  rw [upK_put] at hd
  have he : ∃ q, h'.get? d = some q := let ⟨q, _, _, hq, _⟩ := hd; ⟨q, hq⟩
  obtain ⟨ep', hok⟩ := pd_ok (H := H) hd
  have nd : ∀ {ob : HO}, TK X.K H (upd H d ob) := fun {ob} b ys hb => by
    rcases hb with (hb | ⟨o2, hb⟩) | hb
    · exact .inl (.inl (by rw [upd_ne (ne_of hb h1 (fun z => by cases z))]; exact hb))
    · exact .inl (.inr ⟨o2, by rw [upd_ne (ne_of hb h1 (fun z => by cases z))]; exact hb⟩)
    · exact .inr hb
  obtain ⟨ep', hok⟩ := pd_ok (H := upd H d (PD d ep' (putP xs p a val))) hd
  obtain ⟨ep2, hok⟩ : ∃ ep2, ObjOk X.prog X.w (upd H d (PD d ep2 (putP xs p a val))) h' d (PD d ep2 (putP xs p a val)) := by
    obtain ⟨o, es, ep, h1, h2, h3, h4, _, h5⟩ := hd
    refine ⟨ep, ⟨o, es, h1, h2, h3, ?_, ?_⟩, ⟨o, h1⟩, ?_⟩
    · rw [h4, upK_ent]
    · rw [upK_keys] at h5
      exact (List.pairwise_map.mp h5).imp fun z e => z (congrArg nk e)
    · rintro ha hb ⟨o, es, h1, h2⟩ k
      exact ⟨o, es, k o h1, h2⟩
  have I2 : L2.Inv X pins σ (upd H d (PD d ep2 (putP xs p a val))) { s with heap := h', toks := s.toks + (nestedKind X.prog X.w).draws (nk p) } := d_write I (by rw [h1]; exact True.intro) hs he hok
  refine ⟨_, I2, q _ (fun b u hb hbu => by rw [upd_ne hb]; exact hbu) (fun b hb hbu => by rw [upd_ne hb]; exact hbu) nd ⟨⟨ep2, upd_same⟩, fun x hx => ?_, ?_, h5⟩⟩
  · rcases putP_mem hx with ⟨y, hy, e1, e2⟩ | ⟨e1, e2⟩
    · rw [e1, e2]
      exact (h2 y hy).tk nd
    · rw [e1, e2]
      exact hk.tk nd
  · have := putP_len (xs := xs) (p := p) (a := a) (v := val)
    rw [sizeLine_eq]
    omega
/-- {} to be such a dict -/
def tNewP (K : PySem.W.Frag) : TE := fun _ H Q => ∀ d, H d = none → ∀ H', Same H H' → PDict K H' d [] → (∀ b, b ≠ d → H b = none → H' b = none) → Q (.ref d) H'
theorem e_newP {pos : Pos} : PE X (.Dict [] [] pos) (tNewP X.K) := ⟨fun pins s σ H Q I h => by
  have hn := I.hok.fresh (Nat.le_refl s.heap.objs.size)
  have big := I.big
  refine wpAny_Dict_empty ⟨.ref s.heap.objs.size, upd H s.heap.objs.size (PD s.heap.objs.size 0 []), I.laid (a := s.heap.objs.size) (o := PD s.heap.objs.size 0 []) (t' := s.toks) (fun _ _ q => Heap.get?_push_of_some _ q) (Nat.le_refl _) ?_, rfl, h _ hn _ (Same.upd hn) ⟨⟨0, upd_same⟩, fun x hx => (by cases hx), Nat.zero_le _, ?_⟩ (fun b hb hbu => by rw [upd_ne hb]; exact hbu)⟩
  · refine ⟨⟨_, #[], Heap.get?_push_size _ rfl, ⟨rfl, rfl, rfl⟩, rfl, rfl, List.nodup_nil⟩, ⟨_, Heap.get?_push_size _ rfl⟩, ?_⟩
    rintro ha hb ⟨o, es, h1, h2⟩ k
    exact ⟨o, es, k o h1, h2⟩
  · exact beq_eq_false_iff_ne.mpr (Nat.ne_of_gt big)⟩
/-- {k: v} -/
def tDispP (K : PySem.W.Frag) (tk tv : TE) : TE := fun σ H Q => ∀ d, H d = none → tk σ (upd H d (.dK [])) fun x H1 => tv σ H1 fun y H2 => onRef x fun a => onRef y fun v => H2 d = some (.dK []) ∧ ∃ p, KeyAt K H2 p a ∧
  ∀ H', (∀ b u, b ≠ d → H2 b = some u → H' b = some u) → (∀ b, b ≠ d → H2 b = none → H' b = none) → TK K H2 H' → PDict K H' d [(p, a, v)] → Q (.ref d) H'
theorem e_dispP {k v : Expr} {tk tv : TE} {pos : Pos} (hk : PE X k tk) (hv : PE X v tv) (hu : X.A.units + 64 < cLine) : PE X (.Dict [some k] [v] pos) (tDispP X.K tk tv) := by
  refine ⟨fun pins s σ H Q I q => ?_⟩
  have hn := I.hok.fresh (Nat.le_refl s.heap.objs.size)
  have I1 := I.laid (a := s.heap.objs.size) (o := .dK []) (h' := s.heap.push { cls := .type "dict", data := .dict #[] }) (t' := s.toks) (fun _ _ q => Heap.get?_push_of_some _ q) (Nat.le_refl _) (dk_empty s.heap I.big)
  have hshape := zip_pairTrees [some k] [v] X.env pos rfl rfl
  have hlen := pairTrees_length [some k] [v] X.env pos rfl rfl
  have h0 : pairTrees [some k] [v] X.env pos ≠ [] := fun z => by rw [z] at hlen; cases hlen
  have hlen2 : (pairTrees [some k] [v] X.env pos).length = 1 := hlen
  rw [arm_eval_Dict, hshape, dictDisplay_pairs _ h0 (by rw [hlen2]; decide)]
  refine wpAny_bind (wpAny_standAt (wpAny_bind (wpAny_subDictH (knd := nestedKind X.prog X.w) (Q := fun d s' => wpAny (model X.prog X.w) X.A (pure (Value.ref d)) (EP X pins σ Q) X.xe s') (show X.A.units + 8 < cLine by omega) (by rw [hlen2]; decide) ?_)))
  refine pairTrees_cons_walk (thn (hk.run pins _ σ _ _ I1 (q _ hn)) fun kv s1 ⟨x, H1, J1, rx, q1⟩ => thn (hv.run pins s1 σ H1 _ J1 q1) fun vv s2 ⟨y, H2, J2, ry, q2⟩ => pairTrees_nil_walk ?_)
  obtain ⟨a, ea, q2b⟩ := onRef_ex q2
  subst ea
  obtain ⟨val, ev, e, p, hkey, q3⟩ := onRef_ex (show onRef y _ from q2b)
  subst ev
  cases (show kv = Value.ref a from rx)
  cases (show vv = Value.ref val from ry)
  obtain ⟨z, hd0, vs0, r0, dd⟩ := dk_of J2.hok e
  cases r0
  refine ⟨[(nk p, a, .ref val)], ⟨rfl, rfl, keyAt_is J2 hkey, trivial⟩, ?_, fun h' tk' hd hs => wpAny_pure ?_⟩
  · obtain ⟨o, es, ep, h1, h2, h3, h4, h5, _⟩ := dd
    refine ⟨o, es, ep, h1, h2, h3, ?_, fun x hx => (by cases hx), List.nodup_nil⟩
    cases q : es.toList with
    | nil => rfl
    | cons a r =>
      rw [q] at h5
      first
        | exact h5.elim
        | cases h5
  · have he : ∃ q, h'.get? s.heap.objs.size = some q := let ⟨q, _, _, hq, _⟩ := hd; ⟨q, hq⟩
    have hd2 : h'.DictOfH (nestedKind X.prog X.w) s.heap.objs.size (upK [(p, a, val)]) := hd
    obtain ⟨ep2, hok⟩ : ∃ ep2, ObjOk X.prog X.w (upd H2 s.heap.objs.size (PD s.heap.objs.size ep2 [(p, a, val)])) h' s.heap.objs.size (PD s.heap.objs.size ep2 [(p, a, val)]) := by
      obtain ⟨o, es, ep, h1, h2, h3, h4, _, h5⟩ := hd2
      refine ⟨ep, ⟨o, es, h1, h2, h3, ?_, ?_⟩, ⟨o, h1⟩, ?_⟩
      · rw [h4, upK_ent]
      · rw [upK_keys] at h5
        exact (List.pairwise_map.mp h5).imp fun z e => z (congrArg nk e)
      · rintro ha hb ⟨o, es, h1, h2⟩ k
        exact ⟨o, es, k o h1, h2⟩
    have nd : ∀ {ob : HO}, TK X.K H2 (upd H2 s.heap.objs.size ob) := fun {ob} b ys hb => by
      rcases hb with (hb | ⟨o2, hb⟩) | hb
      · exact .inl (.inl (by rw [upd_ne (ne_of hb e (fun z => by cases z))]; exact hb))
      · exact .inl (.inr ⟨o2, by rw [upd_ne (ne_of hb e (fun z => by cases z))]; exact hb⟩)
      · exact .inr hb
    have I2 : L2.Inv X pins σ (upd H2 s.heap.objs.size (PD s.heap.objs.size ep2 [(p, a, val)])) { s2 with heap := h', toks := tk' } := d_write J2 (by rw [e]; exact True.intro) hs he hok
    refine ⟨.ref s.heap.objs.size, _, I2, rfl, q3 _ (fun b u hb hbu => by rw [upd_ne hb]; exact hbu) (fun b hb hbu => by rw [upd_ne hb]; exact hbu) nd ⟨⟨ep2, upd_same⟩, fun x hx => ?_, by show 1 ≤ sizeLine; decide, hd0⟩⟩
    rw [List.mem_singleton.mp hx]
    exact hkey.tk nd
end
/-! ### walks over such a dict -/
def ItP (d : Addr) (ep : Nat) (xs : List (PK × Addr × Addr)) : It :=
  ⟨fun i H => (H d = some (PD d ep xs) ∧ (d == sysModules) = false) ∧ i < xs.length, fun i H x H' => H' = H ∧ ∃ e, xs[i]? = some e ∧ x = .ref e.2.1, fun i H => (H d = some (PD d ep xs) ∧ (d == sysModules) = false) ∧ xs.length ≤ i⟩
theorem pd_raw {X : Cx} {pins : List (Addr × Obj)} {σ : L2.St} {H : Hp} {s : Shared} {d : Addr} {ep : Nat} {xs : List (PK × Addr × Addr)} (I : L2.Inv X pins σ H s) (h : H d = some (PD d ep xs)) :
    ∃ o es, s.heap.get? d = some o ∧ o.ExactDict ∧ o.data = .dict es ep ∧ es.size = xs.length ∧ ∀ (i : Nat) (e : PK × Addr × Addr), xs[i]? = some e → es[i]? = some (pdE e) := by
  obtain ⟨⟨o, es, h1, h2, h3, h4, h5⟩, _⟩ := (show ObjOk X.prog X.w H s.heap d (PD d ep xs) from I.hok d _ h)
  refine ⟨o, es, h1, h2, h3, ?_, fun i e he => ?_⟩
  · rw [← Array.length_toList, h4, List.length_map]
  · rw [← Array.getElem?_toList, h4, List.getElem?_map, he]
    rfl
theorem turn_pd {P : Program} {w : World} {K : PySem.W.Frag} {tg : Expr} {d : Addr} {ep : Nat} {xs : List (PK × Addr × Addr)} (it : Addr) : Turn P w K tg (ItP d ep xs) [it] it (fun i h => h.IsKeyIter it d i xs.length ep) where
  mem := by simp
  obj := fun i h st b hb => by
    have e : b = it := by simpa using hb
    subst e
    obtain ⟨oi, e, c, dd⟩ := st
    exact ⟨oi, e, fun v z => by rw [dd] at z; cases z⟩
  keep := fun i h h' st k => st.at fun oi e => k it (by simp) oi e
  item := by
    intro X hP hw hK hc i pins s σ H E I hf st hg
    subst hP hw hK
    obtain ⟨⟨hd, hs⟩, hi⟩ := hg
    obtain ⟨f0, f1, f2, f3, f4, f5⟩ := hf it (by simp)
    obtain ⟨o, es, hgd, hx, hdt, hsz, ent⟩ := pd_raw I hd
    have hkv : xs[i]? = some xs[i] := List.getElem?_eq_getElem hi
    have hen := ent i _ hkv
    refine next_key_item st hgd hdt hsz hen fun h' st' sb => ?_
    have I1 : L2.Inv X pins σ H { s with heap := h' } := I.turned (t' := s.toks) (fun b ob hb e => (sb.2 b hb).trans e) f0 f1 f3 f4 f5
    obtain ⟨oi, e, c, dd⟩ := id st'
    exact ⟨_, rfl, go_of (s := { s with heap := h' }) e c dd (by decide) ⟨.ref xs[i].2.1, H, I1, rfl, ⟨rfl, _, hkv, rfl⟩, st', fun b hb => (hf b hb).1⟩⟩
  done := by
    intro X hP hw hK hc i pins s σ H E I hf st hg
    subst hP hw hK
    obtain ⟨⟨hd, hs⟩, hi⟩ := hg
    obtain ⟨f0, f1, f2, f3, f4, f5⟩ := hf it (by simp)
    obtain ⟨o, es, hgd, hx, hdt, hsz, ent⟩ := pd_raw I hd
    exact next_key_end (I.ok.hd hc) st hgd hdt hsz hi fun h' eb => ⟨rfl, I.turned (t' := s.toks) (fun b ob hb e => eb b ob hb e) f0 f1 f3 f4 f5⟩
  self := fun A i s Q E st h => wpAny_pyIter_keyiter st h
def iPD (K : PySem.W.Frag) (td : TE) : TI := fun σ H R => td σ H fun x H1 => onRef x fun d => ∃ ep xs, (H1 d = some (PD d ep xs) ∧ (d == sysModules) = false) ∧ R (ItP d ep xs) H1
theorem pi_pd {X : Cx} {tg e : Expr} {td : TE} (he : PE X e td) : PI X tg e (iPD X.K td) := by
  refine ⟨fun pins s σ H R I h => ?_⟩
  refine thn (he.run pins s σ H _ I h) fun u s1 ⟨x, H1, I1, rx, q⟩ => ?_
  obtain ⟨d, rfl, ep, xs, ⟨hd, hs⟩, q⟩ := onRef_ex q
  obtain rfl : u = Value.ref d := rx
  obtain ⟨o, es, hgd, hx, hdt, hsz, ent⟩ := pd_raw I1 hd
  refine iter_keys hs hgd hx hdt (pi_one (tk := s1.toks) I1 _ (turn_pd _) ⟨_, Heap.get?_push_size _ rfl, rfl, ?_⟩ q)
  rw [hsz] <;> rfl
theorem for_pd {d : Addr} {ep : Nat} {xs : List (PK × Addr × Addr)} {g : TG} {tb : TS} {D : Ends} {σ : L2.St} {H : Hp} (Pv : Nat → L2.St → Hp → Prop) (h0 : Pv 0 σ H) (hl : ∀ i σ H, i ≤ xs.length → Pv i σ H → H d = some (PD d ep xs) ∧ (d == sysModules) = false)
    (hs : ∀ i e σ H, xs[i]? = some e → Pv i σ H → g (.ref e.2.1) σ H fun σ2 H2 => tb { D with nx := Pv (i + 1), ct := Pv (i + 1), bk := D.nx } σ2 H2) (hd : ∀ σ H, Pv xs.length σ H → D.nx σ H) :
    ∃ W : Nat → Nat → L2.St → Hp → Prop, (∃ m, W 0 m σ H) ∧ ∀ i m σ H, W i m σ H →
      ((ItP d ep xs).stop i H ∧ D.nx σ H) ∨ ((ItP d ep xs).go i H ∧ ∃ N : L2.St → Hp → Prop, (∀ σ' H', N σ' H' → ∃ m', m' < m ∧ W (i + 1) m' σ' H') ∧ ∀ x H', (ItP d ep xs).yld i H x H' → g x σ H' fun σ2 H2 => tb { D with nx := N, ct := N, bk := D.nx } σ2 H2) := by
  refine ⟨fun i m σ H => m = xs.length - i ∧ i ≤ xs.length ∧ Pv i σ H, ⟨xs.length, by simp, Nat.zero_le _, h0⟩, ?_⟩
  rintro i m σ H ⟨rfl, hi, p⟩
  have q := hl i σ H hi p
  by_cases hlt : i < xs.length
  · refine .inr ⟨⟨q, hlt⟩, Pv (i + 1), fun σ' H' p' => ⟨xs.length - (i + 1), by omega, rfl, hlt, p'⟩, fun x H' y => ?_⟩
    obtain ⟨e, e', hy, rfl⟩ := y
    subst e
    exact hs i e' σ _ hy p
  · have e : i = xs.length := by omega
    subst e
    exact .inl ⟨⟨q, Nat.le_refl _⟩, hd σ H p⟩
end Sp
namespace Sp
open PySem PySem.Spec PyProof.Rows L2
section
variable {prog : Program} {w : World} {A : Around} {R : Result → Shared → Prop} {I : Addr} {fp wr : List Addr} {n : Nat} {P : Nat → Value → Prop} {St : Nat → Heap → Prop}
def lessV (val : Nat → Int) (i j : Nat) : Bool := decide (val i < val j)
theorem minK_loop (W : Walks prog w A.in1 I fp wr n P St) (val : Nat → Int) (S : Addr) (hSf : S ∉ fp) (Ok : Heap → Prop) (hok : ∀ h h', Ok h → (∀ b o, b ∉ wr → b ≠ S → h.get? b = some o → h'.get? b = some o) → Ok h')
    (hkey : ∀ i v (s : Shared) (Q : Value → Shared → Prop) (E : Value → Shared → Prop), P i v → Ok s.heap → (∀ t tk, Q (.int (val i) t) { s with toks := tk }) → wpAny (model prog w) A.in1 (call (.builtin "len") [v]) Q E s) :
    ∀ (k j : Nat) (s : Shared) (vb : Value) (tb : Tok) (c : Nat), n - (j + 1) = k → j + 1 ≤ n → St (j + 1) s.heap → Ok s.heap → P (argBest (lessV val) j) vb →
    s.heap.get? S = some { cls := .type "list", dict := none, data := .seq #[vb, .int (val (argBest (lessV val) j)) tb] c, slots := #[] } →
    (∀ v h' tk, P (argBest (lessV val) (n - 1)) v → (∀ b o, b ∉ wr → b ≠ S → s.heap.get? b = some o → h'.get? b = some o) → R (.ok (.ret v)) { s with heap := h', toks := tk }) →
    codeAny (model prog w) A (.builtin "min.loop" ⟨[.ref I, .builtin "len", .ref S], []⟩) R s := by
  have hSw : S ∉ wr := fun h => hSf (W.sub _ h)
  have hname : (toString "min" ++ toString ".loop" : String) = "min.loop" := by decide
  have hcmp := CmpOf.ints_lt (prog := prog) (w := w) (A := A.in1) (P := fun i v => ∃ t, v = .int (val i) t) val (fun _ _ h => h)
  intro k
  induction k with
  | zero =>
    intro j s vb tb c hk hj hst hO hPb hS hR
    have hin : j + 1 = n := by omega
    refine codeAny_builtin F.entry_min_loop ?_
    rw [Around.under_plainId F.plain_min_loop _]
    show wpAny _ A.in1 (seqItems? (.ref S) >>= _) _ _ s
    refine wpAny_bind (wpAny_seqItems hS rfl ?_)
    show wpAny _ A.in1 (tryCatch (pyNext (.ref I)) _ >>= _) _ _ s
    refine wpAny_bind (wpAny_tryCatch (W.done s _ _ (hin ▸ hst) fun h' tk hk' => ?_))
    have hS' := hk' S _ hSw hS
    show wpAny _ A.in1 (updateSeq S (fun _ => #[]) >>= _) _ _ _
    refine wpAny_bind ?_
    refine wpAny_updateSeq hS' rfl (wpAny_bind (wpAny_letGo (wpAny_pure ?_)))
    refine hR vb _ tk (by rw [← hin]; exact hPb) fun b o hbw hbS e => (Heap.get?_update_other _ _ (Ne.symm hbS)).trans (hk' b o hbw e)
  | succ k ih =>
    intro j s vb tb c hk hj hst hO hPb hS hR
    have hlt : j + 1 < n := by omega
    refine codeAny_builtin F.entry_min_loop ?_
    rw [Around.under_plainId F.plain_min_loop _]
    show wpAny _ A.in1 (seqItems? (.ref S) >>= _) _ _ s
    refine wpAny_bind (wpAny_seqItems hS rfl ?_)
    show wpAny _ A.in1 (tryCatch (pyNext (.ref I)) _ >>= _) _ _ s
    refine wpAny_bind (wpAny_tryCatch (W.item (j + 1) s _ _ hlt hst fun v h' tk hP hst' hk' => ?_))
    have hS' := hk' S _ hSw hS
    have hO' : Ok h' := hok _ _ hO fun b o hb _ e => hk' b o hb e
    show wpAny _ A.in1 (tryCatch (holding [v] (call (.builtin "len") [v])) _ >>= _) _ _ _
    refine wpAny_bind (wpAny_tryCatch (wpAny_holding (hkey (j + 1) v _ _ _ hP hO' fun t tk2 => ?_)))
    show wpAny _ A.in1 (tryCatch (holding [v, .int (val (j + 1)) t] (richCompare .Lt (.int (val (j + 1)) t) (.int (val (argBest (lessV val) j)) tb) >>= _)) _ >>= _) _ _ _
    refine wpAny_bind (wpAny_tryCatch (wpAny_holding (wpAny_bind (hcmp (j + 1) (argBest (lessV val) j) _ _ _ _ _ ⟨t, rfl⟩ ⟨tb, rfl⟩ ?_))))
    refine wpAny_bind (wpAny_holding (wpAny_truthy_bool ?_))
    refine wpAny_bind (wpAny_letGo (wpAny_pure ?_))
    cases hb : lessV val (j + 1) (argBest (lessV val) j) with
    | true =>
      have hb2 : decide (val (j + 1) < val (argBest (lessV val) j)) = true := hb
      simp only [hb2, if_true]
      refine wpAny_bind ?_
      refine wpAny_updateSeq hS' rfl (wpAny_bind (wpAny_letGo ?_))
      rw [hname]
      refine wpAny_pure ⟨plainId_quiet F.plain_min_loop _, ih (j + 1) _ v t _ (by omega) hlt (W.frame _ _ _ hst' fun b hbf o e => ?_) (hok _ _ hO' fun b o hbw hbS e => (Heap.get?_update_other _ _ (Ne.symm hbS)).trans e) (by simp only [argBest, hb, if_true]; exact hP) (by simp only [argBest, hb, if_true]; exact Heap.get?_update_self _ hS' rfl)
        fun v' h'' tk'' hP' hk'' => ?_⟩
      · exact (Heap.get?_update_other _ _ (fun h : S = b => hSf (by rw [h]; exact hbf))).trans e
      · exact hR v' h'' tk'' hP' fun b o hbw hbS e => hk'' b o hbw hbS ((Heap.get?_update_other _ _ (Ne.symm hbS)).trans (hk' b o hbw e))
    | false =>
      have hb2 : decide (val (j + 1) < val (argBest (lessV val) j)) = false := hb
      simp only [hb2, Bool.false_eq_true, if_false]
      refine wpAny_bind (wpAny_letGo ?_)
      rw [hname]
      refine wpAny_pure ⟨plainId_quiet F.plain_min_loop _, ih (j + 1) _ vb tb c (by omega) hlt hst' hO' (by simp only [argBest, hb, Bool.false_eq_true, if_false]; exact hPb) (by simp only [argBest, hb, Bool.false_eq_true, if_false]; exact hS') fun v' h'' tk'' hP' hk'' => ?_⟩
      exact hR v' h'' tk'' hP' fun b o hbw hbS e => hk'' b o hbw hbS (hk' b o hbw e)
theorem minK_first (W : Walks prog w A.in1 I fp wr n P St) (val : Nat → Int) (S : Addr) (hSf : S ∉ fp) (Ok : Heap → Prop) (hok : ∀ h h', Ok h → (∀ b o, b ∉ wr → b ≠ S → h.get? b = some o → h'.get? b = some o) → Ok h')
    (hkey : ∀ i v (s : Shared) (Q : Value → Shared → Prop) (E : Value → Shared → Prop), P i v → Ok s.heap → (∀ t tk, Q (.int (val i) t) { s with toks := tk }) → wpAny (model prog w) A.in1 (call (.builtin "len") [v]) Q E s) (hn : 0 < n) {s : Shared} {c : Nat} (hst : St 0 s.heap) (hO : Ok s.heap)
    (hS : s.heap.get? S = some { cls := .type "list", dict := none, data := .seq #[] c, slots := #[] })
    (hR : ∀ v h' tk, P (argBest (lessV val) (n - 1)) v → (∀ b o, b ∉ wr → b ≠ S → s.heap.get? b = some o → h'.get? b = some o) → R (.ok (.ret v)) { s with heap := h', toks := tk }) :
    codeAny (model prog w) A (.builtin "min.loop" ⟨[.ref I, .builtin "len", .ref S], []⟩) R s := by
  have hSw : S ∉ wr := fun h => hSf (W.sub _ h)
  have hname : (toString "min" ++ toString ".loop" : String) = "min.loop" := by decide
  refine codeAny_builtin F.entry_min_loop ?_
  rw [Around.under_plainId F.plain_min_loop _]
  show wpAny _ A.in1 (seqItems? (.ref S) >>= _) _ _ s
  refine wpAny_bind (wpAny_seqItems hS rfl ?_)
  show wpAny _ A.in1 (tryCatch (pyNext (.ref I)) _ >>= _) _ _ s
  refine wpAny_bind (wpAny_tryCatch (W.item 0 s _ _ hn hst fun v h' tk hP hst' hk' => ?_))
  have hS' := hk' S _ hSw hS
  have hO' : Ok h' := hok _ _ hO fun b o hb _ e => hk' b o hb e
  show wpAny _ A.in1 (tryCatch (holding [v] (call (.builtin "len") [v])) _ >>= _) _ _ _
  refine wpAny_bind (wpAny_tryCatch (wpAny_holding (hkey 0 v _ _ _ hP hO' fun t tk2 => ?_)))
  show wpAny _ A.in1 (updateSeq S (fun _ => #[v, .int (val 0) t]) >>= _) _ _ _
  refine wpAny_bind ?_
  refine wpAny_updateSeq hS' rfl ?_
  rw [hname]
  refine wpAny_pure ⟨plainId_quiet F.plain_min_loop _, minK_loop W val S hSf Ok hok hkey _ 0 _ v t _ rfl hn (W.frame _ _ _ hst' fun b hbf o e => ?_) (hok _ _ hO' fun b o hbw hbS e => (Heap.get?_update_other _ _ (Ne.symm hbS)).trans e) hP (Heap.get?_update_self _ hS' rfl) fun v' h'' tk'' hP' hk'' => ?_⟩
  · exact (Heap.get?_update_other _ _ (fun h : S = b => hSf (by rw [h]; exact hbf))).trans e
  · exact hR v' h'' tk'' hP' fun b o hbw hbS e => hk'' b o hbw hbS ((Heap.get?_update_other _ _ (Ne.symm hbS)).trans (hk' b o hbw e))
end
/-! ### min(xs, key=len) of a list of tuples -/
theorem fn_treeK {prog : Program} {w : World} {A : Around} {E : Value → Shared → Prop} {s : Shared} {id : String} {b : Builtin} {args : List Value} {kw : List (Str × Value)} {Q : Value → Shared → Prop} (hk : builtinKind id = none) (hp : plainId id = true)
    (hb : entryFor table id = some b) (ha : argsOk id ⟨args, kw⟩)
    (hc : wpAny (model prog w) A.in1 (b ⟨args, kw⟩) (fun fin s' => match fin with
      | .done f => (match (Except.ok f : Result) with | .ok (.ret v) => Q v s' | .ok _ => False | .error e => E e s')
      | .again c' => c'.quiet = true ∧ codeAny (model prog w) A c' (fun r s' => match r with | .ok (.ret v) => Q v s' | .ok _ => False | .error e => E e s') s') E s) :
    wpAny (model prog w) A (call (.builtin id) args kw) Q E s := by
  refine wpAny_call (codeAny_call_builtin hp hb ?_)
  simp only [checkBuiltinCall, hk]
  cases hsig : Manifest.signature? id with
  | none => exact wpAny_pure hc
  | some sig =>
    simp only [argsOk, hsig] at ha
    have h2 : Bind.checkArgs id sig ⟨args, kw⟩ = pure () := ha
    show wpAny _ A.in1 (Bind.checkArgs id sig ⟨args, kw⟩) _ _ s
    rw [h2]; exact wpAny_pure hc
section
variable {X : Cx}
/-- the first of the shortest -/
def rMinLen (K : PySem.W.Frag) : List V → Hp → VK → Prop := fun xs H Q => on1 xs fun x => onRef x fun a => ∃ (as : List Addr) (ns : List Nat), SqL K H a (as.map V.ref) ∧ 0 < as.length ∧ as.length = ns.length ∧
  (∀ (i : Nat) (b : Addr) (n : Nat), as[i]? = some b → ns[i]? = some n → ∃ ys, SqT K H b ys ∧ ys.length = n) ∧ ∀ b, as[argBest (lessV fun i => ((ns.getD i 0 : Nat) : Int)) (as.length - 1)]? = some b → Q (.ref b) H
theorem minLen_ok {pins : List (Addr × Obj)} {s : Shared} {σ : L2.St} {H : Hp} {Q : VK} {a : Addr} (hc : X.calm = true) (I : L2.Inv X pins σ H s) (h : rMinLen X.K [.ref a] H Q) :
    wpAny (model X.prog X.w) X.A (call (.builtin "min") [.ref a] [(Str.ofString "key", .builtin "len")]) (EP X pins σ Q) X.xe s := by
  obtain ⟨as, ns, hl, h0, hn, ht, q⟩ := h
  obtain ⟨its, rv, pl, hz⟩ := I.list hl
  have hh : X.A.handled = none := I.ok.hd hc
  have hlist : s.heap.IsList a its.toArray := pl.isList
  obtain ⟨ol, hol, _⟩ := id hlist
  have hlen : its.length = as.length := by rw [← rv.length, List.length_map]
  have hat : ∀ (i : Nat) (v : Value), its.toArray[i]? = some v → ∃ b, as[i]? = some b ∧ v = .ref b := fun i v e => by
    have e2 : its[i]? = some v := by simpa using e
    have hi := (List.getElem?_eq_some_iff.mp e2).1
    have hb : as[i]? = some as[i] := List.getElem?_eq_getElem (by omega)
    obtain ⟨u, hu, ru⟩ := rv.get (show (as.map V.ref)[i]? = some (V.ref as[i]) by rw [List.getElem?_map, hb]; rfl)
    rw [e2] at hu
    cases hu
    exact ⟨_, hb, ru⟩
  have hname : (toString "min" ++ toString ".loop" : String) = "min.loop" := by decide
  refine fn_treeK F.kind_min F.plain_min F.entry_min (by unfold argsOk; kernel_rfl) ?_
  show wpAny _ X.A.in1 (Builtin.Builtins.bindParams "min" ["key", "default"] 0 ⟨[], [(Str.ofString "key", .builtin "len")]⟩ >>= _) _ _ s
  refine wpAny_bind (wpAny_of_eq (show Builtin.Builtins.bindParams "min" ["key", "default"] 0 ⟨[], [(Str.ofString "key", .builtin "len")]⟩ = pure [some (.builtin "len"), none] from rfl) ?_)
  refine wpAny_bind (wpAny_pure ?_)
  have hlt : a < s.heap.objs.size := Heap.lt_size hol
  refine wpAny_bind (wpAny_pyIter_list hlist ?_)
  refine wpAny_bind (wpAny_newObj_type ?_)
  rw [hname]
  have hsz : (s.heap.push { cls := .type "list_iterator", data := .fields #[.ref a, .int 0 0] }).objs.size = s.heap.objs.size + 1 := Heap.size_push _ _
  have hSf : (s.heap.push { cls := .type "list_iterator", data := .fields #[.ref a, .int 0 0] }).objs.size ∉ [s.heap.objs.size, a] := fun hm => by
    rw [hsz] at hm
    rcases List.mem_cons.mp hm with e | hm
    · exact Nat.succ_ne_self _ e
    · rcases List.mem_cons.mp hm with e | hm
      · rw [← e] at hlt
        exact Nat.lt_irrefl _ (Nat.lt_trans (Nat.lt_succ_self _) hlt)
      · cases hm
  refine wpAny_pure ⟨plainId_quiet F.plain_min_loop _, minK_first (Walks.list (A := X.A.in1) hh s.heap.objs.size a (Nat.ne_of_lt hlt) its.toArray) (fun i => ((ns.getD i 0 : Nat) : Int)) _ hSf (fun h => ∀ b o, s.heap.get? b = some o → h.get? b = some o)
    (fun h h' hO hk b o e => hk b o (fun hm => ?_) (fun hm => ?_) (hO b o e)) (fun i v s2 Q2 E2 hP hO hq => ?_) (by simpa [hlen] using h0) ⟨⟨_, Heap.get?_push_of_some _ (Heap.get?_push_size _ rfl), rfl, rfl⟩, (hlist.push _).push _⟩ (fun b o e => Heap.get?_push_of_some _ (Heap.get?_push_of_some _ e)) (Heap.get?_push_size _ rfl) fun v h' tk hP hk => ?_⟩
  · rw [List.mem_singleton.mp hm] at e
    exact absurd (Heap.lt_size e) (Nat.lt_irrefl _)
  · rw [hm] at e
    have := Heap.lt_size e
    rw [hsz] at this
    exact Nat.lt_irrefl _ (Nat.lt_trans (Nat.lt_succ_self _) this)
  · obtain ⟨b, hb, rfl⟩ := hat i v hP
    have hi := (List.getElem?_eq_some_iff.mp hb).1
    have hnb : ns[i]? = some ns[i] := List.getElem?_eq_getElem (by omega)
    obtain ⟨ys, hy, hyl⟩ := ht i b _ hb hnb
    obtain ⟨it2, r2, pl2, hz2⟩ := I.tuple hy
    have pl3 : IsTup s2.heap b it2.toArray := by
      obtain ⟨o, ho, r⟩ := pl2
      exact ⟨o, hO b o ho, r⟩
    have hl2 := r2.length
    have hsl : sizeLine = 16777216 := sizeLine_eq
    refine len_tuple pl3 (by simp only [List.size_toArray]; omega) ?_
    have e1 : ((ns.getD i 0 : Nat) : Int) = (it2.toArray.size : Int) := by
      rw [List.getD_eq_getElem?_getD, hnb, List.size_toArray, ← hl2, hyl]
      rfl
    rw [← e1]
    exact hq _ _
  · have hk' : ∀ b o, s.heap.get? b = some o → h'.get? b = some o := fun b o e => hk b o (fun hm => by rw [List.mem_singleton.mp hm] at e; exact absurd (Heap.lt_size e) (Nat.lt_irrefl _)) (fun hm => by
      rw [hm] at e
      have := Heap.lt_size e
      rw [hsz] at this
      exact Nat.lt_irrefl _ (Nat.lt_trans (Nat.lt_succ_self _) this)) (Heap.get?_push_of_some _ (Heap.get?_push_of_some _ e))
    obtain ⟨b, hb, rfl⟩ := hat _ v hP
    refine ⟨.ref b, H, I.kept (t' := tk) hk', rfl, q b ?_⟩
    rw [← hlen]
    simpa using hb
def tMinLen (K : PySem.W.Frag) (te : TE) : TE := fun σ H Q => te σ H fun x H1 => rMinLen K [x] H1 Q
theorem e_minLen {e : Expr} {te : TE} {p p2 kp pos : Pos} (hc : X.calm = true) (hg : Gl X "min") (hm : X.mg "min" = none) (hg2 : Gl X "len") (hm2 : X.mg "len" = none) (he : PE X e te)
    (hst : starEach [e] X.env = [(false, eval e X.env)] := by rfl) : PE X (.Call (.Name "min" p) [e] [⟨some "key", .Name "len" p2, kp⟩] pos) (tMinLen X.K te) := by
  refine ⟨fun pins s σ H Q I h => ?_⟩
  refine wpAny_Call_Name_kw (ld_blt I hg hm (u := .builtin "min") boot_min ?_)
  have ha : PA X [e] (tCons te tNil) := pa_cons he pa_nil (hs := hst)
  refine PyProof.Rows.callWith_kw (thn (ha.run pos pins s σ H (fun vs H1 => on1 vs fun x => rMinLen X.K [x] H1 Q) I h) fun us s1 ⟨vs, H1, I1, r1, q1⟩ => ?_) (by rw [hst]; rfl) (by rw [hst]; rfl) rfl rfl
  obtain ⟨x, rfl, q1⟩ := on1_ex q1
  show wpAny _ _ (evalAll [(do let v ← eval (.Name "len" p2) X.env; standAt pos; pure v)]) _ _ s1
  refine wpAny_evalAll_cons (wpAny_bind (ld_blt I1 hg2 hm2 (u := .builtin "len") boot_len (wpAny_bind (wpAny_standAt (wpAny_pure (wpAny_evalAll_nil ?_))))))
  obtain ⟨u, rfl, rx⟩ := vals1 r1
  obtain ⟨x', e1, q2⟩ := on1_ex q1
  cases e1
  obtain ⟨a, rfl, q3⟩ := onRef_ex q2
  obtain rfl : u = Value.ref a := rx
  exact minLen_ok hc I1 q1
end
/-! ### t[::-1] -/
theorem fm_congr {α β : Type} {f g : α → Option β} : ∀ {l : List α}, (∀ x ∈ l, f x = g x) → l.filterMap f = l.filterMap g
  | [], _ => rfl
  | x :: l, h => by
    rw [List.filterMap_cons, List.filterMap_cons, h x (List.mem_cons_self ..), fm_congr fun y hy => h y (List.mem_cons_of_mem _ hy)]
theorem pick_rev (xs : Array Value) : ((List.range xs.size).filterMap fun (k : Nat) => xs[(((xs.size : Int) - 1) + (k : Int) * (-1)).toNat]?).toArray = xs.toList.reverse.toArray := by
  have e := HT.pick_gen xs.toList.reverse.toArray 0 xs.size
  have e2 : ((List.range xs.size).filterMap fun (k : Nat) => xs[(((xs.size : Int) - 1) + (k : Int) * (-1)).toNat]?) = ((List.range xs.size).filterMap fun (m : Nat) => xs.toList.reverse.toArray[(((0 : Nat) : Int) + (m : Int) * 1).toNat]?) := by
    refine fm_congr fun k hk => ?_
    have hk := List.mem_range.mp hk
    have h1 : (((xs.size : Int) - 1) + (k : Int) * (-1)).toNat = xs.size - 1 - k := by omega
    have h2 : (((0 : Nat) : Int) + (k : Int) * 1).toNat = k := by omega
    rw [h1, h2, ← Array.getElem?_toList]
    simp only [List.getElem?_toArray]
    rw [List.getElem?_reverse (by rw [Array.length_toList]; exact hk), Array.length_toList]
  rw [e2, e, List.drop_zero, List.take_of_length_le]
  rw [List.length_reverse, Array.length_toList]
  exact Nat.le_refl _
section
variable {prog : Program} {w : World} {A : Around} {E : Value → Shared → Prop} {s : Shared}
theorem getItem_tuple_rev {t sl : Addr} {items : Array Value} {vs : Value} {Q : Value → Shared → Prop} (ht : IsTup s.heap t items) (hs : s.heap.IsSliceOf sl .none .none vs) (ps : IsPart vs (some (-1)))
    (h : Q (.ref s.heap.objs.size) { s with heap := s.heap.push { cls := .type "tuple", data := .seq items.toList.reverse.toArray } }) (hsz : items.size ≤ sizeLine) : wpAny (model prog w) A (getItem (.ref t) (.ref sl)) Q E s := by
  obtain ⟨os, hos, hcs, hds⟩ := id hs
  have hTs : s.TypeIs (.ref sl) "slice" := ⟨os, hos, hcs⟩
  have htake : sizeOk (.seq items.toList.reverse.toArray) := by
    show items.toList.reverse.toArray.size ≤ sizeLine
    rw [List.size_toArray, List.length_reverse, Array.length_toList]
    exact hsz
  unfold getItem
  try with_reducible refine wpAny_holding ?_
  first | refine wpAny_bind (wpAny_pure ?_) | skip
  refine wpAny_bind (wpAny_sequenceKey ht.typeIs (by decide) ?_)
  refine wpAny_bind (wpAny_callSpecial?_slot (name := Str.ofString "__getitem__") ht.typeIs PyProof.Rows.slot_tuple_getitem
    (wpAny_call_entry PyProof.Rows.slot_tuple_getitem ht.typeIs entry_tuple_getitem ?_ (args_tuple_getitem _ _)))
  show wpAny _ _ (Builtin.Tuple.tupleItemsOf (.ref t) >>= _) _ _ s
  refine wpAny_bind (tupleItemsOf_ ht ?_)
  refine wpAny_bind (wpAny_typeOf hTs ?_)
  rw [if_pos (by decide)]
  refine wpAny_bind (?_ : wpAny _ _ (Builtin.Slice.sliceApplied (.ref sl) (pure (items.size : Int))) _ _ s)
  unfold Builtin.Slice.sliceApplied Builtin.Slice.sliceFields
  refine wpAny_bind (wpAny_bind (wpAny_field hos hds (x := .none) rfl (wpAny_bind (wpAny_field hos hds (x := .none) rfl (wpAny_bind (wpAny_field hos hds (x := vs) rfl (wpAny_pure ?_)))))))
  refine wpAny_bind (HT.slicePart_ ps ?_)
  show wpAny _ _ (if ((-1 : Int) == 0) = true then _ else _) _ _ s
  rw [if_neg (by decide)]
  refine wpAny_bind (PyProof.Rows.slicePart_none (wpAny_bind (PyProof.Rows.slicePart_none (wpAny_bind (wpAny_pure ?_)))))
  have e1 : Builtin.Slice.sliceAdjust none none (-1) (items.size : Int) = ((items.size : Int) - 1, -1) := rfl
  have e2 : Builtin.Slice.slicePlaces ((items.size : Int) - 1) (-1) (-1) = items.size := by
    unfold Builtin.Slice.slicePlaces
    rw [if_neg (by decide)]
    split
    · rw [show (-(-1 : Int)) = 1 by decide, Int.ediv_one]; omega
    · omega
  show wpAny _ _ (match Builtin.Slice.sliceAdjust none none (-1) (items.size : Int) with | (lo, hi) => pure (lo, (-1 : Int), Builtin.Slice.slicePlaces lo hi (-1))) _ _ s
  rw [e1]
  show wpAny _ _ (pure ((items.size : Int) - 1, (-1 : Int), Builtin.Slice.slicePlaces ((items.size : Int) - 1) (-1) (-1))) _ _ s
  rw [e2]
  refine wpAny_pure ?_
  show wpAny _ _ (if (((items.size : Int) - 1) == 0 && (-1 : Int) == 1 && items.size == items.size) = true then _ else _) _ _ s
  rw [if_neg (by rw [show ((-1 : Int) == 1) = false by decide, Bool.and_false, Bool.false_and]; exact Bool.false_ne_true), pick_rev]
  first
    | exact wpAny_bind (m := Builtin.Tuple.tupleExact _) (wpAny_newObj_type (wpAny_pure ⟨_, rfl, wpAny_pure h⟩) htake)
    | exact wpAny_bind (m := Builtin.Tuple.tupleExact _) (wpAny_newObj_type (wpAny_bind (wpAny_pure (wpAny_pure ⟨_, rfl, wpAny_pure h⟩))) htake)
    | exact wpAny_bind (wpAny_bind (m := Builtin.Tuple.tupleExact _) (wpAny_newObj_type (wpAny_pure (wpAny_pure ⟨_, rfl, wpAny_pure h⟩)) htake))
    | exact wpAny_bind (wpAny_bind (m := Builtin.Tuple.tupleExact _) (wpAny_newObj_type (wpAny_pure ⟨_, rfl, wpAny_pure h⟩) htake))
end
section
variable {X : Cx}
def tRevT (K : PySem.W.Frag) (te : TE) : TE := fun σ H Q => te σ H fun x H1 => onRef x fun a => ∃ xs, SqT K H1 a xs ∧ ∀ p, H1 p = none → Q (.ref p) (upd H1 p (.tup xs.reverse))
theorem e_revT {e : Expr} {te : TE} {k : Nat} {p1 p2 p3 pos : Pos} (he : PE X e te) : PE X (.Subscript e (.Slice none none (some (.UnaryOp .USub (.Constant (.int 1) k p1) p2)) p3) pos) (tRevT X.K te) := by
  refine ⟨fun pins s σ H Q I h => ?_⟩
  refine Subscript_ (thn (he.run pins s σ H _ I h) fun v s1 ⟨x, H1, I1, r1, q1⟩ => ?_)
  obtain ⟨a, rfl, xs, hx, q⟩ := onRef_ex q1
  cases r1
  have hst : PO X (some (.UnaryOp .USub (.Constant (.int 1) k p1) p2)) (tPart (tUn (rU fun i => .int (-i)) (tC (.int 1)))) := po_some (pe_un un_neg pe_int)
  refine wpAny_Slice (thn (po_none.run pins s1 σ H1 (fun o H2 => o = none ∧ H2 = H1) I1 ⟨rfl, rfl⟩) fun vl s2 ⟨l, H2, I2, pl, el, e2⟩ => ?_)
  subst el e2
  refine thn (po_none.run pins s2 σ H2 (fun o H3 => o = none ∧ H3 = H2) I2 ⟨rfl, rfl⟩) fun vu s3 ⟨u, H3, I3, pu, eu, e3⟩ => ?_
  subst eu e3
  refine thn (hst.run pins s3 σ H3 (fun o H4 => o = some (-1) ∧ H4 = H3) I3 ⟨1, rfl, -1, rfl, rfl, rfl⟩) fun vs s4 ⟨o, H4, I4, ps, eo, e4⟩ => ?_
  subst eo e4
  cases pl
  cases pu
  have I5 : L2.Inv X pins σ H4 { s4 with heap := s4.heap.push { cls := .type "slice", data := .fields #[.none, .none, vs] } } := I4.kept (t' := s4.toks) fun b ob q => Heap.get?_push_of_some _ q
  obtain ⟨its, r, ht, hz⟩ := I5.tuple hx
  have hlen := r.length
  show wpAny (model X.prog X.w) X.A (subscriptTail e (.Slice none none (some (.UnaryOp .USub (.Constant (.int 1) k p1) p2)) p3) (.ref a) (.ref s4.heap.objs.size)) (EP X pins σ Q) X.xe { s4 with heap := s4.heap.push { cls := .type "slice", data := .fields #[.none, .none, vs] } }
  refine tail_any (ops := [.ref a, .ref s4.heap.objs.size]) ht.typeIs (PyProof.Rows.slot_tuple_getitem.lookup) ?_ (by with_unfolding_all rfl)
  refine getItem_tuple_rev ht (Heap.IsSliceOf.new _ .none .none vs) ps ?_ (by rw [List.size_toArray]; omega)
  refine ⟨.ref _, _, I5.laid (t' := s4.toks) (o := .tup xs.reverse) (fun b ob q => Heap.get?_push_of_some _ q) (Nat.le_refl _) ?_, rfl, q _ (I5.hok.fresh (Nat.le_refl _))⟩
  exact ⟨by rw [List.length_reverse]; exact hz, _, r.reverse, ⟨_, Heap.get?_push_size _ rfl, rfl, _, rfl⟩⟩
end
/-! ### comprehensions over a dict of plans; with a test -/
theorem lc_pdI {d : Addr} {ep : Nat} {xs : List (PK × Addr × Addr)} {g : TG} {te : TE} {vs : List Nat} {σ : L2.St} {H1 : Hp} {D : Addr} {Qd : Hp → Prop} (hz : xs.length ≤ 1000000) (J : Nat → List V → Hp → Prop) (h0 : J 0 [] (upd H1 D (.lst [])))
    (hl : ∀ i acc H, i ≤ xs.length → H D = some (.lst acc) → J i acc H → H d = some (PD d ep xs) ∧ (d == sysModules) = false)
    (hs : ∀ (i : Nat) (e : PK × Addr × Addr) (acc : List V) (H : Hp), xs[i]? = some e → acc.length = i → H D = some (.lst acc) → J i acc H → ∀ R : VK, (∀ y H4, H4 D = some (.lst acc) → J (i + 1) (acc ++ [y]) (upd H4 D (.lst (acc ++ [y]))) → R y H4) →
      g (.ref e.2.1) (wipe σ vs) H fun σ2 H2 => wipe σ2 vs = wipe σ vs ∧ te σ2 H2 R)
    (hd : ∀ acc H, acc.length = xs.length → H D = some (.lst acc) → J xs.length acc H → Qd H) :
    ∃ W : Nat → Nat → Hp → Prop, (∃ m, W 0 m (upd H1 D (.lst []))) ∧ ∀ i m H, W i m H →
      ((ItP d ep xs).stop i H ∧ Qd H) ∨ ((ItP d ep xs).go i H ∧ ∃ Nx : Hp → Prop, (∀ H', Nx H' → ∃ m', m' < m ∧ W (i + 1) m' H') ∧ ∀ x H', (ItP d ep xs).yld i H x H' → g x (wipe σ vs) H' fun σ2 H2 => wipe σ2 vs = wipe σ vs ∧ tYes σ2 H2 fun b H3 =>
        if b = true then te σ2 H3 fun y H4 => ∃ acc, H4 D = some (.lst acc) ∧ acc.length < sizeLine ∧ Nx (upd H4 D (.lst (acc ++ [y]))) else Nx H3) := by
  refine ⟨fun i m H => m = xs.length - i ∧ i ≤ xs.length ∧ ∃ acc, acc.length = i ∧ H D = some (.lst acc) ∧ J i acc H, ⟨xs.length, by simp, Nat.zero_le _, [], rfl, upd_same, h0⟩, ?_⟩
  rintro i m H ⟨rfl, hi, acc, hac, hD, hJ⟩
  have q := hl i acc H hi hD hJ
  by_cases hlt : i < xs.length
  · refine .inr ⟨⟨q, hlt⟩, fun H' => ∃ ac2, ac2.length = i + 1 ∧ H' D = some (.lst ac2) ∧ J (i + 1) ac2 H', fun H' p' => ⟨xs.length - (i + 1), by omega, rfl, hlt, p'⟩, fun x H' y => ?_⟩
    obtain ⟨e, e', hy, rfl⟩ := y
    subst e
    exact hs i e' acc _ hy hac hD hJ (fun y H4 => ∃ acc, H4 D = some (.lst acc) ∧ acc.length < sizeLine ∧ ∃ ac2, ac2.length = i + 1 ∧ (upd H4 D (.lst (acc ++ [y]))) D = some (.lst ac2) ∧ J (i + 1) ac2 (upd H4 D (.lst (acc ++ [y])))) (fun y H4 e j => ⟨acc, e, by rw [hac, sizeLine_eq]; omega, acc ++ [y], by simp [hac], upd_same, j⟩)
  · have e : i = xs.length := by omega
    subst e
    exact .inl ⟨⟨q, Nat.le_refl _⟩, hd acc H hac hD hJ⟩
/-- [x for x in xs if p x] -/
theorem lc_tupFil {K : PySem.W.Frag} {a : Addr} {xs : List V} {g : TG} {tt : TT} {te : TE} {vs : List Nat} {σ : L2.St} {H1 : Hp} {D : Addr} {Qd : Hp → Prop} (p : V → Bool) (hn : H1 D = none) (hz : xs.length ≤ 1000000) (hS : SqT K H1 a xs)
    (hs : ∀ (i : Nat) (x : V) (H : Hp), xs[i]? = some x → Same H1 H → ∀ (R1 : VK) (R2 : Hp → Prop), (p x = true → R1 x H) → (p x = false → R2 H) → g x (wipe σ vs) H fun σ2 H2 => wipe σ2 vs = wipe σ vs ∧ tt σ2 H2 fun b H3 => if b = true then te σ2 H3 R1 else R2 H3)
    (hd : ∀ H, Same H1 H → H D = some (.lst (xs.filter p)) → Qd H) :
    ∃ W : Nat → Nat → Hp → Prop, (∃ m, W 0 m (upd H1 D (.lst []))) ∧ ∀ i m H, W i m H →
      ((Itt K a).stop i H ∧ Qd H) ∨ ((Itt K a).go i H ∧ ∃ Nx : Hp → Prop, (∀ H', Nx H' → ∃ m', m' < m ∧ W (i + 1) m' H') ∧ ∀ x H', (Itt K a).yld i H x H' → g x (wipe σ vs) H' fun σ2 H2 => wipe σ2 vs = wipe σ vs ∧ tt σ2 H2 fun b H3 =>
        if b = true then te σ2 H3 fun y H4 => ∃ acc, H4 D = some (.lst acc) ∧ acc.length < sizeLine ∧ Nx (upd H4 D (.lst (acc ++ [y]))) else Nx H3) := by
  refine lc_tup (xs := xs) (fun i H => H D = some (.lst ((xs.take i).filter p)) ∧ Same H1 H) ⟨upd_same, Same.upd hn⟩ (fun i H hi h => sameT h.2 hS) (fun i x H hx h => ?_) (fun H h => ?_)
  · obtain ⟨hD, e⟩ := h
    have hi := (List.getElem?_eq_some_iff.mp hx).1
    refine hs i x H hx e (fun y H4 => ∃ acc, H4 D = some (.lst acc) ∧ acc.length < sizeLine ∧ (upd H4 D (.lst (acc ++ [y]))) D = some (.lst ((xs.take (i + 1)).filter p)) ∧ Same H1 (upd H4 D (.lst (acc ++ [y])))) (fun H4 => H4 D = some (.lst ((xs.take (i + 1)).filter p)) ∧ Same H1 H4) (fun hp => ?_) (fun hp => ?_)
    · refine ⟨_, hD, ?_, ?_, newL hn e⟩
      · have h1 := List.length_filter_le p (xs.take i)
        rw [List.length_take] at h1
        rw [sizeLine_eq]
        omega
      · rw [upd_same, List.take_add_one, hx, List.filter_append]
        simp [hp]
    · refine ⟨?_, e⟩
      rw [hD, List.take_add_one, hx, List.filter_append]
      simp [hp]
  · refine hd H h.2 ?_
    rw [h.1, List.take_length]
end Sp
namespace Sp
open PySem PySem.Spec PyProof.Rows L2
def fIsB : R2 := fun x y H Q => match x, y with
  | .bl a, .bl b => Q (.bl (decide (a = b))) H
  | _, _ => False
def fNotB : R2 := fun x y H Q => match x, y with
  | .bl a, .bl b => Q (.bl (!decide (a = b))) H
  | _, _ => False
section
variable {X : Cx}
theorem o_isB : OpR X (compareOp .Is) fIsB := OpR.imp op_isBl fun x y H Q h => by
  cases x <;> cases y <;> first
    | exact h.elim
    | exact ⟨_, _, rfl, rfl, h⟩
theorem o_notB : OpR X (compareOp .IsNot) fNotB := OpR.imp op_notBl fun x y H Q h => by
  cases x <;> cases y <;> first
    | exact h.elim
    | exact ⟨_, _, rfl, rfl, h⟩
def tCallK0 (mm : Nat) (sp : L2.Sp) (gV : List V → List V → List V) (E : XK) (tk : TA) : TE := fun σ H Q => tk σ H fun zs H2 => zs.length = mm ∧ sp (gV [] zs) H2 Q E
theorem e_callK0 {CX : CXT} {k : Nat} {f : Addr} {fd : FuncData} {ps ks : List Str} {sp : L2.Sp} {E : XK} {x : Str} {p pos : Pos} {kws : List Keyword} {tk : TA} {g : List Value → List Value → List Value} {gV : List V → List V → List V} (F : FnOk X.prog X.w X.K X.mg X.base CX k f fd ps sp) (hr : Room k X.A) (hg : Gl X x) (hm : X.mg x = some (.ref f)) (hk : PySem.W.keepIn X.K (.ref f) = true) (hb : KBn X.K fd ps 0 ks g gV) (hx : Passes CX X E) (hkw : L2.PK X kws tk)
    (hall : (backToKw pos (keywordEach kws X.env)).all (·.1.isSome) = true := by rfl) (hks : (backToKw pos (keywordEach kws X.env)).filterMap (·.1) = ks := by rfl) (hdb : (x == ("__debug__" : Str)) = false := by decide)
    (hpl : ((backTo pos (starEach [] X.env)).any (·.1) || (backToKw pos (keywordEach kws X.env)).any (·.1.isNone)) = false := by rfl) :
    PE X (.Call (.Name x p) [] kws pos) (tCallK0 ks.length sp gV E tk) := by
  refine ⟨fun pins s σ H Q I h => wpAny_Call_Name_kw (ld_glob I hg hm (PySem.W.callWith_KW0 (h₀ := X.base) I.ok.mod.kin hk hall (thn (hkw.run pos pins s σ H _ I h) fun ws s2 ⟨zs, H2, I2, rz, l2, q2⟩ => ⟨I2.kIn, ?_⟩) hpl) hdb)⟩
  rw [hks]
  exact run_fnN (us := []) (vs := []) F hr hb hx I2 .nil rz rfl l2 q2
/-- repr of a truth -/
def fReprB : List V → Hp → VK → Prop := fun xs H Q => on1 xs fun x => match x with
  | .bl b => Q (.str (if b then "True" else "False")) H
  | _ => False
theorem c_reprB : CallR X (.builtin "repr") fReprB := fun pins s σ H xs us Q I r h => by
  obtain ⟨x, rfl, h⟩ := on1_ex h
  cases x with
  | bl b =>
    obtain ⟨u, rfl, rx⟩ := vals1 r
    cases (show u = Value.bool b from rx)
    exact PySem.P.repr_of_bool ⟨.str _, H, I.tok _, ⟨_, rfl⟩, h⟩
  | _ => exact h.elim
end
end Sp
namespace Sp
open PySem PySem.Spec PyProof.Rows L2
theorem tuple_mul1 (l : Addr) (items : Array Value) (n : Nat) (dd : Option Addr) (sl : Array (Option Value)) (u : Tok) :
    Meets (Builtin.«tuple.__mul__» ⟨[.ref l, .int 1 u], []⟩) (fun _ R s => s.heap.get? l = some { cls := .type "tuple", dict := dd, data := .seq items n, slots := sl } ∧ R (.ok (.ret (Value.ref l))) s) :=
  .of_wp fun prog w A R s h => by
    obtain ⟨hp, g, d, tk, os⟩ := s
    obtain ⟨hl, h⟩ := h
    have f1 := AutoSeq1.idx_int
    have c1 : (items.isEmpty || (1 : Int) == 1) = true := by simp
    wp_walk using wpAny_loadPart' hl
    repeat (first
      | (refine wpAny_ite_true (decide_eq_true c1) ?_; wp_walk using wpAny_loadPart' hl))
    exact ⟨_, rfl, h⟩
theorem tuple_mul0 (l : Addr) (items : Array Value) (n : Nat) (dd : Option Addr) (sl : Array (Option Value)) (u : Tok) (hi : items.isEmpty = false) :
    Meets (Builtin.«tuple.__mul__» ⟨[.ref l, .int 0 u], []⟩) (fun _ R s => s.heap.get? l = some { cls := .type "tuple", dict := dd, data := .seq items n, slots := sl } ∧
      R (.ok (.ret (Value.ref s.heap.objs.size))) { s with heap := s.heap.push { cls := Value.type "tuple", data := Data.seq #[] }, toks := s.toks }) :=
  .of_wp fun prog w A R s h => by
    obtain ⟨hp, g, d, tk, os⟩ := s
    obtain ⟨hl, h⟩ := h
    have f1 := AutoSeq1.idx_int
    have c1 : (items.isEmpty || (0 : Int) == 1) = false := by rw [hi]; rfl
    have c2 : (decide ((0 : Int) ≤ 0) || items.isEmpty) = true := by simp
    wp_walk using wpAny_loadPart' hl
    repeat (first
      | (refine wpAny_ite_false (decide_eq_false (by rw [c1]; exact Bool.false_ne_true)) ?_; wp_walk using wpAny_loadPart' hl)
      | (refine wpAny_ite_true (decide_eq_true c2) ?_; wp_walk using wpAny_loadPart' hl))
    exact ⟨_, rfl, h⟩
def fRepT (K : PySem.W.Frag) : R2 := fun x y H Q => onRef x fun l => onInt y fun k => ∃ xs, SqT K H l xs ∧ xs ≠ [] ∧ 0 ≤ k ∧ k ≤ 1000 ∧ xs.length ≤ 1000 ∧ (k = 1 → Q (.ref l) H) ∧ (k ≠ 1 → ∀ p, H p = none → Q (.ref p) (upd H p (.tup (List.replicate k.toNat xs).flatten)))
def fRepL : R2 := fun x y H Q => onRef x fun l => onInt y fun k => ∃ xs, H l = some (.lst xs) ∧ -(2 ^ 63) ≤ k ∧ k < 2 ^ 63 ∧ xs.length * k.toNat ≤ sizeLine ∧ ∀ p, H p = none → Q (.ref p) (upd H p (.lst (List.replicate k.toNat xs).flatten))
section
variable {X : Cx}
theorem o_repL : OpR X (binaryOp .Mult) fRepL := OpR.imp op_rep fun x y H Q h => by
  obtain ⟨l, rfl, h⟩ := onRef_ex h
  obtain ⟨k, rfl, xs, h1⟩ := onInt_ex h
  exact ⟨l, k, xs, rfl, rfl, h1⟩
theorem o_repT : OpR X (binaryOp .Mult) (fRepT X.K) := by
  intro pins s σ H x y v u Q I rx ry h
  obtain ⟨l, rfl, h⟩ := onRef_ex h
  obtain ⟨k, rfl, xs, hT, hne, h1, h2, hz, q1, q2⟩ := onInt_ex h
  by_cases hk : 2 ≤ k
  · exact op_repT pins s σ H _ _ v u Q I rx ry ⟨l, k, xs, rfl, rfl, hT, hne, hk, h2, hz, q2 (by omega)⟩
  cases rx
  obtain ⟨t, rfl⟩ := ry
  obtain ⟨its, r, ⟨⟨cls, dd, data, sl⟩, ho, hc, n, hd⟩, hs⟩ := I.tuple hT
  simp only at hc hd
  subst hc hd
  have hle : its.length = xs.length := r.length.symm
  have hn : its ≠ [] := fun e => hne (by
    rw [e] at hle
    exact List.eq_nil_of_length_eq_zero hle.symm)
  have hi : its.toArray.isEmpty = false := by
    cases its with
    | nil => exact absurd rfl hn
    | cons a b => rfl
  have hk01 : k = 0 ∨ k = 1 := by omega
  rcases hk01 with rfl | rfl
  · refine wpAny_binaryOp_repeat_ref (T := "tuple") (U := "int") (by decide) ⟨_, ho, rfl⟩ (fun s' => typeIs_int s' 0 t) noFill_tuple_mul F.fills_int_mul F.slot_int_rmul repeat_tuple F.slot_int_index.lookup
      (call_meets F.slot_int_rmul (typeIs_int s 0 t) F.entry_int_rmul (F.args_int_rmul_2 _ _) (int_rmul_tuple 0 t l its.toArray n dd sl)
        ⟨ho, rfl, ⟨_, ho, rfl⟩, call_meets F.slot_tuple_mul ⟨_, ho, rfl⟩ F.entry_tuple_mul (F.args_tuple_mul_2 _ _) (tuple_mul0 l its.toArray n dd sl t hi) ⟨ho, ?_⟩⟩)
    refine ⟨.ref s.heap.objs.size, _, I.laid (t' := s.toks) (o := .tup []) (fun b ob q => Heap.get?_push_of_some _ q) (Nat.le_refl _) ?_, rfl, q2 (by decide) _ (I.hok.fresh (Nat.le_refl _))⟩
    exact ⟨Nat.zero_le _, [], .nil, IsTup.new _ _⟩
  · refine wpAny_binaryOp_repeat_ref (T := "tuple") (U := "int") (by decide) ⟨_, ho, rfl⟩ (fun s' => typeIs_int s' 1 t) noFill_tuple_mul F.fills_int_mul F.slot_int_rmul repeat_tuple F.slot_int_index.lookup
      (call_meets F.slot_int_rmul (typeIs_int s 1 t) F.entry_int_rmul (F.args_int_rmul_2 _ _) (int_rmul_tuple 1 t l its.toArray n dd sl)
        ⟨ho, rfl, ⟨_, ho, rfl⟩, call_meets F.slot_tuple_mul ⟨_, ho, rfl⟩ F.entry_tuple_mul (F.args_tuple_mul_2 _ _) (tuple_mul1 l its.toArray n dd sl t) ⟨ho, ?_⟩⟩)
    exact ⟨.ref l, H, I, rfl, q1 rfl⟩
end
end Sp
namespace PySem.XE
open PySem Builtin
section
variable {prog : Program} {w : World} {A : Around} {E : Value → Shared → Prop} {R : Result → Shared → Prop} {h : Heap} {g : Array GenState} {d : Drawn} {t : Nat} {os : OsState}
variable {nm q : Str} {C N : Addr} {bs bm tl : List Value} {hd : Bool} {sn : List Str} {sub : List Value} {ab : Bool} {col : Option Bool} {dd : Option Addr} {k0 k1 k2 k3 k5 : Option Value} {B nw it : String}
/-- C.__new__ may be called with anything -/
theorem x_newOk (F : ExcBaseFacts B nw it tl) (hT : ∀ Y : String, bm.contains (.type Y) = tl.contains (.type Y)) {rest : List Value} {kw : List (Str × Value)} {Q : Unit → Shared → Prop}
    (hC : h.get? C = some (excClassObj nm q C N bs bm hd sn sub ab col dd k0 k1 k2 k3 k5 nw)) (hq : Q () ⟨h, g, d, t, os⟩) : wpAny (model prog w) A (checkBuiltinCall nw ⟨.ref C :: rest, kw⟩) Q E ⟨h, g, d, t, os⟩ := by
  have i1 : (Value.ref C :: bm).contains (.type B) = true := by rw [List.contains_cons, hT, F.hasB, Bool.or_true]
  have i2 := F.noStar
  simp only [checkBuiltinCall, F.newKind, F.newSplit, F.newRow]
  repeat (first | (refine wpAny_isSubtype_exc hC ?_; rw [i1]) | refine wpAny_staticBase_exc hC ?_ | refine wpAny_madeBy_exc hC ?_ | refine wpAny_loadPart_at hC ?_ | simp only [bne_self_eq_false, Bool.false_eq_true, if_false] | wp_step)
  exact hq
theorem x_tcOk {M : Model} {rest : List Value} {kw : List (Str × Value)} {Q : Unit → Shared → Prop} (hC : h.get? C = some (excClassObj nm q C N bs bm hd sn sub ab col dd k0 k1 k2 k3 k5 nw))
    (hq : Q () ⟨h, g, d, t, os⟩) : wpAny M A (checkBuiltinCall "type.__call__" ⟨.ref C :: rest, kw⟩) Q E ⟨h, g, d, t, os⟩ := by
  have f3 := tc_sub
  have f4 : (⟨h, g, d, t, os⟩ : Shared).TypeIs (.ref C) "type" := ⟨_, hC, rfl⟩
  simp only [checkBuiltinCall, tc_kind, tc_split]
  repeat (any_goals (first | assumption | with_reducible refine wpAny_map ?_ | with_reducible refine wpAny_onRaise ?_ | with_reducible refine wpAny_loadPart_at hC ?_ | wp_step))
theorem x_new (F : ExcBaseFacts B nw it tl) (hT : ∀ Y : String, bm.contains (.type Y) = tl.contains (.type Y)) {rest : List Value} {kw : List (Str × Value)}
    (hC : h.get? C = some (excClassObj nm q C N bs bm hd sn sub ab col dd k0 k1 k2 k3 k5 nw)) (hr : rest.length ≤ sizeLine)
    (hq : R (.ok (.ret (.ref (h.objs.size + 1)))) ⟨(h.push (PySem.W.kdv_tup rest)).push (PySem.HandSPX.excO C h.objs.size), g, d, t, os⟩) :
    codeAny (model prog w) A (.builtin nw ⟨.ref C :: rest, kw⟩) R ⟨h, g, d, t, os⟩ := by
  have i0 := F.ends
  have i1 : (Value.ref C :: bm).contains (.type B) = true := by rw [List.contains_cons, hT, F.hasB, Bool.or_true]
  have i2 : (Value.ref C :: bm).contains (.type "AttributeError") = false := by rw [List.contains_cons, hT, F.noAttr]; rfl
  have i3 : (Value.ref C :: bm).contains (.type "NameError") = false := by rw [List.contains_cons, hT, F.noName]; rfl
  refine codeAny_builtinAt F.entry ?_
  unfold Builtin.«BaseException.__new__»
  refine wpAt_bind ?_
  show wpAt _ _ _ (stack >>= _) _ _ _
  refine wpAt_bind (wpAt_stack fun _ _ => wpAt_of_wpAny ?_)
  wp_walk
  refine wpAt_of_wpAny ?_
  rw [F.owner]
  repeat (first | with_reducible refine wpAny_madeHere_exc F.canon hC ?_ | (with_reducible refine wpAny_isSubtype_exc hC ?_; first | rw [i1] | rw [i2] | rw [i3]) | with_reducible refine wpAny_loadPart_at hC ?_ | wp_step)
  show R _ _
  rw [Heap.size_push]
  exact hq
/-- C(..): __new__, then its own __init__ with the same arguments -/
theorem x_call (F : ExcBaseFacts B nw it tl) (hT : ∀ Y : String, bm.contains (.type Y) = tl.contains (.type Y)) {rest : List Value} {kw : List (Str × Value)} {fI : Addr}
    (hC : h.get? C = some (excClassObj nm q C N bs bm hd sn sub ab col dd k0 k1 k2 k3 k5 nw)) (hr : rest.length ≤ sizeLine)
    (hi : PySem.W.Looks (model prog w) h (typeLookup (.ref C) "__init__") (some (.ref fI))) (hb : ∀ z, PySem.W.Looks (model prog w) h (bindSpecial (.ref fI) z) (.ref fI, [z]))
    (hq : codeAny (model prog w) (A.under (.builtin "type.__call__" ⟨.ref C :: rest, kw⟩)) (.call (.ref fI) ⟨.ref (h.objs.size + 1) :: rest, kw⟩) (PySem.W.InitBack (h.objs.size + 1) R)
      ⟨(h.push (PySem.W.kdv_tup rest)).push (PySem.HandSPX.excO C h.objs.size), g, d, t, os⟩) :
    codeAny (model prog w) A (.call (.ref C) ⟨rest, kw⟩) R ⟨h, g, d, t, os⟩ := by
  have f1 := tc_lookup
  have f2 := tc_bind (.ref C)
  have f3 : (⟨h, g, d, t, os⟩ : Shared).TypeIs (.ref C) "type" := ⟨_, hC, rfl⟩
  have kk : ∀ b o, h.get? b = some o → ((h.push (PySem.W.kdv_tup rest)).push (PySem.HandSPX.excO C h.objs.size)).get? b = some o := fun b o z => Heap.get?_push_of_some _ (Heap.get?_push_of_some _ z)
  have g1 : ((h.push (PySem.W.kdv_tup rest)).push (PySem.HandSPX.excO C h.objs.size)).get? (h.objs.size + 1) = some (PySem.HandSPX.excO C h.objs.size) := by heap_get
  have i4 : (Value.ref C :: bm).contains (.ref C) = true := by simp
  refine codeAny_of_tree ?_
  show wpAny _ _ (callAny (.ref C) _) _ _ _
  repeat (any_goals (first | assumption | with_reducible refine wpAny_loadPart_at hC ?_ | wp_step))
  refine ⟨rfl, ?_⟩
  refine codeAny_call_builtin_at (Code.quiet_builtin _ (by decide +kernel)) entry_typeCall ?_
  refine x_tcOk hC ?_
  unfold Builtin.«type.__call__»
  repeat (first | with_reducible refine wpAny_loadPart_at hC ?_ | with_reducible refine wpAny_madeBy_exc hC ?_ | wp_step)
  refine codeAny_call_builtin_code (Code.quiet_builtin _ F.quiet) (x_newOk F hT hC ?_)
  refine x_new F hT hC hr ?_
  show wpAny _ _ _ _ _ _
  have hC1 := kk _ _ hC
  have j1 := hi.keeps kk
  have j2 := (hb (.ref (h.objs.size + 1))).keeps kk
  unfold isInstance
  repeat (first | with_reducible refine wpAny_loadPart_at g1 ?_ | wp_step)
  refine wpAny_isSubtype_exc hC1 ?_
  rw [i4]
  repeat (first | with_reducible refine wpAny_loadPart_at g1 ?_ | wp_step)
  show wpAny _ _ (typeLookup (.ref C) _) _ _ _
  refine j1.at (wpAny_holding (wpAny_bind (j2.at (wpAny_bind (wpAny_call (codeAny_mono hq fun r s' z => ?_))))))
  cases r with
  | error e => exact z
  | ok fl =>
    cases fl with
    | ret v =>
      obtain ⟨rfl, z⟩ := z
      wp_walk
      exact z
    | next => exact z.elim
    | brk => exact z.elim
    | cont => exact z.elim
end
end PySem.XE
namespace Sp
open PySem PySem.Spec PyProof.Rows L2
/-- the built-in class above an own class of errors -/
def XB (tl : List Value) (nw : String) : Prop := ∃ B it, ExcBaseFacts B nw it tl ∧ StoreFacts B tl "object.__setattr__" "object"
abbrev tlOf (B : String) : List Value := [.type B, .type "Exception", .type "BaseException", .type "object"]
theorem xb_V : XB (tlOf "ValueError") "ValueError.__new__" := ⟨_, _, PySem.F.excBase_ValueError, PySem.F.store_ValueError⟩
theorem xb_L : XB (tlOf "LookupError") "LookupError.__new__" := ⟨_, _, PySem.F.excBase_LookupError, PySem.F.store_LookupError⟩
theorem xb_A : XB (tlOf "ArithmeticError") "ArithmeticError.__new__" := ⟨_, _, PySem.F.excBase_ArithmeticError, PySem.F.store_ArithmeticError⟩
structure XCl (K : PySem.W.Frag) (C : Addr) (tl : List Value) (nw : String) : Prop where
  q : PySem.W.excInitIn K C tl nw = true
  ov : PySem.W.excOver K C tl = true
  hd : PySem.W.hasDictIn K C = true
  sa : PySem.W.findIn K (.ref C) "__setattr__" = some (some (.builtin "object.__setattr__"))
  ga : PySem.W.findIn K (.ref C) "__getattribute__" = some (some (.builtin "BaseException.__getattribute__"))
  gt : PySem.W.findIn K (.ref C) "__getattr__" = some none
  ex : PySem.W.subIn K (.ref C) (.type "BaseException") = some true
  ca : PySem.W.findIn K (.ref C) "__class__" = some (some (.builtin "object.__class__"))
  cg : PySem.W.specialIn K (.builtin "object.__class__") "__get__" = some (some (.builtin "getset_descriptor.__get__"))
  ct : PySem.W.takesIn K (.builtin "object.__class__") = some true
  mo : PySem.W.mroIn K C (.type "object") = some true
  kC : PySem.W.keepIn K (.ref C) = true
def xclB (tl : List Value) (nw : String) (K : PySem.W.Frag) (C : Addr) : Bool :=
  PySem.W.excInitIn K C tl nw && (PySem.W.excOver K C tl && (PySem.W.hasDictIn K C && (decide (PySem.W.findIn K (.ref C) "__setattr__" = some (some (.builtin "object.__setattr__"))) &&
  (decide (PySem.W.findIn K (.ref C) "__getattribute__" = some (some (.builtin "BaseException.__getattribute__"))) && (decide (PySem.W.findIn K (.ref C) "__getattr__" = some none) && (decide (PySem.W.subIn K (.ref C) (.type "BaseException") = some true) &&
  (decide (PySem.W.findIn K (.ref C) "__class__" = some (some (.builtin "object.__class__"))) && (decide (PySem.W.specialIn K (.builtin "object.__class__") "__get__" = some (some (.builtin "getset_descriptor.__get__"))) && (decide (PySem.W.takesIn K (.builtin "object.__class__") = some true) &&
  (decide (PySem.W.mroIn K C (.type "object") = some true) && PySem.W.keepIn K (.ref C)))))))))))
theorem xclB_ok {tl : List Value} {nw : String} {K : PySem.W.Frag} {C : Addr} (h : xclB tl nw K C = true) : XCl K C tl nw := by
  obtain ⟨h1, h⟩ := He.ba h
  obtain ⟨h2, h⟩ := He.ba h
  obtain ⟨h3, h⟩ := He.ba h
  obtain ⟨h4, h⟩ := He.ba h
  obtain ⟨h5, h⟩ := He.ba h
  obtain ⟨h6, h⟩ := He.ba h
  obtain ⟨h7, h⟩ := He.ba h
  obtain ⟨h8, h⟩ := He.ba h
  obtain ⟨h9, h⟩ := He.ba h
  obtain ⟨h10, h⟩ := He.ba h
  obtain ⟨h11, h12⟩ := He.ba h
  exact ⟨h1, h2, h3, of_decide_eq_true h4, of_decide_eq_true h5, of_decide_eq_true h6, of_decide_eq_true h7, of_decide_eq_true h8, of_decide_eq_true h9, of_decide_eq_true h10, of_decide_eq_true h11, h12⟩
def XC (K : PySem.W.Frag) (C : Addr) : Prop := ∃ tl nw, XCl K C tl nw ∧ XB tl nw
/-- an error that is held: its class, its attributes -/
def XAt (H : Hp) (a C : Addr) (fs : List (Str × V)) : Prop := (H a = some (exo a C none) ∧ fs = []) ∨ ∃ d, H a = some (exo a C (some d)) ∧ H d = some (exd d fs)
def xiB (n : Str) (K : PySem.W.Frag) : Bool := decide (PySem.W.findIn K (.ref (He.ga K n)) "__init__" = some (some (.ref (He.ma K (He.ga K n) "__init__")))) && decide (PySem.W.typeIn K (.ref (He.ma K (He.ga K n) "__init__")) = some (.type "function"))
def xnB (n a : Str) (K : PySem.W.Frag) : Bool := decide (PySem.W.takerIn K (He.ga K n) a = some none) && decide (PySem.W.findIn K (.ref (He.ga K n)) a = some none)
theorem xnB_ok {n a : Str} {K : PySem.W.Frag} (h : xnB n a K = true) : PySem.W.takerIn K (He.ga K n) a = some none ∧ PySem.W.findIn K (.ref (He.ga K n)) a = some none :=
  ⟨of_decide_eq_true (He.ba h).1, of_decide_eq_true (He.ba h).2⟩
theorem boot_ValueError : bootBuiltins "ValueError" = some (.type "ValueError") := PyProof.Rows.Boot.«ValueError»
theorem boot_LookupError : bootBuiltins "LookupError" = some (.type "LookupError") := PyProof.Rows.Boot.«LookupError»
theorem boot_ArithmeticError : bootBuiltins "ArithmeticError" = some (.type "ArithmeticError") := PyProof.Rows.Boot.«ArithmeticError»
section
variable {X : Cx} {pins : List (Addr × Obj)} {σ : L2.St} {H : Hp} {s : Shared} {a C dx : Addr} {f : Str} {y : V} {u : Value} {fs : List (Str × V)} {Q : Unit → Shared → Prop} {E : Value → Shared → Prop} {A : Around}
theorem x_first (T : XC X.K C) (I : Inv X pins σ H s) (e : H a = some (exo a C none)) (hno : PySem.W.takerIn X.K C f = some none) (ry : RelV y u)
    (h : ∀ dx s', H dx = none → dx ≠ a → Inv X pins σ (upd (upd H dx (exd dx [(f, y)])) a (exo a C (some dx))) s' → Q () s') : wpAny (model X.prog X.w) A (setAttr (.ref a) f u) Q E s := by
  obtain ⟨tl, nw, T, B, it, _, SF⟩ := T
  obtain ⟨t1, ho⟩ := exo_at I.hok e
  obtain ⟨hp, g, d, t, os⟩ := s
  refine PySem.W.set_plain I.kIn (ox := { cls := .ref C, dict := none, data := .fields #[.ref t1, .none, .none, .none, .bool false, .none] }) (od := none) ⟨ho, rfl, rfl, trivial⟩ T.sa ?_
  refine PySem.W.osa_openX (od := none) SF I.kIn ⟨ho, rfl, rfl, trivial⟩ T.ov hno fun b => ?_
  obtain ⟨cd, hc, hd'⟩ := PySem.W.any_some T.hd
  refine wpAny_bind (wpAny_pure (wpAny_bind (PySem.W.instanceDict_exc ho (PySem.W.looks_clsIn I.kIn hc) hd' ?_)))
  show wpAny _ _ (Builtin.ObjectAttr.storeInDict hp.objs.size (.str f t) f u) _ _ _
  have hna : a ≠ hp.objs.size := Nat.ne_of_lt (Heap.lt_size ho)
  have hnd : H hp.objs.size = none := I.hok.fresh (Nat.le_refl _)
  have gd : (hp.push (PySem.W.dictOf [] 0)).get? hp.objs.size = some (PySem.W.dictOf [] 0) := Heap.get?_push_size hp rfl
  have ns1 : (hp.push (PySem.W.dictOf [] 0)).Ns1 hp.objs.size (fun _ => none) := Heap.Ns1.of_empty ⟨_, #[], _, gd, rfl, fun e he => absurd he (by simp), fun _ => rfl⟩
  have I1 : Inv X pins σ (upd H hp.objs.size (exd hp.objs.size [])) ⟨hp.push (PySem.W.dictOf [] 0), g, d, t, os⟩ :=
    I.laid (t' := t) (a := hp.objs.size) (o := exd hp.objs.size []) (h' := hp.push (PySem.W.dictOf [] 0)) (fun b o z => Heap.get?_push_of_some _ z) (Nat.le_refl _) (exd_ok ns1 fun _ => trivial)
  have ga : (hp.push (PySem.W.dictOf [] 0)).get? a = some _ := Heap.get?_push_of_some _ ho
  have ga2 := Heap.get?_update_self (fun o : Obj => { o with dict := some hp.objs.size }) ga rfl
  have ea : (upd H hp.objs.size (exd hp.objs.size [])) a = some (exo a C none) := by rw [upd_ne hna]; exact e
  have I2 := I1.write (t' := t) (x := a) (e := a) (o := exo a C (some hp.objs.size)) (h' := (hp.push (PySem.W.dictOf [] 0)).update a fun o => { o with dict := some hp.objs.size }) (by rw [ea]; exact True.intro) (.inl rfl)
    (fun b o hb z => (Heap.get?_update_ne _ _ _ _ hb).trans z) ⟨_, ga2⟩ (exo_ok ga2)
  have nsd : ((hp.push (PySem.W.dictOf [] 0)).update a fun o => { o with dict := some hp.objs.size }).Ns hp.objs.size (fun _ => none) :=
    ⟨_, #[], _, (Heap.get?_update_ne _ _ _ _ hna.symm).trans gd, rfl, fun e he => absurd he (by simp), fun _ => rfl⟩
  refine PySem.HandSPX.store_in_new nsd fun h' tk' hn hs => ?_
  have ed : (upd (upd H hp.objs.size (exd hp.objs.size [])) a (exo a C (some hp.objs.size))) hp.objs.size = some (exd hp.objs.size []) := by rw [upd_ne hna.symm, upd_same]
  have I3 := I2.write (t' := tk') (x := hp.objs.size) (e := hp.objs.size) (o := exd hp.objs.size [(f, y)]) (h' := h') (by rw [ed]; exact True.intro) (.inl rfl)
    (fun b o hb z => (hs.2 b hb).trans z) (by obtain ⟨o, _, _, z, _⟩ := hn; exact ⟨o, z⟩) (exd_ok hn (relO_put (fs := []) ry fun _ => trivial))
  refine h hp.objs.size _ hnd hna.symm ?_
  have eH : upd (upd (upd H hp.objs.size (exd hp.objs.size [])) a (exo a C (some hp.objs.size))) hp.objs.size (exd hp.objs.size [(f, y)]) = upd (upd H hp.objs.size (exd hp.objs.size [(f, y)])) a (exo a C (some hp.objs.size)) := by
    funext b
    by_cases h1 : b = hp.objs.size
    · rw [h1, upd_same, upd_ne hna.symm, upd_same]
    · rw [upd_ne h1]
      by_cases h2 : b = a
      · rw [h2, upd_same, upd_same]
      · rw [upd_ne h2, upd_ne h2, upd_ne h1, upd_ne h1]
  rw [← eH]
  exact I3
theorem x_next (T : XC X.K C) (I : Inv X pins σ H s) (e : H a = some (exo a C (some dx))) (ed : H dx = some (exd dx fs)) (hl : fs.length ≤ 900) (hno : PySem.W.takerIn X.K C f = some none) (ry : RelV y u)
    (h : ∀ s', Inv X pins σ (upd H dx (exd dx ((f, y) :: fs))) s' → Q () s') : wpAny (model X.prog X.w) A (setAttr (.ref a) f u) Q E s := by
  obtain ⟨tl, nw, T, B, it, _, SF⟩ := T
  obtain ⟨t1, ho⟩ := exo_at I.hok e
  obtain ⟨mA, hns, rel⟩ := exd_at I.hok ed
  have hw := within_of rel
  obtain ⟨hp, g, d, t, os⟩ := s
  obtain ⟨oD, _, _, hoD, _, _⟩ := hns.count hw
  refine PySem.W.set_plain I.kIn (ox := { cls := .ref C, dict := some dx, data := .fields #[.ref t1, .none, .none, .none, .bool false, .none] }) (od := some oD) ⟨ho, rfl, rfl, hoD⟩ T.sa ?_
  refine PySem.W.osa_openX (od := some oD) SF I.kIn ⟨ho, rfl, rfl, hoD⟩ T.ov hno fun b => ?_
  obtain ⟨cd, hc, hd'⟩ := PySem.W.any_some T.hd
  refine wpAny_bind (wpAny_pure (wpAny_bind (wpAny_bind (wpAny_loadPart ho (wpAny_bind ((PySem.W.looks_clsIn I.kIn hc).at ?_))))))
  rw [hd']
  refine wpAny_pure (a := some dx) ?_
  show wpAny _ _ (Builtin.ObjectAttr.storeInDict dx (.str f t) f u) _ _ _
  refine PySem.OEX.store_in_old hns hw (by rw [List.length_map]; omega) fun h' tk' hn hs => ?_
  exact h _ (I.write (t' := tk') (x := dx) (e := dx) (o := exd dx ((f, y) :: fs)) (by rw [ed]; exact True.intro) (.inl rfl) (fun b o hb z => (hs.2 b hb).trans z) (by obtain ⟨o, _, _, z, _⟩ := hn; exact ⟨o, z⟩) (exd_ok hn (relO_put ry rel)))
end
/-- self.f = e -/
def tXst (K : PySem.W.Frag) (f : Str) (to te : TE) : TS := fun D σ H => te σ H fun y H1 => to σ H1 fun x H2 => onRef x fun a => ∃ C : Addr, XC K C ∧ PySem.W.takerIn K C f = some none ∧
  ((H2 a = some (exo a C none) ∧ ∀ dx, H2 dx = none → dx ≠ a → D.nx σ (upd (upd H2 dx (exd dx [(f, y)])) a (exo a C (some dx)))) ∨
    ∃ (dx : Addr) (fs : List (Str × V)), H2 a = some (exo a C (some dx)) ∧ H2 dx = some (exd dx fs) ∧ fs.length ≤ 900 ∧ D.nx σ (upd H2 dx (exd dx ((f, y) :: fs))))
/-- e.f -/
def tXat (K : PySem.W.Frag) (f : Str) (te : TE) : TE := fun σ H Q => te σ H fun x H1 => onRef x fun a => ∃ (C dx : Addr) (fs : List (Str × V)) (v : V), XC K C ∧ PySem.W.findIn K (.ref C) f = some none ∧ H1 a = some (exo a C (some dx)) ∧ H1 dx = some (exd dx fs) ∧ fs.lookup f = some v ∧ Q v H1
def clsW : V → Option Value
  | .ref a => some (.ref a)
  | .ty n => some (.type n)
  | _ => none
theorem clsW_ok {c : V} {cv u : Value} (h : clsW c = some cv) (r : RelV c u) : u = cv := by
  cases c with
  | ref a => exact Eq.trans (r : u = _) (Option.some.inj h)
  | ty n => exact Eq.trans (r : u = _) (Option.some.inj h)
  | _ => cases h
/-- isinstance(e, c) -/
def fIsX (K : PySem.W.Frag) : List V → Hp → VK → Prop := fun xs H Q => on2 xs fun x c => onRef x fun a => ∃ (C : Addr) (fs : List (Str × V)) (cv : Value) (b : Bool), XC K C ∧ XAt H a C fs ∧ clsW c = some cv ∧ PySem.W.kitOne K (.ref C) cv = some b ∧ Q (.bl b) H
/-- C(e, ..) -/
def tXMk (C : Addr) (sp : L2.Sp) (ta : TA) : TE := fun σ H Q => ta σ H fun vs H1 => vs.length ≤ 1000 ∧ ∀ a, H1 a = none → sp (.ref a :: vs) (upd H1 a (exo a C none)) (fun v H2 => v = .non ∧ Q (.ref a) H2) E0
/-- C(k = e, ..) -/
def tXMkK (C : Addr) (mm : Nat) (sp : L2.Sp) (gV : List V → List V → List V) (tk : TA) : TE := fun σ H Q => tk σ H fun zs H1 => zs.length = mm ∧ ∀ a, H1 a = none → sp (gV [.ref a] zs) (upd H1 a (exo a C none)) (fun v H2 => v = .non ∧ Q (.ref a) H2) E0
/-- C() -/
def tXMk0 (C : Addr) : TE := fun σ H Q => ∀ a, H a = none → Q (.ref a) (upd H a (exo a C none))
structure XM (K : PySem.W.Frag) (C fI : Addr) : Prop where
  xc : XC K C
  ini : PySem.W.findIn K (.ref C) "__init__" = some (some (.ref fI))
  fn : PySem.W.typeIn K (.ref fI) = some (.type "function")
theorem xiB_ok {n : Str} {K : PySem.W.Frag} {tl : List Value} {nw : String} (b : XB tl nw) (x : XCl K (He.ga K n) tl nw) (h : xiB n K = true) : XM K (He.ga K n) (He.ma K (He.ga K n) "__init__") :=
  ⟨⟨tl, nw, x, b⟩, of_decide_eq_true (He.ba h).1, of_decide_eq_true (He.ba h).2⟩
section
variable {X : Cx} {o e : Expr} {es : List Expr} {to te : TE} {ta tk : TA} {f x : Str} {p p' pos : Pos} {C fI : Addr} {CX : CXT} {k n : Nat} {fd : FuncData} {ps ks : List Str} {sp : L2.Sp} {kws : List Keyword} {g : List Value → List Value → List Value} {gV : List V → List V → List V}
theorem s_xst (ho : PE X o to) (he : PE X e te) (hs : swapsWith e (some (.Attribute o f p')) pos.line X.env = pure false := by rfl) : PS X (.Assign [.Attribute o f p'] e pos) (tXst X.K f to te) := by
  refine ⟨fun pins s σ H D I h => plainObj_wpAny_Assign_Attribute (thn (he.run pins s σ H _ I h) fun v s1 ⟨y, H1, I1, r1, q1⟩ => thn (ho.run pins s1 σ H1 _ I1 q1) fun u s2 ⟨x, H2, I2, r2, q2⟩ => ?_) hs⟩
  obtain ⟨a, rfl, C, T, hno, q⟩ := onRef_ex q2
  obtain rfl : u = Value.ref a := r2
  rcases q with ⟨ea, q⟩ | ⟨dx, fs, ea, ed, hl, q⟩
  · exact x_first T I2 ea hno r1 fun dx s' i1 i2 J => ⟨σ, _, J, q dx i1 i2⟩
  · exact x_next T I2 ea ed hl hno r1 fun s' J => ⟨σ, _, J, q⟩
theorem inst_x {pins : List (Addr × Obj)} {σ : L2.St} {H : Hp} {s : Shared} {a : Addr} {fs : List (Str × V)} (I : Inv X pins σ H s) (h : XAt H a C fs) : ∃ ox od, PySem.W.InstAt s.heap a ox C od := by
  rcases h with ⟨h, _⟩ | ⟨d, h, hd⟩
  · obtain ⟨t, ho⟩ := exo_at I.hok h
    exact ⟨_, none, ho, rfl, rfl, trivial⟩
  · obtain ⟨t, ho⟩ := exo_at I.hok h
    obtain ⟨mA, ⟨od, es, ep, hod, _⟩, _⟩ := exd_at I.hok hd
    exact ⟨_, some od, ho, rfl, rfl, hod⟩
theorem e_xat (he : PE X e te) (hb : attributeBase e f X.env (eval e X.env) = eval e X.env := by rfl) : PE X (.Attribute e f pos) (tXat X.K f te) := by
  refine ⟨fun pins s σ H Q I h => attr_of hb (thn (he.run pins s σ H _ I h) fun u s1 ⟨x, H1, I1, rx, q⟩ => ?_)⟩
  obtain ⟨a, rfl, C, dx, fs, v, ⟨tl, nw, T, _⟩, hno, ea, ed, l, q⟩ := onRef_ex q
  obtain rfl : u = Value.ref a := rx
  obtain ⟨t1, ho⟩ := exo_at I1.hok ea
  obtain ⟨mA, hns, hr⟩ := exd_at I1.hok ed
  obtain ⟨od, hod, hl⟩ := lookIn_ns hns
  obtain ⟨u, hu, ru⟩ := RelO.some_of (v := v) (o := mA f) (by rw [← l]; exact hr f)
  exact PySem.HandSPX.exc_get I1.kIn (ox := { cls := .ref C, dict := some dx, data := .fields #[.ref t1, .none, .none, .none, .bool false, .none] }) ⟨ho, rfl, rfl, hod⟩ T.ga T.gt T.ex (PySem.W.findObj_own T.hd hno rfl (by rw [hl, hu])) (handed_of ru) ⟨v, H1, I1.tok _, ru, q⟩
theorem c_isX : CallR X (.builtin "isinstance") (fIsX X.K) := by
  intro pins s σ H xs us Q I r h
  obtain ⟨x, c, rfl, h⟩ := on2_ex h
  obtain ⟨a, rfl, C, fs, cv, b, ⟨tl, nw, T, _⟩, hx, hc, e, q⟩ := onRef_ex h
  cases r with
  | cons rx rr =>
    cases rr with
    | cons rt rr =>
      cases rr
      cases rx
      have ec := clsW_ok hc rt
      subst ec
      obtain ⟨ox, od, J⟩ := inst_x I hx
      obtain ⟨cd, hcd, _⟩ := PySem.W.any_some T.hd
      exact PySem.W.kia_one (PySem.W.kitx_exc (by rw [hcd]; rfl) T.ga T.gt T.ex T.ca T.cg T.ct T.mo) I.kIn J e (fun z => nomatch z) fun tk => ⟨.bl b, H, I.kept (t' := tk) fun _ _ z => z, rfl, q⟩
theorem run_x {pins : List (Addr × Obj)} {σ : L2.St} {H : Hp} {s : Shared} {Q : VK} {us ws : List Value} {vs zs : List V} (M : XM X.K C fI) (F : FnOk X.prog X.w X.K X.mg X.base CX k fI fd ps sp) (hr : Room (k + 1) X.A) (hx : Passes CX X E0) (I : Inv X pins σ H s) (hu : us.length ≤ 1000) {bs : List (Str × Value)} {ms : List V} {mu : List Value}
    (rm : ∀ a, Vals (.ref a :: ms) (.ref a :: mu)) (hb : ∀ (a : Addr) s', X.K.In s'.heap → BindsTo s' fd ⟨.ref a :: us, ks.zip ws⟩ (ps.zip (.ref a :: mu)))
    (h : ∀ a, H a = none → sp (.ref a :: ms) (upd H a (exo a C none)) (fun v H2 => v = .non ∧ Q (.ref a) H2) E0) :
    wpAny (model X.prog X.w) X.A (call (.ref C) us (ks.zip ws)) (EP X pins σ Q) X.xe s := by
  obtain ⟨⟨tl, nw, T, B, it, FB, _⟩, hini, hfn⟩ := M
  obtain ⟨nm, N', qn, bs, bm, hdct, sn, sub, ab, col, dd, k0, k1, k2, k3, k5, hC, hT⟩ := PySem.W.excInit_of I.kIn T.q
  obtain ⟨hp, gg, dr, t, os⟩ := s
  have hsz : hp.objs.size ≤ hp.objs.size + 1 := Nat.le_succ _
  have hq := h (hp.objs.size + 1) (I.hok.fresh hsz)
  have kk : ∀ b o, hp.get? b = some o → ((hp.push (PySem.W.kdv_tup us)).push (PySem.HandSPX.excO C hp.objs.size)).get? b = some o := fun b o z => Heap.get?_push_of_some _ (Heap.get?_push_of_some _ z)
  have g1 : ((hp.push (PySem.W.kdv_tup us)).push (PySem.HandSPX.excO C hp.objs.size)).get? (hp.objs.size + 1) = some (PySem.HandSPX.excO C hp.objs.size) := by heap_get
  have I2 : Inv X pins σ (upd H (hp.objs.size + 1) (exo (hp.objs.size + 1) C none)) ⟨(hp.push (PySem.W.kdv_tup us)).push (PySem.HandSPX.excO C hp.objs.size), gg, dr, t, os⟩ :=
    I.laid (t' := t) (a := hp.objs.size + 1) (o := exo (hp.objs.size + 1) C none) (h' := (hp.push (PySem.W.kdv_tup us)).push (PySem.HandSPX.excO C hp.objs.size)) kk hsz (exo_ok g1)
  refine wpAny_call (PySem.XE.x_call FB hT hC (by rw [sizeLine_eq]; omega) (PySem.W.looks_findIn I.kIn hini) (fun z => PySem.W.bind_fn I.kIn z hfn)
    (codeAny_mono (F.run _ X.stack _ _ ⟨Value.ref (hp.objs.size + 1) :: us, ks.zip ws⟩ (Value.ref (hp.objs.size + 1) :: mu) _ _ E0 (hr.make C us (ks.zip ws)) (I2.env0.make C us (ks.zip ws)) (hb _ _ I2.kIn) (rm _) hq) fun r s' hq' => ?_))
  cases r with
  | error er => exact hx pins σ _ _ er s' I2 hq'
  | ok fl =>
    cases fl with
    | ret u =>
      obtain ⟨v, H', I3, rv, ev, q3⟩ := I2.after hq'
      subst ev
      exact ⟨rv, ⟨V.ref (hp.objs.size + 1), H', I3, rfl, q3⟩⟩
    | next => exact False.elim hq'
    | brk => exact False.elim hq'
    | cont => exact False.elim hq'
theorem e_xmk (M : XM X.K C fI) (F : FnOk X.prog X.w X.K X.mg X.base CX k fI fd ps sp) (hr : Room (k + 1) X.A) (hg : Gl X x) (hm : X.mg x = some (.ref C)) (hb : Binds X.K fd ps []) (hx : Passes CX X E0) (ha : PA X (e :: es) ta)
    (hdb : (x == ("__debug__" : Str)) = false := by decide) (he : starEach (e :: es) X.env = (false, eval e X.env) :: starEach es X.env := by rfl) (hpl : (backTo pos (starEach es X.env)).any (·.1) = false := by rfl) :
    PE X (.Call (.Name x p) (e :: es) [] pos) (tXMk C sp ta) := by
  obtain ⟨tl, nw, T, XBp⟩ := M.xc
  refine ⟨fun pins s σ H Q I h => wpAny_Call_Name_kw (ld_glob I hg hm (PySem.W.callWith_K (h₀ := X.base) I.ok.mod.kin T.kC (thn (ha.run pos pins s σ H _ I h) fun us s1 ⟨vs, H1, I1, r1, hz, q1⟩ => ⟨I1.kIn, ?_⟩) he hpl) hdb)⟩
  refine run_x (ks := []) (ws := []) (us := us) (ms := vs) (mu := us) (bs := []) (zs := []) (vs := vs) M F hr hx I1 (by rw [← Paired.length r1]; exact hz) (fun a => .cons rfl r1) (fun a s' ki => ?_) q1
  have hl : (Value.ref a :: us).length = ps.length := by
    have z := (Paired.length (show Vals (V.ref a :: vs) (Value.ref a :: us) from .cons rfl r1))
    have z2 := F.len (V.ref s1.heap.objs.size :: vs) _ _ _ (q1 (s1.heap.objs.size) (I1.hok.fresh (Nat.le_refl _)))
    rw [← z]
    exact z2
  have := hb s' (.ref a :: us) ki (by rw [List.append_nil]; exact hl)
  rw [List.append_nil] at this
  exact this
theorem e_xmkK (M : XM X.K C fI) (F : FnOk X.prog X.w X.K X.mg X.base CX k fI fd ps sp) (hr : Room (k + 1) X.A) (hg : Gl X x) (hm : X.mg x = some (.ref C)) (hb : KBn X.K fd ps 1 ks g gV) (hx : Passes CX X E0) (hkw : L2.PK X kws tk)
    (hgv : ∀ (a : Addr) (us : List Value), ∃ mu, g [.ref a] us = .ref a :: mu) (hgV : ∀ (a : Addr) (zs : List V), ∃ ms, gV [.ref a] zs = .ref a :: ms ∧ ∀ b, gV [.ref b] zs = .ref b :: ms) (hgw : ∀ (a b : Addr) (us mu : List Value), g [.ref a] us = .ref a :: mu → g [.ref b] us = .ref b :: mu)
    (hall : (backToKw pos (keywordEach kws X.env)).all (·.1.isSome) = true := by rfl) (hks : (backToKw pos (keywordEach kws X.env)).filterMap (·.1) = ks := by rfl) (hdb : (x == ("__debug__" : Str)) = false := by decide)
    (hpl : ((backTo pos (starEach [] X.env)).any (·.1) || (backToKw pos (keywordEach kws X.env)).any (·.1.isNone)) = false := by rfl) :
    PE X (.Call (.Name x p) [] kws pos) (tXMkK C ks.length sp gV tk) := by
  obtain ⟨tl, nw, T, XBp⟩ := M.xc
  refine ⟨fun pins s σ H Q I h => wpAny_Call_Name_kw (ld_glob I hg hm (PySem.W.callWith_KW0 (h₀ := X.base) I.ok.mod.kin T.kC hall (thn (hkw.run pos pins s σ H _ I h) fun ws s2 ⟨zs, H2, I2, rz, l2, q2⟩ => ⟨I2.kIn, ?_⟩) hpl) hdb)⟩
  rw [hks]
  obtain ⟨mu, hmu⟩ := hgv 0 ws
  obtain ⟨ms, _, hms⟩ := hgV 0 zs
  refine run_x (us := []) (ms := ms) (mu := mu) (bs := []) (zs := []) (vs := []) M F hr hx I2 (Nat.zero_le _) (fun a => ?_) (fun a s' ki => ?_) (fun a ha => ?_)
  · have := hb.rel (vs := [.ref a]) (us := [.ref a]) (.cons rfl .nil) rz
    rw [hms, hgw 0 a ws mu hmu] at this
    exact this
  · have := hb.to s' [.ref a] ws ki rfl (by rw [← Paired.length rz]; exact l2)
    rw [hgw 0 a ws mu hmu] at this
    exact this
  · have := q2 a ha
    rw [hms] at this
    exact this
theorem e_xmk0 {tl : List Value} {nw B it : String} (T : XCl X.K C tl nw) (FB : ExcBaseFacts B nw it tl) (hini : PySem.W.findIn X.K (.ref C) "__init__" = some (some (.builtin it))) (hg : Gl X x) (hm : X.mg x = some (.ref C))
    (hdb : (x == ("__debug__" : Str)) = false := by decide) : PE X (.Call (.Name x p) [] [] pos) (tXMk0 C) := by
  refine ⟨fun pins s σ H Q I h => wpAny_Call_Name_kw (ld_glob I hg hm (PySem.W.callWith_K0 I.kIn T.kC ?_) hdb)⟩
  obtain ⟨nm, N', qn, bs, bm, hdct, sn, sub, ab, col, dd, k0, k1, k2, k3, k5, hC, hT⟩ := PySem.W.excInit_of I.kIn T.q
  obtain ⟨hp, gg, dr, t, os⟩ := s
  refine PySem.W.call_B FB hT hC (PySem.W.looks_findIn I.kIn hini) (Nat.zero_le _) fun h' kk g1 _ => ?_
  have hsz : hp.objs.size ≤ hp.objs.size + 1 := Nat.le_succ _
  exact ⟨.ref (hp.objs.size + 1), _, I.laid (t' := t) (a := hp.objs.size + 1) (o := exo (hp.objs.size + 1) C none) (h' := h') kk hsz (exo_ok g1), rfl, h _ (I.hok.fresh hsz)⟩
end
end Sp
namespace Sp
open PySem PySem.Spec PyProof.Rows L2
def flatD : V → Option PyData
  | .non => some .none
  | .bl b => some (.bool b)
  | .int i => some (.int i)
  | .str x => some (.str x)
  | _ => none
mutual
/-- a thing and its data -/
inductive Dt (K : PySem.W.Frag) (H : Hp) : V → PyData → Prop
  | fl {x : V} {d : PyData} : flatD x = some d → Dt K H x d
  | tup {a : Addr} {xs : List V} {ds : List PyData} : SqT K H a xs → DtAll K H xs ds → Dt K H (.ref a) (.tuple ds)
  | lst {a : Addr} {xs : List V} {ds : List PyData} : H a = some (.lst xs) → xs.length ≠ 3 → a ≠ sysModules → DtAll K H xs ds → Dt K H (.ref a) (.list ds)
  | d0 {a : Addr} : H a = some (.dK []) → Dt K H (.ref a) (.dict [])
  | d1 {a : Addr} {k : Str} {n : Int} : H a = some (.dK [(.inr k, .int n)]) → Dt K H (.ref a) (.dict [(.str k, .int n)])
inductive DtAll (K : PySem.W.Frag) (H : Hp) : List V → List PyData → Prop
  | nil : DtAll K H [] []
  | cons {x : V} {xs : List V} {d : PyData} {ds : List PyData} : Dt K H x d → DtAll K H xs ds → DtAll K H (x :: xs) (d :: ds)
end
theorem Dt.keep {K : PySem.W.Frag} {H H' : Hp} {x : V} {d : PyData} (t : TK K H H') (k : ∀ b o, (∀ x y z, o ≠ .lst [x, y, z]) → H b = some o → H' b = some o) (h : Dt K H x d) : Dt K H' x d := by
  refine Dt.rec (motive_1 := fun x d _ => Dt K H' x d) (motive_2 := fun xs ds _ => DtAll K H' xs ds) (fun h => .fl h) (fun h _ ih => .tup (t _ _ h) ih) (fun h h3 hs _ ih => .lst (k _ _ (fun _ _ _ z => ?_) h) h3 hs ih) (fun h => .d0 (k _ _ (fun _ _ _ z => ?_) h)) (fun h => .d1 (k _ _ (fun _ _ _ z => ?_) h)) .nil (fun _ _ a b => .cons a b) h
  · cases z
    exact h3 rfl
  · cases z
  · cases z
theorem Dt.same {K : PySem.W.Frag} {H H' : Hp} {x : V} {d : PyData} (e : Same H H') (h : Dt K H x d) : Dt K H' x d := h.keep (TK.of e) fun b o _ z => e b o z
def encK : Key → PyData
  | .inl i => .int i
  | .inr x => .str x
section
variable {X : Cx} {pins : List (Addr × Obj)} {σ : L2.St} {H : Hp} {s : Shared}
theorem key_reads {P : Program} {w : World} {h : Heap} (k : Key) (key : Value) (e : (mixKind P w).is k key = true) : Reads h key (encK k) [] := by
  rcases keyIs_shape e with ⟨i, t, rfl, rfl⟩ | ⟨x, t, rfl, rfl⟩
  · exact Reads.int _ _
  · exact Reads.str _ _
theorem Dt.reads (I : Inv X pins σ H s) {x : V} {d : PyData} (h : Dt X.K H x d) : ∀ {u : Value}, RelV x u → ∃ as, Reads s.heap u d as ∧ sysModules ∉ as := by
  refine Dt.rec (motive_1 := fun x d _ => ∀ {u : Value}, RelV x u → ∃ as, Reads s.heap u d as ∧ sysModules ∉ as) (motive_2 := fun xs ds _ => ∀ {us : List Value}, Vals xs us → ∃ as, ReadsAll s.heap us ds as ∧ sysModules ∉ as) ?_ ?_ ?_ ?_ ?_ ?_ ?_ h
  · intro x d h u r
    cases x with
    | non => cases h; cases (r : u = _); exact ⟨_, .none, List.not_mem_nil⟩
    | bl b => cases h; cases (r : u = _); exact ⟨_, .bool b, List.not_mem_nil⟩
    | int i => cases h; obtain ⟨t, rfl⟩ := r; exact ⟨_, .int i t, List.not_mem_nil⟩
    | str x => cases h; obtain ⟨t, rfl⟩ := r; exact ⟨_, .str x t, List.not_mem_nil⟩
    | _ => cases h
  · intro a xs ds h _ ih u r
    cases (r : u = _)
    obtain ⟨its, rv, ⟨o, ho, hc, n, hd⟩, _⟩ := I.tuple h
    obtain ⟨as, h1, h2⟩ := ih rv
    exact ⟨as, .tuple ho hc hd h1, h2⟩
  · intro a xs ds h _ hs _ ih u r
    cases (r : u = _)
    obtain ⟨_, its, n, rv, ho⟩ : xs.length ≤ sizeLine ∧ ∃ (its : List Value) (n : Nat), Vals xs its ∧ s.heap.get? a = some { cls := .type "list", data := .seq its.toArray n } := I.hok a _ h
    obtain ⟨as, h1, h2⟩ := ih rv
    refine ⟨_, .list ho rfl rfl h1, fun z => ?_⟩
    rcases List.mem_cons.mp z with z | z
    · exact hs z.symm
    · exact h2 z
  · intro a h u r
    obtain ⟨_, hs, vs, rel, dd⟩ := dk_of I.hok h
    cases rel
    cases (r : u = _)
    refine ⟨_, PyProof.V.reads_dictOf (enc := encK) key_reads dd .nil, fun z => ?_⟩
    rw [List.mem_singleton] at z
    rw [z] at hs
    simp at hs
  · intro a k n h u r
    obtain ⟨_, hs, vs, rel, dd⟩ := dk_of I.hok h
    cases rel with
    | cons h1 h2 =>
      cases h2
      rename_i q
      obtain ⟨k', v⟩ := q
      obtain ⟨e1, t, e2⟩ := h1
      dsimp only at e1 e2
      subst e1 e2
      cases (r : u = _)
      refine ⟨_, PyProof.V.reads_dictOf (enc := encK) (D := [(.str k, .int n)]) key_reads dd (.cons (Reads.int n t) .nil), fun z => ?_⟩
      rw [List.append_nil, List.mem_singleton] at z
      rw [z] at hs
      simp at hs
  · intro us r
    cases r
    exact ⟨_, .nil, List.not_mem_nil⟩
  · intro x xs d ds _ _ ih1 ih2 us r
    cases r with
    | cons r rs =>
      obtain ⟨as, h1, h2⟩ := ih1 r
      obtain ⟨bs, h3, h4⟩ := ih2 rs
      exact ⟨_, .cons h1 h3, fun z => (List.mem_append.mp z).elim h2 h4⟩
/-- small enough to be shown -/
def Sml (d : PyData) : Prop := d.showable = true ∧ d.depth ≤ 5 ∧ d.shown.length ≤ 10000
theorem smlAll : ∀ {ds : List PyData}, (∀ d ∈ ds, Sml d) → PyData.showableAll ds = true ∧ PyData.depthAll ds ≤ 5 ∧ ((PyData.shownAll ds).map (·.length)).sum ≤ 10000 * ds.length
  | [], _ => ⟨rfl, Nat.zero_le _, Nat.zero_le _⟩
  | d :: ds, h => by
    obtain ⟨a1, a2, a3⟩ := smlAll fun x hx => h x (List.mem_cons_of_mem _ hx)
    obtain ⟨b1, b2, b3⟩ := h d (List.mem_cons_self ..)
    refine ⟨by simp only [PyData.showableAll, a1, b1, Bool.and_self], by simp only [PyData.depthAll]; omega, ?_⟩
    simp only [PyData.shownAll, List.map_cons, List.sum_cons, List.length_cons]
    omega
/-- repr of a list of few things -/
def fReprX (K : PySem.W.Frag) : List V → Hp → VK → Prop := fun xs H Q => on1 xs fun x => onRef x fun l => ∃ vs ds, H l = some (.lst vs) ∧ l ≠ sysModules ∧ vs.length ≠ 3 ∧ DtAll K H vs ds ∧ (∀ d ∈ ds, Sml d) ∧ ds.length ≤ 20 ∧ Q (.str (PyData.shown (.list ds))) H
theorem c_reprX (hg : X.A.guards = some []) (hu : X.A.units + 64 < cLine) : CallR X (.builtin "repr") (fReprX X.K) := fun pins s σ H xs us Q I r h => by
  obtain ⟨x, rfl, h⟩ := on1_ex h
  obtain ⟨l, rfl, vs, ds, h1, h2, h3, h4, h5, h6, q⟩ := onRef_ex h
  obtain ⟨u, rfl, rx⟩ := vals1 r
  obtain ⟨as, rd, ns⟩ := Dt.reads I (.lst h1 h3 h2 h4) rx
  cases (rx : u = _)
  obtain ⟨a1, a2, a3⟩ := smlAll h5
  have e2 := listText_len_le (PyData.shownAll ds)
  rw [shownAll_len] at e2
  exact repr_of_reads' rd (by simpa [PyData.showable] using a1) (fun _ => ns) hg (by simp only [PyData.depth]; omega) (fun _ _ e => e) (fun h' u tk hk => ⟨.str (PyData.shown (.list ds)), H, I.kept hk, ⟨_, rfl⟩, q⟩) (by simp only [PyData.shown]; rw [sizeLine_eq]; omega)
/-- [e, ..]: a new list, not sys.modules -/
def tLstN (t : TA) : TE := fun σ H Q => t σ H fun xs H1 => xs.length ≤ sizeLine ∧ ∀ p, H1 p = none → p ≠ sysModules → Q (.ref p) (upd H1 p (.lst xs))
theorem e_lstN {es : List Expr} {pos : Pos} {t : TA} (h : PA X es t) : PE X (.List es pos) (tLstN t) := by
  refine ⟨fun pins s σ H Q I hq => wpAny_List_spliced (thn (h.run pos pins s σ H _ I hq) fun us s1 ⟨xs, H1, I1, r, z, q⟩ => ⟨by rw [← r.length]; exact z, ?_⟩)⟩
  exact ⟨.ref s1.heap.objs.size, upd H1 s1.heap.objs.size (.lst xs), I1.laid (t' := s1.toks) (fun b u e => Heap.get?_push_of_some _ e) (Nat.le_refl _) ⟨z, us, 0, r, Heap.get?_push_size _ rfl⟩, rfl, q _ (I1.hok.fresh (Nat.le_refl _)) (Nat.ne_of_gt I1.big)⟩
end
end Sp
namespace K01
open PySem PySem.Spec PyProof.Rows L2 Sp
def erN : List Str := ["InvalidRoom", "InvalidOption", "InvalidText", "InvalidNumber", "InvalidPeriod", "InvalidName", "InvalidFlag", "InvalidIndex", "InvalidClaim", "NotAMaker", "NotAPartner", "NotAForm", "InvalidRules", "InvalidKeys", "InvalidNumbers", "UnknownName", "InUse", "Endless", "TooMany", "Drops", "NothingToUndo", "NotAsked", "Broken"]
def bsN : List Str := ["WrongValue", "WrongName", "NoAnswer"]
def blN : List String := ["ValueError", "LookupError", "ArithmeticError"]
def erC (K : PySem.W.Frag) (k : Nat) : Addr := He.ga K (erN.getD k "")
def kindN (k : Nat) : Nat := if k < 15 then 0 else if k < 17 then 1 else 2
def sortsB (K : PySem.W.Frag) : Bool := (List.range 23).all fun k => (List.range 23).all fun j => decide (PySem.W.kitOne K (.ref (erC K k)) (.ref (erC K j)) = some (decide (j = k)))
def basesB (K : PySem.W.Frag) : Bool := (List.range 23).all fun k => (List.range 3).all fun j => decide (PySem.W.kitOne K (.ref (erC K k)) (.ref (He.ga K (bsN.getD j ""))) = some (decide (kindN k = j))) && decide (PySem.W.kitOne K (.ref (erC K k)) (.type (blN.getD j "")) = some (decide (kindN k = j)))
def top (i : Nat) : Stmt := PySem.Challenge.pw_spillruns_k01_constants_and_errors.main.body.getD i (.Pass ⟨0, 0, 0, 0⟩)
abbrev c_WrongValue : Stmt := top 1
abbrev c_InvalidRoom : Stmt := top 2
abbrev s_InvalidRoom_init : Stmt := inClass c_InvalidRoom 0
def d_InvalidRoom_init : He.DefD := ⟨("InvalidRoom", some "__init__"), "__init__", "InvalidRoom.__init__", defArgs s_InvalidRoom_init, defBody s_InvalidRoom_init, defScope s_InvalidRoom_init, [], []⟩
abbrev c_InvalidOption : Stmt := top 3
abbrev s_InvalidOption_init : Stmt := inClass c_InvalidOption 0
def d_InvalidOption_init : He.DefD := ⟨("InvalidOption", some "__init__"), "__init__", "InvalidOption.__init__", defArgs s_InvalidOption_init, defBody s_InvalidOption_init, defScope s_InvalidOption_init, [], []⟩
abbrev c_InvalidText : Stmt := top 4
abbrev s_InvalidText_init : Stmt := inClass c_InvalidText 0
def d_InvalidText_init : He.DefD := ⟨("InvalidText", some "__init__"), "__init__", "InvalidText.__init__", defArgs s_InvalidText_init, defBody s_InvalidText_init, defScope s_InvalidText_init, [], []⟩
abbrev c_InvalidNumber : Stmt := top 5
abbrev s_InvalidNumber_init : Stmt := inClass c_InvalidNumber 0
def d_InvalidNumber_init : He.DefD := ⟨("InvalidNumber", some "__init__"), "__init__", "InvalidNumber.__init__", defArgs s_InvalidNumber_init, defBody s_InvalidNumber_init, defScope s_InvalidNumber_init, [], []⟩
abbrev c_InvalidPeriod : Stmt := top 6
abbrev s_InvalidPeriod_init : Stmt := inClass c_InvalidPeriod 0
def d_InvalidPeriod_init : He.DefD := ⟨("InvalidPeriod", some "__init__"), "__init__", "InvalidPeriod.__init__", defArgs s_InvalidPeriod_init, defBody s_InvalidPeriod_init, defScope s_InvalidPeriod_init, [], []⟩
abbrev c_InvalidName : Stmt := top 7
abbrev s_InvalidName_init : Stmt := inClass c_InvalidName 0
def d_InvalidName_init : He.DefD := ⟨("InvalidName", some "__init__"), "__init__", "InvalidName.__init__", defArgs s_InvalidName_init, defBody s_InvalidName_init, defScope s_InvalidName_init, [], []⟩
abbrev c_InvalidFlag : Stmt := top 8
abbrev s_InvalidFlag_init : Stmt := inClass c_InvalidFlag 0
def d_InvalidFlag_init : He.DefD := ⟨("InvalidFlag", some "__init__"), "__init__", "InvalidFlag.__init__", defArgs s_InvalidFlag_init, defBody s_InvalidFlag_init, defScope s_InvalidFlag_init, [], []⟩
abbrev c_InvalidIndex : Stmt := top 9
abbrev s_InvalidIndex_init : Stmt := inClass c_InvalidIndex 0
def d_InvalidIndex_init : He.DefD := ⟨("InvalidIndex", some "__init__"), "__init__", "InvalidIndex.__init__", defArgs s_InvalidIndex_init, defBody s_InvalidIndex_init, defScope s_InvalidIndex_init, [], []⟩
abbrev c_InvalidClaim : Stmt := top 10
abbrev s_InvalidClaim_init : Stmt := inClass c_InvalidClaim 0
def d_InvalidClaim_init : He.DefD := ⟨("InvalidClaim", some "__init__"), "__init__", "InvalidClaim.__init__", defArgs s_InvalidClaim_init, defBody s_InvalidClaim_init, defScope s_InvalidClaim_init, [], []⟩
abbrev c_NotAMaker : Stmt := top 11
abbrev s_NotAMaker_init : Stmt := inClass c_NotAMaker 0
def d_NotAMaker_init : He.DefD := ⟨("NotAMaker", some "__init__"), "__init__", "NotAMaker.__init__", defArgs s_NotAMaker_init, defBody s_NotAMaker_init, defScope s_NotAMaker_init, [], []⟩
abbrev c_NotAPartner : Stmt := top 12
abbrev s_NotAPartner_init : Stmt := inClass c_NotAPartner 0
def d_NotAPartner_init : He.DefD := ⟨("NotAPartner", some "__init__"), "__init__", "NotAPartner.__init__", defArgs s_NotAPartner_init, defBody s_NotAPartner_init, defScope s_NotAPartner_init, [], []⟩
abbrev c_NotAForm : Stmt := top 13
abbrev s_NotAForm_init : Stmt := inClass c_NotAForm 0
def d_NotAForm_init : He.DefD := ⟨("NotAForm", some "__init__"), "__init__", "NotAForm.__init__", defArgs s_NotAForm_init, defBody s_NotAForm_init, defScope s_NotAForm_init, [], []⟩
abbrev c_InvalidRules : Stmt := top 14
abbrev s_InvalidRules_init : Stmt := inClass c_InvalidRules 0
def d_InvalidRules_init : He.DefD := ⟨("InvalidRules", some "__init__"), "__init__", "InvalidRules.__init__", defArgs s_InvalidRules_init, defBody s_InvalidRules_init, defScope s_InvalidRules_init, [], []⟩
abbrev c_InvalidKeys : Stmt := top 15
abbrev s_InvalidKeys_init : Stmt := inClass c_InvalidKeys 0
def d_InvalidKeys_init : He.DefD := ⟨("InvalidKeys", some "__init__"), "__init__", "InvalidKeys.__init__", defArgs s_InvalidKeys_init, defBody s_InvalidKeys_init, defScope s_InvalidKeys_init, [], []⟩
abbrev c_InvalidNumbers : Stmt := top 16
abbrev s_InvalidNumbers_init : Stmt := inClass c_InvalidNumbers 0
def d_InvalidNumbers_init : He.DefD := ⟨("InvalidNumbers", some "__init__"), "__init__", "InvalidNumbers.__init__", defArgs s_InvalidNumbers_init, defBody s_InvalidNumbers_init, defScope s_InvalidNumbers_init, [], []⟩
abbrev c_WrongName : Stmt := top 17
abbrev c_UnknownName : Stmt := top 18
abbrev s_UnknownName_init : Stmt := inClass c_UnknownName 0
def d_UnknownName_init : He.DefD := ⟨("UnknownName", some "__init__"), "__init__", "UnknownName.__init__", defArgs s_UnknownName_init, defBody s_UnknownName_init, defScope s_UnknownName_init, [], []⟩
abbrev c_InUse : Stmt := top 19
abbrev s_InUse_init : Stmt := inClass c_InUse 0
def d_InUse_init : He.DefD := ⟨("InUse", some "__init__"), "__init__", "InUse.__init__", defArgs s_InUse_init, defBody s_InUse_init, defScope s_InUse_init, [], []⟩
abbrev c_NoAnswer : Stmt := top 20
abbrev c_Endless : Stmt := top 21
abbrev c_TooMany : Stmt := top 22
abbrev s_TooMany_init : Stmt := inClass c_TooMany 0
def d_TooMany_init : He.DefD := ⟨("TooMany", some "__init__"), "__init__", "TooMany.__init__", defArgs s_TooMany_init, defBody s_TooMany_init, defScope s_TooMany_init, [], []⟩
abbrev c_Drops : Stmt := top 23
abbrev c_NothingToUndo : Stmt := top 24
abbrev c_NotAsked : Stmt := top 25
abbrev s_NotAsked_init : Stmt := inClass c_NotAsked 0
def d_NotAsked_init : He.DefD := ⟨("NotAsked", some "__init__"), "__init__", "NotAsked.__init__", defArgs s_NotAsked_init, defBody s_NotAsked_init, defScope s_NotAsked_init, [], []⟩
abbrev c_Broken : Stmt := top 26
abbrev s_Broken_init : Stmt := inClass c_Broken 0
def d_Broken_init : He.DefD := ⟨("Broken", some "__init__"), "__init__", "Broken.__init__", defArgs s_Broken_init, defBody s_Broken_init, defScope s_Broken_init, [], []⟩
abbrev s__law_source : Stmt := top 37
def d__law_source : He.DefD := ⟨("_law_source", none), "_law_source", "_law_source", defArgs s__law_source, defBody s__law_source, defScope s__law_source, [], []⟩
abbrev s__law_draw : Stmt := top 38
def d__law_draw : He.DefD := ⟨("_law_draw", none), "_law_draw", "_law_draw", defArgs s__law_draw, defBody s__law_draw, defScope s__law_draw, [], []⟩
abbrev s__law_pick : Stmt := top 39
def d__law_pick : He.DefD := ⟨("_law_pick", none), "_law_pick", "_law_pick", defArgs s__law_pick, defBody s__law_pick, defScope s__law_pick, [], []⟩
abbrev s__law_thing : Stmt := top 40
def d__law_thing : He.DefD := ⟨("_law_thing", none), "_law_thing", "_law_thing", defArgs s__law_thing, defBody s__law_thing, defScope s__law_thing, [], []⟩
abbrev s__law_sorts : Stmt := top 41
def d__law_sorts : He.DefD := ⟨("_law_sorts", none), "_law_sorts", "_law_sorts", defArgs s__law_sorts, defBody s__law_sorts, defScope s__law_sorts, [], []⟩
abbrev s__law_bases : Stmt := top 42
def d__law_bases : He.DefD := ⟨("_law_bases", none), "_law_bases", "_law_bases", defArgs s__law_bases, defBody s__law_bases, defScope s__law_bases, [], []⟩
abbrev s__law_by_position : Stmt := top 43
def d__law_by_position : He.DefD := ⟨("_law_by_position", none), "_law_by_position", "_law_by_position", defArgs s__law_by_position, defBody s__law_by_position, defScope s__law_by_position, [], []⟩
abbrev s__law_by_name : Stmt := top 44
def d__law_by_name : He.DefD := ⟨("_law_by_name", none), "_law_by_name", "_law_by_name", defArgs s__law_by_name, defBody s__law_by_name, defScope s__law_by_name, [], []⟩
abbrev s__law_attributes : Stmt := top 45
def d__law_attributes : He.DefD := ⟨("_law_attributes", none), "_law_attributes", "_law_attributes", defArgs s__law_attributes, defBody s__law_attributes, defScope s__law_attributes, [], []⟩
abbrev s__law_right : Stmt := top 46
def d__law_right : He.DefD := ⟨("_law_right", none), "_law_right", "_law_right", defArgs s__law_right, defBody s__law_right, defScope s__law_right, [], []⟩
abbrev s_law : Stmt := top 47
def d_law : He.DefD := ⟨("law", none), "law", "law", defArgs s_law, defBody s_law, defScope s_law, [], []⟩
def fn : List He.DefD := [d_InvalidRoom_init, d_InvalidOption_init, d_InvalidText_init, d_InvalidNumber_init, d_InvalidPeriod_init, d_InvalidName_init, d_InvalidFlag_init, d_InvalidIndex_init, d_InvalidClaim_init, d_NotAMaker_init, d_NotAPartner_init, d_NotAForm_init, d_InvalidRules_init, d_InvalidKeys_init, d_InvalidNumbers_init, d_UnknownName_init, d_InUse_init, d_TooMany_init, d_NotAsked_init, d_Broken_init, d__law_source, d__law_draw, d__law_pick, d__law_thing, d__law_sorts, d__law_bases, d__law_by_position, d__law_by_name, d__law_attributes, d__law_right, d_law]
def fa : List He.Fa := [.glo "WrongValue", .glo "InvalidRoom", .glo "InvalidOption", .glo "InvalidText", .glo "InvalidNumber", .glo "InvalidPeriod", .glo "InvalidName", .glo "InvalidFlag", .glo "InvalidIndex", .glo "InvalidClaim", .glo "NotAMaker", .glo "NotAPartner", .glo "NotAForm", .glo "InvalidRules", .glo "InvalidKeys", .glo "InvalidNumbers", .glo "WrongName", .glo "UnknownName", .glo "InUse", .glo "NoAnswer", .glo "Endless", .glo "TooMany", .glo "Drops", .glo "NothingToUndo", .glo "NotAsked", .glo "Broken", .int "MOST_ROOM" 4, .int "MOST_BEST" 3, .int "MOST_RULES" 12, .int "MOST_CONDITIONS" 5, .int "MOST_KEYS" 2000, .int "MOST_ROOMS" 6, .int "MOST_BEST_ROOMS" 5, .int "MOST_WAYS" 16, .int "MOST_FORM" 5000, .glo "_law_source", .glo "_law_draw", .glo "_law_pick", .glo "_law_thing", .glo "_law_sorts", .glo "_law_bases", .glo "_law_by_position", .glo "_law_by_name", .glo "_law_attributes", .glo "_law_right", .glo "law", .free "ArithmeticError", .free "LookupError", .free "ValueError", .free "abs", .free "all", .free "divmod", .free "int", .free "isinstance", .free "len", .free "max", .free "min", .free "range", .free "repr", .free "str"]
def fdA (K : PySem.W.Frag) (f : Addr) : FuncData := match K.lookup f with
  | some ⟨_, _, .func fd, _⟩ => fd
  | _ => default
theorem funD_fd {K : PySem.W.Frag} {x qual : Str} {params : Arguments} {body : List Stmt} {scope : Scope} {dvs : List V} {kws : List (Str × V)} {f : Addr} (h : ∃ fd, FunD K x qual params body scope dvs kws f fd) : FunD K x qual params body scope dvs kws f (fdA K f) := by
  obtain ⟨fd, F⟩ := h
  obtain ⟨oc, od, dV, kV, doc, pm, an, cdv, ct, osl, e, lk, r⟩ := F.ex
  have e2 : fdA K f = fd := by
    unfold fdA
    rw [lk]
  rw [e2]
  exact F
/-- what the text says -/
structure Tx (K : PySem.W.Frag) (mg : Str → Option Value) : Prop where
  g_WrongValue : mg "WrongValue" = some (.ref (He.ga K "WrongValue"))
  x_WrongValue : XCl K (He.ga K "WrongValue") (tlOf "ValueError") "ValueError.__new__"
  xz_WrongValue : PySem.W.findIn K (.ref (He.ga K "WrongValue")) "__init__" = some (some (.builtin "ValueError.__init__"))
  g_InvalidRoom : mg "InvalidRoom" = some (.ref (He.ga K "InvalidRoom"))
  x_InvalidRoom : XCl K (He.ga K "InvalidRoom") (tlOf "ValueError") "ValueError.__new__"
  xi_InvalidRoom : XM K (He.ga K "InvalidRoom") (He.ma K (He.ga K "InvalidRoom") "__init__")
  xn_InvalidRoom_given : PySem.W.takerIn K (He.ga K "InvalidRoom") "given" = some none ∧ PySem.W.findIn K (.ref (He.ga K "InvalidRoom")) "given" = some none
  F_InvalidRoom_init : FunD K "__init__" "InvalidRoom.__init__" (defArgs s_InvalidRoom_init) (defBody s_InvalidRoom_init) (defScope s_InvalidRoom_init) [] [] (He.fAd K d_InvalidRoom_init.at_) (fdA K (He.fAd K d_InvalidRoom_init.at_))
  g_InvalidOption : mg "InvalidOption" = some (.ref (He.ga K "InvalidOption"))
  x_InvalidOption : XCl K (He.ga K "InvalidOption") (tlOf "ValueError") "ValueError.__new__"
  xi_InvalidOption : XM K (He.ga K "InvalidOption") (He.ma K (He.ga K "InvalidOption") "__init__")
  xn_InvalidOption_given : PySem.W.takerIn K (He.ga K "InvalidOption") "given" = some none ∧ PySem.W.findIn K (.ref (He.ga K "InvalidOption")) "given" = some none
  F_InvalidOption_init : FunD K "__init__" "InvalidOption.__init__" (defArgs s_InvalidOption_init) (defBody s_InvalidOption_init) (defScope s_InvalidOption_init) [] [] (He.fAd K d_InvalidOption_init.at_) (fdA K (He.fAd K d_InvalidOption_init.at_))
  g_InvalidText : mg "InvalidText" = some (.ref (He.ga K "InvalidText"))
  x_InvalidText : XCl K (He.ga K "InvalidText") (tlOf "ValueError") "ValueError.__new__"
  xi_InvalidText : XM K (He.ga K "InvalidText") (He.ma K (He.ga K "InvalidText") "__init__")
  xn_InvalidText_given : PySem.W.takerIn K (He.ga K "InvalidText") "given" = some none ∧ PySem.W.findIn K (.ref (He.ga K "InvalidText")) "given" = some none
  F_InvalidText_init : FunD K "__init__" "InvalidText.__init__" (defArgs s_InvalidText_init) (defBody s_InvalidText_init) (defScope s_InvalidText_init) [] [] (He.fAd K d_InvalidText_init.at_) (fdA K (He.fAd K d_InvalidText_init.at_))
  g_InvalidNumber : mg "InvalidNumber" = some (.ref (He.ga K "InvalidNumber"))
  x_InvalidNumber : XCl K (He.ga K "InvalidNumber") (tlOf "ValueError") "ValueError.__new__"
  xi_InvalidNumber : XM K (He.ga K "InvalidNumber") (He.ma K (He.ga K "InvalidNumber") "__init__")
  xn_InvalidNumber_given : PySem.W.takerIn K (He.ga K "InvalidNumber") "given" = some none ∧ PySem.W.findIn K (.ref (He.ga K "InvalidNumber")) "given" = some none
  F_InvalidNumber_init : FunD K "__init__" "InvalidNumber.__init__" (defArgs s_InvalidNumber_init) (defBody s_InvalidNumber_init) (defScope s_InvalidNumber_init) [] [] (He.fAd K d_InvalidNumber_init.at_) (fdA K (He.fAd K d_InvalidNumber_init.at_))
  g_InvalidPeriod : mg "InvalidPeriod" = some (.ref (He.ga K "InvalidPeriod"))
  x_InvalidPeriod : XCl K (He.ga K "InvalidPeriod") (tlOf "ValueError") "ValueError.__new__"
  xi_InvalidPeriod : XM K (He.ga K "InvalidPeriod") (He.ma K (He.ga K "InvalidPeriod") "__init__")
  xn_InvalidPeriod_given : PySem.W.takerIn K (He.ga K "InvalidPeriod") "given" = some none ∧ PySem.W.findIn K (.ref (He.ga K "InvalidPeriod")) "given" = some none
  F_InvalidPeriod_init : FunD K "__init__" "InvalidPeriod.__init__" (defArgs s_InvalidPeriod_init) (defBody s_InvalidPeriod_init) (defScope s_InvalidPeriod_init) [] [] (He.fAd K d_InvalidPeriod_init.at_) (fdA K (He.fAd K d_InvalidPeriod_init.at_))
  g_InvalidName : mg "InvalidName" = some (.ref (He.ga K "InvalidName"))
  x_InvalidName : XCl K (He.ga K "InvalidName") (tlOf "ValueError") "ValueError.__new__"
  xi_InvalidName : XM K (He.ga K "InvalidName") (He.ma K (He.ga K "InvalidName") "__init__")
  xn_InvalidName_given : PySem.W.takerIn K (He.ga K "InvalidName") "given" = some none ∧ PySem.W.findIn K (.ref (He.ga K "InvalidName")) "given" = some none
  F_InvalidName_init : FunD K "__init__" "InvalidName.__init__" (defArgs s_InvalidName_init) (defBody s_InvalidName_init) (defScope s_InvalidName_init) [] [] (He.fAd K d_InvalidName_init.at_) (fdA K (He.fAd K d_InvalidName_init.at_))
  g_InvalidFlag : mg "InvalidFlag" = some (.ref (He.ga K "InvalidFlag"))
  x_InvalidFlag : XCl K (He.ga K "InvalidFlag") (tlOf "ValueError") "ValueError.__new__"
  xi_InvalidFlag : XM K (He.ga K "InvalidFlag") (He.ma K (He.ga K "InvalidFlag") "__init__")
  xn_InvalidFlag_given : PySem.W.takerIn K (He.ga K "InvalidFlag") "given" = some none ∧ PySem.W.findIn K (.ref (He.ga K "InvalidFlag")) "given" = some none
  F_InvalidFlag_init : FunD K "__init__" "InvalidFlag.__init__" (defArgs s_InvalidFlag_init) (defBody s_InvalidFlag_init) (defScope s_InvalidFlag_init) [] [] (He.fAd K d_InvalidFlag_init.at_) (fdA K (He.fAd K d_InvalidFlag_init.at_))
  g_InvalidIndex : mg "InvalidIndex" = some (.ref (He.ga K "InvalidIndex"))
  x_InvalidIndex : XCl K (He.ga K "InvalidIndex") (tlOf "ValueError") "ValueError.__new__"
  xi_InvalidIndex : XM K (He.ga K "InvalidIndex") (He.ma K (He.ga K "InvalidIndex") "__init__")
  xn_InvalidIndex_given : PySem.W.takerIn K (He.ga K "InvalidIndex") "given" = some none ∧ PySem.W.findIn K (.ref (He.ga K "InvalidIndex")) "given" = some none
  F_InvalidIndex_init : FunD K "__init__" "InvalidIndex.__init__" (defArgs s_InvalidIndex_init) (defBody s_InvalidIndex_init) (defScope s_InvalidIndex_init) [] [] (He.fAd K d_InvalidIndex_init.at_) (fdA K (He.fAd K d_InvalidIndex_init.at_))
  g_InvalidClaim : mg "InvalidClaim" = some (.ref (He.ga K "InvalidClaim"))
  x_InvalidClaim : XCl K (He.ga K "InvalidClaim") (tlOf "ValueError") "ValueError.__new__"
  xi_InvalidClaim : XM K (He.ga K "InvalidClaim") (He.ma K (He.ga K "InvalidClaim") "__init__")
  xn_InvalidClaim_given : PySem.W.takerIn K (He.ga K "InvalidClaim") "given" = some none ∧ PySem.W.findIn K (.ref (He.ga K "InvalidClaim")) "given" = some none
  F_InvalidClaim_init : FunD K "__init__" "InvalidClaim.__init__" (defArgs s_InvalidClaim_init) (defBody s_InvalidClaim_init) (defScope s_InvalidClaim_init) [] [] (He.fAd K d_InvalidClaim_init.at_) (fdA K (He.fAd K d_InvalidClaim_init.at_))
  g_NotAMaker : mg "NotAMaker" = some (.ref (He.ga K "NotAMaker"))
  x_NotAMaker : XCl K (He.ga K "NotAMaker") (tlOf "ValueError") "ValueError.__new__"
  xi_NotAMaker : XM K (He.ga K "NotAMaker") (He.ma K (He.ga K "NotAMaker") "__init__")
  xn_NotAMaker_given : PySem.W.takerIn K (He.ga K "NotAMaker") "given" = some none ∧ PySem.W.findIn K (.ref (He.ga K "NotAMaker")) "given" = some none
  F_NotAMaker_init : FunD K "__init__" "NotAMaker.__init__" (defArgs s_NotAMaker_init) (defBody s_NotAMaker_init) (defScope s_NotAMaker_init) [] [] (He.fAd K d_NotAMaker_init.at_) (fdA K (He.fAd K d_NotAMaker_init.at_))
  g_NotAPartner : mg "NotAPartner" = some (.ref (He.ga K "NotAPartner"))
  x_NotAPartner : XCl K (He.ga K "NotAPartner") (tlOf "ValueError") "ValueError.__new__"
  xi_NotAPartner : XM K (He.ga K "NotAPartner") (He.ma K (He.ga K "NotAPartner") "__init__")
  xn_NotAPartner_given : PySem.W.takerIn K (He.ga K "NotAPartner") "given" = some none ∧ PySem.W.findIn K (.ref (He.ga K "NotAPartner")) "given" = some none
  F_NotAPartner_init : FunD K "__init__" "NotAPartner.__init__" (defArgs s_NotAPartner_init) (defBody s_NotAPartner_init) (defScope s_NotAPartner_init) [] [] (He.fAd K d_NotAPartner_init.at_) (fdA K (He.fAd K d_NotAPartner_init.at_))
  g_NotAForm : mg "NotAForm" = some (.ref (He.ga K "NotAForm"))
  x_NotAForm : XCl K (He.ga K "NotAForm") (tlOf "ValueError") "ValueError.__new__"
  xi_NotAForm : XM K (He.ga K "NotAForm") (He.ma K (He.ga K "NotAForm") "__init__")
  xn_NotAForm_given : PySem.W.takerIn K (He.ga K "NotAForm") "given" = some none ∧ PySem.W.findIn K (.ref (He.ga K "NotAForm")) "given" = some none
  F_NotAForm_init : FunD K "__init__" "NotAForm.__init__" (defArgs s_NotAForm_init) (defBody s_NotAForm_init) (defScope s_NotAForm_init) [] [] (He.fAd K d_NotAForm_init.at_) (fdA K (He.fAd K d_NotAForm_init.at_))
  g_InvalidRules : mg "InvalidRules" = some (.ref (He.ga K "InvalidRules"))
  x_InvalidRules : XCl K (He.ga K "InvalidRules") (tlOf "ValueError") "ValueError.__new__"
  xi_InvalidRules : XM K (He.ga K "InvalidRules") (He.ma K (He.ga K "InvalidRules") "__init__")
  xn_InvalidRules_index : PySem.W.takerIn K (He.ga K "InvalidRules") "index" = some none ∧ PySem.W.findIn K (.ref (He.ga K "InvalidRules")) "index" = some none
  F_InvalidRules_init : FunD K "__init__" "InvalidRules.__init__" (defArgs s_InvalidRules_init) (defBody s_InvalidRules_init) (defScope s_InvalidRules_init) [] [] (He.fAd K d_InvalidRules_init.at_) (fdA K (He.fAd K d_InvalidRules_init.at_))
  g_InvalidKeys : mg "InvalidKeys" = some (.ref (He.ga K "InvalidKeys"))
  x_InvalidKeys : XCl K (He.ga K "InvalidKeys") (tlOf "ValueError") "ValueError.__new__"
  xi_InvalidKeys : XM K (He.ga K "InvalidKeys") (He.ma K (He.ga K "InvalidKeys") "__init__")
  xn_InvalidKeys_index : PySem.W.takerIn K (He.ga K "InvalidKeys") "index" = some none ∧ PySem.W.findIn K (.ref (He.ga K "InvalidKeys")) "index" = some none
  F_InvalidKeys_init : FunD K "__init__" "InvalidKeys.__init__" (defArgs s_InvalidKeys_init) (defBody s_InvalidKeys_init) (defScope s_InvalidKeys_init) [] [] (He.fAd K d_InvalidKeys_init.at_) (fdA K (He.fAd K d_InvalidKeys_init.at_))
  g_InvalidNumbers : mg "InvalidNumbers" = some (.ref (He.ga K "InvalidNumbers"))
  x_InvalidNumbers : XCl K (He.ga K "InvalidNumbers") (tlOf "ValueError") "ValueError.__new__"
  xi_InvalidNumbers : XM K (He.ga K "InvalidNumbers") (He.ma K (He.ga K "InvalidNumbers") "__init__")
  xn_InvalidNumbers_index : PySem.W.takerIn K (He.ga K "InvalidNumbers") "index" = some none ∧ PySem.W.findIn K (.ref (He.ga K "InvalidNumbers")) "index" = some none
  F_InvalidNumbers_init : FunD K "__init__" "InvalidNumbers.__init__" (defArgs s_InvalidNumbers_init) (defBody s_InvalidNumbers_init) (defScope s_InvalidNumbers_init) [] [] (He.fAd K d_InvalidNumbers_init.at_) (fdA K (He.fAd K d_InvalidNumbers_init.at_))
  g_WrongName : mg "WrongName" = some (.ref (He.ga K "WrongName"))
  x_WrongName : XCl K (He.ga K "WrongName") (tlOf "LookupError") "LookupError.__new__"
  xz_WrongName : PySem.W.findIn K (.ref (He.ga K "WrongName")) "__init__" = some (some (.builtin "LookupError.__init__"))
  g_UnknownName : mg "UnknownName" = some (.ref (He.ga K "UnknownName"))
  x_UnknownName : XCl K (He.ga K "UnknownName") (tlOf "LookupError") "LookupError.__new__"
  xi_UnknownName : XM K (He.ga K "UnknownName") (He.ma K (He.ga K "UnknownName") "__init__")
  xn_UnknownName_given : PySem.W.takerIn K (He.ga K "UnknownName") "given" = some none ∧ PySem.W.findIn K (.ref (He.ga K "UnknownName")) "given" = some none
  F_UnknownName_init : FunD K "__init__" "UnknownName.__init__" (defArgs s_UnknownName_init) (defBody s_UnknownName_init) (defScope s_UnknownName_init) [] [] (He.fAd K d_UnknownName_init.at_) (fdA K (He.fAd K d_UnknownName_init.at_))
  g_InUse : mg "InUse" = some (.ref (He.ga K "InUse"))
  x_InUse : XCl K (He.ga K "InUse") (tlOf "LookupError") "LookupError.__new__"
  xi_InUse : XM K (He.ga K "InUse") (He.ma K (He.ga K "InUse") "__init__")
  xn_InUse_index : PySem.W.takerIn K (He.ga K "InUse") "index" = some none ∧ PySem.W.findIn K (.ref (He.ga K "InUse")) "index" = some none
  F_InUse_init : FunD K "__init__" "InUse.__init__" (defArgs s_InUse_init) (defBody s_InUse_init) (defScope s_InUse_init) [] [] (He.fAd K d_InUse_init.at_) (fdA K (He.fAd K d_InUse_init.at_))
  g_NoAnswer : mg "NoAnswer" = some (.ref (He.ga K "NoAnswer"))
  x_NoAnswer : XCl K (He.ga K "NoAnswer") (tlOf "ArithmeticError") "ArithmeticError.__new__"
  xz_NoAnswer : PySem.W.findIn K (.ref (He.ga K "NoAnswer")) "__init__" = some (some (.builtin "ArithmeticError.__init__"))
  g_Endless : mg "Endless" = some (.ref (He.ga K "Endless"))
  x_Endless : XCl K (He.ga K "Endless") (tlOf "ArithmeticError") "ArithmeticError.__new__"
  xz_Endless : PySem.W.findIn K (.ref (He.ga K "Endless")) "__init__" = some (some (.builtin "ArithmeticError.__init__"))
  g_TooMany : mg "TooMany" = some (.ref (He.ga K "TooMany"))
  x_TooMany : XCl K (He.ga K "TooMany") (tlOf "ArithmeticError") "ArithmeticError.__new__"
  xi_TooMany : XM K (He.ga K "TooMany") (He.ma K (He.ga K "TooMany") "__init__")
  xn_TooMany_limit : PySem.W.takerIn K (He.ga K "TooMany") "limit" = some none ∧ PySem.W.findIn K (.ref (He.ga K "TooMany")) "limit" = some none
  F_TooMany_init : FunD K "__init__" "TooMany.__init__" (defArgs s_TooMany_init) (defBody s_TooMany_init) (defScope s_TooMany_init) [] [] (He.fAd K d_TooMany_init.at_) (fdA K (He.fAd K d_TooMany_init.at_))
  g_Drops : mg "Drops" = some (.ref (He.ga K "Drops"))
  x_Drops : XCl K (He.ga K "Drops") (tlOf "ArithmeticError") "ArithmeticError.__new__"
  xz_Drops : PySem.W.findIn K (.ref (He.ga K "Drops")) "__init__" = some (some (.builtin "ArithmeticError.__init__"))
  g_NothingToUndo : mg "NothingToUndo" = some (.ref (He.ga K "NothingToUndo"))
  x_NothingToUndo : XCl K (He.ga K "NothingToUndo") (tlOf "ArithmeticError") "ArithmeticError.__new__"
  xz_NothingToUndo : PySem.W.findIn K (.ref (He.ga K "NothingToUndo")) "__init__" = some (some (.builtin "ArithmeticError.__init__"))
  g_NotAsked : mg "NotAsked" = some (.ref (He.ga K "NotAsked"))
  x_NotAsked : XCl K (He.ga K "NotAsked") (tlOf "ArithmeticError") "ArithmeticError.__new__"
  xi_NotAsked : XM K (He.ga K "NotAsked") (He.ma K (He.ga K "NotAsked") "__init__")
  xn_NotAsked_index : PySem.W.takerIn K (He.ga K "NotAsked") "index" = some none ∧ PySem.W.findIn K (.ref (He.ga K "NotAsked")) "index" = some none
  F_NotAsked_init : FunD K "__init__" "NotAsked.__init__" (defArgs s_NotAsked_init) (defBody s_NotAsked_init) (defScope s_NotAsked_init) [] [] (He.fAd K d_NotAsked_init.at_) (fdA K (He.fAd K d_NotAsked_init.at_))
  g_Broken : mg "Broken" = some (.ref (He.ga K "Broken"))
  x_Broken : XCl K (He.ga K "Broken") (tlOf "ArithmeticError") "ArithmeticError.__new__"
  xi_Broken : XM K (He.ga K "Broken") (He.ma K (He.ga K "Broken") "__init__")
  xn_Broken_index : PySem.W.takerIn K (He.ga K "Broken") "index" = some none ∧ PySem.W.findIn K (.ref (He.ga K "Broken")) "index" = some none
  xn_Broken_shown : PySem.W.takerIn K (He.ga K "Broken") "shown" = some none ∧ PySem.W.findIn K (.ref (He.ga K "Broken")) "shown" = some none
  F_Broken_init : FunD K "__init__" "Broken.__init__" (defArgs s_Broken_init) (defBody s_Broken_init) (defScope s_Broken_init) [] [] (He.fAd K d_Broken_init.at_) (fdA K (He.fAd K d_Broken_init.at_))
  i_MOST_ROOM : ∃ t, mg "MOST_ROOM" = some (.int 4 t)
  i_MOST_BEST : ∃ t, mg "MOST_BEST" = some (.int 3 t)
  i_MOST_RULES : ∃ t, mg "MOST_RULES" = some (.int 12 t)
  i_MOST_CONDITIONS : ∃ t, mg "MOST_CONDITIONS" = some (.int 5 t)
  i_MOST_KEYS : ∃ t, mg "MOST_KEYS" = some (.int 2000 t)
  i_MOST_ROOMS : ∃ t, mg "MOST_ROOMS" = some (.int 6 t)
  i_MOST_BEST_ROOMS : ∃ t, mg "MOST_BEST_ROOMS" = some (.int 5 t)
  i_MOST_WAYS : ∃ t, mg "MOST_WAYS" = some (.int 16 t)
  i_MOST_FORM : ∃ t, mg "MOST_FORM" = some (.int 5000 t)
  g__law_source : mg "_law_source" = some (.ref (He.ga K "_law_source"))
  F__law_source : FunD K "_law_source" "_law_source" (defArgs s__law_source) (defBody s__law_source) (defScope s__law_source) [] [] (He.fAd K d__law_source.at_) (fdA K (He.fAd K d__law_source.at_))
  g__law_draw : mg "_law_draw" = some (.ref (He.ga K "_law_draw"))
  F__law_draw : FunD K "_law_draw" "_law_draw" (defArgs s__law_draw) (defBody s__law_draw) (defScope s__law_draw) [] [] (He.fAd K d__law_draw.at_) (fdA K (He.fAd K d__law_draw.at_))
  g__law_pick : mg "_law_pick" = some (.ref (He.ga K "_law_pick"))
  F__law_pick : FunD K "_law_pick" "_law_pick" (defArgs s__law_pick) (defBody s__law_pick) (defScope s__law_pick) [] [] (He.fAd K d__law_pick.at_) (fdA K (He.fAd K d__law_pick.at_))
  g__law_thing : mg "_law_thing" = some (.ref (He.ga K "_law_thing"))
  F__law_thing : FunD K "_law_thing" "_law_thing" (defArgs s__law_thing) (defBody s__law_thing) (defScope s__law_thing) [] [] (He.fAd K d__law_thing.at_) (fdA K (He.fAd K d__law_thing.at_))
  g__law_sorts : mg "_law_sorts" = some (.ref (He.ga K "_law_sorts"))
  F__law_sorts : FunD K "_law_sorts" "_law_sorts" (defArgs s__law_sorts) (defBody s__law_sorts) (defScope s__law_sorts) [] [] (He.fAd K d__law_sorts.at_) (fdA K (He.fAd K d__law_sorts.at_))
  g__law_bases : mg "_law_bases" = some (.ref (He.ga K "_law_bases"))
  F__law_bases : FunD K "_law_bases" "_law_bases" (defArgs s__law_bases) (defBody s__law_bases) (defScope s__law_bases) [] [] (He.fAd K d__law_bases.at_) (fdA K (He.fAd K d__law_bases.at_))
  g__law_by_position : mg "_law_by_position" = some (.ref (He.ga K "_law_by_position"))
  F__law_by_position : FunD K "_law_by_position" "_law_by_position" (defArgs s__law_by_position) (defBody s__law_by_position) (defScope s__law_by_position) [] [] (He.fAd K d__law_by_position.at_) (fdA K (He.fAd K d__law_by_position.at_))
  g__law_by_name : mg "_law_by_name" = some (.ref (He.ga K "_law_by_name"))
  F__law_by_name : FunD K "_law_by_name" "_law_by_name" (defArgs s__law_by_name) (defBody s__law_by_name) (defScope s__law_by_name) [] [] (He.fAd K d__law_by_name.at_) (fdA K (He.fAd K d__law_by_name.at_))
  g__law_attributes : mg "_law_attributes" = some (.ref (He.ga K "_law_attributes"))
  F__law_attributes : FunD K "_law_attributes" "_law_attributes" (defArgs s__law_attributes) (defBody s__law_attributes) (defScope s__law_attributes) [] [] (He.fAd K d__law_attributes.at_) (fdA K (He.fAd K d__law_attributes.at_))
  g__law_right : mg "_law_right" = some (.ref (He.ga K "_law_right"))
  F__law_right : FunD K "_law_right" "_law_right" (defArgs s__law_right) (defBody s__law_right) (defScope s__law_right) [] [] (He.fAd K d__law_right.at_) (fdA K (He.fAd K d__law_right.at_))
  g_law : mg "law" = some (.ref (He.ga K "law"))
  F_law : FunD K "law" "law" (defArgs s_law) (defBody s_law) (defScope s_law) [] [] (He.fAd K d_law.at_) (fdA K (He.fAd K d_law.at_))
  xs : sortsB K = true
  xb : basesB K = true
  b_ArithmeticError : mg "ArithmeticError" = none
  b_LookupError : mg "LookupError" = none
  b_ValueError : mg "ValueError" = none
  b_abs : mg "abs" = none
  b_all : mg "all" = none
  b_divmod : mg "divmod" = none
  b_int : mg "int" = none
  b_isinstance : mg "isinstance" = none
  b_len : mg "len" = none
  b_max : mg "max" = none
  b_min : mg "min" = none
  b_range : mg "range" = none
  b_repr : mg "repr" = none
  b_str : mg "str" = none
def loose : List Str := (["WrongValue", "InvalidRoom", "InvalidOption", "InvalidText", "InvalidNumber", "InvalidPeriod", "InvalidName", "InvalidFlag", "InvalidIndex", "InvalidClaim", "NotAMaker", "NotAPartner", "NotAForm", "InvalidRules", "InvalidKeys", "InvalidNumbers", "WrongName", "UnknownName", "InUse", "NoAnswer", "Endless", "TooMany", "Drops", "NothingToUndo", "NotAsked", "Broken", "MOST_ROOM", "MOST_BEST", "MOST_RULES", "MOST_CONDITIONS"] : List Str) ++ (["MOST_KEYS", "MOST_ROOMS", "MOST_BEST_ROOMS", "MOST_WAYS", "MOST_FORM", "_law_source", "_law_draw", "_law_pick", "_law_thing", "_law_sorts", "_law_bases", "_law_by_position", "_law_by_name", "_law_attributes", "_law_right"] : List Str)
abbrev R : PySem.W.OpenRow := PySem.W.OpenLaw.row PySem.Challenge.rw_spillruns_k01_constants_and_errors
def da : List DefA := []
def exs : List (PySem.W.Frag → Bool) := [(fun K => xclB (tlOf "ValueError") "ValueError.__new__" K (He.ga K "WrongValue")), blB "WrongValue" "__init__" "ValueError.__init__", (fun K => xclB (tlOf "ValueError") "ValueError.__new__" K (He.ga K "InvalidRoom")), xiB "InvalidRoom", xnB "InvalidRoom" "given", (fun K => xclB (tlOf "ValueError") "ValueError.__new__" K (He.ga K "InvalidOption")), xiB "InvalidOption", xnB "InvalidOption" "given", (fun K => xclB (tlOf "ValueError") "ValueError.__new__" K (He.ga K "InvalidText")), xiB "InvalidText", xnB "InvalidText" "given", (fun K => xclB (tlOf "ValueError") "ValueError.__new__" K (He.ga K "InvalidNumber")), xiB "InvalidNumber", xnB "InvalidNumber" "given", (fun K => xclB (tlOf "ValueError") "ValueError.__new__" K (He.ga K "InvalidPeriod")), xiB "InvalidPeriod", xnB "InvalidPeriod" "given", (fun K => xclB (tlOf "ValueError") "ValueError.__new__" K (He.ga K "InvalidName")), xiB "InvalidName", xnB "InvalidName" "given", (fun K => xclB (tlOf "ValueError") "ValueError.__new__" K (He.ga K "InvalidFlag")), xiB "InvalidFlag", xnB "InvalidFlag" "given", (fun K => xclB (tlOf "ValueError") "ValueError.__new__" K (He.ga K "InvalidIndex")), xiB "InvalidIndex", xnB "InvalidIndex" "given", (fun K => xclB (tlOf "ValueError") "ValueError.__new__" K (He.ga K "InvalidClaim")), xiB "InvalidClaim", xnB "InvalidClaim" "given", (fun K => xclB (tlOf "ValueError") "ValueError.__new__" K (He.ga K "NotAMaker")), xiB "NotAMaker", xnB "NotAMaker" "given", (fun K => xclB (tlOf "ValueError") "ValueError.__new__" K (He.ga K "NotAPartner")), xiB "NotAPartner", xnB "NotAPartner" "given", (fun K => xclB (tlOf "ValueError") "ValueError.__new__" K (He.ga K "NotAForm")), xiB "NotAForm", xnB "NotAForm" "given", (fun K => xclB (tlOf "ValueError") "ValueError.__new__" K (He.ga K "InvalidRules")), xiB "InvalidRules", xnB "InvalidRules" "index", (fun K => xclB (tlOf "ValueError") "ValueError.__new__" K (He.ga K "InvalidKeys")), xiB "InvalidKeys", xnB "InvalidKeys" "index", (fun K => xclB (tlOf "ValueError") "ValueError.__new__" K (He.ga K "InvalidNumbers")), xiB "InvalidNumbers", xnB "InvalidNumbers" "index", (fun K => xclB (tlOf "LookupError") "LookupError.__new__" K (He.ga K "WrongName")), blB "WrongName" "__init__" "LookupError.__init__", (fun K => xclB (tlOf "LookupError") "LookupError.__new__" K (He.ga K "UnknownName")), xiB "UnknownName", xnB "UnknownName" "given", (fun K => xclB (tlOf "LookupError") "LookupError.__new__" K (He.ga K "InUse")), xiB "InUse", xnB "InUse" "index", (fun K => xclB (tlOf "ArithmeticError") "ArithmeticError.__new__" K (He.ga K "NoAnswer")), blB "NoAnswer" "__init__" "ArithmeticError.__init__", (fun K => xclB (tlOf "ArithmeticError") "ArithmeticError.__new__" K (He.ga K "Endless")), blB "Endless" "__init__" "ArithmeticError.__init__", (fun K => xclB (tlOf "ArithmeticError") "ArithmeticError.__new__" K (He.ga K "TooMany")), xiB "TooMany", xnB "TooMany" "limit", (fun K => xclB (tlOf "ArithmeticError") "ArithmeticError.__new__" K (He.ga K "Drops")), blB "Drops" "__init__" "ArithmeticError.__init__", (fun K => xclB (tlOf "ArithmeticError") "ArithmeticError.__new__" K (He.ga K "NothingToUndo")), blB "NothingToUndo" "__init__" "ArithmeticError.__init__", (fun K => xclB (tlOf "ArithmeticError") "ArithmeticError.__new__" K (He.ga K "NotAsked")), xiB "NotAsked", xnB "NotAsked" "index", (fun K => xclB (tlOf "ArithmeticError") "ArithmeticError.__new__" K (He.ga K "Broken")), xiB "Broken", xnB "Broken" "index", xnB "Broken" "shown", sortsB, basesB]
abbrev hk : PySem.W.Hook := hookA 6 fa fn da exs
def ob (s : PySem.W.SharedT) : AlA := obsA 6 fa fn da exs (HandSHeadRun.getT s)
theorem ob_eq (s : PySem.W.SharedT) : ob s = hk.obs s.abs := obsA_eq (HandSHeadRun.getT_eq s)
theorem run (w : World) : HandSHeadRun.RunEq R (PySem.W.view R.prog [47]) hk ob 20000 loose w := by
  intro os
  kernel_rfl
theorem tx_of {K : PySem.W.Frag} {h : Heap} {mg : Str → Option Value} (X : K.In h) (G : h.Ns mainGlobals mg) (c : SaysA fa fn da exs K) : Tx K mg :=
  ⟨He.glo_ok X G (c.d.fact 0),
   xclB_ok (c.ex 0),
   blB_ok (c.ex 1),
   He.glo_ok X G (c.d.fact 1),
   xclB_ok (c.ex 2),
   xiB_ok xb_V (xclB_ok (c.ex 2)) (c.ex 3),
   xnB_ok (c.ex 4),
   funD_fd (c.d.def_ 0 (d := d_InvalidRoom_init) rfl),
   He.glo_ok X G (c.d.fact 2),
   xclB_ok (c.ex 5),
   xiB_ok xb_V (xclB_ok (c.ex 5)) (c.ex 6),
   xnB_ok (c.ex 7),
   funD_fd (c.d.def_ 1 (d := d_InvalidOption_init) rfl),
   He.glo_ok X G (c.d.fact 3),
   xclB_ok (c.ex 8),
   xiB_ok xb_V (xclB_ok (c.ex 8)) (c.ex 9),
   xnB_ok (c.ex 10),
   funD_fd (c.d.def_ 2 (d := d_InvalidText_init) rfl),
   He.glo_ok X G (c.d.fact 4),
   xclB_ok (c.ex 11),
   xiB_ok xb_V (xclB_ok (c.ex 11)) (c.ex 12),
   xnB_ok (c.ex 13),
   funD_fd (c.d.def_ 3 (d := d_InvalidNumber_init) rfl),
   He.glo_ok X G (c.d.fact 5),
   xclB_ok (c.ex 14),
   xiB_ok xb_V (xclB_ok (c.ex 14)) (c.ex 15),
   xnB_ok (c.ex 16),
   funD_fd (c.d.def_ 4 (d := d_InvalidPeriod_init) rfl),
   He.glo_ok X G (c.d.fact 6),
   xclB_ok (c.ex 17),
   xiB_ok xb_V (xclB_ok (c.ex 17)) (c.ex 18),
   xnB_ok (c.ex 19),
   funD_fd (c.d.def_ 5 (d := d_InvalidName_init) rfl),
   He.glo_ok X G (c.d.fact 7),
   xclB_ok (c.ex 20),
   xiB_ok xb_V (xclB_ok (c.ex 20)) (c.ex 21),
   xnB_ok (c.ex 22),
   funD_fd (c.d.def_ 6 (d := d_InvalidFlag_init) rfl),
   He.glo_ok X G (c.d.fact 8),
   xclB_ok (c.ex 23),
   xiB_ok xb_V (xclB_ok (c.ex 23)) (c.ex 24),
   xnB_ok (c.ex 25),
   funD_fd (c.d.def_ 7 (d := d_InvalidIndex_init) rfl),
   He.glo_ok X G (c.d.fact 9),
   xclB_ok (c.ex 26),
   xiB_ok xb_V (xclB_ok (c.ex 26)) (c.ex 27),
   xnB_ok (c.ex 28),
   funD_fd (c.d.def_ 8 (d := d_InvalidClaim_init) rfl),
   He.glo_ok X G (c.d.fact 10),
   xclB_ok (c.ex 29),
   xiB_ok xb_V (xclB_ok (c.ex 29)) (c.ex 30),
   xnB_ok (c.ex 31),
   funD_fd (c.d.def_ 9 (d := d_NotAMaker_init) rfl),
   He.glo_ok X G (c.d.fact 11),
   xclB_ok (c.ex 32),
   xiB_ok xb_V (xclB_ok (c.ex 32)) (c.ex 33),
   xnB_ok (c.ex 34),
   funD_fd (c.d.def_ 10 (d := d_NotAPartner_init) rfl),
   He.glo_ok X G (c.d.fact 12),
   xclB_ok (c.ex 35),
   xiB_ok xb_V (xclB_ok (c.ex 35)) (c.ex 36),
   xnB_ok (c.ex 37),
   funD_fd (c.d.def_ 11 (d := d_NotAForm_init) rfl),
   He.glo_ok X G (c.d.fact 13),
   xclB_ok (c.ex 38),
   xiB_ok xb_V (xclB_ok (c.ex 38)) (c.ex 39),
   xnB_ok (c.ex 40),
   funD_fd (c.d.def_ 12 (d := d_InvalidRules_init) rfl),
   He.glo_ok X G (c.d.fact 14),
   xclB_ok (c.ex 41),
   xiB_ok xb_V (xclB_ok (c.ex 41)) (c.ex 42),
   xnB_ok (c.ex 43),
   funD_fd (c.d.def_ 13 (d := d_InvalidKeys_init) rfl),
   He.glo_ok X G (c.d.fact 15),
   xclB_ok (c.ex 44),
   xiB_ok xb_V (xclB_ok (c.ex 44)) (c.ex 45),
   xnB_ok (c.ex 46),
   funD_fd (c.d.def_ 14 (d := d_InvalidNumbers_init) rfl),
   He.glo_ok X G (c.d.fact 16),
   xclB_ok (c.ex 47),
   blB_ok (c.ex 48),
   He.glo_ok X G (c.d.fact 17),
   xclB_ok (c.ex 49),
   xiB_ok xb_L (xclB_ok (c.ex 49)) (c.ex 50),
   xnB_ok (c.ex 51),
   funD_fd (c.d.def_ 15 (d := d_UnknownName_init) rfl),
   He.glo_ok X G (c.d.fact 18),
   xclB_ok (c.ex 52),
   xiB_ok xb_L (xclB_ok (c.ex 52)) (c.ex 53),
   xnB_ok (c.ex 54),
   funD_fd (c.d.def_ 16 (d := d_InUse_init) rfl),
   He.glo_ok X G (c.d.fact 19),
   xclB_ok (c.ex 55),
   blB_ok (c.ex 56),
   He.glo_ok X G (c.d.fact 20),
   xclB_ok (c.ex 57),
   blB_ok (c.ex 58),
   He.glo_ok X G (c.d.fact 21),
   xclB_ok (c.ex 59),
   xiB_ok xb_A (xclB_ok (c.ex 59)) (c.ex 60),
   xnB_ok (c.ex 61),
   funD_fd (c.d.def_ 17 (d := d_TooMany_init) rfl),
   He.glo_ok X G (c.d.fact 22),
   xclB_ok (c.ex 62),
   blB_ok (c.ex 63),
   He.glo_ok X G (c.d.fact 23),
   xclB_ok (c.ex 64),
   blB_ok (c.ex 65),
   He.glo_ok X G (c.d.fact 24),
   xclB_ok (c.ex 66),
   xiB_ok xb_A (xclB_ok (c.ex 66)) (c.ex 67),
   xnB_ok (c.ex 68),
   funD_fd (c.d.def_ 18 (d := d_NotAsked_init) rfl),
   He.glo_ok X G (c.d.fact 25),
   xclB_ok (c.ex 69),
   xiB_ok xb_A (xclB_ok (c.ex 69)) (c.ex 70),
   xnB_ok (c.ex 71),
   xnB_ok (c.ex 72),
   funD_fd (c.d.def_ 19 (d := d_Broken_init) rfl),
   He.int_ok X G (c.d.fact 26),
   He.int_ok X G (c.d.fact 27),
   He.int_ok X G (c.d.fact 28),
   He.int_ok X G (c.d.fact 29),
   He.int_ok X G (c.d.fact 30),
   He.int_ok X G (c.d.fact 31),
   He.int_ok X G (c.d.fact 32),
   He.int_ok X G (c.d.fact 33),
   He.int_ok X G (c.d.fact 34),
   He.glo_ok X G (c.d.fact 35),
   funD_fd (c.d.def_ 20 (d := d__law_source) rfl),
   He.glo_ok X G (c.d.fact 36),
   funD_fd (c.d.def_ 21 (d := d__law_draw) rfl),
   He.glo_ok X G (c.d.fact 37),
   funD_fd (c.d.def_ 22 (d := d__law_pick) rfl),
   He.glo_ok X G (c.d.fact 38),
   funD_fd (c.d.def_ 23 (d := d__law_thing) rfl),
   He.glo_ok X G (c.d.fact 39),
   funD_fd (c.d.def_ 24 (d := d__law_sorts) rfl),
   He.glo_ok X G (c.d.fact 40),
   funD_fd (c.d.def_ 25 (d := d__law_bases) rfl),
   He.glo_ok X G (c.d.fact 41),
   funD_fd (c.d.def_ 26 (d := d__law_by_position) rfl),
   He.glo_ok X G (c.d.fact 42),
   funD_fd (c.d.def_ 27 (d := d__law_by_name) rfl),
   He.glo_ok X G (c.d.fact 43),
   funD_fd (c.d.def_ 28 (d := d__law_attributes) rfl),
   He.glo_ok X G (c.d.fact 44),
   funD_fd (c.d.def_ 29 (d := d__law_right) rfl),
   He.glo_ok X G (c.d.fact 45),
   funD_fd (c.d.def_ 30 (d := d_law) rfl),
   c.ex 73,
   c.ex 74,
   He.free_ok X G (c.d.fact 46),
   He.free_ok X G (c.d.fact 47),
   He.free_ok X G (c.d.fact 48),
   He.free_ok X G (c.d.fact 49),
   He.free_ok X G (c.d.fact 50),
   He.free_ok X G (c.d.fact 51),
   He.free_ok X G (c.d.fact 52),
   He.free_ok X G (c.d.fact 53),
   He.free_ok X G (c.d.fact 54),
   He.free_ok X G (c.d.fact 55),
   He.free_ok X G (c.d.fact 56),
   He.free_ok X G (c.d.fact 57),
   He.free_ok X G (c.d.fact 58),
   He.free_ok X G (c.d.fact 59)⟩
end K01
namespace K01
open PySem PySem.Spec PyProof.Rows L2 Sp
variable {P : Program} {w : World} {K : PySem.W.Frag} {mg : Str → Option Value} {base : Heap}
theorem atI_ints {ns : List Int} {z : Int} {j : Nat} (e : z = (j : Int)) (h : j < ns.length) : atI (ns.map V.int) z = some (.int (ns.getD j 0)) := by
  rw [e]
  refine atI_nat ?_
  rw [List.getElem?_map, List.getElem?_eq_getElem h]
  simp [List.getD, List.getElem?_eq_getElem h]

/-! ### draws -/
def Pool (H : Hp) (p : Addr) : Prop := ∃ a b c : Int, H p = some (.lst [.int a, .int b, .int c]) ∧ 0 ≤ a ∧ a < 2147483629 ∧ 0 ≤ c
/-- all but p is as it was -/
def Kp (p : Addr) (H H' : Hp) : Prop := ∀ b o, b ≠ p → H b = some o → H' b = some o
theorem Kp.refl {p : Addr} {H : Hp} : Kp p H H := fun _ _ _ h => h
theorem Kp.trans {p : Addr} {H H1 H2 : Hp} (a : Kp p H H1) (b : Kp p H1 H2) : Kp p H H2 := fun c o n h => b c o n (a c o n h)
theorem Kp.new {p q : Addr} {H : Hp} {o : HO} (hq : H q = none) : Kp p H (upd H q o) := fun b u _ h => by rw [upd_ne (ne_of_none h hq)]; exact h
theorem Kp.put {p : Addr} {H : Hp} {o : HO} : Kp p H (upd H p o) := fun b u n h => by rw [upd_ne n]; exact h
theorem Kp.same {p : Addr} {H H' : Hp} (e : Same H H') : Kp p H H' := fun b u _ h => e b u h
def sp__law_draw (K : PySem.W.Frag) : L2.Sp := fun vs H Q _ => on2 vs fun x y => onRef x fun p => onInt y fun m => Pool H p ∧ 0 < m ∧ m < 2 ^ 200 ∧
  ∀ (r : Int) (H' : Hp), 0 ≤ r → r < m → Pool H' p → Kp p H H' → Q (.int r) H'
abbrev N__law_draw : List Str := ["_law_pool", "_law_many", "_law_seed", "_law_figure"]
theorem sc__law_draw : FnScope N__law_draw ["_law_pool", "_law_many"] (defScope s__law_draw) := ⟨rfl, rfl, rfl, by decide +kernel, rfl, by decide +kernel, by decide +kernel⟩
def t__law_draw (K : PySem.W.Frag) : TS :=
    tSeq (tAsg (tOp fAdd (tOp (fIxL K) (fV 0) (tC (.int 1))) (tC (.int 1))) (gSub (fV 0) (tC (.int 1)) fSetL))
    (tSeq (tAsg (tCB fInt1 (tCons (tOp (fIxL K) (fV 0) (tC (.int 0))) tNil)) (gName 2))
    (tSeq (tAsg (tOp fMod (tCB fInt1 (tCons (tOp fAdd (tOp fAdd (tOp fAdd (tOp fMulW (fV 2) (fV 2)) (tOp fMul (tC (.int 69621)) (fV 2))) (tOp fMul (tC (.int 48611)) (tOp (fIxL K) (fV 0) (tC (.int 1))))) (tC (.int 11))) tNil)) (tC (.int 2147483629))) (gSub (fV 0) (tC (.int 0)) fSetL))
    (tSeq (tIfS (fT (tOp fGt (tOp (fIxL K) (fV 0) (tC (.int 2))) (tC (.int 0))))
    (tSeq (tAsg (tCB fDivmod (tCons (tOp (fIxL K) (fV 0) (tC (.int 2))) (tCons (fV 1) tNil))) (gTup K 2 (gCons (gSub (fV 0) (tC (.int 2)) fSetL) (gCons (gName 3) gNil))))
    (tRet (fV 3))) tNext)
    (tRet (tOp fMod (tCB fInt1 (tCons (tOp fDiv (tOp (fIxL K) (fV 0) (tC (.int 0))) (tC (.int 97))) tNil)) (fV 1))))))
abbrev Pure__law_draw (K : PySem.W.Frag) : Prop := ∀ (vs : List V) (H : Hp) (Q : VK) (E : XK), sp__law_draw K vs H Q E → t__law_draw K { nx := fun _ H' => Q .non H', rt := Q } (L2.start N__law_draw vs) H
theorem mW {m : Int} (h0 : 0 < m) (h1 : m < 2 ^ 200) (x : Int) : CDivW x m := wide_div (b := 200) h0 (by omega) (by decide) (by decide)
theorem pure__law_draw (T : Tx K mg) : Pure__law_draw K := by
  intro vs H Q E h
  obtain ⟨x, y, rfl, h⟩ := on2_ex h
  obtain ⟨p, rfl, h⟩ := onRef_ex h
  obtain ⟨m, rfl, ⟨a, b, c, hp, ha0, ha1, hc⟩, hm0, hm1, hQ⟩ := onInt_ex h
  refine ⟨_, SqL.of hp, _, rfl, _, hp, _, rfl, ?_⟩
  refine ⟨_, SqL.of upd_same, _, rfl, ?_⟩
  refine ⟨wide_mul (a := 31) (b := 31) (by omega) (by omega) (by decide) (by decide) (by decide), .inl ⟨by decide, by decide⟩, ?_⟩
  refine ⟨_, SqL.of upd_same, _, rfl, .inl ⟨by decide, by decide⟩, by show (0 : Int) < _; decide, _, upd_same, _, rfl, ?_⟩
  refine ⟨_, SqL.of upd_same, _, rfl, ?_⟩
  have hb0 : ∀ z : Int, 0 ≤ z % 2147483629 ∧ z % 2147483629 < 2147483629 := fun z => by omega
  refine ite2 (fun h => ?_) (fun h => ?_)
  · have h : (0 : Int) < c := of_decide_eq_true h
    refine ⟨_, SqL.of upd_same, _, rfl, mW hm0 hm1 _, fun q hq => ?_⟩
    have hqp : p ≠ q := ne_of_none upd_same hq
    refine ⟨q, _, rfl, SqT.of upd_same, rfl, _, _, rfl, ?_⟩
    refine ⟨_, (by rw [upd_ne hqp]; exact upd_same), _, rfl, _, _, rfl, rfl, ?_⟩
    refine hQ (c % m) _ (Int.emod_nonneg _ (by omega)) (Int.emod_lt_of_pos _ hm0) ⟨_, _, _, upd_same, (hb0 _).1, (hb0 _).2, Int.ediv_nonneg hc (by omega)⟩ ?_
    exact ((Kp.put.trans Kp.put).trans (Kp.new hq)).trans Kp.put
  · refine ⟨_, SqL.of upd_same, _, rfl, wide_div (b := 7) (by decide) (by decide) (by decide) (by decide), hm0, ?_⟩
    exact hQ _ _ (Int.emod_nonneg _ (by omega)) (Int.emod_lt_of_pos _ hm0) ⟨_, _, _, upd_same, (hb0 _).1, (hb0 _).2, hc⟩ (Kp.put.trans Kp.put)
theorem b__law_draw (T : Tx K mg) : Binds K (fdA K (He.fAd K d__law_draw.at_)) ["_law_pool", "_law_many"] [] := T.F__law_draw.bindsN fun _ _ _ _ _ _ us hl => match us, hl with | [_, _], _ => rfl
theorem ok__law_draw (T : Tx K mg) : FnOk P w K mg base CX0 1 (He.fAd K d__law_draw.at_) (fdA K (He.fAd K d__law_draw.at_)) ["_law_pool", "_law_many"] (sp__law_draw K) :=
  T.F__law_draw.ok sc__law_draw (fun _ _ _ _ h => on2_len h) (fun cdv A outer s H vs Q E hr h => ⟨t__law_draw K, PSs.nox ((pss_cons (ps_asg (pe_op o_add (pe_ix x_list (vv 0) pe_int (fun _ _ => rfl)) pe_int) (pg_sub (vv 0) pe_int s_list))
      (pss_cons (ps_set (i := 2) sc__law_draw.nd rfl (.inl rfl) (pe_callTy c_int1 (by rfl) T.b_int boot_int (pa_cons (pe_ix x_list (vv 0) pe_int (fun _ _ => rfl)) pa_nil)))
      (pss_cons (ps_asg (pe_op o_mod (pe_callTy c_int1 (by rfl) T.b_int boot_int (pa_cons (pe_op o_add (pe_op o_add (pe_op o_add (pe_op o_mulW (vv 2) (vv 2)) (pe_op o_mul pe_int (vv 2))) (pe_op o_mul pe_int (pe_ix x_list (vv 0) pe_int (fun _ _ => rfl)))) pe_int) pa_nil)) pe_int) (pg_sub (vv 0) pe_int s_list))
      (pss_cons (ps_if (t_cmp o_gt (pe_ix x_list (vv 0) pe_int (fun _ _ => rfl)) pe_int (nomark _))
      (pss_cons (ps_asg (pe_callB c_divmod (by rfl) T.b_divmod boot_divmod (pa_cons (pe_ix x_list (vv 0) pe_int (fun _ _ => rfl)) (pa_cons (vv 1) pa_nil))) (pg_tup rfl (pgs_cons (pg_sub (vv 0) pe_int s_list) (pgs_cons (pg_name (i := 3) sc__law_draw.nd rfl (.inl rfl)) pgs_nil))))
      (pss_one (ps_ret (vv 3)))) pss_nil)
      (pss_one (ps_ret (pe_op o_mod (pe_callTy c_int1 (by rfl) T.b_int boot_int (pa_cons (pe_op o_div (pe_ix x_list (vv 0) pe_int (fun _ _ => rfl)) pe_int) pa_nil)) (vv 1))))))))), pure__law_draw T vs H Q E h⟩)
/-- one of the things in a list -/
def sp__law_pick (K : PySem.W.Frag) : L2.Sp := fun vs H Q _ => on2 vs fun x y => onRef x fun p => onRef y fun m => Pool H p ∧ ∃ xs, SqL K H m xs ∧ m ≠ p ∧ xs ≠ [] ∧ xs.length < 1000 ∧
  ∀ (i : Nat) (v : V) (H' : Hp), xs[i]? = some v → Pool H' p → Kp p H H' → Q v H'
abbrev N__law_pick : List Str := ["_law_pool", "_law_menu"]
theorem sc__law_pick : FnScope N__law_pick ["_law_pool", "_law_menu"] (defScope s__law_pick) := ⟨rfl, rfl, rfl, by decide +kernel, rfl, by decide +kernel, by decide +kernel⟩
def t__law_pick (K : PySem.W.Frag) : TS :=
    tRet (tOp (fIxL K) (fV 1) (tCall (sp__law_draw K) [] E0 (tCons (fV 0) (tCons (tCB (fLen K) (tCons (fV 1) tNil)) tNil))))
abbrev Pure__law_pick (K : PySem.W.Frag) : Prop := ∀ (vs : List V) (H : Hp) (Q : VK) (E : XK), sp__law_pick K vs H Q E → t__law_pick K { nx := fun _ H' => Q .non H', rt := Q } (L2.start N__law_pick vs) H
theorem kpL {p : Addr} {H H' : Hp} {m : Addr} {xs : List V} (e : Kp p H H') (n : m ≠ p) (h : SqL K H m xs) : SqL K H' m xs := by
  rcases h with (h | ⟨o, h⟩) | h
  · exact .inl (.inl (e _ _ n h))
  · exact .inl (.inr ⟨o, e _ _ n h⟩)
  · exact .inr h
theorem kpT {p : Addr} {H H' : Hp} {m : Addr} {xs : List V} (e : Kp p H H') (n : m ≠ p) (h : SqT K H m xs) : SqT K H' m xs := by
  rcases h with (h | ⟨o, h⟩) | h
  · exact .inl (.inl (e _ _ n h))
  · exact .inl (.inr ⟨o, e _ _ n h⟩)
  · exact .inr h
theorem pure__law_pick (T : Tx K mg) : Pure__law_pick K := by
  intro vs H Q E h
  obtain ⟨x, y, rfl, h⟩ := on2_ex h
  obtain ⟨p, rfl, h⟩ := onRef_ex h
  obtain ⟨m, rfl, hp, xs, hx, hmp, hne, hl, hQ⟩ := onRef_ex h
  have hpos : 0 < xs.length := List.length_pos_iff.mpr hne
  refine ⟨_, .inl hx, hp, by omega, by omega, fun r H' h0 h1 hp' hk => ?_⟩
  have hr : r.toNat < xs.length := by omega
  exact ⟨_, kpL hk hmp hx, xs[r.toNat], at_of (j := r.toNat) (by omega) (by simp [hr]), hQ r.toNat _ H' (by simp [hr]) hp' hk⟩
theorem b__law_pick (T : Tx K mg) : Binds K (fdA K (He.fAd K d__law_pick.at_)) ["_law_pool", "_law_menu"] [] := T.F__law_pick.bindsN fun _ _ _ _ _ _ us hl => match us, hl with | [_, _], _ => rfl
theorem ok__law_pick (T : Tx K mg) : FnOk P w K mg base CX0 2 (He.fAd K d__law_pick.at_) (fdA K (He.fAd K d__law_pick.at_)) ["_law_pool", "_law_menu"] (sp__law_pick K) :=
  T.F__law_pick.ok sc__law_pick (fun _ _ _ _ h => on2_len h) (fun cdv A outer s H vs Q E hr h => ⟨t__law_pick K, PSs.nox ((pss_one (ps_ret (pe_ix x_list (vv 1) (pe_call (ok__law_draw T) (hr.mono (by decide)) (by rfl) T.g__law_draw T.F__law_draw.kp (b__law_draw T) .nil pass0 (pa_cons (vv 0) (pa_cons (pe_callB c_len (by rfl) T.b_len boot_len (pa_cons (vv 1) pa_nil)) pa_nil))) (fun _ _ => rfl))))), pure__law_pick T vs H Q E h⟩)
/-- a new pool -/
def sp__law_source (K : PySem.W.Frag) : L2.Sp := fun vs H Q _ => on2 vs fun x y => onRef x fun c => onInt y fun k => ∃ ns : List Int, SqL K H c (ns.map V.int) ∧ ns.length ≤ 1000 ∧ 0 ≤ k ∧ k ≤ 100 ∧
  ∀ (p : Addr) (H' : Hp), H p = none → Pool H' p → Same H H' → Q (.ref p) H'
abbrev N__law_source : List Str := ["_law_cells", "_law_k", "_law_figures", "_law_seed", "_law_cell"]
theorem sc__law_source : FnScope N__law_source ["_law_cells", "_law_k"] (defScope s__law_source) := ⟨rfl, rfl, rfl, by decide +kernel, rfl, by decide +kernel, by decide +kernel⟩
def t__law_source (K : PySem.W.Frag) : TS :=
    tSeq (tIfS (fT (tOp fLt (fV 1) (tCB (fLen K) (tCons (fV 0) tNil))))
    (tSeq (tAsg (tIf (tOr (fT (tOp fLt (tOp (fIxL K) (fV 0) (fV 1)) (tC (.int 0)))) (fT (tOp fGe (tOp (fIxL K) (fV 0) (fV 1)) (tOp fPow (tC (.int 10)) (tC (.int 18)))))) (tCB fAbs (tCons (tOp (fIxL K) (fV 0) (fV 1)) tNil)) (tC (.int 0))) (gName 2))
    (tRet (tLst (tCons (tOp fMod (tCB fInt1 (tCons (tOp fAdd (tOp fAdd (tOp fMul (tOp (fIxL K) (fV 0) (fV 1)) (tC (.int 40507))) (tOp fMul (tC (.int 977)) (fV 1))) (tC (.int 1))) tNil)) (tC (.int 2147483629))) (tCons (tC (.int 0)) (tCons (fV 2) tNil)))))) tNext)
    (tSeq (tAsg (tOp fAdd (tOp fMul (tC (.int 31)) (fV 1)) (tC (.int 7))) (gName 3))
    (tSeq (tFor (iList K (tSl (rSlL K) (fV 0) tNoPart (tPart (tC (.int 4))))) (gName 4)
    (tAsg (tOp fMod (tCB fInt1 (tCons (tOp fAdd (tOp fMul (fV 3) (tC (.int 48271))) (fV 4)) tNil)) (tC (.int 2147483587))) (gName 3)))
    (tRet (tLst (tCons (fV 3) (tCons (tC (.int 0)) (tCons (tC (.int 0)) tNil)))))))
abbrev Pure__law_source (K : PySem.W.Frag) : Prop := ∀ (vs : List V) (H : Hp) (Q : VK) (E : XK), sp__law_source K vs H Q E → t__law_source K { nx := fun _ H' => Q .non H', rt := Q } (L2.start N__law_source vs) H
theorem pure__law_source (T : Tx K mg) : Pure__law_source K := by
  intro vs H Q E h
  obtain ⟨x, y, rfl, h⟩ := on2_ex h
  obtain ⟨c, rfl, h⟩ := onRef_ex h
  obtain ⟨k, rfl, ns, hS, hl, hk0, hk1, hQ⟩ := onInt_ex h
  refine ⟨_, .inl hS, ?_⟩
  have hb0 : ∀ z : Int, 0 ≤ z % 2147483629 ∧ z % 2147483629 < 2147483629 := fun z => by omega
  refine ite2 (fun h => ?_) (fun h => ?_)
  · have h : k < ((ns.map V.int).length : Int) := of_decide_eq_true h
    rw [List.length_map] at h
    have ek : k = (k.toNat : Int) := by omega
    have hkl : k.toNat < ns.length := by omega
    have hat := atI_ints (ns := ns) (z := k) (j := k.toNat) ek hkl
    generalize ns.getD k.toNat 0 = z at hat
    have fin : ∀ f : Int, 0 ≤ f → tRet (tLst (tCons (tOp fMod (tCB fInt1 (tCons (tOp fAdd (tOp fAdd (tOp fMul (tOp (fIxL K) (fV 0) (fV 1)) (tC (.int 40507))) (tOp fMul (tC (.int 977)) (fV 1))) (tC (.int 1))) tNil)) (tC (.int 2147483629))) (tCons (tC (.int 0)) (tCons (fV 2) tNil)))) { nx := fun _ H' => Q .non H', rt := Q } [some (.ref c), some (.int k), some (.int f), none, none] H := fun f hf => by
      refine ⟨_, hS, _, hat, .inr ⟨by decide, by decide⟩, .inl ⟨by decide, by decide⟩, by show (0 : Int) < _; decide, by show 3 ≤ sizeLine; decide, fun p hp => ?_⟩
      exact hQ p _ hp ⟨_, _, _, upd_same, (hb0 _).1, (hb0 _).2, hf⟩ (Same.upd hp)
    refine ⟨_, hS, _, hat, ite2 (fun h1 => ?_) (fun h1 => ?_)⟩
    · refine iteT ⟨_, hS, _, hat, ?_⟩
      refine fin _ ?_
      split <;> omega
    · refine ⟨_, hS, _, hat, ⟨by decide, by decide, by decide⟩, ?_⟩
      refine ite2 (fun h2 => ?_) (fun h2 => ?_)
      · refine ⟨_, hS, _, hat, ?_⟩
        refine fin _ ?_
        split <;> omega
      · exact fin 0 (by omega)
  · refine ⟨.inl ⟨by decide, by decide⟩, _, rfl, _, _, rfl, hS, fun q hq => ?_⟩
    refine ⟨_, rfl, ⟨_, SqL.of upd_same⟩, ?_⟩
    refine for_list (K := K) (a := q) (xs := cutV (ns.map V.int) none (some 4)) (fun i σ H1 => Same (upd H q (.lst (cutV (ns.map V.int) none (some 4)))) H1 ∧ ∃ (s : Int) (o : Option V), 0 ≤ s ∧ s < 2147483629 ∧ σ = [some (.ref c), some (.int k), none, some (.int s), o]) ⟨Same.refl _, 31 * k + 7, none, by omega, by omega, rfl⟩ (fun i σ H1 _ hp => hp.1.seq (SqL.of upd_same)) (fun i x σ H1 hx hp => ?_) (fun σ H1 hp => ?_)
    · obtain ⟨e1, s, o, h0, h1, rfl⟩ := hp
      have : ∃ z : Int, x = .int z := by
        have hm := List.mem_of_getElem? hx
        have hm2 : x ∈ ns.map V.int := List.mem_of_mem_drop (List.mem_of_mem_take hm)
        obtain ⟨z, _, rfl⟩ := List.mem_map.mp hm2
        exact ⟨z, rfl⟩
      obtain ⟨z, rfl⟩ := this
      refine ⟨.inr ⟨by decide, by decide⟩, by show (0 : Int) < _; decide, e1, _, some (.int z), ?_, ?_, rfl⟩
      · exact Int.emod_nonneg _ (by decide)
      · exact Int.lt_trans (Int.emod_lt_of_pos _ (by decide)) (by decide)
    · obtain ⟨e1, s, o, h0, h1, rfl⟩ := hp
      refine ⟨by show 3 ≤ sizeLine; decide, fun p hp => ?_⟩
      refine hQ p _ ((Same.upd hq).free (e1.free hp)) ⟨_, _, _, upd_same, h0, h1, by omega⟩ (((Same.upd hq).trans e1).trans (Same.upd hp))
theorem b__law_source (T : Tx K mg) : Binds K (fdA K (He.fAd K d__law_source.at_)) ["_law_cells", "_law_k"] [] := T.F__law_source.bindsN fun _ _ _ _ _ _ us hl => match us, hl with | [_, _], _ => rfl
theorem ok__law_source (T : Tx K mg) : FnOk P w K mg base CX0 1 (He.fAd K d__law_source.at_) (fdA K (He.fAd K d__law_source.at_)) ["_law_cells", "_law_k"] (sp__law_source K) :=
  T.F__law_source.ok sc__law_source (fun _ _ _ _ h => on2_len h) (fun cdv A outer s H vs Q E hr h => ⟨t__law_source K, PSs.nox ((pss_cons (ps_if (t_cmp o_lt (vv 1) (pe_callB c_len (by rfl) T.b_len boot_len (pa_cons (vv 0) pa_nil)) (nomark _))
      (pss_cons (ps_set (i := 2) sc__law_source.nd rfl (.inl rfl) (pe_ifExp (PW.pt (pw_or (t_cmp o_lt (pe_ix x_list (vv 0) (vv 1) (fun _ _ => rfl)) pe_int (nomark _)) (pw_or1 (t_cmp o_ge (pe_ix x_list (vv 0) (vv 1) (fun _ _ => rfl)) (pe_op o_pow pe_int pe_int) (nomark _))))) (pe_callB c_abs (by rfl) T.b_abs boot_abs (pa_cons (pe_ix x_list (vv 0) (vv 1) (fun _ _ => rfl)) pa_nil)) pe_int))
      (pss_one (ps_ret (pe_lst (pa_cons (pe_op o_mod (pe_callTy c_int1 (by rfl) T.b_int boot_int (pa_cons (pe_op o_add (pe_op o_add (pe_op o_mul (pe_ix x_list (vv 0) (vv 1) (fun _ _ => rfl)) pe_int) (pe_op o_mul pe_int (vv 1))) pe_int) pa_nil)) pe_int) (pa_cons pe_int (pa_cons (vv 2) pa_nil))))))) pss_nil)
      (pss_cons (ps_set (i := 3) sc__law_source.nd rfl (.inl rfl) (pe_op o_add (pe_op o_mul pe_int (vv 1)) pe_int))
      (pss_cons (ps_for PassesOwn.never (by rfl) (pi_list (pe_slice sl_list (vv 0) po_none (po_some pe_int))) (pg_name (i := 4) sc__law_source.nd rfl (.inl rfl))
      (pss_one (ps_set (i := 3) sc__law_source.nd rfl (.inl rfl) (pe_op o_mod (pe_callTy c_int1 (by rfl) T.b_int boot_int (pa_cons (pe_op o_add (pe_op o_mul (vv 3) pe_int) (vv 4)) pa_nil)) pe_int))))
      (pss_one (ps_ret (pe_lst (pa_cons (vv 3) (pa_cons pe_int (pa_cons pe_int pa_nil)))))))))), pure__law_source T vs H Q E h⟩)

end K01
namespace K01
open PySem PySem.Spec PyProof.Rows L2 Sp
variable {P : Program} {w : World} {K : PySem.W.Frag} {mg : Str → Option Value} {base : Heap}
/-- things at places, one by one -/
inductive Each {α : Type} (R : Addr → α → Prop) : List Addr → List α → Prop where
  | nil : Each R [] []
  | cons {a : Addr} {x : α} {as : List Addr} {xs : List α} (h : R a x) (t : Each R as xs) : Each R (a :: as) (x :: xs)
theorem Each.imp {α : Type} {R S : Addr → α → Prop} (f : ∀ a x, R a x → S a x) : ∀ {as : List Addr} {xs : List α}, Each R as xs → Each S as xs
  | _, _, .nil => .nil
  | _, _, .cons h t => .cons (f _ _ h) (t.imp f)
theorem Each.length {α : Type} {R : Addr → α → Prop} : ∀ {as : List Addr} {xs : List α}, Each R as xs → as.length = xs.length
  | _, _, .nil => rfl
  | _, _, .cons _ t => by simp [t.length]
theorem Each.get {α : Type} {R : Addr → α → Prop} : ∀ {as : List Addr} {xs : List α} {i : Nat} {a : Addr}, Each R as xs → as[i]? = some a → ∃ x, xs[i]? = some x ∧ R a x
  | _, _, _, _, .nil, h => by simp at h
  | _, _, 0, _, .cons h _, e => by
    simp at e
    subst e
    exact ⟨_, rfl, h⟩
  | _, _, i + 1, a, .cons _ t, e => by
    obtain ⟨x, h1, h2⟩ := t.get (i := i) (a := a) (by simpa using e)
    exact ⟨x, by simpa using h1, h2⟩
theorem Each.snoc {α : Type} {R : Addr → α → Prop} {a : Addr} {x : α} (h : R a x) : ∀ {as : List Addr} {xs : List α}, Each R as xs → Each R (as ++ [a]) (xs ++ [x])
  | _, _, .nil => .cons h .nil
  | _, _, .cons h' t => .cons h' (t.snoc h)
theorem Each.snoc_inv {α : Type} {R : Addr → α → Prop} : ∀ {l : List Addr} {p : List α} {r : α}, Each R l (p ++ [r]) → ∃ as b, l = as ++ [b] ∧ Each R as p ∧ R b r
  | [], p, r, h => by
    cases p <;> cases h
  | a :: l, [], r, h => by
    cases h with
    | cons h t =>
      cases t
      exact ⟨[], a, rfl, .nil, h⟩
  | a :: l, x :: p, r, h => by
    cases h with
    | cons h t =>
      obtain ⟨as, b, e, h1, h2⟩ := Each.snoc_inv (p := p) (r := r) t
      exact ⟨a :: as, b, by rw [e]; rfl, .cons h h1, h2⟩
theorem Each.append {α : Type} {R : Addr → α → Prop} : ∀ {as bs : List Addr} {xs ys : List α}, Each R as xs → Each R bs ys → Each R (as ++ bs) (xs ++ ys)
  | _, _, _, _, .nil, h => h
  | _, _, _, _, .cons h t, h2 => .cons h (t.append h2)

/-! ### the errors -/
/-- what an __init__ with one attribute leaves -/
def spX (C : Addr) (f : Str) (x y : V) (H : Hp) (Q : VK) : Prop := onRef x fun a => H a = some (exo a C none) ∧ ∀ H', KpX a H H' → XAt H' a C [(f, y)] → Q .non H'
theorem kx_put {H : Hp} {a dx : Addr} {o u : HO} (hd : H dx = none) : KpX a H (upd (upd H dx o) a u) := fun b v hb h => by
  rw [upd_ne hb, upd_ne (ne_of_none h hd)]
  exact h
theorem mk_same {H H' : Hp} {a : Addr} {o : HO} (ha : H a = none) (k : KpX a (upd H a o) H') : Same H H' := fun b v hb => k b v (ne_of_none hb ha) (by rw [upd_ne (ne_of_none hb ha)]; exact hb)
theorem XAt.same {H H' : Hp} {a C : Addr} {fs : List (Str × V)} (e : Same H H') (h : XAt H a C fs) : XAt H' a C fs := by
  rcases h with ⟨h, z⟩ | ⟨d, h, g⟩
  · exact .inl ⟨e _ _ h, z⟩
  · exact .inr ⟨d, e _ _ h, e _ _ g⟩
def sp_InvalidRoom_init (K : PySem.W.Frag) : L2.Sp := fun vs H Q _ => on2 vs fun x y => spX (He.ga K "InvalidRoom") "given" x y H Q
abbrev N_InvalidRoom_init : List Str := ["self", "given"]
theorem sc_InvalidRoom_init : FnScope N_InvalidRoom_init ["self", "given"] (defScope s_InvalidRoom_init) := ⟨rfl, rfl, rfl, by decide +kernel, rfl, by decide +kernel, by decide +kernel⟩
def t_InvalidRoom_init (K : PySem.W.Frag) : TS :=
    tXst K "given" (fV 0) (fV 1)
abbrev Pure_InvalidRoom_init (K : PySem.W.Frag) : Prop := ∀ (vs : List V) (H : Hp) (Q : VK) (E : XK), sp_InvalidRoom_init K vs H Q E → t_InvalidRoom_init K { nx := fun _ H' => Q .non H', rt := Q } (L2.start N_InvalidRoom_init vs) H
theorem pure_InvalidRoom_init (T : Tx K mg) : Pure_InvalidRoom_init K := by
  intro vs H Q E h
  obtain ⟨x, y, rfl, h⟩ := on2_ex h
  obtain ⟨a, rfl, ha, hQ⟩ := onRef_ex h
  exact ⟨_, T.xi_InvalidRoom.xc, T.xn_InvalidRoom_given.1, .inl ⟨ha, fun dx h1 h2 => hQ _ (kx_put h1) (.inr ⟨dx, upd_same, by rw [upd_ne h2, upd_same]⟩)⟩⟩
theorem b_InvalidRoom_init (T : Tx K mg) : Binds K (fdA K (He.fAd K d_InvalidRoom_init.at_)) ["self", "given"] [] := T.F_InvalidRoom_init.bindsN fun _ _ _ _ _ _ us hl => match us, hl with | [_, _], _ => rfl
theorem ok_InvalidRoom_init (T : Tx K mg) : FnOk P w K mg base CX0 1 (He.fAd K d_InvalidRoom_init.at_) (fdA K (He.fAd K d_InvalidRoom_init.at_)) ["self", "given"] (sp_InvalidRoom_init K) :=
  T.F_InvalidRoom_init.ok sc_InvalidRoom_init (fun _ _ _ _ h => on2_len h) (fun cdv A outer s H vs Q E hr h => ⟨t_InvalidRoom_init K, PSs.nox ((pss_one (s_xst (vv 0) (vv 1)))), pure_InvalidRoom_init T vs H Q E h⟩)
def gV_InvalidRoom_given : List V → List V → List V := fun vs zs => vs ++ zs
theorem kb_InvalidRoom_given (T : Tx K mg) : KBn K (fdA K (He.fAd K d_InvalidRoom_init.at_)) ["self", "given"] 1 ["given"] (fun us ws => us ++ ws) gV_InvalidRoom_given :=
  Sp.FunD.kbinds0 T.F_InvalidRoom_init 1 ["given"] (fun us ws => us ++ ws) (fun r1 r2 => r1.append r2) fun _ _ _ _ _ _ us ws h1 h2 => match us, ws, h1, h2 with | [_], [_], _, _ => rfl
def sp_InvalidOption_init (K : PySem.W.Frag) : L2.Sp := fun vs H Q _ => on2 vs fun x y => spX (He.ga K "InvalidOption") "given" x y H Q
abbrev N_InvalidOption_init : List Str := ["self", "given"]
theorem sc_InvalidOption_init : FnScope N_InvalidOption_init ["self", "given"] (defScope s_InvalidOption_init) := ⟨rfl, rfl, rfl, by decide +kernel, rfl, by decide +kernel, by decide +kernel⟩
def t_InvalidOption_init (K : PySem.W.Frag) : TS :=
    tXst K "given" (fV 0) (fV 1)
abbrev Pure_InvalidOption_init (K : PySem.W.Frag) : Prop := ∀ (vs : List V) (H : Hp) (Q : VK) (E : XK), sp_InvalidOption_init K vs H Q E → t_InvalidOption_init K { nx := fun _ H' => Q .non H', rt := Q } (L2.start N_InvalidOption_init vs) H
theorem pure_InvalidOption_init (T : Tx K mg) : Pure_InvalidOption_init K := by
  intro vs H Q E h
  obtain ⟨x, y, rfl, h⟩ := on2_ex h
  obtain ⟨a, rfl, ha, hQ⟩ := onRef_ex h
  exact ⟨_, T.xi_InvalidOption.xc, T.xn_InvalidOption_given.1, .inl ⟨ha, fun dx h1 h2 => hQ _ (kx_put h1) (.inr ⟨dx, upd_same, by rw [upd_ne h2, upd_same]⟩)⟩⟩
theorem b_InvalidOption_init (T : Tx K mg) : Binds K (fdA K (He.fAd K d_InvalidOption_init.at_)) ["self", "given"] [] := T.F_InvalidOption_init.bindsN fun _ _ _ _ _ _ us hl => match us, hl with | [_, _], _ => rfl
theorem ok_InvalidOption_init (T : Tx K mg) : FnOk P w K mg base CX0 1 (He.fAd K d_InvalidOption_init.at_) (fdA K (He.fAd K d_InvalidOption_init.at_)) ["self", "given"] (sp_InvalidOption_init K) :=
  T.F_InvalidOption_init.ok sc_InvalidOption_init (fun _ _ _ _ h => on2_len h) (fun cdv A outer s H vs Q E hr h => ⟨t_InvalidOption_init K, PSs.nox ((pss_one (s_xst (vv 0) (vv 1)))), pure_InvalidOption_init T vs H Q E h⟩)
def gV_InvalidOption_given : List V → List V → List V := fun vs zs => vs ++ zs
theorem kb_InvalidOption_given (T : Tx K mg) : KBn K (fdA K (He.fAd K d_InvalidOption_init.at_)) ["self", "given"] 1 ["given"] (fun us ws => us ++ ws) gV_InvalidOption_given :=
  Sp.FunD.kbinds0 T.F_InvalidOption_init 1 ["given"] (fun us ws => us ++ ws) (fun r1 r2 => r1.append r2) fun _ _ _ _ _ _ us ws h1 h2 => match us, ws, h1, h2 with | [_], [_], _, _ => rfl
def sp_InvalidText_init (K : PySem.W.Frag) : L2.Sp := fun vs H Q _ => on2 vs fun x y => spX (He.ga K "InvalidText") "given" x y H Q
abbrev N_InvalidText_init : List Str := ["self", "given"]
theorem sc_InvalidText_init : FnScope N_InvalidText_init ["self", "given"] (defScope s_InvalidText_init) := ⟨rfl, rfl, rfl, by decide +kernel, rfl, by decide +kernel, by decide +kernel⟩
def t_InvalidText_init (K : PySem.W.Frag) : TS :=
    tXst K "given" (fV 0) (fV 1)
abbrev Pure_InvalidText_init (K : PySem.W.Frag) : Prop := ∀ (vs : List V) (H : Hp) (Q : VK) (E : XK), sp_InvalidText_init K vs H Q E → t_InvalidText_init K { nx := fun _ H' => Q .non H', rt := Q } (L2.start N_InvalidText_init vs) H
theorem pure_InvalidText_init (T : Tx K mg) : Pure_InvalidText_init K := by
  intro vs H Q E h
  obtain ⟨x, y, rfl, h⟩ := on2_ex h
  obtain ⟨a, rfl, ha, hQ⟩ := onRef_ex h
  exact ⟨_, T.xi_InvalidText.xc, T.xn_InvalidText_given.1, .inl ⟨ha, fun dx h1 h2 => hQ _ (kx_put h1) (.inr ⟨dx, upd_same, by rw [upd_ne h2, upd_same]⟩)⟩⟩
theorem b_InvalidText_init (T : Tx K mg) : Binds K (fdA K (He.fAd K d_InvalidText_init.at_)) ["self", "given"] [] := T.F_InvalidText_init.bindsN fun _ _ _ _ _ _ us hl => match us, hl with | [_, _], _ => rfl
theorem ok_InvalidText_init (T : Tx K mg) : FnOk P w K mg base CX0 1 (He.fAd K d_InvalidText_init.at_) (fdA K (He.fAd K d_InvalidText_init.at_)) ["self", "given"] (sp_InvalidText_init K) :=
  T.F_InvalidText_init.ok sc_InvalidText_init (fun _ _ _ _ h => on2_len h) (fun cdv A outer s H vs Q E hr h => ⟨t_InvalidText_init K, PSs.nox ((pss_one (s_xst (vv 0) (vv 1)))), pure_InvalidText_init T vs H Q E h⟩)
def gV_InvalidText_given : List V → List V → List V := fun vs zs => vs ++ zs
theorem kb_InvalidText_given (T : Tx K mg) : KBn K (fdA K (He.fAd K d_InvalidText_init.at_)) ["self", "given"] 1 ["given"] (fun us ws => us ++ ws) gV_InvalidText_given :=
  Sp.FunD.kbinds0 T.F_InvalidText_init 1 ["given"] (fun us ws => us ++ ws) (fun r1 r2 => r1.append r2) fun _ _ _ _ _ _ us ws h1 h2 => match us, ws, h1, h2 with | [_], [_], _, _ => rfl
def sp_InvalidNumber_init (K : PySem.W.Frag) : L2.Sp := fun vs H Q _ => on2 vs fun x y => spX (He.ga K "InvalidNumber") "given" x y H Q
abbrev N_InvalidNumber_init : List Str := ["self", "given"]
theorem sc_InvalidNumber_init : FnScope N_InvalidNumber_init ["self", "given"] (defScope s_InvalidNumber_init) := ⟨rfl, rfl, rfl, by decide +kernel, rfl, by decide +kernel, by decide +kernel⟩
def t_InvalidNumber_init (K : PySem.W.Frag) : TS :=
    tXst K "given" (fV 0) (fV 1)
abbrev Pure_InvalidNumber_init (K : PySem.W.Frag) : Prop := ∀ (vs : List V) (H : Hp) (Q : VK) (E : XK), sp_InvalidNumber_init K vs H Q E → t_InvalidNumber_init K { nx := fun _ H' => Q .non H', rt := Q } (L2.start N_InvalidNumber_init vs) H
theorem pure_InvalidNumber_init (T : Tx K mg) : Pure_InvalidNumber_init K := by
  intro vs H Q E h
  obtain ⟨x, y, rfl, h⟩ := on2_ex h
  obtain ⟨a, rfl, ha, hQ⟩ := onRef_ex h
  exact ⟨_, T.xi_InvalidNumber.xc, T.xn_InvalidNumber_given.1, .inl ⟨ha, fun dx h1 h2 => hQ _ (kx_put h1) (.inr ⟨dx, upd_same, by rw [upd_ne h2, upd_same]⟩)⟩⟩
theorem b_InvalidNumber_init (T : Tx K mg) : Binds K (fdA K (He.fAd K d_InvalidNumber_init.at_)) ["self", "given"] [] := T.F_InvalidNumber_init.bindsN fun _ _ _ _ _ _ us hl => match us, hl with | [_, _], _ => rfl
theorem ok_InvalidNumber_init (T : Tx K mg) : FnOk P w K mg base CX0 1 (He.fAd K d_InvalidNumber_init.at_) (fdA K (He.fAd K d_InvalidNumber_init.at_)) ["self", "given"] (sp_InvalidNumber_init K) :=
  T.F_InvalidNumber_init.ok sc_InvalidNumber_init (fun _ _ _ _ h => on2_len h) (fun cdv A outer s H vs Q E hr h => ⟨t_InvalidNumber_init K, PSs.nox ((pss_one (s_xst (vv 0) (vv 1)))), pure_InvalidNumber_init T vs H Q E h⟩)
def gV_InvalidNumber_given : List V → List V → List V := fun vs zs => vs ++ zs
theorem kb_InvalidNumber_given (T : Tx K mg) : KBn K (fdA K (He.fAd K d_InvalidNumber_init.at_)) ["self", "given"] 1 ["given"] (fun us ws => us ++ ws) gV_InvalidNumber_given :=
  Sp.FunD.kbinds0 T.F_InvalidNumber_init 1 ["given"] (fun us ws => us ++ ws) (fun r1 r2 => r1.append r2) fun _ _ _ _ _ _ us ws h1 h2 => match us, ws, h1, h2 with | [_], [_], _, _ => rfl
def sp_InvalidPeriod_init (K : PySem.W.Frag) : L2.Sp := fun vs H Q _ => on2 vs fun x y => spX (He.ga K "InvalidPeriod") "given" x y H Q
abbrev N_InvalidPeriod_init : List Str := ["self", "given"]
theorem sc_InvalidPeriod_init : FnScope N_InvalidPeriod_init ["self", "given"] (defScope s_InvalidPeriod_init) := ⟨rfl, rfl, rfl, by decide +kernel, rfl, by decide +kernel, by decide +kernel⟩
def t_InvalidPeriod_init (K : PySem.W.Frag) : TS :=
    tXst K "given" (fV 0) (fV 1)
abbrev Pure_InvalidPeriod_init (K : PySem.W.Frag) : Prop := ∀ (vs : List V) (H : Hp) (Q : VK) (E : XK), sp_InvalidPeriod_init K vs H Q E → t_InvalidPeriod_init K { nx := fun _ H' => Q .non H', rt := Q } (L2.start N_InvalidPeriod_init vs) H
theorem pure_InvalidPeriod_init (T : Tx K mg) : Pure_InvalidPeriod_init K := by
  intro vs H Q E h
  obtain ⟨x, y, rfl, h⟩ := on2_ex h
  obtain ⟨a, rfl, ha, hQ⟩ := onRef_ex h
  exact ⟨_, T.xi_InvalidPeriod.xc, T.xn_InvalidPeriod_given.1, .inl ⟨ha, fun dx h1 h2 => hQ _ (kx_put h1) (.inr ⟨dx, upd_same, by rw [upd_ne h2, upd_same]⟩)⟩⟩
theorem b_InvalidPeriod_init (T : Tx K mg) : Binds K (fdA K (He.fAd K d_InvalidPeriod_init.at_)) ["self", "given"] [] := T.F_InvalidPeriod_init.bindsN fun _ _ _ _ _ _ us hl => match us, hl with | [_, _], _ => rfl
theorem ok_InvalidPeriod_init (T : Tx K mg) : FnOk P w K mg base CX0 1 (He.fAd K d_InvalidPeriod_init.at_) (fdA K (He.fAd K d_InvalidPeriod_init.at_)) ["self", "given"] (sp_InvalidPeriod_init K) :=
  T.F_InvalidPeriod_init.ok sc_InvalidPeriod_init (fun _ _ _ _ h => on2_len h) (fun cdv A outer s H vs Q E hr h => ⟨t_InvalidPeriod_init K, PSs.nox ((pss_one (s_xst (vv 0) (vv 1)))), pure_InvalidPeriod_init T vs H Q E h⟩)
def gV_InvalidPeriod_given : List V → List V → List V := fun vs zs => vs ++ zs
theorem kb_InvalidPeriod_given (T : Tx K mg) : KBn K (fdA K (He.fAd K d_InvalidPeriod_init.at_)) ["self", "given"] 1 ["given"] (fun us ws => us ++ ws) gV_InvalidPeriod_given :=
  Sp.FunD.kbinds0 T.F_InvalidPeriod_init 1 ["given"] (fun us ws => us ++ ws) (fun r1 r2 => r1.append r2) fun _ _ _ _ _ _ us ws h1 h2 => match us, ws, h1, h2 with | [_], [_], _, _ => rfl
def sp_InvalidName_init (K : PySem.W.Frag) : L2.Sp := fun vs H Q _ => on2 vs fun x y => spX (He.ga K "InvalidName") "given" x y H Q
abbrev N_InvalidName_init : List Str := ["self", "given"]
theorem sc_InvalidName_init : FnScope N_InvalidName_init ["self", "given"] (defScope s_InvalidName_init) := ⟨rfl, rfl, rfl, by decide +kernel, rfl, by decide +kernel, by decide +kernel⟩
def t_InvalidName_init (K : PySem.W.Frag) : TS :=
    tXst K "given" (fV 0) (fV 1)
abbrev Pure_InvalidName_init (K : PySem.W.Frag) : Prop := ∀ (vs : List V) (H : Hp) (Q : VK) (E : XK), sp_InvalidName_init K vs H Q E → t_InvalidName_init K { nx := fun _ H' => Q .non H', rt := Q } (L2.start N_InvalidName_init vs) H
theorem pure_InvalidName_init (T : Tx K mg) : Pure_InvalidName_init K := by
  intro vs H Q E h
  obtain ⟨x, y, rfl, h⟩ := on2_ex h
  obtain ⟨a, rfl, ha, hQ⟩ := onRef_ex h
  exact ⟨_, T.xi_InvalidName.xc, T.xn_InvalidName_given.1, .inl ⟨ha, fun dx h1 h2 => hQ _ (kx_put h1) (.inr ⟨dx, upd_same, by rw [upd_ne h2, upd_same]⟩)⟩⟩
theorem b_InvalidName_init (T : Tx K mg) : Binds K (fdA K (He.fAd K d_InvalidName_init.at_)) ["self", "given"] [] := T.F_InvalidName_init.bindsN fun _ _ _ _ _ _ us hl => match us, hl with | [_, _], _ => rfl
theorem ok_InvalidName_init (T : Tx K mg) : FnOk P w K mg base CX0 1 (He.fAd K d_InvalidName_init.at_) (fdA K (He.fAd K d_InvalidName_init.at_)) ["self", "given"] (sp_InvalidName_init K) :=
  T.F_InvalidName_init.ok sc_InvalidName_init (fun _ _ _ _ h => on2_len h) (fun cdv A outer s H vs Q E hr h => ⟨t_InvalidName_init K, PSs.nox ((pss_one (s_xst (vv 0) (vv 1)))), pure_InvalidName_init T vs H Q E h⟩)
def gV_InvalidName_given : List V → List V → List V := fun vs zs => vs ++ zs
theorem kb_InvalidName_given (T : Tx K mg) : KBn K (fdA K (He.fAd K d_InvalidName_init.at_)) ["self", "given"] 1 ["given"] (fun us ws => us ++ ws) gV_InvalidName_given :=
  Sp.FunD.kbinds0 T.F_InvalidName_init 1 ["given"] (fun us ws => us ++ ws) (fun r1 r2 => r1.append r2) fun _ _ _ _ _ _ us ws h1 h2 => match us, ws, h1, h2 with | [_], [_], _, _ => rfl
def sp_InvalidFlag_init (K : PySem.W.Frag) : L2.Sp := fun vs H Q _ => on2 vs fun x y => spX (He.ga K "InvalidFlag") "given" x y H Q
abbrev N_InvalidFlag_init : List Str := ["self", "given"]
theorem sc_InvalidFlag_init : FnScope N_InvalidFlag_init ["self", "given"] (defScope s_InvalidFlag_init) := ⟨rfl, rfl, rfl, by decide +kernel, rfl, by decide +kernel, by decide +kernel⟩
def t_InvalidFlag_init (K : PySem.W.Frag) : TS :=
    tXst K "given" (fV 0) (fV 1)
abbrev Pure_InvalidFlag_init (K : PySem.W.Frag) : Prop := ∀ (vs : List V) (H : Hp) (Q : VK) (E : XK), sp_InvalidFlag_init K vs H Q E → t_InvalidFlag_init K { nx := fun _ H' => Q .non H', rt := Q } (L2.start N_InvalidFlag_init vs) H
theorem pure_InvalidFlag_init (T : Tx K mg) : Pure_InvalidFlag_init K := by
  intro vs H Q E h
  obtain ⟨x, y, rfl, h⟩ := on2_ex h
  obtain ⟨a, rfl, ha, hQ⟩ := onRef_ex h
  exact ⟨_, T.xi_InvalidFlag.xc, T.xn_InvalidFlag_given.1, .inl ⟨ha, fun dx h1 h2 => hQ _ (kx_put h1) (.inr ⟨dx, upd_same, by rw [upd_ne h2, upd_same]⟩)⟩⟩
theorem b_InvalidFlag_init (T : Tx K mg) : Binds K (fdA K (He.fAd K d_InvalidFlag_init.at_)) ["self", "given"] [] := T.F_InvalidFlag_init.bindsN fun _ _ _ _ _ _ us hl => match us, hl with | [_, _], _ => rfl
theorem ok_InvalidFlag_init (T : Tx K mg) : FnOk P w K mg base CX0 1 (He.fAd K d_InvalidFlag_init.at_) (fdA K (He.fAd K d_InvalidFlag_init.at_)) ["self", "given"] (sp_InvalidFlag_init K) :=
  T.F_InvalidFlag_init.ok sc_InvalidFlag_init (fun _ _ _ _ h => on2_len h) (fun cdv A outer s H vs Q E hr h => ⟨t_InvalidFlag_init K, PSs.nox ((pss_one (s_xst (vv 0) (vv 1)))), pure_InvalidFlag_init T vs H Q E h⟩)
def gV_InvalidFlag_given : List V → List V → List V := fun vs zs => vs ++ zs
theorem kb_InvalidFlag_given (T : Tx K mg) : KBn K (fdA K (He.fAd K d_InvalidFlag_init.at_)) ["self", "given"] 1 ["given"] (fun us ws => us ++ ws) gV_InvalidFlag_given :=
  Sp.FunD.kbinds0 T.F_InvalidFlag_init 1 ["given"] (fun us ws => us ++ ws) (fun r1 r2 => r1.append r2) fun _ _ _ _ _ _ us ws h1 h2 => match us, ws, h1, h2 with | [_], [_], _, _ => rfl
def sp_InvalidIndex_init (K : PySem.W.Frag) : L2.Sp := fun vs H Q _ => on2 vs fun x y => spX (He.ga K "InvalidIndex") "given" x y H Q
abbrev N_InvalidIndex_init : List Str := ["self", "given"]
theorem sc_InvalidIndex_init : FnScope N_InvalidIndex_init ["self", "given"] (defScope s_InvalidIndex_init) := ⟨rfl, rfl, rfl, by decide +kernel, rfl, by decide +kernel, by decide +kernel⟩
def t_InvalidIndex_init (K : PySem.W.Frag) : TS :=
    tXst K "given" (fV 0) (fV 1)
abbrev Pure_InvalidIndex_init (K : PySem.W.Frag) : Prop := ∀ (vs : List V) (H : Hp) (Q : VK) (E : XK), sp_InvalidIndex_init K vs H Q E → t_InvalidIndex_init K { nx := fun _ H' => Q .non H', rt := Q } (L2.start N_InvalidIndex_init vs) H
theorem pure_InvalidIndex_init (T : Tx K mg) : Pure_InvalidIndex_init K := by
  intro vs H Q E h
  obtain ⟨x, y, rfl, h⟩ := on2_ex h
  obtain ⟨a, rfl, ha, hQ⟩ := onRef_ex h
  exact ⟨_, T.xi_InvalidIndex.xc, T.xn_InvalidIndex_given.1, .inl ⟨ha, fun dx h1 h2 => hQ _ (kx_put h1) (.inr ⟨dx, upd_same, by rw [upd_ne h2, upd_same]⟩)⟩⟩
theorem b_InvalidIndex_init (T : Tx K mg) : Binds K (fdA K (He.fAd K d_InvalidIndex_init.at_)) ["self", "given"] [] := T.F_InvalidIndex_init.bindsN fun _ _ _ _ _ _ us hl => match us, hl with | [_, _], _ => rfl
theorem ok_InvalidIndex_init (T : Tx K mg) : FnOk P w K mg base CX0 1 (He.fAd K d_InvalidIndex_init.at_) (fdA K (He.fAd K d_InvalidIndex_init.at_)) ["self", "given"] (sp_InvalidIndex_init K) :=
  T.F_InvalidIndex_init.ok sc_InvalidIndex_init (fun _ _ _ _ h => on2_len h) (fun cdv A outer s H vs Q E hr h => ⟨t_InvalidIndex_init K, PSs.nox ((pss_one (s_xst (vv 0) (vv 1)))), pure_InvalidIndex_init T vs H Q E h⟩)
def gV_InvalidIndex_given : List V → List V → List V := fun vs zs => vs ++ zs
theorem kb_InvalidIndex_given (T : Tx K mg) : KBn K (fdA K (He.fAd K d_InvalidIndex_init.at_)) ["self", "given"] 1 ["given"] (fun us ws => us ++ ws) gV_InvalidIndex_given :=
  Sp.FunD.kbinds0 T.F_InvalidIndex_init 1 ["given"] (fun us ws => us ++ ws) (fun r1 r2 => r1.append r2) fun _ _ _ _ _ _ us ws h1 h2 => match us, ws, h1, h2 with | [_], [_], _, _ => rfl
def sp_InvalidClaim_init (K : PySem.W.Frag) : L2.Sp := fun vs H Q _ => on2 vs fun x y => spX (He.ga K "InvalidClaim") "given" x y H Q
abbrev N_InvalidClaim_init : List Str := ["self", "given"]
theorem sc_InvalidClaim_init : FnScope N_InvalidClaim_init ["self", "given"] (defScope s_InvalidClaim_init) := ⟨rfl, rfl, rfl, by decide +kernel, rfl, by decide +kernel, by decide +kernel⟩
def t_InvalidClaim_init (K : PySem.W.Frag) : TS :=
    tXst K "given" (fV 0) (fV 1)
abbrev Pure_InvalidClaim_init (K : PySem.W.Frag) : Prop := ∀ (vs : List V) (H : Hp) (Q : VK) (E : XK), sp_InvalidClaim_init K vs H Q E → t_InvalidClaim_init K { nx := fun _ H' => Q .non H', rt := Q } (L2.start N_InvalidClaim_init vs) H
theorem pure_InvalidClaim_init (T : Tx K mg) : Pure_InvalidClaim_init K := by
  intro vs H Q E h
  obtain ⟨x, y, rfl, h⟩ := on2_ex h
  obtain ⟨a, rfl, ha, hQ⟩ := onRef_ex h
  exact ⟨_, T.xi_InvalidClaim.xc, T.xn_InvalidClaim_given.1, .inl ⟨ha, fun dx h1 h2 => hQ _ (kx_put h1) (.inr ⟨dx, upd_same, by rw [upd_ne h2, upd_same]⟩)⟩⟩
theorem b_InvalidClaim_init (T : Tx K mg) : Binds K (fdA K (He.fAd K d_InvalidClaim_init.at_)) ["self", "given"] [] := T.F_InvalidClaim_init.bindsN fun _ _ _ _ _ _ us hl => match us, hl with | [_, _], _ => rfl
theorem ok_InvalidClaim_init (T : Tx K mg) : FnOk P w K mg base CX0 1 (He.fAd K d_InvalidClaim_init.at_) (fdA K (He.fAd K d_InvalidClaim_init.at_)) ["self", "given"] (sp_InvalidClaim_init K) :=
  T.F_InvalidClaim_init.ok sc_InvalidClaim_init (fun _ _ _ _ h => on2_len h) (fun cdv A outer s H vs Q E hr h => ⟨t_InvalidClaim_init K, PSs.nox ((pss_one (s_xst (vv 0) (vv 1)))), pure_InvalidClaim_init T vs H Q E h⟩)
def gV_InvalidClaim_given : List V → List V → List V := fun vs zs => vs ++ zs
theorem kb_InvalidClaim_given (T : Tx K mg) : KBn K (fdA K (He.fAd K d_InvalidClaim_init.at_)) ["self", "given"] 1 ["given"] (fun us ws => us ++ ws) gV_InvalidClaim_given :=
  Sp.FunD.kbinds0 T.F_InvalidClaim_init 1 ["given"] (fun us ws => us ++ ws) (fun r1 r2 => r1.append r2) fun _ _ _ _ _ _ us ws h1 h2 => match us, ws, h1, h2 with | [_], [_], _, _ => rfl
def sp_NotAMaker_init (K : PySem.W.Frag) : L2.Sp := fun vs H Q _ => on2 vs fun x y => spX (He.ga K "NotAMaker") "given" x y H Q
abbrev N_NotAMaker_init : List Str := ["self", "given"]
theorem sc_NotAMaker_init : FnScope N_NotAMaker_init ["self", "given"] (defScope s_NotAMaker_init) := ⟨rfl, rfl, rfl, by decide +kernel, rfl, by decide +kernel, by decide +kernel⟩
def t_NotAMaker_init (K : PySem.W.Frag) : TS :=
    tXst K "given" (fV 0) (fV 1)
abbrev Pure_NotAMaker_init (K : PySem.W.Frag) : Prop := ∀ (vs : List V) (H : Hp) (Q : VK) (E : XK), sp_NotAMaker_init K vs H Q E → t_NotAMaker_init K { nx := fun _ H' => Q .non H', rt := Q } (L2.start N_NotAMaker_init vs) H
theorem pure_NotAMaker_init (T : Tx K mg) : Pure_NotAMaker_init K := by
  intro vs H Q E h
  obtain ⟨x, y, rfl, h⟩ := on2_ex h
  obtain ⟨a, rfl, ha, hQ⟩ := onRef_ex h
  exact ⟨_, T.xi_NotAMaker.xc, T.xn_NotAMaker_given.1, .inl ⟨ha, fun dx h1 h2 => hQ _ (kx_put h1) (.inr ⟨dx, upd_same, by rw [upd_ne h2, upd_same]⟩)⟩⟩
theorem b_NotAMaker_init (T : Tx K mg) : Binds K (fdA K (He.fAd K d_NotAMaker_init.at_)) ["self", "given"] [] := T.F_NotAMaker_init.bindsN fun _ _ _ _ _ _ us hl => match us, hl with | [_, _], _ => rfl
theorem ok_NotAMaker_init (T : Tx K mg) : FnOk P w K mg base CX0 1 (He.fAd K d_NotAMaker_init.at_) (fdA K (He.fAd K d_NotAMaker_init.at_)) ["self", "given"] (sp_NotAMaker_init K) :=
  T.F_NotAMaker_init.ok sc_NotAMaker_init (fun _ _ _ _ h => on2_len h) (fun cdv A outer s H vs Q E hr h => ⟨t_NotAMaker_init K, PSs.nox ((pss_one (s_xst (vv 0) (vv 1)))), pure_NotAMaker_init T vs H Q E h⟩)
def gV_NotAMaker_given : List V → List V → List V := fun vs zs => vs ++ zs
theorem kb_NotAMaker_given (T : Tx K mg) : KBn K (fdA K (He.fAd K d_NotAMaker_init.at_)) ["self", "given"] 1 ["given"] (fun us ws => us ++ ws) gV_NotAMaker_given :=
  Sp.FunD.kbinds0 T.F_NotAMaker_init 1 ["given"] (fun us ws => us ++ ws) (fun r1 r2 => r1.append r2) fun _ _ _ _ _ _ us ws h1 h2 => match us, ws, h1, h2 with | [_], [_], _, _ => rfl
def sp_NotAPartner_init (K : PySem.W.Frag) : L2.Sp := fun vs H Q _ => on2 vs fun x y => spX (He.ga K "NotAPartner") "given" x y H Q
abbrev N_NotAPartner_init : List Str := ["self", "given"]
theorem sc_NotAPartner_init : FnScope N_NotAPartner_init ["self", "given"] (defScope s_NotAPartner_init) := ⟨rfl, rfl, rfl, by decide +kernel, rfl, by decide +kernel, by decide +kernel⟩
def t_NotAPartner_init (K : PySem.W.Frag) : TS :=
    tXst K "given" (fV 0) (fV 1)
abbrev Pure_NotAPartner_init (K : PySem.W.Frag) : Prop := ∀ (vs : List V) (H : Hp) (Q : VK) (E : XK), sp_NotAPartner_init K vs H Q E → t_NotAPartner_init K { nx := fun _ H' => Q .non H', rt := Q } (L2.start N_NotAPartner_init vs) H
theorem pure_NotAPartner_init (T : Tx K mg) : Pure_NotAPartner_init K := by
  intro vs H Q E h
  obtain ⟨x, y, rfl, h⟩ := on2_ex h
  obtain ⟨a, rfl, ha, hQ⟩ := onRef_ex h
  exact ⟨_, T.xi_NotAPartner.xc, T.xn_NotAPartner_given.1, .inl ⟨ha, fun dx h1 h2 => hQ _ (kx_put h1) (.inr ⟨dx, upd_same, by rw [upd_ne h2, upd_same]⟩)⟩⟩
theorem b_NotAPartner_init (T : Tx K mg) : Binds K (fdA K (He.fAd K d_NotAPartner_init.at_)) ["self", "given"] [] := T.F_NotAPartner_init.bindsN fun _ _ _ _ _ _ us hl => match us, hl with | [_, _], _ => rfl
theorem ok_NotAPartner_init (T : Tx K mg) : FnOk P w K mg base CX0 1 (He.fAd K d_NotAPartner_init.at_) (fdA K (He.fAd K d_NotAPartner_init.at_)) ["self", "given"] (sp_NotAPartner_init K) :=
  T.F_NotAPartner_init.ok sc_NotAPartner_init (fun _ _ _ _ h => on2_len h) (fun cdv A outer s H vs Q E hr h => ⟨t_NotAPartner_init K, PSs.nox ((pss_one (s_xst (vv 0) (vv 1)))), pure_NotAPartner_init T vs H Q E h⟩)
def gV_NotAPartner_given : List V → List V → List V := fun vs zs => vs ++ zs
theorem kb_NotAPartner_given (T : Tx K mg) : KBn K (fdA K (He.fAd K d_NotAPartner_init.at_)) ["self", "given"] 1 ["given"] (fun us ws => us ++ ws) gV_NotAPartner_given :=
  Sp.FunD.kbinds0 T.F_NotAPartner_init 1 ["given"] (fun us ws => us ++ ws) (fun r1 r2 => r1.append r2) fun _ _ _ _ _ _ us ws h1 h2 => match us, ws, h1, h2 with | [_], [_], _, _ => rfl
def sp_NotAForm_init (K : PySem.W.Frag) : L2.Sp := fun vs H Q _ => on2 vs fun x y => spX (He.ga K "NotAForm") "given" x y H Q
abbrev N_NotAForm_init : List Str := ["self", "given"]
theorem sc_NotAForm_init : FnScope N_NotAForm_init ["self", "given"] (defScope s_NotAForm_init) := ⟨rfl, rfl, rfl, by decide +kernel, rfl, by decide +kernel, by decide +kernel⟩
def t_NotAForm_init (K : PySem.W.Frag) : TS :=
    tXst K "given" (fV 0) (fV 1)
abbrev Pure_NotAForm_init (K : PySem.W.Frag) : Prop := ∀ (vs : List V) (H : Hp) (Q : VK) (E : XK), sp_NotAForm_init K vs H Q E → t_NotAForm_init K { nx := fun _ H' => Q .non H', rt := Q } (L2.start N_NotAForm_init vs) H
theorem pure_NotAForm_init (T : Tx K mg) : Pure_NotAForm_init K := by
  intro vs H Q E h
  obtain ⟨x, y, rfl, h⟩ := on2_ex h
  obtain ⟨a, rfl, ha, hQ⟩ := onRef_ex h
  exact ⟨_, T.xi_NotAForm.xc, T.xn_NotAForm_given.1, .inl ⟨ha, fun dx h1 h2 => hQ _ (kx_put h1) (.inr ⟨dx, upd_same, by rw [upd_ne h2, upd_same]⟩)⟩⟩
theorem b_NotAForm_init (T : Tx K mg) : Binds K (fdA K (He.fAd K d_NotAForm_init.at_)) ["self", "given"] [] := T.F_NotAForm_init.bindsN fun _ _ _ _ _ _ us hl => match us, hl with | [_, _], _ => rfl
theorem ok_NotAForm_init (T : Tx K mg) : FnOk P w K mg base CX0 1 (He.fAd K d_NotAForm_init.at_) (fdA K (He.fAd K d_NotAForm_init.at_)) ["self", "given"] (sp_NotAForm_init K) :=
  T.F_NotAForm_init.ok sc_NotAForm_init (fun _ _ _ _ h => on2_len h) (fun cdv A outer s H vs Q E hr h => ⟨t_NotAForm_init K, PSs.nox ((pss_one (s_xst (vv 0) (vv 1)))), pure_NotAForm_init T vs H Q E h⟩)
def gV_NotAForm_given : List V → List V → List V := fun vs zs => vs ++ zs
theorem kb_NotAForm_given (T : Tx K mg) : KBn K (fdA K (He.fAd K d_NotAForm_init.at_)) ["self", "given"] 1 ["given"] (fun us ws => us ++ ws) gV_NotAForm_given :=
  Sp.FunD.kbinds0 T.F_NotAForm_init 1 ["given"] (fun us ws => us ++ ws) (fun r1 r2 => r1.append r2) fun _ _ _ _ _ _ us ws h1 h2 => match us, ws, h1, h2 with | [_], [_], _, _ => rfl
def sp_InvalidRules_init (K : PySem.W.Frag) : L2.Sp := fun vs H Q _ => on2 vs fun x y => spX (He.ga K "InvalidRules") "index" x y H Q
abbrev N_InvalidRules_init : List Str := ["self", "index"]
theorem sc_InvalidRules_init : FnScope N_InvalidRules_init ["self", "index"] (defScope s_InvalidRules_init) := ⟨rfl, rfl, rfl, by decide +kernel, rfl, by decide +kernel, by decide +kernel⟩
def t_InvalidRules_init (K : PySem.W.Frag) : TS :=
    tXst K "index" (fV 0) (fV 1)
abbrev Pure_InvalidRules_init (K : PySem.W.Frag) : Prop := ∀ (vs : List V) (H : Hp) (Q : VK) (E : XK), sp_InvalidRules_init K vs H Q E → t_InvalidRules_init K { nx := fun _ H' => Q .non H', rt := Q } (L2.start N_InvalidRules_init vs) H
theorem pure_InvalidRules_init (T : Tx K mg) : Pure_InvalidRules_init K := by
  intro vs H Q E h
  obtain ⟨x, y, rfl, h⟩ := on2_ex h
  obtain ⟨a, rfl, ha, hQ⟩ := onRef_ex h
  exact ⟨_, T.xi_InvalidRules.xc, T.xn_InvalidRules_index.1, .inl ⟨ha, fun dx h1 h2 => hQ _ (kx_put h1) (.inr ⟨dx, upd_same, by rw [upd_ne h2, upd_same]⟩)⟩⟩
theorem b_InvalidRules_init (T : Tx K mg) : Binds K (fdA K (He.fAd K d_InvalidRules_init.at_)) ["self", "index"] [] := T.F_InvalidRules_init.bindsN fun _ _ _ _ _ _ us hl => match us, hl with | [_, _], _ => rfl
theorem ok_InvalidRules_init (T : Tx K mg) : FnOk P w K mg base CX0 1 (He.fAd K d_InvalidRules_init.at_) (fdA K (He.fAd K d_InvalidRules_init.at_)) ["self", "index"] (sp_InvalidRules_init K) :=
  T.F_InvalidRules_init.ok sc_InvalidRules_init (fun _ _ _ _ h => on2_len h) (fun cdv A outer s H vs Q E hr h => ⟨t_InvalidRules_init K, PSs.nox ((pss_one (s_xst (vv 0) (vv 1)))), pure_InvalidRules_init T vs H Q E h⟩)
def gV_InvalidRules_index : List V → List V → List V := fun vs zs => vs ++ zs
theorem kb_InvalidRules_index (T : Tx K mg) : KBn K (fdA K (He.fAd K d_InvalidRules_init.at_)) ["self", "index"] 1 ["index"] (fun us ws => us ++ ws) gV_InvalidRules_index :=
  Sp.FunD.kbinds0 T.F_InvalidRules_init 1 ["index"] (fun us ws => us ++ ws) (fun r1 r2 => r1.append r2) fun _ _ _ _ _ _ us ws h1 h2 => match us, ws, h1, h2 with | [_], [_], _, _ => rfl
def sp_InvalidKeys_init (K : PySem.W.Frag) : L2.Sp := fun vs H Q _ => on2 vs fun x y => spX (He.ga K "InvalidKeys") "index" x y H Q
abbrev N_InvalidKeys_init : List Str := ["self", "index"]
theorem sc_InvalidKeys_init : FnScope N_InvalidKeys_init ["self", "index"] (defScope s_InvalidKeys_init) := ⟨rfl, rfl, rfl, by decide +kernel, rfl, by decide +kernel, by decide +kernel⟩
def t_InvalidKeys_init (K : PySem.W.Frag) : TS :=
    tXst K "index" (fV 0) (fV 1)
abbrev Pure_InvalidKeys_init (K : PySem.W.Frag) : Prop := ∀ (vs : List V) (H : Hp) (Q : VK) (E : XK), sp_InvalidKeys_init K vs H Q E → t_InvalidKeys_init K { nx := fun _ H' => Q .non H', rt := Q } (L2.start N_InvalidKeys_init vs) H
theorem pure_InvalidKeys_init (T : Tx K mg) : Pure_InvalidKeys_init K := by
  intro vs H Q E h
  obtain ⟨x, y, rfl, h⟩ := on2_ex h
  obtain ⟨a, rfl, ha, hQ⟩ := onRef_ex h
  exact ⟨_, T.xi_InvalidKeys.xc, T.xn_InvalidKeys_index.1, .inl ⟨ha, fun dx h1 h2 => hQ _ (kx_put h1) (.inr ⟨dx, upd_same, by rw [upd_ne h2, upd_same]⟩)⟩⟩
theorem b_InvalidKeys_init (T : Tx K mg) : Binds K (fdA K (He.fAd K d_InvalidKeys_init.at_)) ["self", "index"] [] := T.F_InvalidKeys_init.bindsN fun _ _ _ _ _ _ us hl => match us, hl with | [_, _], _ => rfl
theorem ok_InvalidKeys_init (T : Tx K mg) : FnOk P w K mg base CX0 1 (He.fAd K d_InvalidKeys_init.at_) (fdA K (He.fAd K d_InvalidKeys_init.at_)) ["self", "index"] (sp_InvalidKeys_init K) :=
  T.F_InvalidKeys_init.ok sc_InvalidKeys_init (fun _ _ _ _ h => on2_len h) (fun cdv A outer s H vs Q E hr h => ⟨t_InvalidKeys_init K, PSs.nox ((pss_one (s_xst (vv 0) (vv 1)))), pure_InvalidKeys_init T vs H Q E h⟩)
def gV_InvalidKeys_index : List V → List V → List V := fun vs zs => vs ++ zs
theorem kb_InvalidKeys_index (T : Tx K mg) : KBn K (fdA K (He.fAd K d_InvalidKeys_init.at_)) ["self", "index"] 1 ["index"] (fun us ws => us ++ ws) gV_InvalidKeys_index :=
  Sp.FunD.kbinds0 T.F_InvalidKeys_init 1 ["index"] (fun us ws => us ++ ws) (fun r1 r2 => r1.append r2) fun _ _ _ _ _ _ us ws h1 h2 => match us, ws, h1, h2 with | [_], [_], _, _ => rfl
def sp_InvalidNumbers_init (K : PySem.W.Frag) : L2.Sp := fun vs H Q _ => on2 vs fun x y => spX (He.ga K "InvalidNumbers") "index" x y H Q
abbrev N_InvalidNumbers_init : List Str := ["self", "index"]
theorem sc_InvalidNumbers_init : FnScope N_InvalidNumbers_init ["self", "index"] (defScope s_InvalidNumbers_init) := ⟨rfl, rfl, rfl, by decide +kernel, rfl, by decide +kernel, by decide +kernel⟩
def t_InvalidNumbers_init (K : PySem.W.Frag) : TS :=
    tXst K "index" (fV 0) (fV 1)
abbrev Pure_InvalidNumbers_init (K : PySem.W.Frag) : Prop := ∀ (vs : List V) (H : Hp) (Q : VK) (E : XK), sp_InvalidNumbers_init K vs H Q E → t_InvalidNumbers_init K { nx := fun _ H' => Q .non H', rt := Q } (L2.start N_InvalidNumbers_init vs) H
theorem pure_InvalidNumbers_init (T : Tx K mg) : Pure_InvalidNumbers_init K := by
  intro vs H Q E h
  obtain ⟨x, y, rfl, h⟩ := on2_ex h
  obtain ⟨a, rfl, ha, hQ⟩ := onRef_ex h
  exact ⟨_, T.xi_InvalidNumbers.xc, T.xn_InvalidNumbers_index.1, .inl ⟨ha, fun dx h1 h2 => hQ _ (kx_put h1) (.inr ⟨dx, upd_same, by rw [upd_ne h2, upd_same]⟩)⟩⟩
theorem b_InvalidNumbers_init (T : Tx K mg) : Binds K (fdA K (He.fAd K d_InvalidNumbers_init.at_)) ["self", "index"] [] := T.F_InvalidNumbers_init.bindsN fun _ _ _ _ _ _ us hl => match us, hl with | [_, _], _ => rfl
theorem ok_InvalidNumbers_init (T : Tx K mg) : FnOk P w K mg base CX0 1 (He.fAd K d_InvalidNumbers_init.at_) (fdA K (He.fAd K d_InvalidNumbers_init.at_)) ["self", "index"] (sp_InvalidNumbers_init K) :=
  T.F_InvalidNumbers_init.ok sc_InvalidNumbers_init (fun _ _ _ _ h => on2_len h) (fun cdv A outer s H vs Q E hr h => ⟨t_InvalidNumbers_init K, PSs.nox ((pss_one (s_xst (vv 0) (vv 1)))), pure_InvalidNumbers_init T vs H Q E h⟩)
def gV_InvalidNumbers_index : List V → List V → List V := fun vs zs => vs ++ zs
theorem kb_InvalidNumbers_index (T : Tx K mg) : KBn K (fdA K (He.fAd K d_InvalidNumbers_init.at_)) ["self", "index"] 1 ["index"] (fun us ws => us ++ ws) gV_InvalidNumbers_index :=
  Sp.FunD.kbinds0 T.F_InvalidNumbers_init 1 ["index"] (fun us ws => us ++ ws) (fun r1 r2 => r1.append r2) fun _ _ _ _ _ _ us ws h1 h2 => match us, ws, h1, h2 with | [_], [_], _, _ => rfl
def sp_UnknownName_init (K : PySem.W.Frag) : L2.Sp := fun vs H Q _ => on2 vs fun x y => spX (He.ga K "UnknownName") "given" x y H Q
abbrev N_UnknownName_init : List Str := ["self", "given"]
theorem sc_UnknownName_init : FnScope N_UnknownName_init ["self", "given"] (defScope s_UnknownName_init) := ⟨rfl, rfl, rfl, by decide +kernel, rfl, by decide +kernel, by decide +kernel⟩
def t_UnknownName_init (K : PySem.W.Frag) : TS :=
    tXst K "given" (fV 0) (fV 1)
abbrev Pure_UnknownName_init (K : PySem.W.Frag) : Prop := ∀ (vs : List V) (H : Hp) (Q : VK) (E : XK), sp_UnknownName_init K vs H Q E → t_UnknownName_init K { nx := fun _ H' => Q .non H', rt := Q } (L2.start N_UnknownName_init vs) H
theorem pure_UnknownName_init (T : Tx K mg) : Pure_UnknownName_init K := by
  intro vs H Q E h
  obtain ⟨x, y, rfl, h⟩ := on2_ex h
  obtain ⟨a, rfl, ha, hQ⟩ := onRef_ex h
  exact ⟨_, T.xi_UnknownName.xc, T.xn_UnknownName_given.1, .inl ⟨ha, fun dx h1 h2 => hQ _ (kx_put h1) (.inr ⟨dx, upd_same, by rw [upd_ne h2, upd_same]⟩)⟩⟩
theorem b_UnknownName_init (T : Tx K mg) : Binds K (fdA K (He.fAd K d_UnknownName_init.at_)) ["self", "given"] [] := T.F_UnknownName_init.bindsN fun _ _ _ _ _ _ us hl => match us, hl with | [_, _], _ => rfl
theorem ok_UnknownName_init (T : Tx K mg) : FnOk P w K mg base CX0 1 (He.fAd K d_UnknownName_init.at_) (fdA K (He.fAd K d_UnknownName_init.at_)) ["self", "given"] (sp_UnknownName_init K) :=
  T.F_UnknownName_init.ok sc_UnknownName_init (fun _ _ _ _ h => on2_len h) (fun cdv A outer s H vs Q E hr h => ⟨t_UnknownName_init K, PSs.nox ((pss_one (s_xst (vv 0) (vv 1)))), pure_UnknownName_init T vs H Q E h⟩)
def gV_UnknownName_given : List V → List V → List V := fun vs zs => vs ++ zs
theorem kb_UnknownName_given (T : Tx K mg) : KBn K (fdA K (He.fAd K d_UnknownName_init.at_)) ["self", "given"] 1 ["given"] (fun us ws => us ++ ws) gV_UnknownName_given :=
  Sp.FunD.kbinds0 T.F_UnknownName_init 1 ["given"] (fun us ws => us ++ ws) (fun r1 r2 => r1.append r2) fun _ _ _ _ _ _ us ws h1 h2 => match us, ws, h1, h2 with | [_], [_], _, _ => rfl
def sp_InUse_init (K : PySem.W.Frag) : L2.Sp := fun vs H Q _ => on2 vs fun x y => spX (He.ga K "InUse") "index" x y H Q
abbrev N_InUse_init : List Str := ["self", "index"]
theorem sc_InUse_init : FnScope N_InUse_init ["self", "index"] (defScope s_InUse_init) := ⟨rfl, rfl, rfl, by decide +kernel, rfl, by decide +kernel, by decide +kernel⟩
def t_InUse_init (K : PySem.W.Frag) : TS :=
    tXst K "index" (fV 0) (fV 1)
abbrev Pure_InUse_init (K : PySem.W.Frag) : Prop := ∀ (vs : List V) (H : Hp) (Q : VK) (E : XK), sp_InUse_init K vs H Q E → t_InUse_init K { nx := fun _ H' => Q .non H', rt := Q } (L2.start N_InUse_init vs) H
theorem pure_InUse_init (T : Tx K mg) : Pure_InUse_init K := by
  intro vs H Q E h
  obtain ⟨x, y, rfl, h⟩ := on2_ex h
  obtain ⟨a, rfl, ha, hQ⟩ := onRef_ex h
  exact ⟨_, T.xi_InUse.xc, T.xn_InUse_index.1, .inl ⟨ha, fun dx h1 h2 => hQ _ (kx_put h1) (.inr ⟨dx, upd_same, by rw [upd_ne h2, upd_same]⟩)⟩⟩
theorem b_InUse_init (T : Tx K mg) : Binds K (fdA K (He.fAd K d_InUse_init.at_)) ["self", "index"] [] := T.F_InUse_init.bindsN fun _ _ _ _ _ _ us hl => match us, hl with | [_, _], _ => rfl
theorem ok_InUse_init (T : Tx K mg) : FnOk P w K mg base CX0 1 (He.fAd K d_InUse_init.at_) (fdA K (He.fAd K d_InUse_init.at_)) ["self", "index"] (sp_InUse_init K) :=
  T.F_InUse_init.ok sc_InUse_init (fun _ _ _ _ h => on2_len h) (fun cdv A outer s H vs Q E hr h => ⟨t_InUse_init K, PSs.nox ((pss_one (s_xst (vv 0) (vv 1)))), pure_InUse_init T vs H Q E h⟩)
def gV_InUse_index : List V → List V → List V := fun vs zs => vs ++ zs
theorem kb_InUse_index (T : Tx K mg) : KBn K (fdA K (He.fAd K d_InUse_init.at_)) ["self", "index"] 1 ["index"] (fun us ws => us ++ ws) gV_InUse_index :=
  Sp.FunD.kbinds0 T.F_InUse_init 1 ["index"] (fun us ws => us ++ ws) (fun r1 r2 => r1.append r2) fun _ _ _ _ _ _ us ws h1 h2 => match us, ws, h1, h2 with | [_], [_], _, _ => rfl
def sp_TooMany_init (K : PySem.W.Frag) : L2.Sp := fun vs H Q _ => on2 vs fun x y => spX (He.ga K "TooMany") "limit" x y H Q
abbrev N_TooMany_init : List Str := ["self", "limit"]
theorem sc_TooMany_init : FnScope N_TooMany_init ["self", "limit"] (defScope s_TooMany_init) := ⟨rfl, rfl, rfl, by decide +kernel, rfl, by decide +kernel, by decide +kernel⟩
def t_TooMany_init (K : PySem.W.Frag) : TS :=
    tXst K "limit" (fV 0) (fV 1)
abbrev Pure_TooMany_init (K : PySem.W.Frag) : Prop := ∀ (vs : List V) (H : Hp) (Q : VK) (E : XK), sp_TooMany_init K vs H Q E → t_TooMany_init K { nx := fun _ H' => Q .non H', rt := Q } (L2.start N_TooMany_init vs) H
theorem pure_TooMany_init (T : Tx K mg) : Pure_TooMany_init K := by
  intro vs H Q E h
  obtain ⟨x, y, rfl, h⟩ := on2_ex h
  obtain ⟨a, rfl, ha, hQ⟩ := onRef_ex h
  exact ⟨_, T.xi_TooMany.xc, T.xn_TooMany_limit.1, .inl ⟨ha, fun dx h1 h2 => hQ _ (kx_put h1) (.inr ⟨dx, upd_same, by rw [upd_ne h2, upd_same]⟩)⟩⟩
theorem b_TooMany_init (T : Tx K mg) : Binds K (fdA K (He.fAd K d_TooMany_init.at_)) ["self", "limit"] [] := T.F_TooMany_init.bindsN fun _ _ _ _ _ _ us hl => match us, hl with | [_, _], _ => rfl
theorem ok_TooMany_init (T : Tx K mg) : FnOk P w K mg base CX0 1 (He.fAd K d_TooMany_init.at_) (fdA K (He.fAd K d_TooMany_init.at_)) ["self", "limit"] (sp_TooMany_init K) :=
  T.F_TooMany_init.ok sc_TooMany_init (fun _ _ _ _ h => on2_len h) (fun cdv A outer s H vs Q E hr h => ⟨t_TooMany_init K, PSs.nox ((pss_one (s_xst (vv 0) (vv 1)))), pure_TooMany_init T vs H Q E h⟩)
def gV_TooMany_limit : List V → List V → List V := fun vs zs => vs ++ zs
theorem kb_TooMany_limit (T : Tx K mg) : KBn K (fdA K (He.fAd K d_TooMany_init.at_)) ["self", "limit"] 1 ["limit"] (fun us ws => us ++ ws) gV_TooMany_limit :=
  Sp.FunD.kbinds0 T.F_TooMany_init 1 ["limit"] (fun us ws => us ++ ws) (fun r1 r2 => r1.append r2) fun _ _ _ _ _ _ us ws h1 h2 => match us, ws, h1, h2 with | [_], [_], _, _ => rfl
def sp_NotAsked_init (K : PySem.W.Frag) : L2.Sp := fun vs H Q _ => on2 vs fun x y => spX (He.ga K "NotAsked") "index" x y H Q
abbrev N_NotAsked_init : List Str := ["self", "index"]
theorem sc_NotAsked_init : FnScope N_NotAsked_init ["self", "index"] (defScope s_NotAsked_init) := ⟨rfl, rfl, rfl, by decide +kernel, rfl, by decide +kernel, by decide +kernel⟩
def t_NotAsked_init (K : PySem.W.Frag) : TS :=
    tXst K "index" (fV 0) (fV 1)
abbrev Pure_NotAsked_init (K : PySem.W.Frag) : Prop := ∀ (vs : List V) (H : Hp) (Q : VK) (E : XK), sp_NotAsked_init K vs H Q E → t_NotAsked_init K { nx := fun _ H' => Q .non H', rt := Q } (L2.start N_NotAsked_init vs) H
theorem pure_NotAsked_init (T : Tx K mg) : Pure_NotAsked_init K := by
  intro vs H Q E h
  obtain ⟨x, y, rfl, h⟩ := on2_ex h
  obtain ⟨a, rfl, ha, hQ⟩ := onRef_ex h
  exact ⟨_, T.xi_NotAsked.xc, T.xn_NotAsked_index.1, .inl ⟨ha, fun dx h1 h2 => hQ _ (kx_put h1) (.inr ⟨dx, upd_same, by rw [upd_ne h2, upd_same]⟩)⟩⟩
theorem b_NotAsked_init (T : Tx K mg) : Binds K (fdA K (He.fAd K d_NotAsked_init.at_)) ["self", "index"] [] := T.F_NotAsked_init.bindsN fun _ _ _ _ _ _ us hl => match us, hl with | [_, _], _ => rfl
theorem ok_NotAsked_init (T : Tx K mg) : FnOk P w K mg base CX0 1 (He.fAd K d_NotAsked_init.at_) (fdA K (He.fAd K d_NotAsked_init.at_)) ["self", "index"] (sp_NotAsked_init K) :=
  T.F_NotAsked_init.ok sc_NotAsked_init (fun _ _ _ _ h => on2_len h) (fun cdv A outer s H vs Q E hr h => ⟨t_NotAsked_init K, PSs.nox ((pss_one (s_xst (vv 0) (vv 1)))), pure_NotAsked_init T vs H Q E h⟩)
def gV_NotAsked_index : List V → List V → List V := fun vs zs => vs ++ zs
theorem kb_NotAsked_index (T : Tx K mg) : KBn K (fdA K (He.fAd K d_NotAsked_init.at_)) ["self", "index"] 1 ["index"] (fun us ws => us ++ ws) gV_NotAsked_index :=
  Sp.FunD.kbinds0 T.F_NotAsked_init 1 ["index"] (fun us ws => us ++ ws) (fun r1 r2 => r1.append r2) fun _ _ _ _ _ _ us ws h1 h2 => match us, ws, h1, h2 with | [_], [_], _, _ => rfl
def sp_Broken_init (K : PySem.W.Frag) : L2.Sp := fun vs H Q _ => on3 vs fun x y z => onRef x fun a => H a = some (exo a (He.ga K "Broken") none) ∧ ∀ H', KpX a H H' → XAt H' a (He.ga K "Broken") [("shown", z), ("index", y)] → Q .non H'
abbrev N_Broken_init : List Str := ["self", "index", "shown"]
theorem sc_Broken_init : FnScope N_Broken_init ["self", "index", "shown"] (defScope s_Broken_init) := ⟨rfl, rfl, rfl, by decide +kernel, rfl, by decide +kernel, by decide +kernel⟩
def t_Broken_init (K : PySem.W.Frag) : TS :=
    tSeq (tXst K "index" (fV 0) (fV 1))
    (tXst K "shown" (fV 0) (fV 2))
abbrev Pure_Broken_init (K : PySem.W.Frag) : Prop := ∀ (vs : List V) (H : Hp) (Q : VK) (E : XK), sp_Broken_init K vs H Q E → t_Broken_init K { nx := fun _ H' => Q .non H', rt := Q } (L2.start N_Broken_init vs) H
theorem pure_Broken_init (T : Tx K mg) : Pure_Broken_init K := by
  intro vs H Q E h
  obtain ⟨x, y, z, rfl, h⟩ := on3_ex h
  obtain ⟨a, rfl, ha, hQ⟩ := onRef_ex h
  refine ⟨_, T.xi_Broken.xc, T.xn_Broken_index.1, .inl ⟨ha, fun dx h1 h2 => ?_⟩⟩
  refine ⟨_, T.xi_Broken.xc, T.xn_Broken_shown.1, .inr ⟨dx, [("index", y)], upd_same, by rw [upd_ne h2, upd_same], by show 1 ≤ 900; decide, ?_⟩⟩
  refine hQ _ (fun b v hb h => ?_) (.inr ⟨dx, ?_, upd_same⟩)
  · rw [upd_ne (ne_of_none h h1)]
    exact kx_put h1 b v hb h
  · rw [upd_ne h2.symm, upd_same]
theorem b_Broken_init (T : Tx K mg) : Binds K (fdA K (He.fAd K d_Broken_init.at_)) ["self", "index", "shown"] [] := T.F_Broken_init.bindsN fun _ _ _ _ _ _ us hl => match us, hl with | [_, _, _], _ => rfl
theorem ok_Broken_init (T : Tx K mg) : FnOk P w K mg base CX0 1 (He.fAd K d_Broken_init.at_) (fdA K (He.fAd K d_Broken_init.at_)) ["self", "index", "shown"] (sp_Broken_init K) :=
  T.F_Broken_init.ok sc_Broken_init (fun _ _ _ _ h => on3_len h) (fun cdv A outer s H vs Q E hr h => ⟨t_Broken_init K, PSs.nox ((pss_cons (s_xst (vv 0) (vv 1))
      (pss_one (s_xst (vv 0) (vv 2))))), pure_Broken_init T vs H Q E h⟩)
def gSI {α : Type} (us ws : List α) : List α := us ++ match ws with
  | [s, i] => [i, s]
  | _ => []
theorem gSI_rel {vs zs : List V} {us ws : List Value} (r1 : Vals vs us) (r2 : Vals zs ws) : Vals (gSI vs zs) (gSI us ws) := r1.append (by
  cases r2 with
  | nil => exact .nil
  | cons a r2 =>
    cases r2 with
    | nil => exact .nil
    | cons b r2 =>
      cases r2 with
      | nil => exact .cons b (.cons a .nil)
      | cons _ _ => exact .nil)
def gV_Broken_shown_index : List V → List V → List V := fun vs zs => gSI vs zs
theorem kb_Broken_shown_index (T : Tx K mg) : KBn K (fdA K (He.fAd K d_Broken_init.at_)) ["self", "index", "shown"] 1 ["shown", "index"] (fun us ws => gSI us ws) gV_Broken_shown_index :=
  Sp.FunD.kbinds0 T.F_Broken_init 1 ["shown", "index"] gSI gSI_rel fun _ _ _ _ _ _ us ws h1 h2 => match us, ws, h1, h2 with | [_], [_, _], _, _ => rfl
/-- the attributes of the error with this number -/
def erF (k : Nat) (one two : V) : List (Str × V) := if k < 12 ∨ k = 15 then [("given", one)] else if k = 17 ∨ k = 19 ∨ k = 20 then [] else if k = 18 then [("limit", one)] else if k = 22 then [("shown", two), ("index", one)] else [("index", one)]
abbrev ErAt (K : PySem.W.Frag) (one two : V) (H : Hp) (a : Addr) (k : Nat) : Prop := XAt H a (erC K k) (erF k one two)
def spAll (K : PySem.W.Frag) : L2.Sp := fun vs H Q _ => on2 vs fun x y => ∀ (L : Addr) (as : List Addr) (H' : Hp), Same H H' → H' L = some (.lst (as.map V.ref)) → Each (ErAt K x y H') as (List.range 23) → Q (.ref L) H'
abbrev sp__law_by_position (K : PySem.W.Frag) : L2.Sp := spAll K
abbrev N__law_by_position : List Str := ["_law_one", "_law_two", "_law_made"]
theorem sc__law_by_position : FnScope N__law_by_position ["_law_one", "_law_two"] (defScope s__law_by_position) := ⟨rfl, rfl, rfl, by decide +kernel, rfl, by decide +kernel, by decide +kernel⟩
def t__law_by_position (K : PySem.W.Frag) : TS :=
    tSeq (tAsg (tLst (tCons (tXMk (He.ga K "InvalidRoom") (sp_InvalidRoom_init K) (tCons (fV 0) tNil)) (tCons (tXMk (He.ga K "InvalidOption") (sp_InvalidOption_init K) (tCons (fV 0) tNil)) (tCons (tXMk (He.ga K "InvalidText") (sp_InvalidText_init K) (tCons (fV 0) tNil)) (tCons (tXMk (He.ga K "InvalidNumber") (sp_InvalidNumber_init K) (tCons (fV 0) tNil)) (tCons (tXMk (He.ga K "InvalidPeriod") (sp_InvalidPeriod_init K) (tCons (fV 0) tNil)) tNil)))))) (gName 2))
    (tSeq (tAsg (tOp fCatL (fV 2) (tLst (tCons (tXMk (He.ga K "InvalidName") (sp_InvalidName_init K) (tCons (fV 0) tNil)) (tCons (tXMk (He.ga K "InvalidFlag") (sp_InvalidFlag_init K) (tCons (fV 0) tNil)) (tCons (tXMk (He.ga K "InvalidIndex") (sp_InvalidIndex_init K) (tCons (fV 0) tNil)) (tCons (tXMk (He.ga K "InvalidClaim") (sp_InvalidClaim_init K) (tCons (fV 0) tNil)) (tCons (tXMk (He.ga K "NotAMaker") (sp_NotAMaker_init K) (tCons (fV 0) tNil)) tNil))))))) (gName 2))
    (tSeq (tAsg (tOp fCatL (fV 2) (tLst (tCons (tXMk (He.ga K "NotAPartner") (sp_NotAPartner_init K) (tCons (fV 0) tNil)) (tCons (tXMk (He.ga K "NotAForm") (sp_NotAForm_init K) (tCons (fV 0) tNil)) (tCons (tXMk (He.ga K "InvalidRules") (sp_InvalidRules_init K) (tCons (fV 0) tNil)) (tCons (tXMk (He.ga K "InvalidKeys") (sp_InvalidKeys_init K) (tCons (fV 0) tNil)) (tCons (tXMk (He.ga K "InvalidNumbers") (sp_InvalidNumbers_init K) (tCons (fV 0) tNil)) tNil))))))) (gName 2))
    (tSeq (tAsg (tOp fCatL (fV 2) (tLst (tCons (tXMk (He.ga K "UnknownName") (sp_UnknownName_init K) (tCons (fV 0) tNil)) (tCons (tXMk (He.ga K "InUse") (sp_InUse_init K) (tCons (fV 0) tNil)) (tCons (tXMk0 (He.ga K "Endless")) (tCons (tXMk (He.ga K "TooMany") (sp_TooMany_init K) (tCons (fV 0) tNil)) (tCons (tXMk0 (He.ga K "Drops")) (tCons (tXMk0 (He.ga K "NothingToUndo")) (tCons (tXMk (He.ga K "NotAsked") (sp_NotAsked_init K) (tCons (fV 0) tNil)) tNil))))))))) (gName 2))
    (tRet (tOp fCatL (fV 2) (tLst (tCons (tXMk (He.ga K "Broken") (sp_Broken_init K) (tCons (fV 0) (tCons (fV 1) tNil))) tNil)))))))
abbrev Pure__law_by_position (K : PySem.W.Frag) : Prop := ∀ (vs : List V) (H : Hp) (Q : VK) (E : XK), sp__law_by_position K vs H Q E → t__law_by_position K { nx := fun _ H' => Q .non H', rt := Q } (L2.start N__law_by_position vs) H
theorem pure__law_by_position (T : Tx K mg) : Pure__law_by_position K := by
  intro vs H Q E h
  obtain ⟨x, y, rfl, hQ⟩ := on2_ex h
  have e0 : Same H H := Same.refl _
  have t0 : Each (ErAt K x y H) [] [] := .nil
  have s_0_0 : Same H H := Same.refl _
  have n_0_0 : Each (ErAt K x y H) [] [] := .nil
  refine ⟨by show 1 ≤ 1000; decide, fun a0 ha0 => ⟨upd_same, fun H0 k0 x0 => ⟨rfl, ?_⟩⟩⟩
  have c0 := mk_same ha0 k0
  have s_0_1 := s_0_0.trans c0
  have n_0_1 : Each (ErAt K x y H0) _ _ := (n_0_0.imp fun _ _ z => XAt.same c0 z).snoc (x := 0) x0
  refine ⟨by show 1 ≤ 1000; decide, fun a1 ha1 => ⟨upd_same, fun H1 k1 x1 => ⟨rfl, ?_⟩⟩⟩
  have c1 := mk_same ha1 k1
  have s_0_2 := s_0_1.trans c1
  have n_0_2 : Each (ErAt K x y H1) _ _ := (n_0_1.imp fun _ _ z => XAt.same c1 z).snoc (x := 1) x1
  refine ⟨by show 1 ≤ 1000; decide, fun a2 ha2 => ⟨upd_same, fun H2 k2 x2 => ⟨rfl, ?_⟩⟩⟩
  have c2 := mk_same ha2 k2
  have s_0_3 := s_0_2.trans c2
  have n_0_3 : Each (ErAt K x y H2) _ _ := (n_0_2.imp fun _ _ z => XAt.same c2 z).snoc (x := 2) x2
  refine ⟨by show 1 ≤ 1000; decide, fun a3 ha3 => ⟨upd_same, fun H3 k3 x3 => ⟨rfl, ?_⟩⟩⟩
  have c3 := mk_same ha3 k3
  have s_0_4 := s_0_3.trans c3
  have n_0_4 : Each (ErAt K x y H3) _ _ := (n_0_3.imp fun _ _ z => XAt.same c3 z).snoc (x := 3) x3
  refine ⟨by show 1 ≤ 1000; decide, fun a4 ha4 => ⟨upd_same, fun H4 k4 x4 => ⟨rfl, ?_⟩⟩⟩
  have c4 := mk_same ha4 k4
  have s_0_5 := s_0_4.trans c4
  have n_0_5 : Each (ErAt K x y H4) _ _ := (n_0_4.imp fun _ _ z => XAt.same c4 z).snoc (x := 4) x4
  refine ⟨by show 5 ≤ sizeLine; decide, fun M0 hM0 => ?_⟩
  obtain ⟨G0, hG0⟩ : ∃ z, z = upd H4 M0 (.lst [V.ref a0, V.ref a1, V.ref a2, V.ref a3, V.ref a4]) := ⟨_, rfl⟩
  have g0 : Same H4 G0 := by rw [hG0]; exact Same.upd hM0
  have l0 : G0 M0 = some (.lst [V.ref a0, V.ref a1, V.ref a2, V.ref a3, V.ref a4]) := by rw [hG0]; exact upd_same
  rw [← hG0]
  have e1 := (e0.trans s_0_5).trans g0
  have t1 : Each (ErAt K x y G0) _ _ := (n_0_5.imp fun _ _ z => XAt.same g0 z)
  have s_1_0 : Same G0 G0 := Same.refl _
  have n_1_0 : Each (ErAt K x y G0) [] [] := .nil
  refine ⟨by show 1 ≤ 1000; decide, fun a5 ha5 => ⟨upd_same, fun H5 k5 x5 => ⟨rfl, ?_⟩⟩⟩
  have c5 := mk_same ha5 k5
  have s_1_1 := s_1_0.trans c5
  have n_1_1 : Each (ErAt K x y H5) _ _ := (n_1_0.imp fun _ _ z => XAt.same c5 z).snoc (x := 5) x5
  refine ⟨by show 1 ≤ 1000; decide, fun a6 ha6 => ⟨upd_same, fun H6 k6 x6 => ⟨rfl, ?_⟩⟩⟩
  have c6 := mk_same ha6 k6
  have s_1_2 := s_1_1.trans c6
  have n_1_2 : Each (ErAt K x y H6) _ _ := (n_1_1.imp fun _ _ z => XAt.same c6 z).snoc (x := 6) x6
  refine ⟨by show 1 ≤ 1000; decide, fun a7 ha7 => ⟨upd_same, fun H7 k7 x7 => ⟨rfl, ?_⟩⟩⟩
  have c7 := mk_same ha7 k7
  have s_1_3 := s_1_2.trans c7
  have n_1_3 : Each (ErAt K x y H7) _ _ := (n_1_2.imp fun _ _ z => XAt.same c7 z).snoc (x := 7) x7
  refine ⟨by show 1 ≤ 1000; decide, fun a8 ha8 => ⟨upd_same, fun H8 k8 x8 => ⟨rfl, ?_⟩⟩⟩
  have c8 := mk_same ha8 k8
  have s_1_4 := s_1_3.trans c8
  have n_1_4 : Each (ErAt K x y H8) _ _ := (n_1_3.imp fun _ _ z => XAt.same c8 z).snoc (x := 8) x8
  refine ⟨by show 1 ≤ 1000; decide, fun a9 ha9 => ⟨upd_same, fun H9 k9 x9 => ⟨rfl, ?_⟩⟩⟩
  have c9 := mk_same ha9 k9
  have s_1_5 := s_1_4.trans c9
  have n_1_5 : Each (ErAt K x y H9) _ _ := (n_1_4.imp fun _ _ z => XAt.same c9 z).snoc (x := 9) x9
  refine ⟨by show 5 ≤ sizeLine; decide, fun M1 hM1 => ?_⟩
  have i1 := Same.upd (o := .lst [V.ref a5, V.ref a6, V.ref a7, V.ref a8, V.ref a9]) hM1
  refine ⟨_, _, i1 _ _ (s_1_5 _ _ l0), upd_same, by show 10 ≤ sizeLine; decide, fun L1 hL1 => ?_⟩
  obtain ⟨G1, hG1⟩ : ∃ z, z = upd (upd H9 M1 (.lst [V.ref a5, V.ref a6, V.ref a7, V.ref a8, V.ref a9])) L1 (.lst ([V.ref a0, V.ref a1, V.ref a2, V.ref a3, V.ref a4] ++ [V.ref a5, V.ref a6, V.ref a7, V.ref a8, V.ref a9])) := ⟨_, rfl⟩
  have g1 : Same H9 G1 := by rw [hG1]; exact i1.trans (Same.upd hL1)
  have l1 : G1 L1 = some (.lst [V.ref a0, V.ref a1, V.ref a2, V.ref a3, V.ref a4, V.ref a5, V.ref a6, V.ref a7, V.ref a8, V.ref a9]) := by rw [hG1]; exact upd_same
  rw [← hG1]
  have e2 := (e1.trans s_1_5).trans g1
  have t2 : Each (ErAt K x y G1) _ _ := (t1.imp fun _ _ z => XAt.same (s_1_5.trans g1) z).append (n_1_5.imp fun _ _ z => XAt.same g1 z)
  have s_2_0 : Same G1 G1 := Same.refl _
  have n_2_0 : Each (ErAt K x y G1) [] [] := .nil
  refine ⟨by show 1 ≤ 1000; decide, fun a10 ha10 => ⟨upd_same, fun H10 k10 x10 => ⟨rfl, ?_⟩⟩⟩
  have c10 := mk_same ha10 k10
  have s_2_1 := s_2_0.trans c10
  have n_2_1 : Each (ErAt K x y H10) _ _ := (n_2_0.imp fun _ _ z => XAt.same c10 z).snoc (x := 10) x10
  refine ⟨by show 1 ≤ 1000; decide, fun a11 ha11 => ⟨upd_same, fun H11 k11 x11 => ⟨rfl, ?_⟩⟩⟩
  have c11 := mk_same ha11 k11
  have s_2_2 := s_2_1.trans c11
  have n_2_2 : Each (ErAt K x y H11) _ _ := (n_2_1.imp fun _ _ z => XAt.same c11 z).snoc (x := 11) x11
  refine ⟨by show 1 ≤ 1000; decide, fun a12 ha12 => ⟨upd_same, fun H12 k12 x12 => ⟨rfl, ?_⟩⟩⟩
  have c12 := mk_same ha12 k12
  have s_2_3 := s_2_2.trans c12
  have n_2_3 : Each (ErAt K x y H12) _ _ := (n_2_2.imp fun _ _ z => XAt.same c12 z).snoc (x := 12) x12
  refine ⟨by show 1 ≤ 1000; decide, fun a13 ha13 => ⟨upd_same, fun H13 k13 x13 => ⟨rfl, ?_⟩⟩⟩
  have c13 := mk_same ha13 k13
  have s_2_4 := s_2_3.trans c13
  have n_2_4 : Each (ErAt K x y H13) _ _ := (n_2_3.imp fun _ _ z => XAt.same c13 z).snoc (x := 13) x13
  refine ⟨by show 1 ≤ 1000; decide, fun a14 ha14 => ⟨upd_same, fun H14 k14 x14 => ⟨rfl, ?_⟩⟩⟩
  have c14 := mk_same ha14 k14
  have s_2_5 := s_2_4.trans c14
  have n_2_5 : Each (ErAt K x y H14) _ _ := (n_2_4.imp fun _ _ z => XAt.same c14 z).snoc (x := 14) x14
  refine ⟨by show 5 ≤ sizeLine; decide, fun M2 hM2 => ?_⟩
  have i2 := Same.upd (o := .lst [V.ref a10, V.ref a11, V.ref a12, V.ref a13, V.ref a14]) hM2
  refine ⟨_, _, i2 _ _ (s_2_5 _ _ l1), upd_same, by show 15 ≤ sizeLine; decide, fun L2 hL2 => ?_⟩
  obtain ⟨G2, hG2⟩ : ∃ z, z = upd (upd H14 M2 (.lst [V.ref a10, V.ref a11, V.ref a12, V.ref a13, V.ref a14])) L2 (.lst ([V.ref a0, V.ref a1, V.ref a2, V.ref a3, V.ref a4, V.ref a5, V.ref a6, V.ref a7, V.ref a8, V.ref a9] ++ [V.ref a10, V.ref a11, V.ref a12, V.ref a13, V.ref a14])) := ⟨_, rfl⟩
  have g2 : Same H14 G2 := by rw [hG2]; exact i2.trans (Same.upd hL2)
  have l2 : G2 L2 = some (.lst [V.ref a0, V.ref a1, V.ref a2, V.ref a3, V.ref a4, V.ref a5, V.ref a6, V.ref a7, V.ref a8, V.ref a9, V.ref a10, V.ref a11, V.ref a12, V.ref a13, V.ref a14]) := by rw [hG2]; exact upd_same
  rw [← hG2]
  have e3 := (e2.trans s_2_5).trans g2
  have t3 : Each (ErAt K x y G2) _ _ := (t2.imp fun _ _ z => XAt.same (s_2_5.trans g2) z).append (n_2_5.imp fun _ _ z => XAt.same g2 z)
  have s_3_0 : Same G2 G2 := Same.refl _
  have n_3_0 : Each (ErAt K x y G2) [] [] := .nil
  refine ⟨by show 1 ≤ 1000; decide, fun a15 ha15 => ⟨upd_same, fun H15 k15 x15 => ⟨rfl, ?_⟩⟩⟩
  have c15 := mk_same ha15 k15
  have s_3_1 := s_3_0.trans c15
  have n_3_1 : Each (ErAt K x y H15) _ _ := (n_3_0.imp fun _ _ z => XAt.same c15 z).snoc (x := 15) x15
  refine ⟨by show 1 ≤ 1000; decide, fun a16 ha16 => ⟨upd_same, fun H16 k16 x16 => ⟨rfl, ?_⟩⟩⟩
  have c16 := mk_same ha16 k16
  have s_3_2 := s_3_1.trans c16
  have n_3_2 : Each (ErAt K x y H16) _ _ := (n_3_1.imp fun _ _ z => XAt.same c16 z).snoc (x := 16) x16
  refine fun a17 ha17 => ?_
  obtain ⟨H17, hH17⟩ : ∃ z, z = upd H16 a17 (exo a17 (He.ga K "Endless") none) := ⟨_, rfl⟩
  have x17 : XAt H17 a17 (erC K 17) (erF 17 x y) := by rw [hH17]; exact .inl ⟨upd_same, rfl⟩
  have c17 : Same H16 H17 := by rw [hH17]; exact Same.upd ha17
  rw [← hH17]
  have s_3_3 := s_3_2.trans c17
  have n_3_3 : Each (ErAt K x y H17) _ _ := (n_3_2.imp fun _ _ z => XAt.same c17 z).snoc (x := 17) x17
  refine ⟨by show 1 ≤ 1000; decide, fun a18 ha18 => ⟨upd_same, fun H18 k18 x18 => ⟨rfl, ?_⟩⟩⟩
  have c18 := mk_same ha18 k18
  have s_3_4 := s_3_3.trans c18
  have n_3_4 : Each (ErAt K x y H18) _ _ := (n_3_3.imp fun _ _ z => XAt.same c18 z).snoc (x := 18) x18
  refine fun a19 ha19 => ?_
  obtain ⟨H19, hH19⟩ : ∃ z, z = upd H18 a19 (exo a19 (He.ga K "Drops") none) := ⟨_, rfl⟩
  have x19 : XAt H19 a19 (erC K 19) (erF 19 x y) := by rw [hH19]; exact .inl ⟨upd_same, rfl⟩
  have c19 : Same H18 H19 := by rw [hH19]; exact Same.upd ha19
  rw [← hH19]
  have s_3_5 := s_3_4.trans c19
  have n_3_5 : Each (ErAt K x y H19) _ _ := (n_3_4.imp fun _ _ z => XAt.same c19 z).snoc (x := 19) x19
  refine fun a20 ha20 => ?_
  obtain ⟨H20, hH20⟩ : ∃ z, z = upd H19 a20 (exo a20 (He.ga K "NothingToUndo") none) := ⟨_, rfl⟩
  have x20 : XAt H20 a20 (erC K 20) (erF 20 x y) := by rw [hH20]; exact .inl ⟨upd_same, rfl⟩
  have c20 : Same H19 H20 := by rw [hH20]; exact Same.upd ha20
  rw [← hH20]
  have s_3_6 := s_3_5.trans c20
  have n_3_6 : Each (ErAt K x y H20) _ _ := (n_3_5.imp fun _ _ z => XAt.same c20 z).snoc (x := 20) x20
  refine ⟨by show 1 ≤ 1000; decide, fun a21 ha21 => ⟨upd_same, fun H21 k21 x21 => ⟨rfl, ?_⟩⟩⟩
  have c21 := mk_same ha21 k21
  have s_3_7 := s_3_6.trans c21
  have n_3_7 : Each (ErAt K x y H21) _ _ := (n_3_6.imp fun _ _ z => XAt.same c21 z).snoc (x := 21) x21
  refine ⟨by show 7 ≤ sizeLine; decide, fun M3 hM3 => ?_⟩
  have i3 := Same.upd (o := .lst [V.ref a15, V.ref a16, V.ref a17, V.ref a18, V.ref a19, V.ref a20, V.ref a21]) hM3
  refine ⟨_, _, i3 _ _ (s_3_7 _ _ l2), upd_same, by show 22 ≤ sizeLine; decide, fun L3 hL3 => ?_⟩
  obtain ⟨G3, hG3⟩ : ∃ z, z = upd (upd H21 M3 (.lst [V.ref a15, V.ref a16, V.ref a17, V.ref a18, V.ref a19, V.ref a20, V.ref a21])) L3 (.lst ([V.ref a0, V.ref a1, V.ref a2, V.ref a3, V.ref a4, V.ref a5, V.ref a6, V.ref a7, V.ref a8, V.ref a9, V.ref a10, V.ref a11, V.ref a12, V.ref a13, V.ref a14] ++ [V.ref a15, V.ref a16, V.ref a17, V.ref a18, V.ref a19, V.ref a20, V.ref a21])) := ⟨_, rfl⟩
  have g3 : Same H21 G3 := by rw [hG3]; exact i3.trans (Same.upd hL3)
  have l3 : G3 L3 = some (.lst [V.ref a0, V.ref a1, V.ref a2, V.ref a3, V.ref a4, V.ref a5, V.ref a6, V.ref a7, V.ref a8, V.ref a9, V.ref a10, V.ref a11, V.ref a12, V.ref a13, V.ref a14, V.ref a15, V.ref a16, V.ref a17, V.ref a18, V.ref a19, V.ref a20, V.ref a21]) := by rw [hG3]; exact upd_same
  rw [← hG3]
  have e4 := (e3.trans s_3_7).trans g3
  have t4 : Each (ErAt K x y G3) _ _ := (t3.imp fun _ _ z => XAt.same (s_3_7.trans g3) z).append (n_3_7.imp fun _ _ z => XAt.same g3 z)
  have s_4_0 : Same G3 G3 := Same.refl _
  have n_4_0 : Each (ErAt K x y G3) [] [] := .nil
  refine ⟨by show 2 ≤ 1000; decide, fun a22 ha22 => ⟨upd_same, fun H22 k22 x22 => ⟨rfl, ?_⟩⟩⟩
  have c22 := mk_same ha22 k22
  have s_4_1 := s_4_0.trans c22
  have n_4_1 : Each (ErAt K x y H22) _ _ := (n_4_0.imp fun _ _ z => XAt.same c22 z).snoc (x := 22) x22
  refine ⟨by show 1 ≤ sizeLine; decide, fun M4 hM4 => ?_⟩
  have i4 := Same.upd (o := .lst [V.ref a22]) hM4
  refine ⟨_, _, i4 _ _ (s_4_1 _ _ l3), upd_same, by show 23 ≤ sizeLine; decide, fun L4 hL4 => ?_⟩
  obtain ⟨G4, hG4⟩ : ∃ z, z = upd (upd H22 M4 (.lst [V.ref a22])) L4 (.lst ([V.ref a0, V.ref a1, V.ref a2, V.ref a3, V.ref a4, V.ref a5, V.ref a6, V.ref a7, V.ref a8, V.ref a9, V.ref a10, V.ref a11, V.ref a12, V.ref a13, V.ref a14, V.ref a15, V.ref a16, V.ref a17, V.ref a18, V.ref a19, V.ref a20, V.ref a21] ++ [V.ref a22])) := ⟨_, rfl⟩
  have g4 : Same H22 G4 := by rw [hG4]; exact i4.trans (Same.upd hL4)
  have l4 : G4 L4 = some (.lst [V.ref a0, V.ref a1, V.ref a2, V.ref a3, V.ref a4, V.ref a5, V.ref a6, V.ref a7, V.ref a8, V.ref a9, V.ref a10, V.ref a11, V.ref a12, V.ref a13, V.ref a14, V.ref a15, V.ref a16, V.ref a17, V.ref a18, V.ref a19, V.ref a20, V.ref a21, V.ref a22]) := by rw [hG4]; exact upd_same
  have e5 := (e4.trans s_4_1).trans g4
  have t5 : Each (ErAt K x y G4) _ _ := (t4.imp fun _ _ z => XAt.same (s_4_1.trans g4) z).append (n_4_1.imp fun _ _ z => XAt.same g4 z)
  have fin := hQ L4 [a0, a1, a2, a3, a4, a5, a6, a7, a8, a9, a10, a11, a12, a13, a14, a15, a16, a17, a18, a19, a20, a21, a22] G4 e5 l4 t5
  rw [hG4] at fin
  exact fin
theorem b__law_by_position (T : Tx K mg) : Binds K (fdA K (He.fAd K d__law_by_position.at_)) ["_law_one", "_law_two"] [] := T.F__law_by_position.bindsN fun _ _ _ _ _ _ us hl => match us, hl with | [_, _], _ => rfl
theorem ok__law_by_position (T : Tx K mg) : FnOk P w K mg base CX0 3 (He.fAd K d__law_by_position.at_) (fdA K (He.fAd K d__law_by_position.at_)) ["_law_one", "_law_two"] (sp__law_by_position K) :=
  T.F__law_by_position.ok sc__law_by_position (fun _ _ _ _ h => on2_len h) (fun cdv A outer s H vs Q E hr h => ⟨t__law_by_position K, PSs.nox ((pss_cons (ps_set (i := 2) sc__law_by_position.nd rfl (.inl rfl) (pe_lst (pa_cons (e_xmk T.xi_InvalidRoom (ok_InvalidRoom_init T) (hr.mono (by decide)) (by rfl) T.g_InvalidRoom (b_InvalidRoom_init T) pass0 (pa_cons (vv 0) pa_nil)) (pa_cons (e_xmk T.xi_InvalidOption (ok_InvalidOption_init T) (hr.mono (by decide)) (by rfl) T.g_InvalidOption (b_InvalidOption_init T) pass0 (pa_cons (vv 0) pa_nil)) (pa_cons (e_xmk T.xi_InvalidText (ok_InvalidText_init T) (hr.mono (by decide)) (by rfl) T.g_InvalidText (b_InvalidText_init T) pass0 (pa_cons (vv 0) pa_nil)) (pa_cons (e_xmk T.xi_InvalidNumber (ok_InvalidNumber_init T) (hr.mono (by decide)) (by rfl) T.g_InvalidNumber (b_InvalidNumber_init T) pass0 (pa_cons (vv 0) pa_nil)) (pa_cons (e_xmk T.xi_InvalidPeriod (ok_InvalidPeriod_init T) (hr.mono (by decide)) (by rfl) T.g_InvalidPeriod (b_InvalidPeriod_init T) pass0 (pa_cons (vv 0) pa_nil)) pa_nil)))))))
      (pss_cons (ps_set (i := 2) sc__law_by_position.nd rfl (.inl rfl) (pe_op o_catL (vv 2) (pe_lst (pa_cons (e_xmk T.xi_InvalidName (ok_InvalidName_init T) (hr.mono (by decide)) (by rfl) T.g_InvalidName (b_InvalidName_init T) pass0 (pa_cons (vv 0) pa_nil)) (pa_cons (e_xmk T.xi_InvalidFlag (ok_InvalidFlag_init T) (hr.mono (by decide)) (by rfl) T.g_InvalidFlag (b_InvalidFlag_init T) pass0 (pa_cons (vv 0) pa_nil)) (pa_cons (e_xmk T.xi_InvalidIndex (ok_InvalidIndex_init T) (hr.mono (by decide)) (by rfl) T.g_InvalidIndex (b_InvalidIndex_init T) pass0 (pa_cons (vv 0) pa_nil)) (pa_cons (e_xmk T.xi_InvalidClaim (ok_InvalidClaim_init T) (hr.mono (by decide)) (by rfl) T.g_InvalidClaim (b_InvalidClaim_init T) pass0 (pa_cons (vv 0) pa_nil)) (pa_cons (e_xmk T.xi_NotAMaker (ok_NotAMaker_init T) (hr.mono (by decide)) (by rfl) T.g_NotAMaker (b_NotAMaker_init T) pass0 (pa_cons (vv 0) pa_nil)) pa_nil))))))))
      (pss_cons (ps_set (i := 2) sc__law_by_position.nd rfl (.inl rfl) (pe_op o_catL (vv 2) (pe_lst (pa_cons (e_xmk T.xi_NotAPartner (ok_NotAPartner_init T) (hr.mono (by decide)) (by rfl) T.g_NotAPartner (b_NotAPartner_init T) pass0 (pa_cons (vv 0) pa_nil)) (pa_cons (e_xmk T.xi_NotAForm (ok_NotAForm_init T) (hr.mono (by decide)) (by rfl) T.g_NotAForm (b_NotAForm_init T) pass0 (pa_cons (vv 0) pa_nil)) (pa_cons (e_xmk T.xi_InvalidRules (ok_InvalidRules_init T) (hr.mono (by decide)) (by rfl) T.g_InvalidRules (b_InvalidRules_init T) pass0 (pa_cons (vv 0) pa_nil)) (pa_cons (e_xmk T.xi_InvalidKeys (ok_InvalidKeys_init T) (hr.mono (by decide)) (by rfl) T.g_InvalidKeys (b_InvalidKeys_init T) pass0 (pa_cons (vv 0) pa_nil)) (pa_cons (e_xmk T.xi_InvalidNumbers (ok_InvalidNumbers_init T) (hr.mono (by decide)) (by rfl) T.g_InvalidNumbers (b_InvalidNumbers_init T) pass0 (pa_cons (vv 0) pa_nil)) pa_nil))))))))
      (pss_cons (ps_set (i := 2) sc__law_by_position.nd rfl (.inl rfl) (pe_op o_catL (vv 2) (pe_lst (pa_cons (e_xmk T.xi_UnknownName (ok_UnknownName_init T) (hr.mono (by decide)) (by rfl) T.g_UnknownName (b_UnknownName_init T) pass0 (pa_cons (vv 0) pa_nil)) (pa_cons (e_xmk T.xi_InUse (ok_InUse_init T) (hr.mono (by decide)) (by rfl) T.g_InUse (b_InUse_init T) pass0 (pa_cons (vv 0) pa_nil)) (pa_cons (e_xmk0 T.x_Endless PySem.F.excBase_ArithmeticError T.xz_Endless (by rfl) T.g_Endless) (pa_cons (e_xmk T.xi_TooMany (ok_TooMany_init T) (hr.mono (by decide)) (by rfl) T.g_TooMany (b_TooMany_init T) pass0 (pa_cons (vv 0) pa_nil)) (pa_cons (e_xmk0 T.x_Drops PySem.F.excBase_ArithmeticError T.xz_Drops (by rfl) T.g_Drops) (pa_cons (e_xmk0 T.x_NothingToUndo PySem.F.excBase_ArithmeticError T.xz_NothingToUndo (by rfl) T.g_NothingToUndo) (pa_cons (e_xmk T.xi_NotAsked (ok_NotAsked_init T) (hr.mono (by decide)) (by rfl) T.g_NotAsked (b_NotAsked_init T) pass0 (pa_cons (vv 0) pa_nil)) pa_nil))))))))))
      (pss_one (ps_ret (pe_op o_catL (vv 2) (pe_lst (pa_cons (e_xmk T.xi_Broken (ok_Broken_init T) (hr.mono (by decide)) (by rfl) T.g_Broken (b_Broken_init T) pass0 (pa_cons (vv 0) (pa_cons (vv 1) pa_nil))) pa_nil)))))))))), pure__law_by_position T vs H Q E h⟩)
abbrev sp__law_by_name (K : PySem.W.Frag) : L2.Sp := spAll K
abbrev N__law_by_name : List Str := ["_law_one", "_law_two", "_law_made"]
theorem sc__law_by_name : FnScope N__law_by_name ["_law_one", "_law_two"] (defScope s__law_by_name) := ⟨rfl, rfl, rfl, by decide +kernel, rfl, by decide +kernel, by decide +kernel⟩
def t__law_by_name (K : PySem.W.Frag) : TS :=
    tSeq (tAsg (tLst (tCons (tXMkK (He.ga K "InvalidRoom") (List.length (["given"] : List Str)) (sp_InvalidRoom_init K) gV_InvalidRoom_given (tCons (fV 0) tNil)) (tCons (tXMkK (He.ga K "InvalidOption") (List.length (["given"] : List Str)) (sp_InvalidOption_init K) gV_InvalidOption_given (tCons (fV 0) tNil)) (tCons (tXMkK (He.ga K "InvalidText") (List.length (["given"] : List Str)) (sp_InvalidText_init K) gV_InvalidText_given (tCons (fV 0) tNil)) (tCons (tXMkK (He.ga K "InvalidNumber") (List.length (["given"] : List Str)) (sp_InvalidNumber_init K) gV_InvalidNumber_given (tCons (fV 0) tNil)) tNil))))) (gName 2))
    (tSeq (tAsg (tOp fCatL (fV 2) (tLst (tCons (tXMkK (He.ga K "InvalidPeriod") (List.length (["given"] : List Str)) (sp_InvalidPeriod_init K) gV_InvalidPeriod_given (tCons (fV 0) tNil)) (tCons (tXMkK (He.ga K "InvalidName") (List.length (["given"] : List Str)) (sp_InvalidName_init K) gV_InvalidName_given (tCons (fV 0) tNil)) (tCons (tXMkK (He.ga K "InvalidFlag") (List.length (["given"] : List Str)) (sp_InvalidFlag_init K) gV_InvalidFlag_given (tCons (fV 0) tNil)) tNil))))) (gName 2))
    (tSeq (tAsg (tOp fCatL (fV 2) (tLst (tCons (tXMkK (He.ga K "InvalidIndex") (List.length (["given"] : List Str)) (sp_InvalidIndex_init K) gV_InvalidIndex_given (tCons (fV 0) tNil)) (tCons (tXMkK (He.ga K "InvalidClaim") (List.length (["given"] : List Str)) (sp_InvalidClaim_init K) gV_InvalidClaim_given (tCons (fV 0) tNil)) (tCons (tXMkK (He.ga K "NotAMaker") (List.length (["given"] : List Str)) (sp_NotAMaker_init K) gV_NotAMaker_given (tCons (fV 0) tNil)) tNil))))) (gName 2))
    (tSeq (tAsg (tOp fCatL (fV 2) (tLst (tCons (tXMkK (He.ga K "NotAPartner") (List.length (["given"] : List Str)) (sp_NotAPartner_init K) gV_NotAPartner_given (tCons (fV 0) tNil)) (tCons (tXMkK (He.ga K "NotAForm") (List.length (["given"] : List Str)) (sp_NotAForm_init K) gV_NotAForm_given (tCons (fV 0) tNil)) tNil)))) (gName 2))
    (tSeq (tAsg (tOp fCatL (fV 2) (tLst (tCons (tXMkK (He.ga K "InvalidRules") (List.length (["index"] : List Str)) (sp_InvalidRules_init K) gV_InvalidRules_index (tCons (fV 0) tNil)) (tCons (tXMkK (He.ga K "InvalidKeys") (List.length (["index"] : List Str)) (sp_InvalidKeys_init K) gV_InvalidKeys_index (tCons (fV 0) tNil)) (tCons (tXMkK (He.ga K "InvalidNumbers") (List.length (["index"] : List Str)) (sp_InvalidNumbers_init K) gV_InvalidNumbers_index (tCons (fV 0) tNil)) tNil))))) (gName 2))
    (tSeq (tAsg (tOp fCatL (fV 2) (tLst (tCons (tXMkK (He.ga K "UnknownName") (List.length (["given"] : List Str)) (sp_UnknownName_init K) gV_UnknownName_given (tCons (fV 0) tNil)) (tCons (tXMkK (He.ga K "InUse") (List.length (["index"] : List Str)) (sp_InUse_init K) gV_InUse_index (tCons (fV 0) tNil)) (tCons (tXMk0 (He.ga K "Endless")) (tCons (tXMkK (He.ga K "TooMany") (List.length (["limit"] : List Str)) (sp_TooMany_init K) gV_TooMany_limit (tCons (fV 0) tNil)) (tCons (tXMk0 (He.ga K "Drops")) tNil))))))) (gName 2))
    (tRet (tOp fCatL (fV 2) (tLst (tCons (tXMk0 (He.ga K "NothingToUndo")) (tCons (tXMkK (He.ga K "NotAsked") (List.length (["index"] : List Str)) (sp_NotAsked_init K) gV_NotAsked_index (tCons (fV 0) tNil)) (tCons (tXMkK (He.ga K "Broken") (List.length (["shown", "index"] : List Str)) (sp_Broken_init K) gV_Broken_shown_index (tCons (fV 1) (tCons (fV 0) tNil))) tNil)))))))))))
abbrev Pure__law_by_name (K : PySem.W.Frag) : Prop := ∀ (vs : List V) (H : Hp) (Q : VK) (E : XK), sp__law_by_name K vs H Q E → t__law_by_name K { nx := fun _ H' => Q .non H', rt := Q } (L2.start N__law_by_name vs) H
theorem pure__law_by_name (T : Tx K mg) : Pure__law_by_name K := by
  intro vs H Q E h
  obtain ⟨x, y, rfl, hQ⟩ := on2_ex h
  have e0 : Same H H := Same.refl _
  have t0 : Each (ErAt K x y H) [] [] := .nil
  have s_0_0 : Same H H := Same.refl _
  have n_0_0 : Each (ErAt K x y H) [] [] := .nil
  refine ⟨rfl, fun a0 ha0 => ⟨upd_same, fun H0 k0 x0 => ⟨rfl, ?_⟩⟩⟩
  have c0 := mk_same ha0 k0
  have s_0_1 := s_0_0.trans c0
  have n_0_1 : Each (ErAt K x y H0) _ _ := (n_0_0.imp fun _ _ z => XAt.same c0 z).snoc (x := 0) x0
  refine ⟨rfl, fun a1 ha1 => ⟨upd_same, fun H1 k1 x1 => ⟨rfl, ?_⟩⟩⟩
  have c1 := mk_same ha1 k1
  have s_0_2 := s_0_1.trans c1
  have n_0_2 : Each (ErAt K x y H1) _ _ := (n_0_1.imp fun _ _ z => XAt.same c1 z).snoc (x := 1) x1
  refine ⟨rfl, fun a2 ha2 => ⟨upd_same, fun H2 k2 x2 => ⟨rfl, ?_⟩⟩⟩
  have c2 := mk_same ha2 k2
  have s_0_3 := s_0_2.trans c2
  have n_0_3 : Each (ErAt K x y H2) _ _ := (n_0_2.imp fun _ _ z => XAt.same c2 z).snoc (x := 2) x2
  refine ⟨rfl, fun a3 ha3 => ⟨upd_same, fun H3 k3 x3 => ⟨rfl, ?_⟩⟩⟩
  have c3 := mk_same ha3 k3
  have s_0_4 := s_0_3.trans c3
  have n_0_4 : Each (ErAt K x y H3) _ _ := (n_0_3.imp fun _ _ z => XAt.same c3 z).snoc (x := 3) x3
  refine ⟨by show 4 ≤ sizeLine; decide, fun M0 hM0 => ?_⟩
  obtain ⟨G0, hG0⟩ : ∃ z, z = upd H3 M0 (.lst [V.ref a0, V.ref a1, V.ref a2, V.ref a3]) := ⟨_, rfl⟩
  have g0 : Same H3 G0 := by rw [hG0]; exact Same.upd hM0
  have l0 : G0 M0 = some (.lst [V.ref a0, V.ref a1, V.ref a2, V.ref a3]) := by rw [hG0]; exact upd_same
  rw [← hG0]
  have e1 := (e0.trans s_0_4).trans g0
  have t1 : Each (ErAt K x y G0) _ _ := (n_0_4.imp fun _ _ z => XAt.same g0 z)
  have s_1_0 : Same G0 G0 := Same.refl _
  have n_1_0 : Each (ErAt K x y G0) [] [] := .nil
  refine ⟨rfl, fun a4 ha4 => ⟨upd_same, fun H4 k4 x4 => ⟨rfl, ?_⟩⟩⟩
  have c4 := mk_same ha4 k4
  have s_1_1 := s_1_0.trans c4
  have n_1_1 : Each (ErAt K x y H4) _ _ := (n_1_0.imp fun _ _ z => XAt.same c4 z).snoc (x := 4) x4
  refine ⟨rfl, fun a5 ha5 => ⟨upd_same, fun H5 k5 x5 => ⟨rfl, ?_⟩⟩⟩
  have c5 := mk_same ha5 k5
  have s_1_2 := s_1_1.trans c5
  have n_1_2 : Each (ErAt K x y H5) _ _ := (n_1_1.imp fun _ _ z => XAt.same c5 z).snoc (x := 5) x5
  refine ⟨rfl, fun a6 ha6 => ⟨upd_same, fun H6 k6 x6 => ⟨rfl, ?_⟩⟩⟩
  have c6 := mk_same ha6 k6
  have s_1_3 := s_1_2.trans c6
  have n_1_3 : Each (ErAt K x y H6) _ _ := (n_1_2.imp fun _ _ z => XAt.same c6 z).snoc (x := 6) x6
  refine ⟨by show 3 ≤ sizeLine; decide, fun M1 hM1 => ?_⟩
  have i1 := Same.upd (o := .lst [V.ref a4, V.ref a5, V.ref a6]) hM1
  refine ⟨_, _, i1 _ _ (s_1_3 _ _ l0), upd_same, by show 7 ≤ sizeLine; decide, fun L1 hL1 => ?_⟩
  obtain ⟨G1, hG1⟩ : ∃ z, z = upd (upd H6 M1 (.lst [V.ref a4, V.ref a5, V.ref a6])) L1 (.lst ([V.ref a0, V.ref a1, V.ref a2, V.ref a3] ++ [V.ref a4, V.ref a5, V.ref a6])) := ⟨_, rfl⟩
  have g1 : Same H6 G1 := by rw [hG1]; exact i1.trans (Same.upd hL1)
  have l1 : G1 L1 = some (.lst [V.ref a0, V.ref a1, V.ref a2, V.ref a3, V.ref a4, V.ref a5, V.ref a6]) := by rw [hG1]; exact upd_same
  rw [← hG1]
  have e2 := (e1.trans s_1_3).trans g1
  have t2 : Each (ErAt K x y G1) _ _ := (t1.imp fun _ _ z => XAt.same (s_1_3.trans g1) z).append (n_1_3.imp fun _ _ z => XAt.same g1 z)
  have s_2_0 : Same G1 G1 := Same.refl _
  have n_2_0 : Each (ErAt K x y G1) [] [] := .nil
  refine ⟨rfl, fun a7 ha7 => ⟨upd_same, fun H7 k7 x7 => ⟨rfl, ?_⟩⟩⟩
  have c7 := mk_same ha7 k7
  have s_2_1 := s_2_0.trans c7
  have n_2_1 : Each (ErAt K x y H7) _ _ := (n_2_0.imp fun _ _ z => XAt.same c7 z).snoc (x := 7) x7
  refine ⟨rfl, fun a8 ha8 => ⟨upd_same, fun H8 k8 x8 => ⟨rfl, ?_⟩⟩⟩
  have c8 := mk_same ha8 k8
  have s_2_2 := s_2_1.trans c8
  have n_2_2 : Each (ErAt K x y H8) _ _ := (n_2_1.imp fun _ _ z => XAt.same c8 z).snoc (x := 8) x8
  refine ⟨rfl, fun a9 ha9 => ⟨upd_same, fun H9 k9 x9 => ⟨rfl, ?_⟩⟩⟩
  have c9 := mk_same ha9 k9
  have s_2_3 := s_2_2.trans c9
  have n_2_3 : Each (ErAt K x y H9) _ _ := (n_2_2.imp fun _ _ z => XAt.same c9 z).snoc (x := 9) x9
  refine ⟨by show 3 ≤ sizeLine; decide, fun M2 hM2 => ?_⟩
  have i2 := Same.upd (o := .lst [V.ref a7, V.ref a8, V.ref a9]) hM2
  refine ⟨_, _, i2 _ _ (s_2_3 _ _ l1), upd_same, by show 10 ≤ sizeLine; decide, fun L2 hL2 => ?_⟩
  obtain ⟨G2, hG2⟩ : ∃ z, z = upd (upd H9 M2 (.lst [V.ref a7, V.ref a8, V.ref a9])) L2 (.lst ([V.ref a0, V.ref a1, V.ref a2, V.ref a3, V.ref a4, V.ref a5, V.ref a6] ++ [V.ref a7, V.ref a8, V.ref a9])) := ⟨_, rfl⟩
  have g2 : Same H9 G2 := by rw [hG2]; exact i2.trans (Same.upd hL2)
  have l2 : G2 L2 = some (.lst [V.ref a0, V.ref a1, V.ref a2, V.ref a3, V.ref a4, V.ref a5, V.ref a6, V.ref a7, V.ref a8, V.ref a9]) := by rw [hG2]; exact upd_same
  rw [← hG2]
  have e3 := (e2.trans s_2_3).trans g2
  have t3 : Each (ErAt K x y G2) _ _ := (t2.imp fun _ _ z => XAt.same (s_2_3.trans g2) z).append (n_2_3.imp fun _ _ z => XAt.same g2 z)
  have s_3_0 : Same G2 G2 := Same.refl _
  have n_3_0 : Each (ErAt K x y G2) [] [] := .nil
  refine ⟨rfl, fun a10 ha10 => ⟨upd_same, fun H10 k10 x10 => ⟨rfl, ?_⟩⟩⟩
  have c10 := mk_same ha10 k10
  have s_3_1 := s_3_0.trans c10
  have n_3_1 : Each (ErAt K x y H10) _ _ := (n_3_0.imp fun _ _ z => XAt.same c10 z).snoc (x := 10) x10
  refine ⟨rfl, fun a11 ha11 => ⟨upd_same, fun H11 k11 x11 => ⟨rfl, ?_⟩⟩⟩
  have c11 := mk_same ha11 k11
  have s_3_2 := s_3_1.trans c11
  have n_3_2 : Each (ErAt K x y H11) _ _ := (n_3_1.imp fun _ _ z => XAt.same c11 z).snoc (x := 11) x11
  refine ⟨by show 2 ≤ sizeLine; decide, fun M3 hM3 => ?_⟩
  have i3 := Same.upd (o := .lst [V.ref a10, V.ref a11]) hM3
  refine ⟨_, _, i3 _ _ (s_3_2 _ _ l2), upd_same, by show 12 ≤ sizeLine; decide, fun L3 hL3 => ?_⟩
  obtain ⟨G3, hG3⟩ : ∃ z, z = upd (upd H11 M3 (.lst [V.ref a10, V.ref a11])) L3 (.lst ([V.ref a0, V.ref a1, V.ref a2, V.ref a3, V.ref a4, V.ref a5, V.ref a6, V.ref a7, V.ref a8, V.ref a9] ++ [V.ref a10, V.ref a11])) := ⟨_, rfl⟩
  have g3 : Same H11 G3 := by rw [hG3]; exact i3.trans (Same.upd hL3)
  have l3 : G3 L3 = some (.lst [V.ref a0, V.ref a1, V.ref a2, V.ref a3, V.ref a4, V.ref a5, V.ref a6, V.ref a7, V.ref a8, V.ref a9, V.ref a10, V.ref a11]) := by rw [hG3]; exact upd_same
  rw [← hG3]
  have e4 := (e3.trans s_3_2).trans g3
  have t4 : Each (ErAt K x y G3) _ _ := (t3.imp fun _ _ z => XAt.same (s_3_2.trans g3) z).append (n_3_2.imp fun _ _ z => XAt.same g3 z)
  have s_4_0 : Same G3 G3 := Same.refl _
  have n_4_0 : Each (ErAt K x y G3) [] [] := .nil
  refine ⟨rfl, fun a12 ha12 => ⟨upd_same, fun H12 k12 x12 => ⟨rfl, ?_⟩⟩⟩
  have c12 := mk_same ha12 k12
  have s_4_1 := s_4_0.trans c12
  have n_4_1 : Each (ErAt K x y H12) _ _ := (n_4_0.imp fun _ _ z => XAt.same c12 z).snoc (x := 12) x12
  refine ⟨rfl, fun a13 ha13 => ⟨upd_same, fun H13 k13 x13 => ⟨rfl, ?_⟩⟩⟩
  have c13 := mk_same ha13 k13
  have s_4_2 := s_4_1.trans c13
  have n_4_2 : Each (ErAt K x y H13) _ _ := (n_4_1.imp fun _ _ z => XAt.same c13 z).snoc (x := 13) x13
  refine ⟨rfl, fun a14 ha14 => ⟨upd_same, fun H14 k14 x14 => ⟨rfl, ?_⟩⟩⟩
  have c14 := mk_same ha14 k14
  have s_4_3 := s_4_2.trans c14
  have n_4_3 : Each (ErAt K x y H14) _ _ := (n_4_2.imp fun _ _ z => XAt.same c14 z).snoc (x := 14) x14
  refine ⟨by show 3 ≤ sizeLine; decide, fun M4 hM4 => ?_⟩
  have i4 := Same.upd (o := .lst [V.ref a12, V.ref a13, V.ref a14]) hM4
  refine ⟨_, _, i4 _ _ (s_4_3 _ _ l3), upd_same, by show 15 ≤ sizeLine; decide, fun L4 hL4 => ?_⟩
  obtain ⟨G4, hG4⟩ : ∃ z, z = upd (upd H14 M4 (.lst [V.ref a12, V.ref a13, V.ref a14])) L4 (.lst ([V.ref a0, V.ref a1, V.ref a2, V.ref a3, V.ref a4, V.ref a5, V.ref a6, V.ref a7, V.ref a8, V.ref a9, V.ref a10, V.ref a11] ++ [V.ref a12, V.ref a13, V.ref a14])) := ⟨_, rfl⟩
  have g4 : Same H14 G4 := by rw [hG4]; exact i4.trans (Same.upd hL4)
  have l4 : G4 L4 = some (.lst [V.ref a0, V.ref a1, V.ref a2, V.ref a3, V.ref a4, V.ref a5, V.ref a6, V.ref a7, V.ref a8, V.ref a9, V.ref a10, V.ref a11, V.ref a12, V.ref a13, V.ref a14]) := by rw [hG4]; exact upd_same
  rw [← hG4]
  have e5 := (e4.trans s_4_3).trans g4
  have t5 : Each (ErAt K x y G4) _ _ := (t4.imp fun _ _ z => XAt.same (s_4_3.trans g4) z).append (n_4_3.imp fun _ _ z => XAt.same g4 z)
  have s_5_0 : Same G4 G4 := Same.refl _
  have n_5_0 : Each (ErAt K x y G4) [] [] := .nil
  refine ⟨rfl, fun a15 ha15 => ⟨upd_same, fun H15 k15 x15 => ⟨rfl, ?_⟩⟩⟩
  have c15 := mk_same ha15 k15
  have s_5_1 := s_5_0.trans c15
  have n_5_1 : Each (ErAt K x y H15) _ _ := (n_5_0.imp fun _ _ z => XAt.same c15 z).snoc (x := 15) x15
  refine ⟨rfl, fun a16 ha16 => ⟨upd_same, fun H16 k16 x16 => ⟨rfl, ?_⟩⟩⟩
  have c16 := mk_same ha16 k16
  have s_5_2 := s_5_1.trans c16
  have n_5_2 : Each (ErAt K x y H16) _ _ := (n_5_1.imp fun _ _ z => XAt.same c16 z).snoc (x := 16) x16
  refine fun a17 ha17 => ?_
  obtain ⟨H17, hH17⟩ : ∃ z, z = upd H16 a17 (exo a17 (He.ga K "Endless") none) := ⟨_, rfl⟩
  have x17 : XAt H17 a17 (erC K 17) (erF 17 x y) := by rw [hH17]; exact .inl ⟨upd_same, rfl⟩
  have c17 : Same H16 H17 := by rw [hH17]; exact Same.upd ha17
  rw [← hH17]
  have s_5_3 := s_5_2.trans c17
  have n_5_3 : Each (ErAt K x y H17) _ _ := (n_5_2.imp fun _ _ z => XAt.same c17 z).snoc (x := 17) x17
  refine ⟨rfl, fun a18 ha18 => ⟨upd_same, fun H18 k18 x18 => ⟨rfl, ?_⟩⟩⟩
  have c18 := mk_same ha18 k18
  have s_5_4 := s_5_3.trans c18
  have n_5_4 : Each (ErAt K x y H18) _ _ := (n_5_3.imp fun _ _ z => XAt.same c18 z).snoc (x := 18) x18
  refine fun a19 ha19 => ?_
  obtain ⟨H19, hH19⟩ : ∃ z, z = upd H18 a19 (exo a19 (He.ga K "Drops") none) := ⟨_, rfl⟩
  have x19 : XAt H19 a19 (erC K 19) (erF 19 x y) := by rw [hH19]; exact .inl ⟨upd_same, rfl⟩
  have c19 : Same H18 H19 := by rw [hH19]; exact Same.upd ha19
  rw [← hH19]
  have s_5_5 := s_5_4.trans c19
  have n_5_5 : Each (ErAt K x y H19) _ _ := (n_5_4.imp fun _ _ z => XAt.same c19 z).snoc (x := 19) x19
  refine ⟨by show 5 ≤ sizeLine; decide, fun M5 hM5 => ?_⟩
  have i5 := Same.upd (o := .lst [V.ref a15, V.ref a16, V.ref a17, V.ref a18, V.ref a19]) hM5
  refine ⟨_, _, i5 _ _ (s_5_5 _ _ l4), upd_same, by show 20 ≤ sizeLine; decide, fun L5 hL5 => ?_⟩
  obtain ⟨G5, hG5⟩ : ∃ z, z = upd (upd H19 M5 (.lst [V.ref a15, V.ref a16, V.ref a17, V.ref a18, V.ref a19])) L5 (.lst ([V.ref a0, V.ref a1, V.ref a2, V.ref a3, V.ref a4, V.ref a5, V.ref a6, V.ref a7, V.ref a8, V.ref a9, V.ref a10, V.ref a11, V.ref a12, V.ref a13, V.ref a14] ++ [V.ref a15, V.ref a16, V.ref a17, V.ref a18, V.ref a19])) := ⟨_, rfl⟩
  have g5 : Same H19 G5 := by rw [hG5]; exact i5.trans (Same.upd hL5)
  have l5 : G5 L5 = some (.lst [V.ref a0, V.ref a1, V.ref a2, V.ref a3, V.ref a4, V.ref a5, V.ref a6, V.ref a7, V.ref a8, V.ref a9, V.ref a10, V.ref a11, V.ref a12, V.ref a13, V.ref a14, V.ref a15, V.ref a16, V.ref a17, V.ref a18, V.ref a19]) := by rw [hG5]; exact upd_same
  rw [← hG5]
  have e6 := (e5.trans s_5_5).trans g5
  have t6 : Each (ErAt K x y G5) _ _ := (t5.imp fun _ _ z => XAt.same (s_5_5.trans g5) z).append (n_5_5.imp fun _ _ z => XAt.same g5 z)
  have s_6_0 : Same G5 G5 := Same.refl _
  have n_6_0 : Each (ErAt K x y G5) [] [] := .nil
  refine fun a20 ha20 => ?_
  obtain ⟨H20, hH20⟩ : ∃ z, z = upd G5 a20 (exo a20 (He.ga K "NothingToUndo") none) := ⟨_, rfl⟩
  have x20 : XAt H20 a20 (erC K 20) (erF 20 x y) := by rw [hH20]; exact .inl ⟨upd_same, rfl⟩
  have c20 : Same G5 H20 := by rw [hH20]; exact Same.upd ha20
  rw [← hH20]
  have s_6_1 := s_6_0.trans c20
  have n_6_1 : Each (ErAt K x y H20) _ _ := (n_6_0.imp fun _ _ z => XAt.same c20 z).snoc (x := 20) x20
  refine ⟨rfl, fun a21 ha21 => ⟨upd_same, fun H21 k21 x21 => ⟨rfl, ?_⟩⟩⟩
  have c21 := mk_same ha21 k21
  have s_6_2 := s_6_1.trans c21
  have n_6_2 : Each (ErAt K x y H21) _ _ := (n_6_1.imp fun _ _ z => XAt.same c21 z).snoc (x := 21) x21
  refine ⟨rfl, fun a22 ha22 => ⟨upd_same, fun H22 k22 x22 => ⟨rfl, ?_⟩⟩⟩
  have c22 := mk_same ha22 k22
  have s_6_3 := s_6_2.trans c22
  have n_6_3 : Each (ErAt K x y H22) _ _ := (n_6_2.imp fun _ _ z => XAt.same c22 z).snoc (x := 22) x22
  refine ⟨by show 3 ≤ sizeLine; decide, fun M6 hM6 => ?_⟩
  have i6 := Same.upd (o := .lst [V.ref a20, V.ref a21, V.ref a22]) hM6
  refine ⟨_, _, i6 _ _ (s_6_3 _ _ l5), upd_same, by show 23 ≤ sizeLine; decide, fun L6 hL6 => ?_⟩
  obtain ⟨G6, hG6⟩ : ∃ z, z = upd (upd H22 M6 (.lst [V.ref a20, V.ref a21, V.ref a22])) L6 (.lst ([V.ref a0, V.ref a1, V.ref a2, V.ref a3, V.ref a4, V.ref a5, V.ref a6, V.ref a7, V.ref a8, V.ref a9, V.ref a10, V.ref a11, V.ref a12, V.ref a13, V.ref a14, V.ref a15, V.ref a16, V.ref a17, V.ref a18, V.ref a19] ++ [V.ref a20, V.ref a21, V.ref a22])) := ⟨_, rfl⟩
  have g6 : Same H22 G6 := by rw [hG6]; exact i6.trans (Same.upd hL6)
  have l6 : G6 L6 = some (.lst [V.ref a0, V.ref a1, V.ref a2, V.ref a3, V.ref a4, V.ref a5, V.ref a6, V.ref a7, V.ref a8, V.ref a9, V.ref a10, V.ref a11, V.ref a12, V.ref a13, V.ref a14, V.ref a15, V.ref a16, V.ref a17, V.ref a18, V.ref a19, V.ref a20, V.ref a21, V.ref a22]) := by rw [hG6]; exact upd_same
  have e7 := (e6.trans s_6_3).trans g6
  have t7 : Each (ErAt K x y G6) _ _ := (t6.imp fun _ _ z => XAt.same (s_6_3.trans g6) z).append (n_6_3.imp fun _ _ z => XAt.same g6 z)
  have fin := hQ L6 [a0, a1, a2, a3, a4, a5, a6, a7, a8, a9, a10, a11, a12, a13, a14, a15, a16, a17, a18, a19, a20, a21, a22] G6 e7 l6 t7
  rw [hG6] at fin
  exact fin
theorem b__law_by_name (T : Tx K mg) : Binds K (fdA K (He.fAd K d__law_by_name.at_)) ["_law_one", "_law_two"] [] := T.F__law_by_name.bindsN fun _ _ _ _ _ _ us hl => match us, hl with | [_, _], _ => rfl
theorem ok__law_by_name (T : Tx K mg) : FnOk P w K mg base CX0 3 (He.fAd K d__law_by_name.at_) (fdA K (He.fAd K d__law_by_name.at_)) ["_law_one", "_law_two"] (sp__law_by_name K) :=
  T.F__law_by_name.ok sc__law_by_name (fun _ _ _ _ h => on2_len h) (fun cdv A outer s H vs Q E hr h => ⟨t__law_by_name K, PSs.nox ((pss_cons (ps_set (i := 2) sc__law_by_name.nd rfl (.inl rfl) (pe_lst (pa_cons (e_xmkK T.xi_InvalidRoom (ok_InvalidRoom_init T) (hr.mono (by decide)) (by rfl) T.g_InvalidRoom (kb_InvalidRoom_given T) pass0 (pk_cons (vv 0) pk_nil) (fun _ _ => ⟨_, rfl⟩) (fun _ _ => ⟨_, rfl, fun _ => rfl⟩) (fun _ _ _ _ h => by have z := (List.cons.inj h).2; subst z; rfl)) (pa_cons (e_xmkK T.xi_InvalidOption (ok_InvalidOption_init T) (hr.mono (by decide)) (by rfl) T.g_InvalidOption (kb_InvalidOption_given T) pass0 (pk_cons (vv 0) pk_nil) (fun _ _ => ⟨_, rfl⟩) (fun _ _ => ⟨_, rfl, fun _ => rfl⟩) (fun _ _ _ _ h => by have z := (List.cons.inj h).2; subst z; rfl)) (pa_cons (e_xmkK T.xi_InvalidText (ok_InvalidText_init T) (hr.mono (by decide)) (by rfl) T.g_InvalidText (kb_InvalidText_given T) pass0 (pk_cons (vv 0) pk_nil) (fun _ _ => ⟨_, rfl⟩) (fun _ _ => ⟨_, rfl, fun _ => rfl⟩) (fun _ _ _ _ h => by have z := (List.cons.inj h).2; subst z; rfl)) (pa_cons (e_xmkK T.xi_InvalidNumber (ok_InvalidNumber_init T) (hr.mono (by decide)) (by rfl) T.g_InvalidNumber (kb_InvalidNumber_given T) pass0 (pk_cons (vv 0) pk_nil) (fun _ _ => ⟨_, rfl⟩) (fun _ _ => ⟨_, rfl, fun _ => rfl⟩) (fun _ _ _ _ h => by have z := (List.cons.inj h).2; subst z; rfl)) pa_nil))))))
      (pss_cons (ps_set (i := 2) sc__law_by_name.nd rfl (.inl rfl) (pe_op o_catL (vv 2) (pe_lst (pa_cons (e_xmkK T.xi_InvalidPeriod (ok_InvalidPeriod_init T) (hr.mono (by decide)) (by rfl) T.g_InvalidPeriod (kb_InvalidPeriod_given T) pass0 (pk_cons (vv 0) pk_nil) (fun _ _ => ⟨_, rfl⟩) (fun _ _ => ⟨_, rfl, fun _ => rfl⟩) (fun _ _ _ _ h => by have z := (List.cons.inj h).2; subst z; rfl)) (pa_cons (e_xmkK T.xi_InvalidName (ok_InvalidName_init T) (hr.mono (by decide)) (by rfl) T.g_InvalidName (kb_InvalidName_given T) pass0 (pk_cons (vv 0) pk_nil) (fun _ _ => ⟨_, rfl⟩) (fun _ _ => ⟨_, rfl, fun _ => rfl⟩) (fun _ _ _ _ h => by have z := (List.cons.inj h).2; subst z; rfl)) (pa_cons (e_xmkK T.xi_InvalidFlag (ok_InvalidFlag_init T) (hr.mono (by decide)) (by rfl) T.g_InvalidFlag (kb_InvalidFlag_given T) pass0 (pk_cons (vv 0) pk_nil) (fun _ _ => ⟨_, rfl⟩) (fun _ _ => ⟨_, rfl, fun _ => rfl⟩) (fun _ _ _ _ h => by have z := (List.cons.inj h).2; subst z; rfl)) pa_nil))))))
      (pss_cons (ps_set (i := 2) sc__law_by_name.nd rfl (.inl rfl) (pe_op o_catL (vv 2) (pe_lst (pa_cons (e_xmkK T.xi_InvalidIndex (ok_InvalidIndex_init T) (hr.mono (by decide)) (by rfl) T.g_InvalidIndex (kb_InvalidIndex_given T) pass0 (pk_cons (vv 0) pk_nil) (fun _ _ => ⟨_, rfl⟩) (fun _ _ => ⟨_, rfl, fun _ => rfl⟩) (fun _ _ _ _ h => by have z := (List.cons.inj h).2; subst z; rfl)) (pa_cons (e_xmkK T.xi_InvalidClaim (ok_InvalidClaim_init T) (hr.mono (by decide)) (by rfl) T.g_InvalidClaim (kb_InvalidClaim_given T) pass0 (pk_cons (vv 0) pk_nil) (fun _ _ => ⟨_, rfl⟩) (fun _ _ => ⟨_, rfl, fun _ => rfl⟩) (fun _ _ _ _ h => by have z := (List.cons.inj h).2; subst z; rfl)) (pa_cons (e_xmkK T.xi_NotAMaker (ok_NotAMaker_init T) (hr.mono (by decide)) (by rfl) T.g_NotAMaker (kb_NotAMaker_given T) pass0 (pk_cons (vv 0) pk_nil) (fun _ _ => ⟨_, rfl⟩) (fun _ _ => ⟨_, rfl, fun _ => rfl⟩) (fun _ _ _ _ h => by have z := (List.cons.inj h).2; subst z; rfl)) pa_nil))))))
      (pss_cons (ps_set (i := 2) sc__law_by_name.nd rfl (.inl rfl) (pe_op o_catL (vv 2) (pe_lst (pa_cons (e_xmkK T.xi_NotAPartner (ok_NotAPartner_init T) (hr.mono (by decide)) (by rfl) T.g_NotAPartner (kb_NotAPartner_given T) pass0 (pk_cons (vv 0) pk_nil) (fun _ _ => ⟨_, rfl⟩) (fun _ _ => ⟨_, rfl, fun _ => rfl⟩) (fun _ _ _ _ h => by have z := (List.cons.inj h).2; subst z; rfl)) (pa_cons (e_xmkK T.xi_NotAForm (ok_NotAForm_init T) (hr.mono (by decide)) (by rfl) T.g_NotAForm (kb_NotAForm_given T) pass0 (pk_cons (vv 0) pk_nil) (fun _ _ => ⟨_, rfl⟩) (fun _ _ => ⟨_, rfl, fun _ => rfl⟩) (fun _ _ _ _ h => by have z := (List.cons.inj h).2; subst z; rfl)) pa_nil)))))
      (pss_cons (ps_set (i := 2) sc__law_by_name.nd rfl (.inl rfl) (pe_op o_catL (vv 2) (pe_lst (pa_cons (e_xmkK T.xi_InvalidRules (ok_InvalidRules_init T) (hr.mono (by decide)) (by rfl) T.g_InvalidRules (kb_InvalidRules_index T) pass0 (pk_cons (vv 0) pk_nil) (fun _ _ => ⟨_, rfl⟩) (fun _ _ => ⟨_, rfl, fun _ => rfl⟩) (fun _ _ _ _ h => by have z := (List.cons.inj h).2; subst z; rfl)) (pa_cons (e_xmkK T.xi_InvalidKeys (ok_InvalidKeys_init T) (hr.mono (by decide)) (by rfl) T.g_InvalidKeys (kb_InvalidKeys_index T) pass0 (pk_cons (vv 0) pk_nil) (fun _ _ => ⟨_, rfl⟩) (fun _ _ => ⟨_, rfl, fun _ => rfl⟩) (fun _ _ _ _ h => by have z := (List.cons.inj h).2; subst z; rfl)) (pa_cons (e_xmkK T.xi_InvalidNumbers (ok_InvalidNumbers_init T) (hr.mono (by decide)) (by rfl) T.g_InvalidNumbers (kb_InvalidNumbers_index T) pass0 (pk_cons (vv 0) pk_nil) (fun _ _ => ⟨_, rfl⟩) (fun _ _ => ⟨_, rfl, fun _ => rfl⟩) (fun _ _ _ _ h => by have z := (List.cons.inj h).2; subst z; rfl)) pa_nil))))))
      (pss_cons (ps_set (i := 2) sc__law_by_name.nd rfl (.inl rfl) (pe_op o_catL (vv 2) (pe_lst (pa_cons (e_xmkK T.xi_UnknownName (ok_UnknownName_init T) (hr.mono (by decide)) (by rfl) T.g_UnknownName (kb_UnknownName_given T) pass0 (pk_cons (vv 0) pk_nil) (fun _ _ => ⟨_, rfl⟩) (fun _ _ => ⟨_, rfl, fun _ => rfl⟩) (fun _ _ _ _ h => by have z := (List.cons.inj h).2; subst z; rfl)) (pa_cons (e_xmkK T.xi_InUse (ok_InUse_init T) (hr.mono (by decide)) (by rfl) T.g_InUse (kb_InUse_index T) pass0 (pk_cons (vv 0) pk_nil) (fun _ _ => ⟨_, rfl⟩) (fun _ _ => ⟨_, rfl, fun _ => rfl⟩) (fun _ _ _ _ h => by have z := (List.cons.inj h).2; subst z; rfl)) (pa_cons (e_xmk0 T.x_Endless PySem.F.excBase_ArithmeticError T.xz_Endless (by rfl) T.g_Endless) (pa_cons (e_xmkK T.xi_TooMany (ok_TooMany_init T) (hr.mono (by decide)) (by rfl) T.g_TooMany (kb_TooMany_limit T) pass0 (pk_cons (vv 0) pk_nil) (fun _ _ => ⟨_, rfl⟩) (fun _ _ => ⟨_, rfl, fun _ => rfl⟩) (fun _ _ _ _ h => by have z := (List.cons.inj h).2; subst z; rfl)) (pa_cons (e_xmk0 T.x_Drops PySem.F.excBase_ArithmeticError T.xz_Drops (by rfl) T.g_Drops) pa_nil))))))))
      (pss_one (ps_ret (pe_op o_catL (vv 2) (pe_lst (pa_cons (e_xmk0 T.x_NothingToUndo PySem.F.excBase_ArithmeticError T.xz_NothingToUndo (by rfl) T.g_NothingToUndo) (pa_cons (e_xmkK T.xi_NotAsked (ok_NotAsked_init T) (hr.mono (by decide)) (by rfl) T.g_NotAsked (kb_NotAsked_index T) pass0 (pk_cons (vv 0) pk_nil) (fun _ _ => ⟨_, rfl⟩) (fun _ _ => ⟨_, rfl, fun _ => rfl⟩) (fun _ _ _ _ h => by have z := (List.cons.inj h).2; subst z; rfl)) (pa_cons (e_xmkK T.xi_Broken (ok_Broken_init T) (hr.mono (by decide)) (by rfl) T.g_Broken (kb_Broken_shown_index T) pass0 (pk_cons (vv 1) (pk_cons (vv 0) pk_nil)) (fun _ _ => ⟨_, rfl⟩) (fun _ _ => ⟨_, rfl, fun _ => rfl⟩) (fun _ _ _ _ h => by have z := (List.cons.inj h).2; subst z; rfl)) pa_nil)))))))))))))), pure__law_by_name T vs H Q E h⟩)

end K01
namespace K01
open PySem PySem.Spec PyProof.Rows L2 Sp
variable {P : Program} {w : World} {K : PySem.W.Frag} {mg : Str → Option Value} {base : Heap}
theorem xcN (T : Tx K mg) : ∀ {k : Nat}, k < 23 → XC K (erC K k)
  | 0, _ => ⟨_, _, T.x_InvalidRoom, xb_V⟩
  | 1, _ => ⟨_, _, T.x_InvalidOption, xb_V⟩
  | 2, _ => ⟨_, _, T.x_InvalidText, xb_V⟩
  | 3, _ => ⟨_, _, T.x_InvalidNumber, xb_V⟩
  | 4, _ => ⟨_, _, T.x_InvalidPeriod, xb_V⟩
  | 5, _ => ⟨_, _, T.x_InvalidName, xb_V⟩
  | 6, _ => ⟨_, _, T.x_InvalidFlag, xb_V⟩
  | 7, _ => ⟨_, _, T.x_InvalidIndex, xb_V⟩
  | 8, _ => ⟨_, _, T.x_InvalidClaim, xb_V⟩
  | 9, _ => ⟨_, _, T.x_NotAMaker, xb_V⟩
  | 10, _ => ⟨_, _, T.x_NotAPartner, xb_V⟩
  | 11, _ => ⟨_, _, T.x_NotAForm, xb_V⟩
  | 12, _ => ⟨_, _, T.x_InvalidRules, xb_V⟩
  | 13, _ => ⟨_, _, T.x_InvalidKeys, xb_V⟩
  | 14, _ => ⟨_, _, T.x_InvalidNumbers, xb_V⟩
  | 15, _ => ⟨_, _, T.x_UnknownName, xb_L⟩
  | 16, _ => ⟨_, _, T.x_InUse, xb_L⟩
  | 17, _ => ⟨_, _, T.x_Endless, xb_A⟩
  | 18, _ => ⟨_, _, T.x_TooMany, xb_A⟩
  | 19, _ => ⟨_, _, T.x_Drops, xb_A⟩
  | 20, _ => ⟨_, _, T.x_NothingToUndo, xb_A⟩
  | 21, _ => ⟨_, _, T.x_NotAsked, xb_A⟩
  | 22, _ => ⟨_, _, T.x_Broken, xb_A⟩
  | k + 23, h => absurd h (by omega)
theorem srt (T : Tx K mg) {k j : Nat} (hk : k < 23) (hj : j < 23) : PySem.W.kitOne K (.ref (erC K k)) (.ref (erC K j)) = some (decide (j = k)) :=
  of_decide_eq_true (List.all_eq_true.mp (List.all_eq_true.mp T.xs k (List.mem_range.mpr hk)) j (List.mem_range.mpr hj))
theorem bse (T : Tx K mg) {k j : Nat} (hk : k < 23) (hj : j < 3) : PySem.W.kitOne K (.ref (erC K k)) (.ref (He.ga K (bsN.getD j ""))) = some (decide (kindN k = j)) ∧ PySem.W.kitOne K (.ref (erC K k)) (.type (blN.getD j "")) = some (decide (kindN k = j)) := by
  obtain ⟨a, b⟩ := He.ba (List.all_eq_true.mp (List.all_eq_true.mp T.xb k (List.mem_range.mpr hk)) j (List.mem_range.mpr hj))
  exact ⟨of_decide_eq_true a, of_decide_eq_true b⟩
def sp__law_sorts (K : PySem.W.Frag) : L2.Sp := fun vs H Q _ => on1 vs fun x => onRef x fun a => ∃ (k : Nat) (fs : List (Str × V)), k < 23 ∧ XAt H a (erC K k) fs ∧ ∀ (L : Addr) (H' : Hp), Same H H' → H' L = some (.lst ((List.range 23).map fun j => V.bl (decide (j = k)))) → Q (.ref L) H'
abbrev N__law_sorts : List Str := ["_law_e", "_law_told"]
theorem sc__law_sorts : FnScope N__law_sorts ["_law_e"] (defScope s__law_sorts) := ⟨rfl, rfl, rfl, by decide +kernel, rfl, by decide +kernel, by decide +kernel⟩
def t__law_sorts (K : PySem.W.Frag) : TS :=
    tSeq (tAsg (tLst (tCons (tCB (fIsX K) (tCons (fV 0) (tCons (tC (.ref (He.ga K "InvalidRoom"))) tNil))) (tCons (tCB (fIsX K) (tCons (fV 0) (tCons (tC (.ref (He.ga K "InvalidOption"))) tNil))) (tCons (tCB (fIsX K) (tCons (fV 0) (tCons (tC (.ref (He.ga K "InvalidText"))) tNil))) tNil)))) (gName 1))
    (tSeq (tAsg (tOp fCatL (fV 1) (tLst (tCons (tCB (fIsX K) (tCons (fV 0) (tCons (tC (.ref (He.ga K "InvalidNumber"))) tNil))) (tCons (tCB (fIsX K) (tCons (fV 0) (tCons (tC (.ref (He.ga K "InvalidPeriod"))) tNil))) (tCons (tCB (fIsX K) (tCons (fV 0) (tCons (tC (.ref (He.ga K "InvalidName"))) tNil))) tNil))))) (gName 1))
    (tSeq (tAsg (tOp fCatL (fV 1) (tLst (tCons (tCB (fIsX K) (tCons (fV 0) (tCons (tC (.ref (He.ga K "InvalidFlag"))) tNil))) (tCons (tCB (fIsX K) (tCons (fV 0) (tCons (tC (.ref (He.ga K "InvalidIndex"))) tNil))) (tCons (tCB (fIsX K) (tCons (fV 0) (tCons (tC (.ref (He.ga K "InvalidClaim"))) tNil))) tNil))))) (gName 1))
    (tSeq (tAsg (tOp fCatL (fV 1) (tLst (tCons (tCB (fIsX K) (tCons (fV 0) (tCons (tC (.ref (He.ga K "NotAMaker"))) tNil))) (tCons (tCB (fIsX K) (tCons (fV 0) (tCons (tC (.ref (He.ga K "NotAPartner"))) tNil))) (tCons (tCB (fIsX K) (tCons (fV 0) (tCons (tC (.ref (He.ga K "NotAForm"))) tNil))) tNil))))) (gName 1))
    (tSeq (tAsg (tOp fCatL (fV 1) (tLst (tCons (tCB (fIsX K) (tCons (fV 0) (tCons (tC (.ref (He.ga K "InvalidRules"))) tNil))) (tCons (tCB (fIsX K) (tCons (fV 0) (tCons (tC (.ref (He.ga K "InvalidKeys"))) tNil))) (tCons (tCB (fIsX K) (tCons (fV 0) (tCons (tC (.ref (He.ga K "InvalidNumbers"))) tNil))) tNil))))) (gName 1))
    (tSeq (tAsg (tOp fCatL (fV 1) (tLst (tCons (tCB (fIsX K) (tCons (fV 0) (tCons (tC (.ref (He.ga K "UnknownName"))) tNil))) (tCons (tCB (fIsX K) (tCons (fV 0) (tCons (tC (.ref (He.ga K "InUse"))) tNil))) tNil)))) (gName 1))
    (tSeq (tAsg (tOp fCatL (fV 1) (tLst (tCons (tCB (fIsX K) (tCons (fV 0) (tCons (tC (.ref (He.ga K "Endless"))) tNil))) (tCons (tCB (fIsX K) (tCons (fV 0) (tCons (tC (.ref (He.ga K "TooMany"))) tNil))) (tCons (tCB (fIsX K) (tCons (fV 0) (tCons (tC (.ref (He.ga K "Drops"))) tNil))) tNil))))) (gName 1))
    (tRet (tOp fCatL (fV 1) (tLst (tCons (tCB (fIsX K) (tCons (fV 0) (tCons (tC (.ref (He.ga K "NothingToUndo"))) tNil))) (tCons (tCB (fIsX K) (tCons (fV 0) (tCons (tC (.ref (He.ga K "NotAsked"))) tNil))) (tCons (tCB (fIsX K) (tCons (fV 0) (tCons (tC (.ref (He.ga K "Broken"))) tNil))) tNil))))))))))))
abbrev Pure__law_sorts (K : PySem.W.Frag) : Prop := ∀ (vs : List V) (H : Hp) (Q : VK) (E : XK), sp__law_sorts K vs H Q E → t__law_sorts K { nx := fun _ H' => Q .non H', rt := Q } (L2.start N__law_sorts vs) H
theorem pure__law_sorts (T : Tx K mg) : Pure__law_sorts K := by
  intro vs H Q E h
  obtain ⟨x, rfl, h⟩ := on1_ex h
  obtain ⟨a, rfl, k, fs, hk, x0, hQ⟩ := onRef_ex h
  have xc := xcN T hk
  have e0 : Same H H := Same.refl _
  refine ⟨erC K k, fs, _, decide (0 = k), xc, XAt.same e0 x0, rfl, srt T hk (j := 0) (by decide), ?_⟩
  refine ⟨erC K k, fs, _, decide (1 = k), xc, XAt.same e0 x0, rfl, srt T hk (j := 1) (by decide), ?_⟩
  refine ⟨erC K k, fs, _, decide (2 = k), xc, XAt.same e0 x0, rfl, srt T hk (j := 2) (by decide), ?_⟩
  refine ⟨by show 3 ≤ sizeLine; decide, fun M0 hM0 => ?_⟩
  obtain ⟨G0, hG0⟩ : ∃ z, z = upd H M0 (.lst [V.bl (decide (0 = k)), V.bl (decide (1 = k)), V.bl (decide (2 = k))]) := ⟨_, rfl⟩
  have e1 : Same H G0 := by rw [hG0]; exact Same.upd hM0
  have l0 : G0 M0 = some (.lst [V.bl (decide (0 = k)), V.bl (decide (1 = k)), V.bl (decide (2 = k))]) := by rw [hG0]; exact upd_same
  rw [← hG0]
  refine ⟨erC K k, fs, _, decide (3 = k), xc, XAt.same e1 x0, rfl, srt T hk (j := 3) (by decide), ?_⟩
  refine ⟨erC K k, fs, _, decide (4 = k), xc, XAt.same e1 x0, rfl, srt T hk (j := 4) (by decide), ?_⟩
  refine ⟨erC K k, fs, _, decide (5 = k), xc, XAt.same e1 x0, rfl, srt T hk (j := 5) (by decide), ?_⟩
  refine ⟨by show 3 ≤ sizeLine; decide, fun M1 hM1 => ?_⟩
  have i1 := Same.upd (o := .lst [V.bl (decide (3 = k)), V.bl (decide (4 = k)), V.bl (decide (5 = k))]) hM1
  refine ⟨_, _, i1 _ _ l0, upd_same, by show 6 ≤ sizeLine; decide, fun L1 hL1 => ?_⟩
  obtain ⟨G1, hG1⟩ : ∃ z, z = upd (upd G0 M1 (.lst [V.bl (decide (3 = k)), V.bl (decide (4 = k)), V.bl (decide (5 = k))])) L1 (.lst ([V.bl (decide (0 = k)), V.bl (decide (1 = k)), V.bl (decide (2 = k))] ++ [V.bl (decide (3 = k)), V.bl (decide (4 = k)), V.bl (decide (5 = k))])) := ⟨_, rfl⟩
  have e2 : Same H G1 := by rw [hG1]; exact e1.trans (i1.trans (Same.upd hL1))
  have l1 : G1 L1 = some (.lst [V.bl (decide (0 = k)), V.bl (decide (1 = k)), V.bl (decide (2 = k)), V.bl (decide (3 = k)), V.bl (decide (4 = k)), V.bl (decide (5 = k))]) := by rw [hG1]; exact upd_same
  rw [← hG1]
  refine ⟨erC K k, fs, _, decide (6 = k), xc, XAt.same e2 x0, rfl, srt T hk (j := 6) (by decide), ?_⟩
  refine ⟨erC K k, fs, _, decide (7 = k), xc, XAt.same e2 x0, rfl, srt T hk (j := 7) (by decide), ?_⟩
  refine ⟨erC K k, fs, _, decide (8 = k), xc, XAt.same e2 x0, rfl, srt T hk (j := 8) (by decide), ?_⟩
  refine ⟨by show 3 ≤ sizeLine; decide, fun M2 hM2 => ?_⟩
  have i2 := Same.upd (o := .lst [V.bl (decide (6 = k)), V.bl (decide (7 = k)), V.bl (decide (8 = k))]) hM2
  refine ⟨_, _, i2 _ _ l1, upd_same, by show 9 ≤ sizeLine; decide, fun L2 hL2 => ?_⟩
  obtain ⟨G2, hG2⟩ : ∃ z, z = upd (upd G1 M2 (.lst [V.bl (decide (6 = k)), V.bl (decide (7 = k)), V.bl (decide (8 = k))])) L2 (.lst ([V.bl (decide (0 = k)), V.bl (decide (1 = k)), V.bl (decide (2 = k)), V.bl (decide (3 = k)), V.bl (decide (4 = k)), V.bl (decide (5 = k))] ++ [V.bl (decide (6 = k)), V.bl (decide (7 = k)), V.bl (decide (8 = k))])) := ⟨_, rfl⟩
  have e3 : Same H G2 := by rw [hG2]; exact e2.trans (i2.trans (Same.upd hL2))
  have l2 : G2 L2 = some (.lst [V.bl (decide (0 = k)), V.bl (decide (1 = k)), V.bl (decide (2 = k)), V.bl (decide (3 = k)), V.bl (decide (4 = k)), V.bl (decide (5 = k)), V.bl (decide (6 = k)), V.bl (decide (7 = k)), V.bl (decide (8 = k))]) := by rw [hG2]; exact upd_same
  rw [← hG2]
  refine ⟨erC K k, fs, _, decide (9 = k), xc, XAt.same e3 x0, rfl, srt T hk (j := 9) (by decide), ?_⟩
  refine ⟨erC K k, fs, _, decide (10 = k), xc, XAt.same e3 x0, rfl, srt T hk (j := 10) (by decide), ?_⟩
  refine ⟨erC K k, fs, _, decide (11 = k), xc, XAt.same e3 x0, rfl, srt T hk (j := 11) (by decide), ?_⟩
  refine ⟨by show 3 ≤ sizeLine; decide, fun M3 hM3 => ?_⟩
  have i3 := Same.upd (o := .lst [V.bl (decide (9 = k)), V.bl (decide (10 = k)), V.bl (decide (11 = k))]) hM3
  refine ⟨_, _, i3 _ _ l2, upd_same, by show 12 ≤ sizeLine; decide, fun L3 hL3 => ?_⟩
  obtain ⟨G3, hG3⟩ : ∃ z, z = upd (upd G2 M3 (.lst [V.bl (decide (9 = k)), V.bl (decide (10 = k)), V.bl (decide (11 = k))])) L3 (.lst ([V.bl (decide (0 = k)), V.bl (decide (1 = k)), V.bl (decide (2 = k)), V.bl (decide (3 = k)), V.bl (decide (4 = k)), V.bl (decide (5 = k)), V.bl (decide (6 = k)), V.bl (decide (7 = k)), V.bl (decide (8 = k))] ++ [V.bl (decide (9 = k)), V.bl (decide (10 = k)), V.bl (decide (11 = k))])) := ⟨_, rfl⟩
  have e4 : Same H G3 := by rw [hG3]; exact e3.trans (i3.trans (Same.upd hL3))
  have l3 : G3 L3 = some (.lst [V.bl (decide (0 = k)), V.bl (decide (1 = k)), V.bl (decide (2 = k)), V.bl (decide (3 = k)), V.bl (decide (4 = k)), V.bl (decide (5 = k)), V.bl (decide (6 = k)), V.bl (decide (7 = k)), V.bl (decide (8 = k)), V.bl (decide (9 = k)), V.bl (decide (10 = k)), V.bl (decide (11 = k))]) := by rw [hG3]; exact upd_same
  rw [← hG3]
  refine ⟨erC K k, fs, _, decide (12 = k), xc, XAt.same e4 x0, rfl, srt T hk (j := 12) (by decide), ?_⟩
  refine ⟨erC K k, fs, _, decide (13 = k), xc, XAt.same e4 x0, rfl, srt T hk (j := 13) (by decide), ?_⟩
  refine ⟨erC K k, fs, _, decide (14 = k), xc, XAt.same e4 x0, rfl, srt T hk (j := 14) (by decide), ?_⟩
  refine ⟨by show 3 ≤ sizeLine; decide, fun M4 hM4 => ?_⟩
  have i4 := Same.upd (o := .lst [V.bl (decide (12 = k)), V.bl (decide (13 = k)), V.bl (decide (14 = k))]) hM4
  refine ⟨_, _, i4 _ _ l3, upd_same, by show 15 ≤ sizeLine; decide, fun L4 hL4 => ?_⟩
  obtain ⟨G4, hG4⟩ : ∃ z, z = upd (upd G3 M4 (.lst [V.bl (decide (12 = k)), V.bl (decide (13 = k)), V.bl (decide (14 = k))])) L4 (.lst ([V.bl (decide (0 = k)), V.bl (decide (1 = k)), V.bl (decide (2 = k)), V.bl (decide (3 = k)), V.bl (decide (4 = k)), V.bl (decide (5 = k)), V.bl (decide (6 = k)), V.bl (decide (7 = k)), V.bl (decide (8 = k)), V.bl (decide (9 = k)), V.bl (decide (10 = k)), V.bl (decide (11 = k))] ++ [V.bl (decide (12 = k)), V.bl (decide (13 = k)), V.bl (decide (14 = k))])) := ⟨_, rfl⟩
  have e5 : Same H G4 := by rw [hG4]; exact e4.trans (i4.trans (Same.upd hL4))
  have l4 : G4 L4 = some (.lst [V.bl (decide (0 = k)), V.bl (decide (1 = k)), V.bl (decide (2 = k)), V.bl (decide (3 = k)), V.bl (decide (4 = k)), V.bl (decide (5 = k)), V.bl (decide (6 = k)), V.bl (decide (7 = k)), V.bl (decide (8 = k)), V.bl (decide (9 = k)), V.bl (decide (10 = k)), V.bl (decide (11 = k)), V.bl (decide (12 = k)), V.bl (decide (13 = k)), V.bl (decide (14 = k))]) := by rw [hG4]; exact upd_same
  rw [← hG4]
  refine ⟨erC K k, fs, _, decide (15 = k), xc, XAt.same e5 x0, rfl, srt T hk (j := 15) (by decide), ?_⟩
  refine ⟨erC K k, fs, _, decide (16 = k), xc, XAt.same e5 x0, rfl, srt T hk (j := 16) (by decide), ?_⟩
  refine ⟨by show 2 ≤ sizeLine; decide, fun M5 hM5 => ?_⟩
  have i5 := Same.upd (o := .lst [V.bl (decide (15 = k)), V.bl (decide (16 = k))]) hM5
  refine ⟨_, _, i5 _ _ l4, upd_same, by show 17 ≤ sizeLine; decide, fun L5 hL5 => ?_⟩
  obtain ⟨G5, hG5⟩ : ∃ z, z = upd (upd G4 M5 (.lst [V.bl (decide (15 = k)), V.bl (decide (16 = k))])) L5 (.lst ([V.bl (decide (0 = k)), V.bl (decide (1 = k)), V.bl (decide (2 = k)), V.bl (decide (3 = k)), V.bl (decide (4 = k)), V.bl (decide (5 = k)), V.bl (decide (6 = k)), V.bl (decide (7 = k)), V.bl (decide (8 = k)), V.bl (decide (9 = k)), V.bl (decide (10 = k)), V.bl (decide (11 = k)), V.bl (decide (12 = k)), V.bl (decide (13 = k)), V.bl (decide (14 = k))] ++ [V.bl (decide (15 = k)), V.bl (decide (16 = k))])) := ⟨_, rfl⟩
  have e6 : Same H G5 := by rw [hG5]; exact e5.trans (i5.trans (Same.upd hL5))
  have l5 : G5 L5 = some (.lst [V.bl (decide (0 = k)), V.bl (decide (1 = k)), V.bl (decide (2 = k)), V.bl (decide (3 = k)), V.bl (decide (4 = k)), V.bl (decide (5 = k)), V.bl (decide (6 = k)), V.bl (decide (7 = k)), V.bl (decide (8 = k)), V.bl (decide (9 = k)), V.bl (decide (10 = k)), V.bl (decide (11 = k)), V.bl (decide (12 = k)), V.bl (decide (13 = k)), V.bl (decide (14 = k)), V.bl (decide (15 = k)), V.bl (decide (16 = k))]) := by rw [hG5]; exact upd_same
  rw [← hG5]
  refine ⟨erC K k, fs, _, decide (17 = k), xc, XAt.same e6 x0, rfl, srt T hk (j := 17) (by decide), ?_⟩
  refine ⟨erC K k, fs, _, decide (18 = k), xc, XAt.same e6 x0, rfl, srt T hk (j := 18) (by decide), ?_⟩
  refine ⟨erC K k, fs, _, decide (19 = k), xc, XAt.same e6 x0, rfl, srt T hk (j := 19) (by decide), ?_⟩
  refine ⟨by show 3 ≤ sizeLine; decide, fun M6 hM6 => ?_⟩
  have i6 := Same.upd (o := .lst [V.bl (decide (17 = k)), V.bl (decide (18 = k)), V.bl (decide (19 = k))]) hM6
  refine ⟨_, _, i6 _ _ l5, upd_same, by show 20 ≤ sizeLine; decide, fun L6 hL6 => ?_⟩
  obtain ⟨G6, hG6⟩ : ∃ z, z = upd (upd G5 M6 (.lst [V.bl (decide (17 = k)), V.bl (decide (18 = k)), V.bl (decide (19 = k))])) L6 (.lst ([V.bl (decide (0 = k)), V.bl (decide (1 = k)), V.bl (decide (2 = k)), V.bl (decide (3 = k)), V.bl (decide (4 = k)), V.bl (decide (5 = k)), V.bl (decide (6 = k)), V.bl (decide (7 = k)), V.bl (decide (8 = k)), V.bl (decide (9 = k)), V.bl (decide (10 = k)), V.bl (decide (11 = k)), V.bl (decide (12 = k)), V.bl (decide (13 = k)), V.bl (decide (14 = k)), V.bl (decide (15 = k)), V.bl (decide (16 = k))] ++ [V.bl (decide (17 = k)), V.bl (decide (18 = k)), V.bl (decide (19 = k))])) := ⟨_, rfl⟩
  have e7 : Same H G6 := by rw [hG6]; exact e6.trans (i6.trans (Same.upd hL6))
  have l6 : G6 L6 = some (.lst [V.bl (decide (0 = k)), V.bl (decide (1 = k)), V.bl (decide (2 = k)), V.bl (decide (3 = k)), V.bl (decide (4 = k)), V.bl (decide (5 = k)), V.bl (decide (6 = k)), V.bl (decide (7 = k)), V.bl (decide (8 = k)), V.bl (decide (9 = k)), V.bl (decide (10 = k)), V.bl (decide (11 = k)), V.bl (decide (12 = k)), V.bl (decide (13 = k)), V.bl (decide (14 = k)), V.bl (decide (15 = k)), V.bl (decide (16 = k)), V.bl (decide (17 = k)), V.bl (decide (18 = k)), V.bl (decide (19 = k))]) := by rw [hG6]; exact upd_same
  rw [← hG6]
  refine ⟨erC K k, fs, _, decide (20 = k), xc, XAt.same e7 x0, rfl, srt T hk (j := 20) (by decide), ?_⟩
  refine ⟨erC K k, fs, _, decide (21 = k), xc, XAt.same e7 x0, rfl, srt T hk (j := 21) (by decide), ?_⟩
  refine ⟨erC K k, fs, _, decide (22 = k), xc, XAt.same e7 x0, rfl, srt T hk (j := 22) (by decide), ?_⟩
  refine ⟨by show 3 ≤ sizeLine; decide, fun M7 hM7 => ?_⟩
  have i7 := Same.upd (o := .lst [V.bl (decide (20 = k)), V.bl (decide (21 = k)), V.bl (decide (22 = k))]) hM7
  refine ⟨_, _, i7 _ _ l6, upd_same, by show 23 ≤ sizeLine; decide, fun L7 hL7 => ?_⟩
  obtain ⟨G7, hG7⟩ : ∃ z, z = upd (upd G6 M7 (.lst [V.bl (decide (20 = k)), V.bl (decide (21 = k)), V.bl (decide (22 = k))])) L7 (.lst ([V.bl (decide (0 = k)), V.bl (decide (1 = k)), V.bl (decide (2 = k)), V.bl (decide (3 = k)), V.bl (decide (4 = k)), V.bl (decide (5 = k)), V.bl (decide (6 = k)), V.bl (decide (7 = k)), V.bl (decide (8 = k)), V.bl (decide (9 = k)), V.bl (decide (10 = k)), V.bl (decide (11 = k)), V.bl (decide (12 = k)), V.bl (decide (13 = k)), V.bl (decide (14 = k)), V.bl (decide (15 = k)), V.bl (decide (16 = k)), V.bl (decide (17 = k)), V.bl (decide (18 = k)), V.bl (decide (19 = k))] ++ [V.bl (decide (20 = k)), V.bl (decide (21 = k)), V.bl (decide (22 = k))])) := ⟨_, rfl⟩
  have e8 : Same H G7 := by rw [hG7]; exact e7.trans (i7.trans (Same.upd hL7))
  have l7 : G7 L7 = some (.lst [V.bl (decide (0 = k)), V.bl (decide (1 = k)), V.bl (decide (2 = k)), V.bl (decide (3 = k)), V.bl (decide (4 = k)), V.bl (decide (5 = k)), V.bl (decide (6 = k)), V.bl (decide (7 = k)), V.bl (decide (8 = k)), V.bl (decide (9 = k)), V.bl (decide (10 = k)), V.bl (decide (11 = k)), V.bl (decide (12 = k)), V.bl (decide (13 = k)), V.bl (decide (14 = k)), V.bl (decide (15 = k)), V.bl (decide (16 = k)), V.bl (decide (17 = k)), V.bl (decide (18 = k)), V.bl (decide (19 = k)), V.bl (decide (20 = k)), V.bl (decide (21 = k)), V.bl (decide (22 = k))]) := by rw [hG7]; exact upd_same
  have fin := hQ L7 G7 e8 l7
  rw [hG7] at fin
  exact fin
theorem b__law_sorts (T : Tx K mg) : Binds K (fdA K (He.fAd K d__law_sorts.at_)) ["_law_e"] [] := T.F__law_sorts.bindsN fun _ _ _ _ _ _ us hl => match us, hl with | [_], _ => rfl
theorem ok__law_sorts (T : Tx K mg) : FnOk P w K mg base CX0 1 (He.fAd K d__law_sorts.at_) (fdA K (He.fAd K d__law_sorts.at_)) ["_law_e"] (sp__law_sorts K) :=
  T.F__law_sorts.ok sc__law_sorts (fun _ _ _ _ h => on1_len h) (fun cdv A outer s H vs Q E hr h => ⟨t__law_sorts K, PSs.nox ((pss_cons (ps_set (i := 1) sc__law_sorts.nd rfl (.inl rfl) (pe_lst (pa_cons (pe_callB c_isX (by rfl) T.b_isinstance boot_isinstance (pa_cons (vv 0) (pa_cons (pe_glob (by rfl) T.g_InvalidRoom rfl) pa_nil))) (pa_cons (pe_callB c_isX (by rfl) T.b_isinstance boot_isinstance (pa_cons (vv 0) (pa_cons (pe_glob (by rfl) T.g_InvalidOption rfl) pa_nil))) (pa_cons (pe_callB c_isX (by rfl) T.b_isinstance boot_isinstance (pa_cons (vv 0) (pa_cons (pe_glob (by rfl) T.g_InvalidText rfl) pa_nil))) pa_nil)))))
      (pss_cons (ps_set (i := 1) sc__law_sorts.nd rfl (.inl rfl) (pe_op o_catL (vv 1) (pe_lst (pa_cons (pe_callB c_isX (by rfl) T.b_isinstance boot_isinstance (pa_cons (vv 0) (pa_cons (pe_glob (by rfl) T.g_InvalidNumber rfl) pa_nil))) (pa_cons (pe_callB c_isX (by rfl) T.b_isinstance boot_isinstance (pa_cons (vv 0) (pa_cons (pe_glob (by rfl) T.g_InvalidPeriod rfl) pa_nil))) (pa_cons (pe_callB c_isX (by rfl) T.b_isinstance boot_isinstance (pa_cons (vv 0) (pa_cons (pe_glob (by rfl) T.g_InvalidName rfl) pa_nil))) pa_nil))))))
      (pss_cons (ps_set (i := 1) sc__law_sorts.nd rfl (.inl rfl) (pe_op o_catL (vv 1) (pe_lst (pa_cons (pe_callB c_isX (by rfl) T.b_isinstance boot_isinstance (pa_cons (vv 0) (pa_cons (pe_glob (by rfl) T.g_InvalidFlag rfl) pa_nil))) (pa_cons (pe_callB c_isX (by rfl) T.b_isinstance boot_isinstance (pa_cons (vv 0) (pa_cons (pe_glob (by rfl) T.g_InvalidIndex rfl) pa_nil))) (pa_cons (pe_callB c_isX (by rfl) T.b_isinstance boot_isinstance (pa_cons (vv 0) (pa_cons (pe_glob (by rfl) T.g_InvalidClaim rfl) pa_nil))) pa_nil))))))
      (pss_cons (ps_set (i := 1) sc__law_sorts.nd rfl (.inl rfl) (pe_op o_catL (vv 1) (pe_lst (pa_cons (pe_callB c_isX (by rfl) T.b_isinstance boot_isinstance (pa_cons (vv 0) (pa_cons (pe_glob (by rfl) T.g_NotAMaker rfl) pa_nil))) (pa_cons (pe_callB c_isX (by rfl) T.b_isinstance boot_isinstance (pa_cons (vv 0) (pa_cons (pe_glob (by rfl) T.g_NotAPartner rfl) pa_nil))) (pa_cons (pe_callB c_isX (by rfl) T.b_isinstance boot_isinstance (pa_cons (vv 0) (pa_cons (pe_glob (by rfl) T.g_NotAForm rfl) pa_nil))) pa_nil))))))
      (pss_cons (ps_set (i := 1) sc__law_sorts.nd rfl (.inl rfl) (pe_op o_catL (vv 1) (pe_lst (pa_cons (pe_callB c_isX (by rfl) T.b_isinstance boot_isinstance (pa_cons (vv 0) (pa_cons (pe_glob (by rfl) T.g_InvalidRules rfl) pa_nil))) (pa_cons (pe_callB c_isX (by rfl) T.b_isinstance boot_isinstance (pa_cons (vv 0) (pa_cons (pe_glob (by rfl) T.g_InvalidKeys rfl) pa_nil))) (pa_cons (pe_callB c_isX (by rfl) T.b_isinstance boot_isinstance (pa_cons (vv 0) (pa_cons (pe_glob (by rfl) T.g_InvalidNumbers rfl) pa_nil))) pa_nil))))))
      (pss_cons (ps_set (i := 1) sc__law_sorts.nd rfl (.inl rfl) (pe_op o_catL (vv 1) (pe_lst (pa_cons (pe_callB c_isX (by rfl) T.b_isinstance boot_isinstance (pa_cons (vv 0) (pa_cons (pe_glob (by rfl) T.g_UnknownName rfl) pa_nil))) (pa_cons (pe_callB c_isX (by rfl) T.b_isinstance boot_isinstance (pa_cons (vv 0) (pa_cons (pe_glob (by rfl) T.g_InUse rfl) pa_nil))) pa_nil)))))
      (pss_cons (ps_set (i := 1) sc__law_sorts.nd rfl (.inl rfl) (pe_op o_catL (vv 1) (pe_lst (pa_cons (pe_callB c_isX (by rfl) T.b_isinstance boot_isinstance (pa_cons (vv 0) (pa_cons (pe_glob (by rfl) T.g_Endless rfl) pa_nil))) (pa_cons (pe_callB c_isX (by rfl) T.b_isinstance boot_isinstance (pa_cons (vv 0) (pa_cons (pe_glob (by rfl) T.g_TooMany rfl) pa_nil))) (pa_cons (pe_callB c_isX (by rfl) T.b_isinstance boot_isinstance (pa_cons (vv 0) (pa_cons (pe_glob (by rfl) T.g_Drops rfl) pa_nil))) pa_nil))))))
      (pss_one (ps_ret (pe_op o_catL (vv 1) (pe_lst (pa_cons (pe_callB c_isX (by rfl) T.b_isinstance boot_isinstance (pa_cons (vv 0) (pa_cons (pe_glob (by rfl) T.g_NothingToUndo rfl) pa_nil))) (pa_cons (pe_callB c_isX (by rfl) T.b_isinstance boot_isinstance (pa_cons (vv 0) (pa_cons (pe_glob (by rfl) T.g_NotAsked rfl) pa_nil))) (pa_cons (pe_callB c_isX (by rfl) T.b_isinstance boot_isinstance (pa_cons (vv 0) (pa_cons (pe_glob (by rfl) T.g_Broken rfl) pa_nil))) pa_nil))))))))))))))), pure__law_sorts T vs H Q E h⟩)
def sp__law_bases (K : PySem.W.Frag) : L2.Sp := fun vs H Q _ => on1 vs fun x => onRef x fun a => ∃ (k : Nat) (fs : List (Str × V)), k < 23 ∧ XAt H a (erC K k) fs ∧ ∀ (L : Addr) (H' : Hp), Same H H' → H' L = some (.lst ([V.bl (decide (kindN k = 0)), V.bl (decide (kindN k = 1)), V.bl (decide (kindN k = 2)), V.bl (decide (kindN k = 0)), V.bl (decide (kindN k = 1)), V.bl (decide (kindN k = 2))])) → Q (.ref L) H'
abbrev N__law_bases : List Str := ["_law_e", "_law_told"]
theorem sc__law_bases : FnScope N__law_bases ["_law_e"] (defScope s__law_bases) := ⟨rfl, rfl, rfl, by decide +kernel, rfl, by decide +kernel, by decide +kernel⟩
def t__law_bases (K : PySem.W.Frag) : TS :=
    tSeq (tAsg (tLst (tCons (tCB (fIsX K) (tCons (fV 0) (tCons (tC (.ref (He.ga K "WrongValue"))) tNil))) (tCons (tCB (fIsX K) (tCons (fV 0) (tCons (tC (.ref (He.ga K "WrongName"))) tNil))) (tCons (tCB (fIsX K) (tCons (fV 0) (tCons (tC (.ref (He.ga K "NoAnswer"))) tNil))) tNil)))) (gName 1))
    (tRet (tOp fCatL (fV 1) (tLst (tCons (tCB (fIsX K) (tCons (fV 0) (tCons (tC (.ty "ValueError")) tNil))) (tCons (tCB (fIsX K) (tCons (fV 0) (tCons (tC (.ty "LookupError")) tNil))) (tCons (tCB (fIsX K) (tCons (fV 0) (tCons (tC (.ty "ArithmeticError")) tNil))) tNil))))))
abbrev Pure__law_bases (K : PySem.W.Frag) : Prop := ∀ (vs : List V) (H : Hp) (Q : VK) (E : XK), sp__law_bases K vs H Q E → t__law_bases K { nx := fun _ H' => Q .non H', rt := Q } (L2.start N__law_bases vs) H
theorem pure__law_bases (T : Tx K mg) : Pure__law_bases K := by
  intro vs H Q E h
  obtain ⟨x, rfl, h⟩ := on1_ex h
  obtain ⟨a, rfl, k, fs, hk, x0, hQ⟩ := onRef_ex h
  have xc := xcN T hk
  have e0 : Same H H := Same.refl _
  refine ⟨erC K k, fs, _, decide (kindN k = 0), xc, XAt.same e0 x0, rfl, (bse T hk (j := 0) (by decide)).1, ?_⟩
  refine ⟨erC K k, fs, _, decide (kindN k = 1), xc, XAt.same e0 x0, rfl, (bse T hk (j := 1) (by decide)).1, ?_⟩
  refine ⟨erC K k, fs, _, decide (kindN k = 2), xc, XAt.same e0 x0, rfl, (bse T hk (j := 2) (by decide)).1, ?_⟩
  refine ⟨by show 3 ≤ sizeLine; decide, fun M0 hM0 => ?_⟩
  obtain ⟨G0, hG0⟩ : ∃ z, z = upd H M0 (.lst [V.bl (decide (kindN k = 0)), V.bl (decide (kindN k = 1)), V.bl (decide (kindN k = 2))]) := ⟨_, rfl⟩
  have e1 : Same H G0 := by rw [hG0]; exact Same.upd hM0
  have l0 : G0 M0 = some (.lst [V.bl (decide (kindN k = 0)), V.bl (decide (kindN k = 1)), V.bl (decide (kindN k = 2))]) := by rw [hG0]; exact upd_same
  rw [← hG0]
  refine ⟨erC K k, fs, _, decide (kindN k = 0), xc, XAt.same e1 x0, rfl, (bse T hk (j := 0) (by decide)).2, ?_⟩
  refine ⟨erC K k, fs, _, decide (kindN k = 1), xc, XAt.same e1 x0, rfl, (bse T hk (j := 1) (by decide)).2, ?_⟩
  refine ⟨erC K k, fs, _, decide (kindN k = 2), xc, XAt.same e1 x0, rfl, (bse T hk (j := 2) (by decide)).2, ?_⟩
  refine ⟨by show 3 ≤ sizeLine; decide, fun M1 hM1 => ?_⟩
  have i1 := Same.upd (o := .lst [V.bl (decide (kindN k = 0)), V.bl (decide (kindN k = 1)), V.bl (decide (kindN k = 2))]) hM1
  refine ⟨_, _, i1 _ _ l0, upd_same, by show 6 ≤ sizeLine; decide, fun L1 hL1 => ?_⟩
  obtain ⟨G1, hG1⟩ : ∃ z, z = upd (upd G0 M1 (.lst [V.bl (decide (kindN k = 0)), V.bl (decide (kindN k = 1)), V.bl (decide (kindN k = 2))])) L1 (.lst ([V.bl (decide (kindN k = 0)), V.bl (decide (kindN k = 1)), V.bl (decide (kindN k = 2))] ++ [V.bl (decide (kindN k = 0)), V.bl (decide (kindN k = 1)), V.bl (decide (kindN k = 2))])) := ⟨_, rfl⟩
  have e2 : Same H G1 := by rw [hG1]; exact e1.trans (i1.trans (Same.upd hL1))
  have l1 : G1 L1 = some (.lst [V.bl (decide (kindN k = 0)), V.bl (decide (kindN k = 1)), V.bl (decide (kindN k = 2)), V.bl (decide (kindN k = 0)), V.bl (decide (kindN k = 1)), V.bl (decide (kindN k = 2))]) := by rw [hG1]; exact upd_same
  have fin := hQ L1 G1 e2 l1
  rw [hG1] at fin
  exact fin
theorem b__law_bases (T : Tx K mg) : Binds K (fdA K (He.fAd K d__law_bases.at_)) ["_law_e"] [] := T.F__law_bases.bindsN fun _ _ _ _ _ _ us hl => match us, hl with | [_], _ => rfl
theorem ok__law_bases (T : Tx K mg) : FnOk P w K mg base CX0 1 (He.fAd K d__law_bases.at_) (fdA K (He.fAd K d__law_bases.at_)) ["_law_e"] (sp__law_bases K) :=
  T.F__law_bases.ok sc__law_bases (fun _ _ _ _ h => on1_len h) (fun cdv A outer s H vs Q E hr h => ⟨t__law_bases K, PSs.nox ((pss_cons (ps_set (i := 1) sc__law_bases.nd rfl (.inl rfl) (pe_lst (pa_cons (pe_callB c_isX (by rfl) T.b_isinstance boot_isinstance (pa_cons (vv 0) (pa_cons (pe_glob (by rfl) T.g_WrongValue rfl) pa_nil))) (pa_cons (pe_callB c_isX (by rfl) T.b_isinstance boot_isinstance (pa_cons (vv 0) (pa_cons (pe_glob (by rfl) T.g_WrongName rfl) pa_nil))) (pa_cons (pe_callB c_isX (by rfl) T.b_isinstance boot_isinstance (pa_cons (vv 0) (pa_cons (pe_glob (by rfl) T.g_NoAnswer rfl) pa_nil))) pa_nil)))))
      (pss_one (ps_ret (pe_op o_catL (vv 1) (pe_lst (pa_cons (pe_callB c_isX (by rfl) T.b_isinstance boot_isinstance (pa_cons (vv 0) (pa_cons (pe_bltn (by rfl) T.b_ValueError boot_ValueError rfl) pa_nil))) (pa_cons (pe_callB c_isX (by rfl) T.b_isinstance boot_isinstance (pa_cons (vv 0) (pa_cons (pe_bltn (by rfl) T.b_LookupError boot_LookupError rfl) pa_nil))) (pa_cons (pe_callB c_isX (by rfl) T.b_isinstance boot_isinstance (pa_cons (vv 0) (pa_cons (pe_bltn (by rfl) T.b_ArithmeticError boot_ArithmeticError rfl) pa_nil))) pa_nil))))))))), pure__law_bases T vs H Q E h⟩)
/-- the attributes that are told of the error with this number -/
def atV (k : Nat) (one two : V) : List V := if k = 17 ∨ k = 19 ∨ k = 20 then [] else if k = 22 then [one, two] else [one]
def sp__law_attributes (K : PySem.W.Frag) : L2.Sp := fun vs H Q _ => on2 vs fun x y => onRef x fun a => onInt y fun z => ∃ (k : Nat) (one two : V), z = k ∧ k < 23 ∧ XAt H a (erC K k) (erF k one two) ∧ ∀ (L : Addr) (H' : Hp), Same H H' → L ≠ sysModules → H' L = some (.lst (atV k one two)) → Q (.ref L) H'
abbrev N__law_attributes : List Str := ["_law_e", "_law_at"]
theorem sc__law_attributes : FnScope N__law_attributes ["_law_e", "_law_at"] (defScope s__law_attributes) := ⟨rfl, rfl, rfl, by decide +kernel, rfl, by decide +kernel, by decide +kernel⟩
def t__law_attributes (K : PySem.W.Frag) : TS :=
    tSeq (tIfS (tOr (fT (tOp fLt (fV 1) (tC (.int 12)))) (fT (tOp fEq (fV 1) (tC (.int 15)))))
    (tRet (tLstN (tCons (tXat K "given" (fV 0)) tNil))) tNext)
    (tSeq (tIfS (fT (tOp (fIn K false) (fV 1) (tLstN (tCons (tC (.int 17)) (tCons (tC (.int 19)) (tCons (tC (.int 20)) tNil))))))
    (tRet (tLstN tNil)) tNext)
    (tSeq (tIfS (fT (tOp fEq (fV 1) (tC (.int 18))))
    (tRet (tLstN (tCons (tXat K "limit" (fV 0)) tNil))) tNext)
    (tRet (tIf (fT (tOp fEq (fV 1) (tC (.int 22)))) (tLstN (tCons (tXat K "index" (fV 0)) (tCons (tXat K "shown" (fV 0)) tNil))) (tLstN (tCons (tXat K "index" (fV 0)) tNil))))))
abbrev Pure__law_attributes (K : PySem.W.Frag) : Prop := ∀ (vs : List V) (H : Hp) (Q : VK) (E : XK), sp__law_attributes K vs H Q E → t__law_attributes K { nx := fun _ H' => Q .non H', rt := Q } (L2.start N__law_attributes vs) H
theorem xat_cons {H : Hp} {a C : Addr} {p : Str × V} {fs : List (Str × V)} (h : XAt H a C (p :: fs)) : ∃ d, H a = some (exo a C (some d)) ∧ H d = some (exd d (p :: fs)) := by
  rcases h with ⟨_, z⟩ | h
  · cases z
  · exact h
theorem pure__law_attributes (T : Tx K mg) : Pure__law_attributes K := by
  intro vs H Q E h
  obtain ⟨x, y, rfl, h⟩ := on2_ex h
  obtain ⟨a, rfl, h⟩ := onRef_ex h
  obtain ⟨z, rfl, k, one, two, rfl, hk, h0, hQ⟩ := onInt_ex h
  match k, hk, h0, hQ with
  | 0, hk, h0, hQ =>
    obtain ⟨d, h1, h2⟩ := xat_cons h0
    exact ⟨_, d, _, one, xcN T hk, T.xn_InvalidRoom_given.2, h1, h2, rfl, by show 1 ≤ sizeLine; decide, fun L hL hs => hQ L _ (Same.upd hL) hs upd_same⟩
  | 1, hk, h0, hQ =>
    obtain ⟨d, h1, h2⟩ := xat_cons h0
    exact ⟨_, d, _, one, xcN T hk, T.xn_InvalidOption_given.2, h1, h2, rfl, by show 1 ≤ sizeLine; decide, fun L hL hs => hQ L _ (Same.upd hL) hs upd_same⟩
  | 2, hk, h0, hQ =>
    obtain ⟨d, h1, h2⟩ := xat_cons h0
    exact ⟨_, d, _, one, xcN T hk, T.xn_InvalidText_given.2, h1, h2, rfl, by show 1 ≤ sizeLine; decide, fun L hL hs => hQ L _ (Same.upd hL) hs upd_same⟩
  | 3, hk, h0, hQ =>
    obtain ⟨d, h1, h2⟩ := xat_cons h0
    exact ⟨_, d, _, one, xcN T hk, T.xn_InvalidNumber_given.2, h1, h2, rfl, by show 1 ≤ sizeLine; decide, fun L hL hs => hQ L _ (Same.upd hL) hs upd_same⟩
  | 4, hk, h0, hQ =>
    obtain ⟨d, h1, h2⟩ := xat_cons h0
    exact ⟨_, d, _, one, xcN T hk, T.xn_InvalidPeriod_given.2, h1, h2, rfl, by show 1 ≤ sizeLine; decide, fun L hL hs => hQ L _ (Same.upd hL) hs upd_same⟩
  | 5, hk, h0, hQ =>
    obtain ⟨d, h1, h2⟩ := xat_cons h0
    exact ⟨_, d, _, one, xcN T hk, T.xn_InvalidName_given.2, h1, h2, rfl, by show 1 ≤ sizeLine; decide, fun L hL hs => hQ L _ (Same.upd hL) hs upd_same⟩
  | 6, hk, h0, hQ =>
    obtain ⟨d, h1, h2⟩ := xat_cons h0
    exact ⟨_, d, _, one, xcN T hk, T.xn_InvalidFlag_given.2, h1, h2, rfl, by show 1 ≤ sizeLine; decide, fun L hL hs => hQ L _ (Same.upd hL) hs upd_same⟩
  | 7, hk, h0, hQ =>
    obtain ⟨d, h1, h2⟩ := xat_cons h0
    exact ⟨_, d, _, one, xcN T hk, T.xn_InvalidIndex_given.2, h1, h2, rfl, by show 1 ≤ sizeLine; decide, fun L hL hs => hQ L _ (Same.upd hL) hs upd_same⟩
  | 8, hk, h0, hQ =>
    obtain ⟨d, h1, h2⟩ := xat_cons h0
    exact ⟨_, d, _, one, xcN T hk, T.xn_InvalidClaim_given.2, h1, h2, rfl, by show 1 ≤ sizeLine; decide, fun L hL hs => hQ L _ (Same.upd hL) hs upd_same⟩
  | 9, hk, h0, hQ =>
    obtain ⟨d, h1, h2⟩ := xat_cons h0
    exact ⟨_, d, _, one, xcN T hk, T.xn_NotAMaker_given.2, h1, h2, rfl, by show 1 ≤ sizeLine; decide, fun L hL hs => hQ L _ (Same.upd hL) hs upd_same⟩
  | 10, hk, h0, hQ =>
    obtain ⟨d, h1, h2⟩ := xat_cons h0
    exact ⟨_, d, _, one, xcN T hk, T.xn_NotAPartner_given.2, h1, h2, rfl, by show 1 ≤ sizeLine; decide, fun L hL hs => hQ L _ (Same.upd hL) hs upd_same⟩
  | 11, hk, h0, hQ =>
    obtain ⟨d, h1, h2⟩ := xat_cons h0
    exact ⟨_, d, _, one, xcN T hk, T.xn_NotAForm_given.2, h1, h2, rfl, by show 1 ≤ sizeLine; decide, fun L hL hs => hQ L _ (Same.upd hL) hs upd_same⟩
  | 12, hk, h0, hQ =>
    refine ⟨by show 3 ≤ sizeLine; decide, fun M hM hMs => ⟨_, .inl (SqL.of upd_same), rfl, rfl, false, by decide, ?_⟩⟩
    have e := Same.upd (o := .lst [V.int 17, V.int 19, V.int 20]) hM
    obtain ⟨d, h1, h2⟩ := xat_cons h0
    exact ⟨_, d, _, one, xcN T hk, T.xn_InvalidRules_index.2, e _ _ h1, e _ _ h2, rfl, by show 1 ≤ sizeLine; decide, fun L hL hs => hQ L _ (e.trans (Same.upd hL)) hs upd_same⟩
  | 13, hk, h0, hQ =>
    refine ⟨by show 3 ≤ sizeLine; decide, fun M hM hMs => ⟨_, .inl (SqL.of upd_same), rfl, rfl, false, by decide, ?_⟩⟩
    have e := Same.upd (o := .lst [V.int 17, V.int 19, V.int 20]) hM
    obtain ⟨d, h1, h2⟩ := xat_cons h0
    exact ⟨_, d, _, one, xcN T hk, T.xn_InvalidKeys_index.2, e _ _ h1, e _ _ h2, rfl, by show 1 ≤ sizeLine; decide, fun L hL hs => hQ L _ (e.trans (Same.upd hL)) hs upd_same⟩
  | 14, hk, h0, hQ =>
    refine ⟨by show 3 ≤ sizeLine; decide, fun M hM hMs => ⟨_, .inl (SqL.of upd_same), rfl, rfl, false, by decide, ?_⟩⟩
    have e := Same.upd (o := .lst [V.int 17, V.int 19, V.int 20]) hM
    obtain ⟨d, h1, h2⟩ := xat_cons h0
    exact ⟨_, d, _, one, xcN T hk, T.xn_InvalidNumbers_index.2, e _ _ h1, e _ _ h2, rfl, by show 1 ≤ sizeLine; decide, fun L hL hs => hQ L _ (e.trans (Same.upd hL)) hs upd_same⟩
  | 15, hk, h0, hQ =>
    obtain ⟨d, h1, h2⟩ := xat_cons h0
    exact ⟨_, d, _, one, xcN T hk, T.xn_UnknownName_given.2, h1, h2, rfl, by show 1 ≤ sizeLine; decide, fun L hL hs => hQ L _ (Same.upd hL) hs upd_same⟩
  | 16, hk, h0, hQ =>
    refine ⟨by show 3 ≤ sizeLine; decide, fun M hM hMs => ⟨_, .inl (SqL.of upd_same), rfl, rfl, false, by decide, ?_⟩⟩
    have e := Same.upd (o := .lst [V.int 17, V.int 19, V.int 20]) hM
    obtain ⟨d, h1, h2⟩ := xat_cons h0
    exact ⟨_, d, _, one, xcN T hk, T.xn_InUse_index.2, e _ _ h1, e _ _ h2, rfl, by show 1 ≤ sizeLine; decide, fun L hL hs => hQ L _ (e.trans (Same.upd hL)) hs upd_same⟩
  | 17, hk, h0, hQ =>
    refine ⟨by show 3 ≤ sizeLine; decide, fun M hM hMs => ⟨_, .inl (SqL.of upd_same), rfl, rfl, true, by decide, ?_⟩⟩
    have e := Same.upd (o := .lst [V.int 17, V.int 19, V.int 20]) hM
    exact ⟨by show 0 ≤ sizeLine; decide, fun L hL hs => hQ L _ (e.trans (Same.upd hL)) hs upd_same⟩
  | 18, hk, h0, hQ =>
    refine ⟨by show 3 ≤ sizeLine; decide, fun M hM hMs => ⟨_, .inl (SqL.of upd_same), rfl, rfl, false, by decide, ?_⟩⟩
    have e := Same.upd (o := .lst [V.int 17, V.int 19, V.int 20]) hM
    obtain ⟨d, h1, h2⟩ := xat_cons h0
    exact ⟨_, d, _, one, xcN T hk, T.xn_TooMany_limit.2, e _ _ h1, e _ _ h2, rfl, by show 1 ≤ sizeLine; decide, fun L hL hs => hQ L _ (e.trans (Same.upd hL)) hs upd_same⟩
  | 19, hk, h0, hQ =>
    refine ⟨by show 3 ≤ sizeLine; decide, fun M hM hMs => ⟨_, .inl (SqL.of upd_same), rfl, rfl, true, by decide, ?_⟩⟩
    have e := Same.upd (o := .lst [V.int 17, V.int 19, V.int 20]) hM
    exact ⟨by show 0 ≤ sizeLine; decide, fun L hL hs => hQ L _ (e.trans (Same.upd hL)) hs upd_same⟩
  | 20, hk, h0, hQ =>
    refine ⟨by show 3 ≤ sizeLine; decide, fun M hM hMs => ⟨_, .inl (SqL.of upd_same), rfl, rfl, true, by decide, ?_⟩⟩
    have e := Same.upd (o := .lst [V.int 17, V.int 19, V.int 20]) hM
    exact ⟨by show 0 ≤ sizeLine; decide, fun L hL hs => hQ L _ (e.trans (Same.upd hL)) hs upd_same⟩
  | 21, hk, h0, hQ =>
    refine ⟨by show 3 ≤ sizeLine; decide, fun M hM hMs => ⟨_, .inl (SqL.of upd_same), rfl, rfl, false, by decide, ?_⟩⟩
    have e := Same.upd (o := .lst [V.int 17, V.int 19, V.int 20]) hM
    obtain ⟨d, h1, h2⟩ := xat_cons h0
    exact ⟨_, d, _, one, xcN T hk, T.xn_NotAsked_index.2, e _ _ h1, e _ _ h2, rfl, by show 1 ≤ sizeLine; decide, fun L hL hs => hQ L _ (e.trans (Same.upd hL)) hs upd_same⟩
  | 22, hk, h0, hQ =>
    refine ⟨by show 3 ≤ sizeLine; decide, fun M hM hMs => ⟨_, .inl (SqL.of upd_same), rfl, rfl, false, by decide, ?_⟩⟩
    have e := Same.upd (o := .lst [V.int 17, V.int 19, V.int 20]) hM
    obtain ⟨d, h1, h2⟩ := xat_cons h0
    exact ⟨_, d, _, one, xcN T hk, T.xn_Broken_index.2, e _ _ h1, e _ _ h2, rfl, _, d, _, two, xcN T hk, T.xn_Broken_shown.2, e _ _ h1, e _ _ h2, rfl, by show 2 ≤ sizeLine; decide, fun L hL hs => hQ L _ (e.trans (Same.upd hL)) hs upd_same⟩
  | k + 23, hk, _, _ => exact absurd hk (by omega)
theorem b__law_attributes (T : Tx K mg) : Binds K (fdA K (He.fAd K d__law_attributes.at_)) ["_law_e", "_law_at"] [] := T.F__law_attributes.bindsN fun _ _ _ _ _ _ us hl => match us, hl with | [_, _], _ => rfl
theorem ok__law_attributes (T : Tx K mg) : FnOk P w K mg base CX0 1 (He.fAd K d__law_attributes.at_) (fdA K (He.fAd K d__law_attributes.at_)) ["_law_e", "_law_at"] (sp__law_attributes K) :=
  T.F__law_attributes.ok sc__law_attributes (fun _ _ _ _ h => on2_len h) (fun cdv A outer s H vs Q E hr h => ⟨t__law_attributes K, PSs.nox ((pss_cons (ps_if (PW.pt (pw_or (t_cmp o_lt (vv 1) pe_int (nomark _)) (pw_or1 (t_cmp o_eq (vv 1) pe_int (nomark _)))))
      (pss_one (ps_ret (e_lstN (pa_cons (e_xat (vv 0)) pa_nil)))) pss_nil)
      (pss_cons (ps_if (t_cmp o_inS (vv 1) (e_lstN (pa_cons pe_int (pa_cons pe_int (pa_cons pe_int pa_nil)))) (by rfl))
      (pss_one (ps_ret (e_lstN pa_nil))) pss_nil)
      (pss_cons (ps_if (t_cmp o_eq (vv 1) pe_int (nomark _))
      (pss_one (ps_ret (e_lstN (pa_cons (e_xat (vv 0)) pa_nil)))) pss_nil)
      (pss_one (ps_ret (pe_ifExp (t_cmp o_eq (vv 1) pe_int (nomark _)) (e_lstN (pa_cons (e_xat (vv 0)) (pa_cons (e_xat (vv 0)) pa_nil))) (e_lstN (pa_cons (e_xat (vv 0)) pa_nil))))))))), pure__law_attributes T vs H Q E h⟩)

end K01
namespace K01
open PySem PySem.Spec PyProof.Rows L2 Sp
variable {P : Program} {w : World} {K : PySem.W.Frag} {mg : Str → Option Value} {base : Heap}
theorem Pool.same {H H' : Hp} {p : Addr} (e : Same H H') (h : Pool H p) : Pool H' p := by
  obtain ⟨a, b, c, h1, h2⟩ := h
  exact ⟨a, b, c, e _ _ h1, h2⟩
theorem Pool.ne {H : Hp} {p q : Addr} (h : Pool H p) (hq : H q = none) : q ≠ p := by
  obtain ⟨a, b, c, h1, _⟩ := h
  exact (ne_of_none h1 hq).symm
theorem Pool.tk {H H' : Hp} {p : Addr} (h : Pool H p) (k : Kp p H H') : TK K H H' := fun l xs hl => by
  obtain ⟨a, b, c, h1, _⟩ := h
  rcases hl with (hl | ⟨ob, hl⟩) | hl
  · exact .inl (.inl (k _ _ (ne_of hl h1 (fun z => by cases z)) hl))
  · exact .inl (.inr ⟨ob, k _ _ (ne_of hl h1 (fun z => by cases z)) hl⟩)
  · exact .inr hl

theorem sml_flat {d : PyData} (h : d.showable = true) (hd : d.hasDict = false) (h5 : d.depth ≤ 5) (hc : cells d ≤ 5) : Sml d := ⟨h, h5, by have := shown_le d h hd; omega⟩
theorem cps_of (s : String) : ∀ c ∈ (Str.ofString s).cps.toList, c < 16 ^ 8 := fun c hc => by
  rw [Str.ofString_eq_toList] at hc
  simp only [List.mem_map] at hc
  obtain ⟨x, _, rfl⟩ := hc
  exact x.val.toNat_lt
theorem log_10 {i : Int} (h : i.natAbs ≤ 1000) : i.natAbs.log2 < 10 := by
  rcases Nat.eq_zero_or_pos i.natAbs with z | z
  · rw [z]
    decide
  · exact (Nat.log2_lt (by omega)).mpr (Nat.lt_of_le_of_lt h (by decide))
theorem room_len {i : Int} (h : i.natAbs ≤ 1000) : (reprText (Str.ofString "room " ++ Str.ofString (toString i))).length ≤ 10000 := by
  have e1 : (Str.ofString (toString i)).length ≤ 11 := by rw [PySem.ofString_length]; exact int_text_length_le (k := 10) (by decide) (log_10 h)
  have e2 := StrLaws.reprText_len (Str.ofString "room " ++ Str.ofString (toString i)) (fun c hc => by
    have hc : c ∈ ((Str.ofString "room ").cps ++ (Str.ofString (toString i)).cps).toList := hc
    rw [Array.toList_append] at hc
    rcases List.mem_append.mp hc with hc | hc
    · exact cps_of _ c hc
    · exact cps_of _ c hc)
  have e3 : (Str.ofString "room " ++ Str.ofString (toString i)).length = 5 + (Str.ofString (toString i)).length := by
    show ((Str.ofString "room ").cps ++ (Str.ofString (toString i)).cps).size = _
    rw [Array.size_append]
    rfl
  omega
theorem pair_len {i : Int} (h : i.natAbs ≤ 1000) : (PyData.shown (.dict [(.str "a", .int i)])).length ≤ 10000 := by
  have e1 : (Str.ofString (toString i)).length ≤ 11 := by rw [PySem.ofString_length]; exact int_text_length_le (k := 10) (by decide) (log_10 h)
  have e2 := dictText_len_le (PyData.shownKv [(.str "a", .int i)])
  have e3 : ((PyData.shownKv [(.str "a", .int i)]).map (·.length)).sum = 5 + (Str.ofString (toString i)).length := by
    show (reprText "a" ++ ": " ++ Str.ofString (toString i)).length + 0 = _
    show ((reprText "a" ++ ": ").cps ++ (Str.ofString (toString i)).cps).size + 0 = _
    rw [Array.size_append]
    have : (reprText "a" ++ ": ").cps.size = 5 := by decide +kernel
    rw [this]
    rfl
  have e4 : (PyData.shownKv [(.str "a", .int i)]).length = 1 := rfl
  rw [e3, e4] at e2
  show (dictText (PyData.shownKv [(.str "a", .int i)])).length ≤ 10000
  omega
def sp__law_thing (K : PySem.W.Frag) : L2.Sp := fun vs H Q _ => on1 vs fun x => onRef x fun p => Pool H p ∧ ∀ (v : V) (d : PyData) (H' : Hp), Pool H' p → Kp p H H' → Dt K H' v d → Sml d → Q v H'
abbrev N__law_thing : List Str := ["_law_pool", "_law_number", "_law_menu"]
theorem sc__law_thing : FnScope N__law_thing ["_law_pool"] (defScope s__law_thing) := ⟨rfl, rfl, rfl, by decide +kernel, rfl, by decide +kernel, by decide +kernel⟩
def t__law_thing (K : PySem.W.Frag) : TS :=
    tSeq (tAsg (tOp fSub (tCall (sp__law_draw K) [] E0 (tCons (fV 0) (tCons (tC (.int 2000)) tNil))) (tC (.int 1000))) (gName 1))
    (tSeq (tAsg (tLstN (tCons (fV 1) (tCons (tOp fAdd (tUn fNeg (tOp fPow (tC (.int 10)) (tC (.int 39)))) (fV 1)) (tCons (tC .non) (tCons (tC (.bl true)) (tCons (tC (.bl false)) (tCons (tC (.str "")) (tCons (tOp fAddS (tC (.str "room ")) (tCB fStrI (tCons (fV 1) tNil))) (tCons (tTup tNil) (tCons (tTup (tCons (fV 1) (tCons (tC .non) tNil))) tNil)))))))))) (gName 2))
    (tRet (tCall (sp__law_pick K) [] E0 (tCons (fV 0) (tCons (tOp fCatL (fV 2) (tLstN (tCons (tLstN (tCons (fV 1) tNil)) (tCons tDNewK (tCons (tDisp ((tC (.str "a"), fV 1) :: [])) (tCons (tLstN tNil) (tCons (tTup (tCons (tTup (tCons (tC (.int 1)) tNil)) (tCons (tC (.str "x")) tNil))) (tCons (tC (.str "read")) (tCons (tC (.int 0)) (tCons (tC (.int 1)) (tCons (tTup (tCons (tC (.bl true)) (tCons (tLstN (tCons (fV 1) tNil)) tNil))) tNil))))))))))) tNil)))))
abbrev Pure__law_thing (K : PySem.W.Frag) : Prop := ∀ (vs : List V) (H : Hp) (Q : VK) (E : XK), sp__law_thing K vs H Q E → t__law_thing K { nx := fun _ H' => Q .non H', rt := Q } (L2.start N__law_thing vs) H
theorem pure__law_thing (T : Tx K mg) : Pure__law_thing K := by
  intro vs H Q E h
  obtain ⟨x, rfl, h⟩ := on1_ex h
  obtain ⟨p, rfl, hp, hQ⟩ := onRef_ex h
  refine ⟨hp, by decide, by decide, fun r H1 hr0 hr1 hp1 hk1 => ?_⟩
  have hna : (r - 1000).natAbs ≤ 10 ^ 100 := Nat.le_trans (show (r - 1000).natAbs ≤ 1000 by omega) (by decide +kernel)
  have hlog := log_of hna
  have htl : (Str.ofString (toString (r - 1000))).length ≤ 1921 := by rw [PySem.ofString_length]; exact int_text_length_le (k := 1920) (by decide) hlog
  have hbig : (-(10 ^ Int.toNat 39) + (r - 1000)).natAbs ≤ 10 ^ 100 := by
    have h39 : (10 : Int) ^ Int.toNat 39 = 10 ^ 39 := by decide
    rw [h39]
    have h1 : (-(10 ^ 39) + (r - 1000)).natAbs ≤ 10 ^ 40 := by omega
    exact Nat.le_trans h1 (by decide +kernel)
  refine ⟨⟨by decide, by decide, by decide⟩, hlog, ?_, by show 0 ≤ sizeLine; decide, fun t0 ht0 => ?_⟩
  · show 5 + (Str.ofString (toString (r - 1000))).length ≤ sizeLine
    rw [sizeLine_eq]
    omega
  obtain ⟨G0, hG0⟩ : ∃ z, z = upd H1 t0 (.tup []) := ⟨_, rfl⟩
  have g0 : Same H1 G0 := by rw [hG0]; exact Same.upd ht0
  have l0 : G0 t0 = some (.tup []) := by rw [hG0]; exact upd_same
  rw [← hG0]
  refine ⟨by show 2 ≤ sizeLine; decide, fun t1 ht1 => ?_⟩
  obtain ⟨G1, hG1⟩ : ∃ z, z = upd G0 t1 (.tup [V.int (r - 1000), V.non]) := ⟨_, rfl⟩
  have g1 : Same G0 G1 := by rw [hG1]; exact Same.upd ht1
  have l1 : G1 t1 = some (.tup [V.int (r - 1000), V.non]) := by rw [hG1]; exact upd_same
  rw [← hG1]
  refine ⟨by show 9 ≤ sizeLine; decide, fun M hM hMs => ?_⟩
  obtain ⟨G2, hG2⟩ : ∃ z, z = upd G1 M (.lst [V.int (r - 1000), V.int (-(10 ^ Int.toNat 39) + (r - 1000)), V.non, V.bl true, V.bl false, V.str "", V.str (Str.ofString "room " ++ Str.ofString (toString (r - 1000))), V.ref t0, V.ref t1]) := ⟨_, rfl⟩
  have g2 : Same G1 G2 := by rw [hG2]; exact Same.upd hM
  have l2 : G2 M = some (.lst [V.int (r - 1000), V.int (-(10 ^ Int.toNat 39) + (r - 1000)), V.non, V.bl true, V.bl false, V.str "", V.str (Str.ofString "room " ++ Str.ofString (toString (r - 1000))), V.ref t0, V.ref t1]) := by rw [hG2]; exact upd_same
  rw [← hG2]
  refine ⟨by show 1 ≤ sizeLine; decide, fun b1 hb1 hs1 => ?_⟩
  obtain ⟨G3, hG3⟩ : ∃ z, z = upd G2 b1 (.lst [V.int (r - 1000)]) := ⟨_, rfl⟩
  have g3 : Same G2 G3 := by rw [hG3]; exact Same.upd hb1
  have l3 : G3 b1 = some (.lst [V.int (r - 1000)]) := by rw [hG3]; exact upd_same
  rw [← hG3]
  refine fun q0 hq0 => ?_
  obtain ⟨G4, hG4⟩ : ∃ z, z = upd G3 q0 (.dK []) := ⟨_, rfl⟩
  have g4 : Same G3 G4 := by rw [hG4]; exact Same.upd hq0
  have l4 : G4 q0 = some (.dK []) := by rw [hG4]; exact upd_same
  rw [← hG4]
  refine fun q1 hq1 => ?_
  refine ⟨upd_same, [(.inr "a", V.int (r - 1000))], rfl, by show 1 ≤ 15; decide, ?_⟩
  have ed : upd (upd G4 q1 (.dK [])) q1 (.dK (mergeK [] [(.inr "a", V.int (r - 1000))])) = upd G4 q1 (.dK [(.inr "a", V.int (r - 1000))]) := upd_upd
  rw [ed]
  obtain ⟨G5, hG5⟩ : ∃ z, z = upd G4 q1 (.dK [(.inr "a", V.int (r - 1000))]) := ⟨_, rfl⟩
  have g5 : Same G4 G5 := by rw [hG5]; exact Same.upd hq1
  have l5 : G5 q1 = some (.dK [(.inr "a", V.int (r - 1000))]) := by rw [hG5]; exact upd_same
  rw [← hG5]
  refine ⟨by show 0 ≤ sizeLine; decide, fun b2 hb2 hs2 => ?_⟩
  obtain ⟨G6, hG6⟩ : ∃ z, z = upd G5 b2 (.lst []) := ⟨_, rfl⟩
  have g6 : Same G5 G6 := by rw [hG6]; exact Same.upd hb2
  have l6 : G6 b2 = some (.lst []) := by rw [hG6]; exact upd_same
  rw [← hG6]
  refine ⟨by show 1 ≤ sizeLine; decide, fun u0 hu0 => ?_⟩
  obtain ⟨G7, hG7⟩ : ∃ z, z = upd G6 u0 (.tup [V.int 1]) := ⟨_, rfl⟩
  have g7 : Same G6 G7 := by rw [hG7]; exact Same.upd hu0
  have l7 : G7 u0 = some (.tup [V.int 1]) := by rw [hG7]; exact upd_same
  rw [← hG7]
  refine ⟨by show 2 ≤ sizeLine; decide, fun u1 hu1 => ?_⟩
  obtain ⟨G8, hG8⟩ : ∃ z, z = upd G7 u1 (.tup [V.ref u0, V.str "x"]) := ⟨_, rfl⟩
  have g8 : Same G7 G8 := by rw [hG8]; exact Same.upd hu1
  have l8 : G8 u1 = some (.tup [V.ref u0, V.str "x"]) := by rw [hG8]; exact upd_same
  rw [← hG8]
  refine ⟨by show 1 ≤ sizeLine; decide, fun b3 hb3 hs3 => ?_⟩
  obtain ⟨G9, hG9⟩ : ∃ z, z = upd G8 b3 (.lst [V.int (r - 1000)]) := ⟨_, rfl⟩
  have g9 : Same G8 G9 := by rw [hG9]; exact Same.upd hb3
  have l9 : G9 b3 = some (.lst [V.int (r - 1000)]) := by rw [hG9]; exact upd_same
  rw [← hG9]
  refine ⟨by show 2 ≤ sizeLine; decide, fun u2 hu2 => ?_⟩
  obtain ⟨G10, hG10⟩ : ∃ z, z = upd G9 u2 (.tup [V.bl true, V.ref b3]) := ⟨_, rfl⟩
  have g10 : Same G9 G10 := by rw [hG10]; exact Same.upd hu2
  have l10 : G10 u2 = some (.tup [V.bl true, V.ref b3]) := by rw [hG10]; exact upd_same
  rw [← hG10]
  refine ⟨by show 9 ≤ sizeLine; decide, fun M2 hM2 hM2s => ?_⟩
  obtain ⟨G11, hG11⟩ : ∃ z, z = upd G10 M2 (.lst [V.ref b1, V.ref q0, V.ref q1, V.ref b2, V.ref u1, V.str "read", V.int 0, V.int 1, V.ref u2]) := ⟨_, rfl⟩
  have g11 : Same G10 G11 := by rw [hG11]; exact Same.upd hM2
  have l11 : G11 M2 = some (.lst [V.ref b1, V.ref q0, V.ref q1, V.ref b2, V.ref u1, V.str "read", V.int 0, V.int 1, V.ref u2]) := by rw [hG11]; exact upd_same
  rw [← hG11]
  have z11 : Same G11 G11 := Same.refl _
  have z10 : Same G10 G11 := g11.trans z11
  have z9 : Same G9 G11 := g10.trans z10
  have z8 : Same G8 G11 := g9.trans z9
  have z7 : Same G7 G11 := g8.trans z8
  have z6 : Same G6 G11 := g7.trans z7
  have z5 : Same G5 G11 := g6.trans z6
  have z4 : Same G4 G11 := g5.trans z5
  have z3 : Same G3 G11 := g4.trans z4
  have z2 : Same G2 G11 := g3.trans z3
  have z1 : Same G1 G11 := g2.trans z2
  have z0 : Same G0 G11 := g1.trans z1
  refine ⟨_, _, z2 _ _ l2, l11, by show 18 ≤ sizeLine; decide, fun L hL => ?_⟩
  have gL := Same.upd (o := .lst ([V.int (r - 1000), V.int (-(10 ^ Int.toNat 39) + (r - 1000)), V.non, V.bl true, V.bl false, V.str "", V.str (Str.ofString "room " ++ Str.ofString (toString (r - 1000))), V.ref t0, V.ref t1] ++ [V.ref b1, V.ref q0, V.ref q1, V.ref b2, V.ref u1, V.str "read", V.int 0, V.int 1, V.ref u2])) hL
  have e1L : Same H1 (upd G11 L (.lst ([V.int (r - 1000), V.int (-(10 ^ Int.toNat 39) + (r - 1000)), V.non, V.bl true, V.bl false, V.str "", V.str (Str.ofString "room " ++ Str.ofString (toString (r - 1000))), V.ref t0, V.ref t1] ++ [V.ref b1, V.ref q0, V.ref q1, V.ref b2, V.ref u1, V.str "read", V.int 0, V.int 1, V.ref u2]))) := (g0.trans z0).trans gL
  have hpL := hp1.same e1L
  have hLp : L ≠ p := (hp1.same (g0.trans z0)).ne hL
  refine ⟨hpL, _, SqL.of upd_same, hLp, by simp, by show 18 < 1000; decide, fun i v H' hi hp' hk' => ?_⟩
  have fin : ∀ d, Dt K G11 v d → Sml d → Q v H' := fun d hd hs => hQ v d H' hp' (hk1.trans ((Kp.same e1L).trans hk')) ((hd.same gL).keep (hpL.tk hk') fun b o ho hb => hk' b o (fun z => by
      obtain ⟨a', b', c', h1, _⟩ := hpL
      rw [z, h1] at hb
      exact ho _ _ _ (Option.some.inj hb).symm) hb) hs
  have sI : ∀ z : Int, z.natAbs ≤ 10 ^ 100 → (PyData.int z).showable = true := fun z hz => decide_eq_true (log_of hz)
  have sN := sI _ hna
  match i, hi with
  | 0, hi => cases hi; exact fin _ (.fl rfl) (sml_flat sN rfl (by show 0 ≤ 5; decide) (by show 1 ≤ 5; decide))
  | 1, hi => cases hi; exact fin _ (.fl rfl) (sml_flat (sI _ hbig) rfl (by show 0 ≤ 5; decide) (by show 1 ≤ 5; decide))
  | 2, hi => cases hi; exact fin _ (.fl rfl) (sml_flat rfl rfl (by show 0 ≤ 5; decide) (by show 1 ≤ 5; decide))
  | 3, hi => cases hi; exact fin _ (.fl rfl) (sml_flat rfl rfl (by show 0 ≤ 5; decide) (by show 1 ≤ 5; decide))
  | 4, hi => cases hi; exact fin _ (.fl rfl) (sml_flat rfl rfl (by show 0 ≤ 5; decide) (by show 1 ≤ 5; decide))
  | 5, hi => cases hi; exact fin _ (.fl rfl) (sml_flat rfl rfl (by show 0 ≤ 5; decide) (by show 1 + (reprText "").length ≤ 5; decide +kernel))
  | 6, hi =>
    cases hi
    exact fin _ (.fl rfl) ⟨rfl, by show 0 ≤ 5; decide, room_len (by omega)⟩
  | 7, hi => cases hi; exact fin _ (.tup (SqT.of (z0 _ _ l0)) .nil) (sml_flat rfl rfl (by decide) (by decide))
  | 8, hi => cases hi; exact fin _ (.tup (SqT.of (z1 _ _ l1)) (.cons (.fl rfl) (.cons (.fl rfl) .nil))) (sml_flat (by simp only [PyData.showable, PyData.showableAll] at sN ⊢; simp [sN]) rfl (by show 1 ≤ 5; decide) (by show 3 ≤ 5; decide))
  | 9, hi => cases hi; exact fin _ (.lst (z3 _ _ l3) (by show 1 ≠ 3; decide) hs1 (.cons (.fl rfl) .nil)) (sml_flat (by simp only [PyData.showable, PyData.showableAll] at sN ⊢; simp [sN]) rfl (by show 1 ≤ 5; decide) (by show 2 ≤ 5; decide))
  | 10, hi => cases hi; exact fin _ (.d0 (z4 _ _ l4)) ⟨rfl, by decide, by decide +kernel⟩
  | 11, hi =>
    cases hi
    refine fin _ (.d1 (z5 _ _ l5)) ⟨?_, by show 1 ≤ 5; decide, ?_⟩
    · simp only [PyData.showable, PyData.showableKv] at sN ⊢; simp [sN]
    · exact pair_len (by omega)
  | 12, hi => cases hi; exact fin _ (.lst (z6 _ _ l6) (by decide) hs2 .nil) (sml_flat rfl rfl (by decide) (by decide))
  | 13, hi => cases hi; exact fin _ (.tup (SqT.of (z8 _ _ l8)) (.cons (.tup (SqT.of (z7 _ _ l7)) (.cons (.fl rfl) .nil)) (.cons (.fl rfl) .nil))) ⟨by decide +kernel, by decide, by decide +kernel⟩
  | 14, hi => cases hi; exact fin _ (.fl rfl) ⟨rfl, by decide, by decide +kernel⟩
  | 15, hi => cases hi; exact fin _ (.fl rfl) ⟨by decide +kernel, by decide, by decide +kernel⟩
  | 16, hi => cases hi; exact fin _ (.fl rfl) ⟨by decide +kernel, by decide, by decide +kernel⟩
  | 17, hi => cases hi; exact fin _ (.tup (SqT.of (z10 _ _ l10)) (.cons (.fl rfl) (.cons (.lst (z9 _ _ l9) (by show 1 ≠ 3; decide) hs3 (.cons (.fl rfl) .nil)) .nil))) (sml_flat (by simp only [PyData.showable, PyData.showableAll] at sN ⊢; simp [sN]) rfl (by show 2 ≤ 5; decide) (by show 4 ≤ 5; decide))
  | i + 18, hi => simp at hi
theorem b__law_thing (T : Tx K mg) : Binds K (fdA K (He.fAd K d__law_thing.at_)) ["_law_pool"] [] := T.F__law_thing.bindsN fun _ _ _ _ _ _ us hl => match us, hl with | [_], _ => rfl
theorem ok__law_thing (T : Tx K mg) : FnOk P w K mg base CX0 3 (He.fAd K d__law_thing.at_) (fdA K (He.fAd K d__law_thing.at_)) ["_law_pool"] (sp__law_thing K) :=
  T.F__law_thing.ok sc__law_thing (fun _ _ _ _ h => on1_len h) (fun cdv A outer s H vs Q E hr h => ⟨t__law_thing K, PSs.nox ((pss_cons (ps_set (i := 1) sc__law_thing.nd rfl (.inl rfl) (pe_op o_sub (pe_call (ok__law_draw T) (hr.mono (by decide)) (by rfl) T.g__law_draw T.F__law_draw.kp (b__law_draw T) .nil pass0 (pa_cons (vv 0) (pa_cons pe_int pa_nil))) pe_int))
      (pss_cons (ps_set (i := 2) sc__law_thing.nd rfl (.inl rfl) (e_lstN (pa_cons (vv 1) (pa_cons (pe_op o_add (pe_un o_neg (pe_op o_pow pe_int pe_int)) (vv 1)) (pa_cons pe_non (pa_cons pe_bl (pa_cons pe_bl (pa_cons pe_str (pa_cons (pe_op o_addS pe_str (pe_callTy c_strI (by rfl) T.b_str boot_str (pa_cons (vv 1) pa_nil))) (pa_cons (pe_tup pa_nil) (pa_cons (pe_tup (pa_cons (vv 1) (pa_cons pe_non pa_nil))) pa_nil)))))))))))
      (pss_one (ps_ret (pe_call (ok__law_pick T) (hr.mono (by decide)) (by rfl) T.g__law_pick T.F__law_pick.kp (b__law_pick T) .nil pass0 (pa_cons (vv 0) (pa_cons (pe_op o_catL (vv 2) (e_lstN (pa_cons (e_lstN (pa_cons (vv 1) pa_nil)) (pa_cons pe_dnewK (pa_cons (pe_disp (pps_cons pe_str (vv 1) pps_nil) (by rfl) (by rfl) (fun z => by cases z) (by decide)) (pa_cons (e_lstN pa_nil) (pa_cons (pe_tup (pa_cons (pe_tup (pa_cons pe_int pa_nil)) (pa_cons pe_str pa_nil))) (pa_cons pe_str (pa_cons pe_int (pa_cons pe_int (pa_cons (pe_tup (pa_cons pe_bl (pa_cons (e_lstN (pa_cons (vv 1) pa_nil)) pa_nil))) pa_nil))))))))))) pa_nil)))))))), pure__law_thing T vs H Q E h⟩)

end K01
namespace K01
open PySem PySem.Spec PyProof.Rows L2 Sp
variable {P : Program} {w : World} {K : PySem.W.Frag} {mg : Str → Option Value} {base : Heap}
theorem bools_dp (H : Hp) : ∀ bs : List Bool, DpAll K H (bs.map V.bl) (bs.map PyData.bool)
  | [] => .nil
  | b :: bs => .cons (.bl b) (bools_dp H bs)
theorem bools_lay : ∀ bs : List Bool, PyData.canLayAll0 (bs.map PyData.bool) = true ∧ PyData.depthAll (bs.map PyData.bool) = 0
  | [] => ⟨rfl, rfl⟩
  | b :: bs => by
    have := bools_lay bs
    simp [PyData.canLayAll0, PyData.canLay0, PyData.depthAll, PyData.depth, this]
theorem bools_shaped (bs : List Bool) : SeqAt.shaped (.list (bs.map PyData.bool)) = true := by
  unfold SeqAt.shaped
  obtain ⟨h1, h2⟩ := bools_lay bs
  simp [PyData.canLay0, PyData.depth, h1, h2]
def dsV (k : Nat) (d1 d2 : PyData) : List PyData := if k = 17 ∨ k = 19 ∨ k = 20 then [] else if k = 22 then [d1, d2] else [d1]
theorem dts {H : Hp} {k : Nat} {one two : V} {d1 d2 : PyData} (h1 : Dt K H one d1) (h2 : Dt K H two d2) : DtAll K H (atV k one two) (dsV k d1 d2) := by
  unfold atV dsV
  split
  · exact .nil
  · split
    · exact .cons h1 (.cons h2 .nil)
    · exact .cons h1 .nil
theorem dsV_sml {k : Nat} {d1 d2 : PyData} (h1 : Sml d1) (h2 : Sml d2) : (∀ d ∈ dsV k d1 d2, Sml d) ∧ (dsV k d1 d2).length ≤ 20 := by
  unfold dsV
  split
  · exact ⟨fun d hd => absurd hd List.not_mem_nil, Nat.zero_le _⟩
  · split
    · refine ⟨fun d hd => ?_, by show 2 ≤ 20; decide⟩
      rcases List.mem_cons.mp hd with rfl | hd
      · exact h1
      · rw [List.mem_singleton.mp hd]
        exact h2
    · refine ⟨fun d hd => ?_, by show 1 ≤ 20; decide⟩
      rw [List.mem_singleton.mp hd]
      exact h1
theorem atV_len (k : Nat) (one two : V) : (atV k one two).length ≠ 3 := by
  unfold atV
  split
  · show 0 ≠ 3; decide
  · split
    · show 2 ≠ 3; decide
    · show 1 ≠ 3; decide
theorem chainI {c : Bool} {z y : Int} {σ : L2.St} {H : Hp} {Q : VK} (h : Q (.bl (c && decide (z < y))) H) : if c = true then tC (.int y) σ H (fun v H4 => fLt (.int z) v H4 Q) else Q (.bl false) H := by
  cases c
  · exact h
  · exact h
theorem in3 (z : Int) : inV (.int z) [V.int 17, V.int 19, V.int 20] = decide (z = 17 ∨ z = 19 ∨ z = 20) := by
  rw [Bool.eq_iff_iff, decide_eq_true_iff]
  unfold inV
  simp only [List.any_cons, List.any_nil, Bool.or_false, Bool.or_eq_true, eqV, beq_iff_eq]
  omega
theorem kinds {j : Nat} : decide ((0 : Int) + (j : Int) < 15) = decide (kindN j = 0) ∧ (decide ((14 : Int) < 0 + (j : Int)) && decide ((0 : Int) + (j : Int) < 17)) = decide (kindN j = 1) ∧ decide ((16 : Int) < 0 + (j : Int)) = decide (kindN j = 2) := by
  unfold kindN
  refine ⟨?_, ?_, ?_⟩
  · by_cases h1 : j < 15
    · rw [if_pos h1, decide_eq_true (by omega)]
      rfl
    · rw [if_neg h1, decide_eq_false (by omega)]
      split <;> rfl
  · by_cases h1 : j < 15
    · rw [if_pos h1, decide_eq_false (p := (14 : Int) < _) (by omega)]
      rfl
    · rw [if_neg h1, decide_eq_true (p := (14 : Int) < _) (by omega)]
      by_cases h2 : j < 17
      · rw [if_pos h2, decide_eq_true (by omega)]
        rfl
      · rw [if_neg h2, decide_eq_false (by omega)]
        rfl
  · by_cases h1 : j < 15
    · rw [if_pos h1, decide_eq_false (by omega)]
      rfl
    · rw [if_neg h1]
      by_cases h2 : j < 17
      · rw [if_pos h2, decide_eq_false (by omega)]
        rfl
      · rw [if_neg h2, decide_eq_true (by omega)]
        rfl
theorem not_ne {d : PyData} (h : SeqAt.shaped d = true) (z : (!PyData.eqv d d) = true) : False := by
  rw [SeqAt.eqv_refl d (SeqAt.canLay_of_shaped h)] at z
  cases z
def sp__law_right (K : PySem.W.Frag) : L2.Sp := fun vs H Q _ => on1 vs fun x => onRef x fun p => Pool H p ∧ ∀ H', Kp p H H' → Pool H' p → Q (.bl true) H'
abbrev N__law_right : List Str := ["_law_pool", "_law_one", "_law_two", "_law_made", "_law_at", "_law_e", "_law_base", "_law_due", "_law_k"]
theorem sc__law_right : FnScope N__law_right ["_law_pool"] (defScope s__law_right) := ⟨rfl, rfl, rfl, by decide +kernel, rfl, by decide +kernel, by decide +kernel⟩
def t__law_right (K : PySem.W.Frag) : TS :=
    tSeq (tPar 1 2 (tCons (tCall (sp__law_thing K) [] E0 (tCons (fV 0) tNil)) (tCons (tCall (sp__law_thing K) [] E0 (tCons (fV 0) tNil)) tNil)))
    (tSeq (tFor (iList K (tLstN (tCons (tCall (sp__law_by_position K) [] E0 (tCons (fV 1) (tCons (fV 2) tNil))) (tCons (tCall (sp__law_by_name K) [] E0 (tCons (fV 1) (tCons (fV 2) tNil))) tNil)))) (gName 3)
    (tFor (iRng1 (tCons (tC (.int 23)) tNil)) (gName 4)
    (tSeq (tAsg (tOp (fIxL K) (fV 3) (fV 4)) (gName 5))
    (tSeq (tIfS (fT (tOp (rNeD K) (tCall (sp__law_sorts K) [] E0 (tCons (fV 5) tNil)) (tLc (iRng1 (tCons (tC (.int 23)) tNil)) (gName 8) tYes (tOp fEq (fV 8) (fV 4)) [8])))
    (tRet (tC (.bl false))) tNext)
    (tSeq (tAsg (tLstN (tCons (tOp fLt (fV 4) (tC (.int 15))) (tCons (fChain fLt fLt (tC (.int 14)) (fV 4) (tC (.int 17))) (tCons (tOp fGt (fV 4) (tC (.int 16))) tNil)))) (gName 6))
    (tSeq (tIfS (fT (tOp (rNeD K) (tCall (sp__law_bases K) [] E0 (tCons (fV 5) tNil)) (tOp fCatL (fV 6) (fV 6))))
    (tRet (tC (.bl false))) tNext)
    (tSeq (tAsg (tIf (fT (tOp (fIn K false) (fV 4) (tLstN (tCons (tC (.int 17)) (tCons (tC (.int 19)) (tCons (tC (.int 20)) tNil)))))) (tLstN tNil) (tIf (fT (tOp fEq (fV 4) (tC (.int 22)))) (tLstN (tCons (fV 1) (tCons (fV 2) tNil))) (tLstN (tCons (fV 1) tNil)))) (gName 7))
    (tIfS (fT (tOp fNe (tCB (fReprX K) (tCons (tCall (sp__law_attributes K) [] E0 (tCons (fV 5) (tCons (fV 4) tNil))) tNil)) (tCB (fReprX K) (tCons (fV 7) tNil))))
    (tRet (tC (.bl false))) tNext))))))))
    (tRet (tC (.bl true))))
abbrev Pure__law_right (K : PySem.W.Frag) : Prop := ∀ (vs : List V) (H : Hp) (Q : VK) (E : XK), sp__law_right K vs H Q E → t__law_right K { nx := fun _ H' => Q .non H', rt := Q } (L2.start N__law_right vs) H
theorem pure__law_right (T : Tx K mg) : Pure__law_right K := by
  intro vs H Q E h
  obtain ⟨x, rfl, h⟩ := on1_ex h
  obtain ⟨p, rfl, hp, hQ⟩ := onRef_ex h
  refine ⟨hp, fun one d1 H1 hp1 hk1 hd1 hs1 => ?_⟩
  refine ⟨hp1, fun two d2 H2 hp2 hk2 hd2 hs2 => ?_⟩
  refine ⟨_, _, rfl, ?_⟩
  refine fun LA asA H3 e3 hLA hEA => ?_
  refine fun LB asB H4 e4 hLB hEB => ?_
  refine ⟨by show 2 ≤ sizeLine; decide, fun L hL hLs => ?_⟩
  have eL := Same.upd (o := .lst [V.ref LA, V.ref LB]) hL
  have e25 : Same H2 (upd H4 L (.lst [V.ref LA, V.ref LB])) := (e3.trans e4).trans eL
  have hd12 : Dt K H2 one d1 := hd1.keep (hp1.tk hk2) fun b o ho hb => hk2 b o (fun z => by
      obtain ⟨a', b', c', h1, _⟩ := hp1
      rw [z, h1] at hb
      exact ho _ _ _ (Option.some.inj hb).symm) hb
  refine ⟨L, rfl, ⟨_, SqL.of upd_same⟩, ?_⟩
  refine for_list (K := K) (a := L) (xs := [V.ref LA, V.ref LB]) (fun i σ H5 => Same (upd H4 L (.lst [V.ref LA, V.ref LB])) H5 ∧ ∃ o3 o4 o5 o6 o7, σ = [some (.ref p), some one, some two, o3, o4, o5, o6, o7, none]) ⟨Same.refl _, _, _, _, _, _, rfl⟩ (fun i σ H5 _ hp5 => hp5.1.seq (SqL.of upd_same)) (fun i x σ H5 hx hp5 => ?_) (fun σ H5 hp5 => ?_)
  · obtain ⟨e5, o3, o4, o5, o6, o7, rfl⟩ := hp5
    obtain ⟨LM, as, rfl, hM, hE⟩ : ∃ LM as, x = V.ref LM ∧ H5 LM = some (.lst (as.map V.ref)) ∧ Each (ErAt K one two H5) as (List.range 23) := by
      match i, hx with
      | 0, hx => exact ⟨LA, asA, (Option.some.inj hx).symm, (e4.trans (eL.trans e5)) _ _ hLA, hEA.imp fun _ _ z => XAt.same (e4.trans (eL.trans e5)) z⟩
      | 1, hx => exact ⟨LB, asB, (Option.some.inj hx).symm, (eL.trans e5) _ _ hLB, hEB.imp fun _ _ z => XAt.same (eL.trans e5) z⟩
      | i + 2, hx => simp at hx
    have hlen : as.length = 23 := by rw [hE.length, List.length_range]
    refine ⟨_, rfl, by decide, by decide, ?_⟩
    refine for_range (lo := 0) (n := 23) (fun j σ H6 => Same H5 H6 ∧ ∃ o4 o5 o6 o7, σ = [some (.ref p), some one, some two, some (.ref LM), o4, o5, o6, o7, none]) ⟨Same.refl _, _, _, _, _, rfl⟩ (fun j σ H6 hj hp6 => ?_) (fun σ H6 hp6 => ?_)
    · obtain ⟨e6, o4, o5, o6, o7, rfl⟩ := hp6
      obtain ⟨a, ha⟩ : ∃ a, as[j]? = some a := ⟨as[j]'(by omega), List.getElem?_eq_getElem _⟩
      obtain ⟨kk, hkk, hxa⟩ := hE.get ha
      have hjk : j = kk := by
        rw [List.getElem?_range hj] at hkk
        exact Option.some.inj hkk
      rw [← hjk] at hxa
      have hx6 := XAt.same e6 hxa
      refine ⟨_, SqL.of (e6 _ _ hM), .ref a, ?_, ?_⟩
      · rw [Int.zero_add]
        refine atI_nat ?_
        rw [List.getElem?_map, ha]
        rfl
      refine ⟨j, _, hj, hx6, fun L7 H7 e7 l7 => ?_⟩
      refine ⟨_, rfl, by decide, by decide, fun D hD => ?_⟩
      refine lc_rangeF (lo := 0) (n := 23) (fun i => V.bl (decide (V.int (0 + (i : Int)) = V.int (0 + (j : Int))))) hD (by decide) (fun i H8 hi e8 R hR => ⟨rfl, hR H8 (Same.refl _)⟩) (fun H8 e8 hD8 => ?_)
      have hf : ((List.range 23).map fun i : Nat => V.bl (decide (V.int (0 + (i : Int)) = V.int (0 + (j : Int))))) = (((List.range 23).map fun i => decide (i = j)).map V.bl) := by
        rw [List.map_map]
        refine List.map_congr_left fun i _ => ?_
        show V.bl _ = V.bl (decide (i = j))
        congr 1
        rw [decide_eq_decide]
        constructor
        · intro z
          have := V.int.inj z
          omega
        · intro z
          rw [z]
      have l7' : H7 L7 = some (.lst (((List.range 23).map fun i => decide (i = j)).map V.bl)) := by rw [l7, List.map_map]; rfl
      refine ⟨_, _, .lst (SqL.of (e8 _ _ l7')) (bools_dp _ _), .lst (SqL.of (by rw [hD8, hf])) (bools_dp _ _), bools_shaped _, bools_shaped _, ?_⟩
      refine ite2 (fun hz => (not_ne (bools_shaped _) hz).elim) (fun _ => ?_)
      have e58 : Same H5 H8 := (e6.trans e7).trans e8
      have e68 : Same H6 H8 := e7.trans e8
      show (if (decide ((14 : Int) < 0 + (j : Int))) = true then _ else _)
      refine chainI ?_
      refine ⟨by show 3 ≤ sizeLine; decide, fun B hB hBs => ?_⟩
      obtain ⟨k0, k1, k2⟩ := kinds (j := j)
      have hraw : upd H8 B (.lst [V.bl (decide ((0 : Int) + (j : Int) < 15)), V.bl (decide ((14 : Int) < 0 + (j : Int)) && decide ((0 : Int) + (j : Int) < 17)), V.bl (decide ((16 : Int) < 0 + (j : Int)))]) = upd H8 B (.lst [V.bl (decide (kindN j = 0)), V.bl (decide (kindN j = 1)), V.bl (decide (kindN j = 2))]) := by rw [k0, k1, k2]
      rw [hraw]
      have eB := Same.upd (o := .lst [V.bl (decide (kindN j = 0)), V.bl (decide (kindN j = 1)), V.bl (decide (kindN j = 2))]) hB
      refine ⟨j, _, hj, XAt.same (e68.trans eB) hx6, fun L9 H9 e9 l9 => ?_⟩
      refine ⟨_, _, e9 _ _ upd_same, e9 _ _ upd_same, by show 6 ≤ sizeLine; decide, fun C hC => ?_⟩
      have eC := Same.upd (o := .lst ([V.bl (decide (kindN j = 0)), V.bl (decide (kindN j = 1)), V.bl (decide (kindN j = 2))] ++ [V.bl (decide (kindN j = 0)), V.bl (decide (kindN j = 1)), V.bl (decide (kindN j = 2))])) hC
      refine ⟨_, _, .lst (SqL.of (eC _ _ l9)) (bools_dp _ [decide (kindN j = 0), decide (kindN j = 1), decide (kindN j = 2), decide (kindN j = 0), decide (kindN j = 1), decide (kindN j = 2)]), .lst (SqL.of upd_same) (bools_dp _ [decide (kindN j = 0), decide (kindN j = 1), decide (kindN j = 2), decide (kindN j = 0), decide (kindN j = 1), decide (kindN j = 2)]), bools_shaped _, bools_shaped _, ?_⟩
      refine ite2 (fun hz => (not_ne (bools_shaped _) hz).elim) (fun _ => ?_)
      have e6C := ((e68.trans eB).trans e9).trans eC
      refine ⟨by show 3 ≤ sizeLine; decide, fun M hMn hMs => ⟨_, .inl (SqL.of upd_same), rfl, rfl, _, in3 _, ?_⟩⟩
      have eM := Same.upd (o := .lst [V.int 17, V.int 19, V.int 20]) hMn
      have eM' := e6C.trans eM
      have e5M := e6.trans eM'
      refine ite2 (fun hin => ?_) (fun hin => ?_)
      · have hin : j = 17 ∨ j = 19 ∨ j = 20 := by
          have hin : (false != decide ((0 : Int) + (j : Int) = 17 ∨ (0 : Int) + (j : Int) = 19 ∨ (0 : Int) + (j : Int) = 20)) = true := hin
          simp only [Bool.false_bne, decide_eq_true_eq] at hin
          omega
        refine ⟨by show 0 ≤ sizeLine; decide, fun D hD hDs => ?_⟩
        have eD := Same.upd (o := .lst ([] : List V)) hD
        have e5D := e5M.trans eD
        refine ⟨j, one, two, by omega, hj, XAt.same (eM'.trans eD) hx6, fun L0 H0 e0 hL0s l0 => ?_⟩
        have e50 := e5D.trans e0
        have hd10 := (hd12.same (e25.trans e5)).same e50
        have hd20 := (hd2.same (e25.trans e5)).same e50
        refine ⟨_, dsV j d1 d2, l0, hL0s, atV_len _ _ _, dts hd10 hd20, (dsV_sml hs1 hs2).1, (dsV_sml hs1 hs2).2, ?_⟩
        have hat : ([] : List V) = atV j one two := by unfold atV; rw [if_pos hin]
        refine ⟨([] : List V), dsV j d1 d2, e0 _ _ upd_same, hDs, by rw [hat]; exact atV_len _ _ _, by rw [hat]; exact dts hd10 hd20, (dsV_sml hs1 hs2).1, (dsV_sml hs1 hs2).2, ?_⟩
        refine ite2 (fun hz => ?_) (fun _ => ?_)
        · have hz : (!decide (V.str (PyData.shown (.list (dsV j d1 d2))) = V.str (PyData.shown (.list (dsV j d1 d2))))) = true := hz
          rw [decide_eq_true rfl] at hz
          cases hz
        · exact ⟨e50, _, _, _, _, rfl⟩
      have hin : ¬ (j = 17 ∨ j = 19 ∨ j = 20) := by
        have hin : ¬ (false != decide ((0 : Int) + (j : Int) = 17 ∨ (0 : Int) + (j : Int) = 19 ∨ (0 : Int) + (j : Int) = 20)) = true := hin
        simp only [Bool.false_bne, decide_eq_true_eq] at hin
        omega
      refine ite2 (fun h22 => ?_) (fun h22 => ?_)
      · have h22 : j = 22 := by
          have := V.int.inj (of_decide_eq_true h22)
          omega
        refine ⟨by show 2 ≤ sizeLine; decide, fun D hD hDs => ?_⟩
        have eD := Same.upd (o := .lst [one, two]) hD
        have e5D := e5M.trans eD
        refine ⟨j, one, two, by omega, hj, XAt.same (eM'.trans eD) hx6, fun L0 H0 e0 hL0s l0 => ?_⟩
        have e50 := e5D.trans e0
        have hd10 := (hd12.same (e25.trans e5)).same e50
        have hd20 := (hd2.same (e25.trans e5)).same e50
        refine ⟨_, dsV j d1 d2, l0, hL0s, atV_len _ _ _, dts hd10 hd20, (dsV_sml hs1 hs2).1, (dsV_sml hs1 hs2).2, ?_⟩
        have hat : [one, two] = atV j one two := by unfold atV; rw [if_neg hin, if_pos h22]
        refine ⟨[one, two], dsV j d1 d2, e0 _ _ upd_same, hDs, by rw [hat]; exact atV_len _ _ _, by rw [hat]; exact dts hd10 hd20, (dsV_sml hs1 hs2).1, (dsV_sml hs1 hs2).2, ?_⟩
        refine ite2 (fun hz => ?_) (fun _ => ?_)
        · have hz : (!decide (V.str (PyData.shown (.list (dsV j d1 d2))) = V.str (PyData.shown (.list (dsV j d1 d2))))) = true := hz
          rw [decide_eq_true rfl] at hz
          cases hz
        · exact ⟨e50, _, _, _, _, rfl⟩
      · have h22 : j ≠ 22 := fun z => by
          refine h22 (decide_eq_true ?_)
          rw [z]
          rfl
        refine ⟨by show 1 ≤ sizeLine; decide, fun D hD hDs => ?_⟩
        have eD := Same.upd (o := .lst [one]) hD
        have e5D := e5M.trans eD
        refine ⟨j, one, two, by omega, hj, XAt.same (eM'.trans eD) hx6, fun L0 H0 e0 hL0s l0 => ?_⟩
        have e50 := e5D.trans e0
        have hd10 := (hd12.same (e25.trans e5)).same e50
        have hd20 := (hd2.same (e25.trans e5)).same e50
        refine ⟨_, dsV j d1 d2, l0, hL0s, atV_len _ _ _, dts hd10 hd20, (dsV_sml hs1 hs2).1, (dsV_sml hs1 hs2).2, ?_⟩
        have hat : [one] = atV j one two := by unfold atV; rw [if_neg hin, if_neg h22]
        refine ⟨[one], dsV j d1 d2, e0 _ _ upd_same, hDs, by rw [hat]; exact atV_len _ _ _, by rw [hat]; exact dts hd10 hd20, (dsV_sml hs1 hs2).1, (dsV_sml hs1 hs2).2, ?_⟩
        refine ite2 (fun hz => ?_) (fun _ => ?_)
        · have hz : (!decide (V.str (PyData.shown (.list (dsV j d1 d2))) = V.str (PyData.shown (.list (dsV j d1 d2))))) = true := hz
          rw [decide_eq_true rfl] at hz
          cases hz
        · exact ⟨e50, _, _, _, _, rfl⟩
    · obtain ⟨e6, o4, o5, o6, o7, rfl⟩ := hp6
      exact ⟨e5.trans e6, _, _, _, _, _, rfl⟩
  · have e2 := e25.trans hp5.1
    exact hQ H5 ((hk1.trans hk2).trans (Kp.same e2)) (hp2.same e2)
theorem b__law_right (T : Tx K mg) : Binds K (fdA K (He.fAd K d__law_right.at_)) ["_law_pool"] [] := T.F__law_right.bindsN fun _ _ _ _ _ _ us hl => match us, hl with | [_], _ => rfl
theorem ok__law_right (T : Tx K mg) : FnG P w K mg base CX0 4 (He.fAd K d__law_right.at_) (fdA K (He.fAd K d__law_right.at_)) ["_law_pool"] (sp__law_right K) :=
  Sp.FunD.okG T.F__law_right sc__law_right (fun _ _ _ _ h => on1_len h) (fun cdv A outer s H vs Q E hgd hr h => ⟨t__law_right K, PSs.nox ((pss_cons (ps_par (by rfl) sc__law_right.nd rfl rfl (by decide) rfl rfl (pa_cons (pe_call (ok__law_thing T) (hr.mono (by decide)) (by rfl) T.g__law_thing T.F__law_thing.kp (b__law_thing T) .nil pass0 (pa_cons (vv 0) pa_nil)) (pa_cons (pe_call (ok__law_thing T) (hr.mono (by decide)) (by rfl) T.g__law_thing T.F__law_thing.kp (b__law_thing T) .nil pass0 (pa_cons (vv 0) pa_nil)) pa_nil)) (by rfl))
      (pss_cons (ps_for PassesOwn.never (by rfl) (pi_list (e_lstN (pa_cons (pe_call (ok__law_by_position T) (hr.mono (by decide)) (by rfl) T.g__law_by_position T.F__law_by_position.kp (b__law_by_position T) .nil pass0 (pa_cons (vv 1) (pa_cons (vv 2) pa_nil))) (pa_cons (pe_call (ok__law_by_name T) (hr.mono (by decide)) (by rfl) T.g__law_by_name T.F__law_by_name.kp (b__law_by_name T) .nil pass0 (pa_cons (vv 1) (pa_cons (vv 2) pa_nil))) pa_nil)))) (pg_name (i := 3) sc__law_right.nd rfl (.inl rfl))
      (pss_one (ps_for PassesOwn.never (by rfl) (pi_range1 (by rfl) T.b_range (pa_cons pe_int pa_nil)) (pg_name (i := 4) sc__law_right.nd rfl (.inr rfl))
      (pss_cons (ps_set (i := 5) sc__law_right.nd rfl (.inl rfl) (pe_ix x_list (vv 3) (vv 4) (fun _ _ => rfl)))
      (pss_cons (ps_if (t_cmp (op_neD hr.units) (pe_call (ok__law_sorts T) (hr.mono (by decide)) (by rfl) T.g__law_sorts T.F__law_sorts.kp (b__law_sorts T) .nil pass0 (pa_cons (vv 5) pa_nil)) (pe_lc (own := [("_law_k", 8)]) (g := gName 8) (by rfl) sc__law_right.nd (pi_range1 (by rfl) T.b_range (pa_cons pe_int pa_nil)) (blkOk_by (own := [("_law_k", 8)]) (N := N__law_right) (sc := defScope s__law_right) (by decide +kernel)) (fun _ _ _ _ _ => (pg_name (i := 8) sc__law_right.nd rfl (.inl rfl))) (fun _ _ _ _ _ => pts_nil) (fun _ _ _ _ _ => (pe_cmpR o_eq (vv 8) (vv 4) (nomark _)))) (nomark _))
      (pss_one (ps_ret pe_bl)) pss_nil)
      (pss_cons (ps_set (i := 6) sc__law_right.nd rfl (.inl rfl) (e_lstN (pa_cons (pe_cmpR o_lt (vv 4) pe_int (nomark _)) (pa_cons (e_chain o_lt o_lt pe_int (vv 4) pe_int) (pa_cons (pe_cmpR o_gt (vv 4) pe_int (nomark _)) pa_nil)))))
      (pss_cons (ps_if (t_cmp (op_neD hr.units) (pe_call (ok__law_bases T) (hr.mono (by decide)) (by rfl) T.g__law_bases T.F__law_bases.kp (b__law_bases T) .nil pass0 (pa_cons (vv 5) pa_nil)) (pe_op o_catL (vv 6) (vv 6)) (nomark _))
      (pss_one (ps_ret pe_bl)) pss_nil)
      (pss_cons (ps_set (i := 7) sc__law_right.nd rfl (.inl rfl) (pe_ifExp (t_cmp o_inS (vv 4) (e_lstN (pa_cons pe_int (pa_cons pe_int (pa_cons pe_int pa_nil)))) (by rfl)) (e_lstN pa_nil) (pe_ifExp (t_cmp o_eq (vv 4) pe_int (nomark _)) (e_lstN (pa_cons (vv 1) (pa_cons (vv 2) pa_nil))) (e_lstN (pa_cons (vv 1) pa_nil)))))
      (pss_one (ps_if (t_cmp o_ne (pe_callB (c_reprX hgd hr.units) (by rfl) T.b_repr boot_repr (pa_cons (pe_call (ok__law_attributes T) (hr.mono (by decide)) (by rfl) T.g__law_attributes T.F__law_attributes.kp (b__law_attributes T) .nil pass0 (pa_cons (vv 5) (pa_cons (vv 4) pa_nil))) pa_nil)) (pe_callB (c_reprX hgd hr.units) (by rfl) T.b_repr boot_repr (pa_cons (vv 7) pa_nil)) (nomark _))
      (pss_one (ps_ret pe_bl)) pss_nil))))))))))
      (pss_one (ps_ret pe_bl))))), pure__law_right T vs H Q E h⟩)
def sp_law (K : PySem.W.Frag) : L2.Sp := fun vs H Q _ => on1 vs fun x => onRef x fun c => ∃ ns : List Int, SqL K H c (ns.map V.int) ∧ ns.length ≤ 63 ∧ ∀ H', Q (.bl true) H'
abbrev N_law : List Str := ["_law_cells", "_law_told", "_law_k"]
theorem sc_law : FnScope N_law ["_law_cells"] (defScope s_law) := ⟨rfl, rfl, rfl, by decide +kernel, rfl, by decide +kernel, by decide +kernel⟩
def t_law (K : PySem.W.Frag) : TS :=
    tSeq (tAsg (tLst (tCons (tC (.int 4)) (tCons (tC (.int 3)) (tCons (tC (.int 12)) (tCons (tC (.int 5)) (tCons (tC (.int 2000)) (tCons (tC (.int 6)) (tCons (tC (.int 5)) (tCons (tC (.int 16)) tNil))))))))) (gName 1))
    (tSeq (tIfS (fT (tOp fNe (tCB (fRepr K) (tCons (tOp fCatL (fV 1) (tLst (tCons (tC (.int 5000)) tNil))) tNil)) (tC (.str "[4, 3, 12, 5, 2000, 6, 5, 16, 5000]"))))
    (tRet (tC (.bl false))) tNext)
    (tRet (tCB (fAll K) (tCons (tLc (iRng1 (tCons (tCB fMax2 (tCons (tC (.int 2)) (tCons (tCB fMin2 (tCons (tCB (fLen K) (tCons (fV 0) tNil)) (tCons (tC (.int 5)) tNil))) tNil))) tNil)) (gName 2) tYes (tCall (sp__law_right K) [] E0 (tCons (tCall (sp__law_source K) [] E0 (tCons (fV 0) (tCons (fV 2) tNil))) tNil)) [2]) tNil))))
abbrev Pure_law (K : PySem.W.Frag) : Prop := ∀ (vs : List V) (H : Hp) (Q : VK) (E : XK), sp_law K vs H Q E → t_law K { nx := fun _ H' => Q .non H', rt := Q } (L2.start N_law vs) H
theorem pure_law (T : Tx K mg) : Pure_law K := by
  intro vs H Q E h
  obtain ⟨x1, rfl, h⟩ := on1_ex h
  obtain ⟨c, rfl, ns, hS, hl, hQ⟩ := onRef_ex h
  refine ⟨by show 8 ≤ sizeLine; decide, fun A hA => ?_⟩
  refine ⟨by show 1 ≤ sizeLine; decide, fun B hB => ?_⟩
  have eA := Same.upd (o := .lst [V.int 4, V.int 3, V.int 12, V.int 5, V.int 2000, V.int 6, V.int 5, V.int 16]) hA
  have eB := Same.upd (o := .lst [V.int 5000]) hB
  refine ⟨_, _, eB _ _ upd_same, upd_same, by show 9 ≤ sizeLine; decide, fun C hC => ?_⟩
  have eC := Same.upd (o := .lst ([V.int 4, V.int 3, V.int 12, V.int 5, V.int 2000, V.int 6, V.int 5, V.int 16] ++ [V.int 5000])) hC
  refine ⟨_, ⟨.list [.int 4, .int 3, .int 12, .int 5, .int 2000, .int 6, .int 5, .int 16, .int 5000], .lst (SqL.of upd_same) (.cons (.int _) (.cons (.int _) (.cons (.int _) (.cons (.int _) (.cons (.int _) (.cons (.int _) (.cons (.int _) (.cons (.int _) (.cons (.int _) .nil))))))))), rfl, by decide +kernel, by decide, by decide +kernel, rfl⟩, ?_⟩
  have eH := (eA.trans eB).trans eC
  have hS5 := eH.seq hS
  refine ⟨_, .inl hS5, ?_⟩
  rw [List.length_map]
  refine ⟨_, rfl, ?_, ?_, fun D hD => ?_⟩
  · split <;> split <;> omega
  · split <;> split <;> omega
  refine lc_rangeF (fun _ => .bl true) hD (by split <;> split <;> omega) (fun i H6 hi e6 R hR => ?_) (fun H6 e6 hD6 => ?_)
  · refine ⟨rfl, ns, e6.seq hS5, by omega, by omega, ?_, fun p H7 hp0 hp7 e7 => ⟨hp7, fun H8 hk8 _ => hR H8 fun b o hb => hk8 b o (ne_of_none hb hp0) (e7 _ _ hb)⟩⟩
    have : i < 8 + 1 := by
      refine Nat.lt_of_lt_of_le hi ?_
      split <;> split <;> omega
    omega
  · refine ⟨(List.range _).map fun _ => true, SqL.of (by rw [hD6, List.map_map]; rfl), ?_⟩
    have e : ∀ n, ((List.range n).map fun _ => true).all id = true := fun n => by simp
    rw [e]
    exact hQ H6
theorem b_law (T : Tx K mg) : Binds K (fdA K (He.fAd K d_law.at_)) ["_law_cells"] [] := T.F_law.bindsN fun _ _ _ _ _ _ us hl => match us, hl with | [_], _ => rfl
theorem ok_law (T : Tx K mg) : FnG P w K mg base CX0 5 (He.fAd K d_law.at_) (fdA K (He.fAd K d_law.at_)) ["_law_cells"] (sp_law K) :=
  Sp.FunD.okG T.F_law sc_law (fun _ _ _ _ h => on1_len h) (fun cdv A outer s H vs Q E hgd hr h => ⟨t_law K, PSs.nox ((pss_cons (ps_set (i := 1) sc_law.nd rfl (.inl rfl) (pe_lst (pa_cons (pe_glob (by rfl) (T.i_MOST_ROOM).choose_spec ⟨_, rfl⟩) (pa_cons (pe_glob (by rfl) (T.i_MOST_BEST).choose_spec ⟨_, rfl⟩) (pa_cons (pe_glob (by rfl) (T.i_MOST_RULES).choose_spec ⟨_, rfl⟩) (pa_cons (pe_glob (by rfl) (T.i_MOST_CONDITIONS).choose_spec ⟨_, rfl⟩) (pa_cons (pe_glob (by rfl) (T.i_MOST_KEYS).choose_spec ⟨_, rfl⟩) (pa_cons (pe_glob (by rfl) (T.i_MOST_ROOMS).choose_spec ⟨_, rfl⟩) (pa_cons (pe_glob (by rfl) (T.i_MOST_BEST_ROOMS).choose_spec ⟨_, rfl⟩) (pa_cons (pe_glob (by rfl) (T.i_MOST_WAYS).choose_spec ⟨_, rfl⟩) pa_nil))))))))))
      (pss_cons (ps_if (t_cmp o_ne (pe_callB (c_repr hgd hr.units) (by rfl) T.b_repr boot_repr (pa_cons (pe_op o_catL (vv 1) (pe_lst (pa_cons (pe_glob (by rfl) (T.i_MOST_FORM).choose_spec ⟨_, rfl⟩) pa_nil))) pa_nil)) pe_str (nomark _))
      (pss_one (ps_ret pe_bl)) pss_nil)
      (pss_one (ps_ret (pe_callB (c_all rfl) (by rfl) T.b_all boot_all (pa_cons (pe_lc (own := [("_law_k", 2)]) (g := gName 2) (by rfl) sc_law.nd (pi_range1 (by rfl) T.b_range (pa_cons (pe_callB (c_max2 rfl) (by rfl) T.b_max boot_max (pa_cons pe_int (pa_cons (pe_callB (c_min2 rfl) (by rfl) T.b_min boot_min (pa_cons (pe_callB c_len (by rfl) T.b_len boot_len (pa_cons (vv 0) pa_nil)) (pa_cons pe_int pa_nil))) pa_nil))) pa_nil)) (blkOk_by (own := [("_law_k", 2)]) (N := N_law) (sc := defScope s_law) (by decide +kernel)) (fun _ _ _ _ _ => (pg_name (i := 2) sc_law.nd rfl (.inl rfl))) (fun _ _ _ _ _ => pts_nil) (fun _ _ _ _ _ => (e_callG hgd (ok__law_right T) (hr.mono (by decide)) (by rfl) T.g__law_right T.F__law_right.kp (b__law_right T) .nil pass0 (pa_cons (pe_call (ok__law_source T) (hr.mono (by decide)) (by rfl) T.g__law_source T.F__law_source.kp (b__law_source T) .nil pass0 (pa_cons (vv 0) (pa_cons (vv 2) pa_nil))) pa_nil)))) pa_nil))))))), pure_law T vs H Q E h⟩)
end K01
open PySem PySem.W PySem.Calls PyProof.Rows
set_option maxHeartbeats 0 in
theorem PySem.Challenge.cw_spillruns_k01_constants_and_errors_holds : PySem.Challenge.rw_spillruns_k01_constants_and_errors.Holds := by
  w_on; o_law
  refine HandSHeadRun.head_any (r := OpenLaw.row PySem.Challenge.rw_spillruns_k01_constants_and_errors) (q := view (OpenLaw.row PySem.Challenge.rw_spillruns_k01_constants_and_errors).prog [47]) (H := K01.hk) (ob := K01.ob) (M := 20000) (loose := K01.loose) (d := HandSHeadRun.topDef (OpenLaw.row PySem.Challenge.rw_spillruns_k01_constants_and_errors).prog 47) (kwd := []) K01.ob_eq
    (by kernel_rfl) (fun s => by kernel_rfl) K01.run (by kernel_rfl) (by kernel_rfl) (by kernel_rfl) (by rfl) (by first | assumption | decide +kernel) (by decide +kernel) ⟨rfl, rfl, rfl, rfl, rfl, by decide +kernel⟩ ?hw ?hc
  case hw => w_witness2
  case hc =>
    refine Sp.walkG (l := PySem.Challenge.rw_spillruns_k01_constants_and_errors) (n := 63) (k := 5) (x := "_law_cells") rfl (by decide) (by kernel_rfl) ⟨rfl, by decide, by decide⟩ ?F
    intro w mg fa h Y G hmg0
    obtain ⟨K, KX, c⟩ := Y
    have hmg : mg ("law" : PySem.Str) = some (.ref fa) := by
      have e : (HandSHeadRun.topDef (OpenLaw.row PySem.Challenge.rw_spillruns_k01_constants_and_errors).prog 47).name = ("law" : PySem.Str) := by kernel_rfl
      rw [← e]
      exact hmg0
    have T := K01.tx_of KX G c
    have e := hmg.symm.trans T.g_law
    cases e
    refine ⟨K, KX, K01.fdA K (He.fAd K K01.d_law.at_), K01.sp_law K, (fun s v => (L2.FunD.bindsA (ps := ["_law_cells"]) T.F_law fun _ _ _ _ _ _ us hl => match us, hl with | [_], _ => rfl) s [v] rfl), (fun H a ns hl hS => ⟨ns, hS, hl, fun _ => rfl⟩), fun base => K01.ok_law T⟩



