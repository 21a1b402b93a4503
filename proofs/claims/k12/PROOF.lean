import PyProof.Rows.All
import Wide.All
import OpenK.AllK
import Wide.FinOn
import KE.KStateDown
import Lean
import HandS.ForMost
import HandS.Defaults
import HandS.Head0
import HandS.Head1
import HandS.Head2
import HandS.HeadEnd
import HandS.HeadHook1
import HandS.HeadHook2
import HandS.HeadHook3
import HandS.HeadHook4
import HandS.HeadWalk
import HandS.EndBits
import HandS.EndTab
import HandS.Property
import HandS.Star
import HandS.FStr
import PyProof.FString
import PyProof.FString4
import KE.KCallOwn
import KE.KOpsOwn
import HandS.WideBits
import HandS.Wide
import PyProof.ReprRoads
import HandS.IsInst
import HandS.Style
import HandS.MakeKw
import HandS.TupAny
import HandS.Conv
import PyProof.LongRange
import KE.GoesMore
import HandS.Zip
import PyProof.TwoTypes
import PyProof.FactsInt
import HandS.Ends
import PyProof.ReprLen
import HandS.NoneIn
import HandS.SetBool
import KE.KDictDisplayH
import PyProof.Rows.TupTab
import PyProof.DictRoadsH
import PyProof.EqKinds
import PyProof.StrLawsTight
import PyProof.StrLawsLast
import PyProof.MeetsStr3
import KE.KxPart
import HandS.Deep
import PyProof.P3In
import KE.KeyNested
import HandS.SortRule
import HandS.Rev
import HandS.List
import PyProof.WalkInts
import PyProof.Rows.CallKwBuiltin
import PyProof.CallFns
import HandS.TupMul
import HandS.MakeKwOnly
import HandS.ExcInit
import HandS.ExcIs
import KE.KExcMake
import KE.KExcIs
import KE.KIsAll
import HandS.Dict
import PyProof.RowDictHeap
import PyProof.StrLawsRepr
import HandS.ExcField
import HandS.HotCalls
import HandS.Lambda
import KE.KTryMore
import HandS.WordsExc
import PyProof.CallStr
import KE.KNest
import KE.KNestM
import PySem.Challenge.RW_spillruns_k12_best_made
set_option Elab.async false
set_option linter.all false
set_option maxRecDepth 100000
set_option maxHeartbeats 4000000
namespace Sp
open PySem PySem.Spec PyProof.Rows L2

section
variable {X : Cx}
theorem OpR.imp {f : Value → Value → Sem Value} {r r' : R2} (h : OpR X f r) (hi : ∀ x y H Q, r' x y H Q → r x y H Q) : OpR X f r' :=
  fun pins s σ H x y v u Q I rx ry q => h pins s σ H x y v u Q I rx ry (hi _ _ _ _ q)
theorem UnR.imp {f : Value → Sem Value} {r r' : V → Hp → VK → Prop} (h : UnR X f r) (hi : ∀ x H Q, r' x H Q → r x H Q) : UnR X f r' :=
  fun pins s σ H x v Q I rx q => h pins s σ H x v Q I rx (hi _ _ _ q)
theorem CallR.imp {f : Value} {r r' : List V → Hp → VK → Prop} (h : CallR X f r) (hi : ∀ xs H Q, r' xs H Q → r xs H Q) : CallR X f r' :=
  fun pins s σ H xs us Q I rx q => h pins s σ H xs us Q I rx (hi _ _ _ q)
theorem IxR.imp {r r' : R2} (h : IxR X r) (hi : ∀ x y H Q, r' x y H Q → r x y H Q) : IxR X r' :=
  fun e1 e2 pins s σ H x y v u Q I rx ry q => h e1 e2 pins s σ H x y v u Q I rx ry (hi _ _ _ _ q)
theorem PSet.imp {r r' : TSet} (h : PSet X r) (hi : ∀ x y z H Q, r' x y z H Q → r x y z H Q) : PSet X r' :=
  fun pins s σ H x y z v u w Q I rx ry rz q => h pins s σ H x y z v u w Q I rx ry rz (hi _ _ _ _ _ q)
theorem PE.imp {e : Expr} {t t' : TE} (h : PE X e t) (hi : ∀ σ H Q, t' σ H Q → t σ H Q) : PE X e t' := ⟨fun pins s σ H Q I q => h.run pins s σ H Q I (hi _ _ _ q)⟩
theorem PS.imp {e : Stmt} {t t' : TS} (h : PS X e t) (hi : ∀ D σ H, t' D σ H → t D σ H) : PS X e t' := ⟨fun pins s σ H D I q => h.run pins s σ H D I (hi _ _ _ q)⟩
end

/-! ### names -/
def at? (σ : L2.St) (i : Nat) : Option V := (σ[i]?).bind id
def fV (i : Nat) : TE := fun σ H Q => match at? σ i with
  | some v => Q v H
  | none => False
section
variable {X : Cx}
theorem vv (i : Nat) {x : Str} {pos : Pos} (hN : X.N[i]? = some x := by rfl) (hv : Vis X.env.scope x := by first | exact Or.inl rfl | exact Or.inr (Or.inl rfl) | exact Or.inr (Or.inr rfl)) (hd : (x == ("__debug__" : Str)) = false := by decide)
    (hcd : (x == ("__classdict__" : Str)) = false := by decide) : PE X (.Name x pos) (fV i) := PE.imp (pe_var hN hv hd hcd) fun σ H Q h => by
  unfold fV at h
  cases e : σ[i]? with
  | none => rw [at?, e] at h; exact h.elim
  | some o =>
    cases o with
    | none => rw [at?, e] at h; exact h.elim
    | some v =>
      rw [at?, e] at h
      exact ⟨v, e, h⟩
end

/-! ### ints -/
def i2 (g : Int → Int → V) : R2 := fun x y H Q => match x, y with
  | .int i, .int j => Q (g i j) H
  | _, _ => False
def i2c (C : Int → Int → Prop) (g : Int → Int → V) : R2 := fun x y H Q => match x, y with
  | .int i, .int j => C i j ∧ Q (g i j) H
  | _, _ => False
def i1 (g : Int → V) : V → Hp → VK → Prop := fun x H Q => match x with
  | .int i => Q (g i) H
  | _ => False
theorem i2_of {g : Int → Int → V} (x y : V) (H : Hp) (Q : VK) (h : i2 g x y H Q) : rI0 g x y H Q := by
  cases x <;> cases y <;> first
    | exact h.elim
    | exact ⟨_, _, rfl, rfl, h⟩
theorem i2c_of {C : Int → Int → Prop} {g : Int → Int → V} (x y : V) (H : Hp) (Q : VK) (h : i2c C g x y H Q) : rI C g x y H Q := by
  cases x <;> cases y <;> first
    | exact h.elim
    | exact ⟨_, _, rfl, rfl, h.1, h.2⟩
theorem i1_of {g : Int → V} (x : V) (H : Hp) (Q : VK) (h : i1 g x H Q) : rU g x H Q := by
  cases x <;> first
    | exact h.elim
    | exact ⟨_, rfl, h⟩
abbrev fAdd : R2 := i2 fun i j => .int (i + j)
abbrev fSub : R2 := i2 fun i j => .int (i - j)
abbrev fMul : R2 := i2c CMul fun i j => .int (i * j)
abbrev fMulW : R2 := i2c CMulW fun i j => .int (i * j)
abbrev fMod : R2 := i2c (fun _ j => 0 < j) fun i j => .int (i % j)
abbrev fDiv : R2 := i2c CDivW fun i j => .int (i / j)
abbrev fDivN : R2 := i2c CDivN fun i j => .int (i.fdiv j)
abbrev fPow : R2 := i2c CPow fun i j => .int (i ^ j.toNat)
abbrev fLt : R2 := i2 fun i j => .bl (decide (i < j))
abbrev fLe : R2 := i2 fun i j => .bl (decide (i ≤ j))
abbrev fGt : R2 := i2 fun i j => .bl (decide (j < i))
abbrev fGe : R2 := i2 fun i j => .bl (decide (j ≤ i))
abbrev fNeg : V → Hp → VK → Prop := i1 fun i => .int (-i)
/-- == of scalars -/
def fEq : R2 := fun x y H Q => match scal x y with
  | true => Q (.bl (decide (x = y))) H
  | false => False
def fNe : R2 := fun x y H Q => match scal x y with
  | true => Q (.bl (!decide (x = y))) H
  | false => False
/-- is None, is not None -/
def fIsN : R2 := fun x y H Q => match y with
  | .non => Q (.bl (decide (x = .non))) H
  | _ => False
def fNotN : R2 := fun x y H Q => match y with
  | .non => Q (.bl (!decide (x = .non))) H
  | _ => False
/-- texts -/
def fAddS : R2 := fun x y H Q => match x, y with
  | .str i, .str j => i.length + j.length ≤ sizeLine ∧ Q (.str (i ++ j)) H
  | _, _ => False
section
variable {X : Cx}
theorem o_add : OpR X (binaryOp .Add) fAdd := OpR.imp op_add i2_of
theorem o_sub : OpR X (binaryOp .Sub) fSub := OpR.imp op_sub i2_of
theorem o_mul : OpR X (binaryOp .Mult) fMul := OpR.imp op_mul i2c_of
theorem o_mulW : OpR X (binaryOp .Mult) fMulW := OpR.imp op_mulW i2c_of
theorem o_mod : OpR X (binaryOp .Mod) fMod := OpR.imp op_mod i2c_of
theorem o_div : OpR X (binaryOp .FloorDiv) fDiv := OpR.imp op_fdivW i2c_of
theorem o_divN : OpR X (binaryOp .FloorDiv) fDivN := OpR.imp op_fdivN i2c_of
theorem o_pow : OpR X (binaryOp .Pow) fPow := OpR.imp op_pow i2c_of
theorem o_lt : OpR X (compareOp .Lt) fLt := OpR.imp op_lt i2_of
theorem o_le : OpR X (compareOp .LtE) fLe := OpR.imp op_le i2_of
theorem o_gt : OpR X (compareOp .Gt) fGt := OpR.imp op_gt i2_of
theorem o_ge : OpR X (compareOp .GtE) fGe := OpR.imp op_ge i2_of
theorem o_neg : UnR X (unaryOp .USub) fNeg := UnR.imp un_neg i1_of
theorem o_eq : OpR X (compareOp .Eq) fEq := OpR.imp op_eq fun x y H Q h => by
  unfold fEq at h
  cases e : scal x y with
  | true => rw [e] at h; exact ⟨e, h⟩
  | false => rw [e] at h; exact h.elim
theorem o_ne : OpR X (compareOp .NotEq) fNe := OpR.imp op_ne fun x y H Q h => by
  unfold fNe at h
  cases e : scal x y with
  | true => rw [e] at h; exact ⟨e, h⟩
  | false => rw [e] at h; exact h.elim
theorem o_isN : OpR X (compareOp .Is) fIsN := OpR.imp op_isN fun x y H Q h => by
  cases y <;> first
    | exact h.elim
    | exact ⟨rfl, h⟩
theorem o_notN : OpR X (compareOp .IsNot) fNotN := OpR.imp op_notN fun x y H Q h => by
  cases y <;> first
    | exact h.elim
    | exact ⟨rfl, h⟩
theorem o_addS : OpR X (binaryOp .Add) fAddS := OpR.imp op_add_str fun x y H Q h => by
  cases x <;> cases y <;> first
    | exact h.elim
    | exact ⟨_, _, rfl, rfl, h.1, h.2⟩
end

/-! ### tests -/
def onB (x : V) (k : Bool → Prop) : Prop := match x with
  | .bl b => k b
  | _ => False
theorem onB_ex {x : V} {k : Bool → Prop} (h : onB x k) : ∃ b, x = .bl b ∧ k b := by
  cases x <;> first
    | exact h.elim
    | exact ⟨_, rfl, h⟩
def fT (t : TE) : TT := fun σ H Q => t σ H fun x H' => onB x fun k => Q k H'
def fChain (r r' : R2) (ta tb tc : TE) : TE := fun σ H Q => ta σ H fun x H1 => tb σ H1 fun y H2 => r x y H2 fun z H3 => onB z fun k =>
  (if k = true then tc σ H3 fun w' H4 => r' y w' H4 Q else Q (.bl false) H3)
def fAndV (ta tb : TE) : TE := fun σ H Q => ta σ H fun x H1 => onB x fun c => if c = true then tb σ H1 Q else Q (.bl false) H1
def fOrV (ta tb : TE) : TE := fun σ H Q => ta σ H fun x H1 => onB x fun c => if c = true then Q (.bl true) H1 else tb σ H1 Q
def fNotV (ta : TE) : TE := fun σ H Q => ta σ H fun x H1 => onB x fun c => Q (.bl (!c)) H1
section
variable {X : Cx} {a b c : Expr} {ta tb tc : TE} {pos : Pos} {rest : List Expr}
theorem t_cmp {op : CmpOp} {r : R2} (ho : OpR X (compareOp op) r) (ha : PE X a ta) (hb : PE X b tb) (hm : behindInMarks op b = false) : PT X (.Compare a [op] [b] pos) (fT (tOp r ta tb)) := by
  refine ⟨fun pins s σ H Q I h => ?_⟩
  refine wpAny_isTrue_Compare1 (thn (ha.run pins s σ H _ I h) fun v s1 ⟨x, H1, I1, r1, q1⟩ => thn (hb.run pins s1 σ H1 _ I1 q1) fun u s2 ⟨y, H2, I2, r2, q2⟩ =>
    thn (ho pins s2 σ H2 x y v u _ I2 r1 r2 q2) fun c s3 ⟨z, H3, I3, r3, q3⟩ => ?_) hm
  obtain ⟨k, rfl, q3⟩ := onB_ex q3
  cases r3
  exact wpAny_truthy_bool ⟨H3, I3, q3⟩
theorem t_val {e : Expr} {t : TE} (h : PE X e t) (he : ∀ whole, isTrue e X.env whole = (do let v ← whole; standAt e.pos; holding [v] (truthy v)) := by intro _; rfl) : PT X e (fT t) := by
  refine ⟨fun pins s σ H Q I hw => ?_⟩
  refine isTrue_plain (thn (h.run pins s σ H _ I hw) fun v s1 ⟨x, H1, I1, r1, q1⟩ => ?_) (he _)
  obtain ⟨k, rfl, q⟩ := onB_ex q1
  cases r1
  exact wpAny_truthy_bool ⟨H1, I1, q⟩
theorem e_chain {op op' : CmpOp} {r r' : R2} (ho : OpR X (compareOp op) r) (ho' : OpR X (compareOp op') r') (ha : PE X a ta) (hb : PE X b tb) (hc : PE X c tc)
    (hm : lastMarks [op, op'] [b, c] = false := by with_unfolding_all rfl) : PE X (.Compare a [op, op'] [b, c] pos) (fChain r r' ta tb tc) := by
  refine ⟨fun pins s σ H Q I h => ?_⟩
  refine Compare_chain (thn (ha.run pins s σ H _ I h) fun v s1 ⟨x, H1, I1, r1, q1⟩ => chain_link (thn (hb.run pins s1 σ H1 _ I1 q1) fun u s2 ⟨y, H2, I2, r2, q2⟩ =>
    thn (ho pins s2 σ H2 x y v u _ I2 r1 r2 q2) fun d s3 ⟨z, H3, I3, r3, q3⟩ => ?_)) hm
  obtain ⟨k, rfl, q3⟩ := onB_ex q3
  cases r3
  refine wpAny_truthy_bool ?_
  cases k with
  | false => exact ite_ff ⟨.bl false, H3, I3, rfl, q3⟩
  | true => exact ite_tt (chain_last (thn (hc.run pins s3 σ H3 _ I3 q3) fun w' s4 ⟨z', H4, I4, r4, q4⟩ => ho' pins s4 σ H4 y z' u w' Q I4 r2 r4 q4))
theorem t_chain {op op' : CmpOp} {r r' : R2} (ho : OpR X (compareOp op) r) (ho' : OpR X (compareOp op') r') (ha : PE X a ta) (hb : PE X b tb) (hc : PE X c tc)
    (hm : lastMarks [op, op'] [b, c] = false := by with_unfolding_all rfl) : PT X (.Compare a [op, op'] [b, c] pos) (fT (fChain r r' ta tb tc)) := by
  refine ⟨fun pins s σ H Q I h => ?_⟩
  refine isTrue_chain (thn (ha.run pins s σ H _ I h) fun v s1 ⟨x, H1, I1, r1, q1⟩ => test_link (thn (hb.run pins s1 σ H1 _ I1 q1) fun u s2 ⟨y, H2, I2, r2, q2⟩ =>
    thn (ho pins s2 σ H2 x y v u _ I2 r1 r2 q2) fun d s3 ⟨z, H3, I3, r3, q3⟩ => ?_)) hm
  obtain ⟨k, rfl, q3⟩ := onB_ex q3
  cases r3
  refine wpAny_truthy_bool ?_
  cases k with
  | false => exact ite_ff ⟨H3, I3, q3⟩
  | true =>
    refine ite_tt (test_last (thn (hc.run pins s3 σ H3 _ I3 q3) fun w' s4 ⟨z', H4, I4, r4, q4⟩ => thn (ho' pins s4 σ H4 y z' u w' _ I4 r2 r4 q4) fun d' s5 ⟨z2, H5, I5, r5, q5⟩ => ?_))
    obtain ⟨k2, rfl, q5⟩ := onB_ex q5
    cases r5
    exact wpAny_truthy_bool ⟨H5, I5, q5⟩
theorem e_and (ha : PE X a ta) (hb : PE X (.BoolOp .And (b :: rest) pos) tb) : PE X (.BoolOp .And (a :: b :: rest) pos) (fAndV ta tb) := by
  refine ⟨fun pins s σ H Q I h => ?_⟩
  refine BoolOp_and (thn (ha.run pins s σ H _ I h) fun v s1 ⟨x, H1, I1, r1, q1⟩ => ?_)
  obtain ⟨c, rfl, q1⟩ := onB_ex q1
  cases r1
  refine wpAny_truthy_bool ?_
  cases c with
  | true => exact hb.run pins s1 σ H1 Q I1 q1
  | false => exact ⟨.bl false, H1, I1, rfl, q1⟩
theorem e_or (ha : PE X a ta) (hb : PE X (.BoolOp .Or (b :: rest) pos) tb) : PE X (.BoolOp .Or (a :: b :: rest) pos) (fOrV ta tb) := by
  refine ⟨fun pins s σ H Q I h => ?_⟩
  refine BoolOp_or (thn (ha.run pins s σ H _ I h) fun v s1 ⟨x, H1, I1, r1, q1⟩ => ?_)
  obtain ⟨c, rfl, q1⟩ := onB_ex q1
  cases r1
  refine wpAny_truthy_bool ?_
  cases c with
  | false => exact hb.run pins s1 σ H1 Q I1 q1
  | true => exact ⟨.bl true, H1, I1, rfl, q1⟩
theorem e_not (ha : PE X a ta) : PE X (.UnaryOp .Not a pos) (fNotV ta) := by
  refine ⟨fun pins s σ H Q I h => ?_⟩
  refine UnaryOp_ (thn (ha.run pins s σ H _ I h) fun v s1 ⟨x, H1, I1, r1, q1⟩ => ?_)
  obtain ⟨c, rfl, q1⟩ := onB_ex q1
  cases r1
  exact not_of (wpAny_truthy_bool ⟨.bl (!c), H1, I1, rfl, q1⟩)
end

/-! ### items, slices -/
/-- an item of a list, of a tuple, of a text -/
def onRef (x : V) (k : Addr → Prop) : Prop := match x with
  | .ref a => k a
  | _ => False
theorem onRef_ex {x : V} {k : Addr → Prop} (h : onRef x k) : ∃ b, x = .ref b ∧ k b := by
  cases x <;> first
    | exact h.elim
    | exact ⟨_, rfl, h⟩
def onInt (x : V) (k : Int → Prop) : Prop := match x with
  | .int a => k a
  | _ => False
theorem onInt_ex {x : V} {k : Int → Prop} (h : onInt x k) : ∃ b, x = .int b ∧ k b := by
  cases x <;> first
    | exact h.elim
    | exact ⟨_, rfl, h⟩
def onStr (x : V) (k : Str → Prop) : Prop := match x with
  | .str a => k a
  | _ => False
theorem onStr_ex {x : V} {k : Str → Prop} (h : onStr x k) : ∃ b, x = .str b ∧ k b := by
  cases x <;> first
    | exact h.elim
    | exact ⟨_, rfl, h⟩
def fIxL (K : PySem.W.Frag) : R2 := fun x y H Q => onRef x fun p => onInt y fun i => ∃ xs, SqL K H p xs ∧ ∃ v, atI xs i = some v ∧ Q v H
def fIxT (K : PySem.W.Frag) : R2 := fun x y H Q => onRef x fun p => onInt y fun i => ∃ xs, SqT K H p xs ∧ ∃ v, atI xs i = some v ∧ Q v H
def fSetL : V → V → V → Hp → (Hp → Prop) → Prop := fun o i v H Q => onRef o fun p => onInt i fun k => ∃ xs, H p = some (.lst xs) ∧ ∃ j, ixN xs.length k = some j ∧ Q (upd H p (.lst (xs.set j v)))
def fCatL : R2 := fun x y H Q => onRef x fun l => onRef y fun b => ∃ xs zs, H l = some (.lst xs) ∧ H b = some (.lst zs) ∧ xs.length + zs.length ≤ sizeLine ∧ ∀ p, H p = none → Q (.ref p) (upd H p (.lst (xs ++ zs)))
section
variable {X : Cx}
theorem x_list : IxR X (fIxL X.K) := IxR.imp ix_list fun x y H Q h => by
  obtain ⟨p, rfl, h1⟩ := onRef_ex h
  obtain ⟨i, rfl, xs, h2, v, h3, h4⟩ := onInt_ex h1
  exact ⟨p, xs, i, v, rfl, rfl, h2, h3, h4⟩
theorem x_tup : IxR X (fIxT X.K) := IxR.imp ix_tup fun x y H Q h => by
  obtain ⟨p, rfl, h1⟩ := onRef_ex h
  obtain ⟨i, rfl, xs, h2, v, h3, h4⟩ := onInt_ex h1
  exact ⟨p, xs, i, v, rfl, rfl, h2, h3, h4⟩
theorem s_list : PSet X fSetL := PSet.imp set_list fun o i v H Q h => by
  obtain ⟨p, rfl, h1⟩ := onRef_ex h
  obtain ⟨k, rfl, xs, h2, j, h3, h4⟩ := onInt_ex h1
  exact ⟨p, xs, k, j, rfl, rfl, h2, h3, h4⟩
theorem o_catL : OpR X (binaryOp .Add) fCatL := OpR.imp op_cat fun x y H Q h => by
  obtain ⟨l, rfl, h1⟩ := onRef_ex h
  obtain ⟨b, rfl, xs, zs, h2⟩ := onRef_ex h1
  exact ⟨l, b, xs, zs, rfl, rfl, h2⟩
end

/-! ### calls of builtins -/
def on1 (xs : List V) (k : V → Prop) : Prop := match xs with
  | [x] => k x
  | _ => False
theorem on1_ex {xs : List V} {k : V → Prop} (h : on1 xs k) : ∃ x, xs = [x] ∧ k x := by
  cases xs with
  | nil => exact h.elim
  | cons x r =>
    cases r with
    | nil => exact ⟨_, rfl, h⟩
    | cons _ _ => exact h.elim
def on2 (xs : List V) (k : V → V → Prop) : Prop := match xs with
  | [x, y] => k x y
  | _ => False
theorem on2_ex {xs : List V} {k : V → V → Prop} (h : on2 xs k) : ∃ x y, xs = [x, y] ∧ k x y := by
  cases xs with
  | nil => exact h.elim
  | cons x r =>
    cases r with
    | nil => exact h.elim
    | cons y r =>
      cases r with
      | nil => exact ⟨_, _, rfl, h⟩
      | cons _ _ => exact h.elim
def fLen (K : PySem.W.Frag) : List V → Hp → VK → Prop := fun xs H Q => on1 xs fun x => match x with
  | .str y => y.length ≤ sizeLine ∧ Q (.int y.length) H
  | .ref p => ∃ ys, (SqL K H p ys ∨ SqT K H p ys) ∧ Q (.int ys.length) H
  | _ => False
def fInt1 : List V → Hp → VK → Prop := fun xs H Q => on1 xs fun x => match x with
  | .int i => Q (.int i) H
  | .bl k => Q (.int (if k then 1 else 0)) H
  | _ => False
def fAbs : List V → Hp → VK → Prop := fun xs H Q => on1 xs fun x => onInt x fun i => Q (.int (if i < 0 then -i else i)) H
def fMax2 : List V → Hp → VK → Prop := fun xs H Q => on2 xs fun x y => onInt x fun i => onInt y fun j => Q (.int (if j > i then j else i)) H
def fMin2 : List V → Hp → VK → Prop := fun xs H Q => on2 xs fun x y => onInt x fun i => onInt y fun j => Q (.int (if j < i then j else i)) H
def fDivmod : List V → Hp → VK → Prop := fun xs H Q => on2 xs fun x y => onInt x fun i => onInt y fun j => CDivW i j ∧ ∀ p, H p = none → Q (.ref p) (upd H p (.tup [.int (i / j), .int (i % j)]))
def fStrI : List V → Hp → VK → Prop := fun xs H Q => on1 xs fun x => onInt x fun i => i.natAbs.log2 < 1920 ∧ Q (.str (toString i)) H
def fTupOfL (K : PySem.W.Frag) : List V → Hp → VK → Prop := fun xs H Q => on1 xs fun x => onRef x fun p => ∃ ys, SqL K H p ys ∧ ∀ l, H l = none → Q (.ref l) (upd H l (.tup ys))
def fLstOf (K : PySem.W.Frag) : List V → Hp → VK → Prop := fun xs H Q => on1 xs fun x => onRef x fun p => ∃ ys, (SqL K H p ys ∨ SqT K H p ys) ∧ ∀ l, H l = none → Q (.ref l) (upd H l (.lst ys))
def fAll (K : PySem.W.Frag) : List V → Hp → VK → Prop := fun xs H Q => on1 xs fun x => onRef x fun p => ∃ bs : List Bool, SqL K H p (bs.map V.bl) ∧ Q (.bl (bs.all id)) H
section
variable {X : Cx}
theorem c_len : CallR X (.builtin "len") (fLen X.K) := fun pins s σ H xs us Q I r h => by
  obtain ⟨x, rfl, h⟩ := on1_ex h
  cases x with
  | str y => exact call_len_str pins s σ H _ us Q I r ⟨y, rfl, h.1, h.2⟩
  | ref p =>
    obtain ⟨ys, h1, h2⟩ := h
    exact call_len_seq pins s σ H _ us Q I r ⟨p, ys, rfl, h1, h2⟩
  | _ => exact h.elim
theorem c_int1 : CallR X (.type "int") fInt1 := fun pins s σ H xs us Q I r h => by
  obtain ⟨x, rfl, h⟩ := on1_ex h
  cases x with
  | int i => exact call_int1 pins s σ H _ us Q I r (.inl ⟨i, rfl, h⟩)
  | bl k => exact call_int1 pins s σ H _ us Q I r (.inr ⟨k, rfl, h⟩)
  | _ => exact h.elim
theorem c_abs : CallR X (.builtin "abs") fAbs := CallR.imp call_abs fun xs H Q h => by
  obtain ⟨x, rfl, h⟩ := on1_ex h
  obtain ⟨i, rfl, h⟩ := onInt_ex h
  exact ⟨i, rfl, h⟩
theorem c_max2 (hc : X.calm = true) : CallR X (.builtin "max") fMax2 := CallR.imp (call_max2 hc) fun xs H Q h => by
  obtain ⟨x, y, rfl, h⟩ := on2_ex h
  obtain ⟨i, rfl, h⟩ := onInt_ex h
  obtain ⟨j, rfl, h⟩ := onInt_ex h
  exact ⟨i, j, rfl, h⟩
theorem c_min2 (hc : X.calm = true) : CallR X (.builtin "min") fMin2 := CallR.imp (call_min2 hc) fun xs H Q h => by
  obtain ⟨x, y, rfl, h⟩ := on2_ex h
  obtain ⟨i, rfl, h⟩ := onInt_ex h
  obtain ⟨j, rfl, h⟩ := onInt_ex h
  exact ⟨i, j, rfl, h⟩
theorem c_divmod : CallR X (.builtin "divmod") fDivmod := CallR.imp call_divmodW fun xs H Q h => by
  obtain ⟨x, y, rfl, h⟩ := on2_ex h
  obtain ⟨i, rfl, h⟩ := onInt_ex h
  obtain ⟨j, rfl, h, q⟩ := onInt_ex h
  exact ⟨i, j, rfl, ⟨h.1, PyProof.noPylong_of_log2 h.2⟩, q⟩
theorem c_strI : CallR X (.type "str") fStrI := CallR.imp call_str_int fun xs H Q h => by
  obtain ⟨x, rfl, h⟩ := on1_ex h
  obtain ⟨i, rfl, h⟩ := onInt_ex h
  exact ⟨i, rfl, h⟩
theorem c_tupL : CallR X (.type "tuple") (fTupOfL X.K) := CallR.imp call_tuple_of fun xs H Q h => by
  obtain ⟨x, rfl, h⟩ := on1_ex h
  obtain ⟨p, rfl, ys, h1, h2⟩ := onRef_ex h
  exact ⟨p, ys, rfl, .inl ⟨h1, h2⟩⟩
theorem c_list : CallR X (.type "list") (fLstOf X.K) := CallR.imp call_list_of fun xs H Q h => by
  obtain ⟨x, rfl, h⟩ := on1_ex h
  obtain ⟨p, rfl, ys, h1, h2⟩ := onRef_ex h
  exact ⟨p, ys, rfl, h1, h2⟩
theorem c_all (hc : X.calm = true) : CallR X (.builtin "all") (fAll X.K) := CallR.imp (cr_all hc) fun xs H Q h => by
  obtain ⟨x, rfl, h⟩ := on1_ex h
  obtain ⟨p, rfl, bs, h1, h2⟩ := onRef_ex h
  exact ⟨p, bs, rfl, h1, h2⟩
end

/-! ### repr of data -/
/-- data at x, shown as y -/
def ShownAs (K : PySem.W.Frag) (H : Hp) (x : V) (y : Str) : Prop := ∃ d, Dp K H x d ∧ isDisplay d = true ∧ d.showable = true ∧ d.depth ≤ 60 ∧ d.shown.length ≤ sizeLine ∧ d.shown = y
def fRepr (K : PySem.W.Frag) : List V → Hp → VK → Prop := fun xs H Q => on1 xs fun x => ∃ y, ShownAs K H x y ∧ Q (.str y) H
theorem dp_noDict {K : PySem.W.Frag} {H : Hp} : ∀ (d : PyData) (v : V), Dp K H v d → d.hasDict = false := by
  intro d v h
  refine Dp.rec (motive_1 := fun v d _ => d.hasDict = false) (motive_2 := fun vs ds _ => PyData.hasDictAll ds = false) ?_ ?_ ?_ ?_ ?_ ?_ ?_ ?_ h
  · rfl
  · intro b; rfl
  · intro b; rfl
  · intro b; rfl
  · intro a xs ds _ _ ih; simpa [PyData.hasDict] using ih
  · intro a xs ds _ _ ih; simpa [PyData.hasDict] using ih
  · rfl
  · intro v vs d ds _ _ h1 h2; simp [PyData.hasDictAll, h1, h2]
section
variable {X : Cx}
theorem c_repr (hg : X.A.guards = some []) (hu : X.A.units + 64 < cLine) : CallR X (.builtin "repr") (fRepr X.K) := fun pins s σ H xs us Q I r h => by
  obtain ⟨x, rfl, _, ⟨d, hd, h1, h2, h3, h4, rfl⟩, q⟩ := on1_ex h
  obtain ⟨u, rfl, rx⟩ := vals1 r
  obtain ⟨as, rd⟩ := Dp.reads I d x u hd rx
  obtain ⟨a, rfl⟩ := isRef_of_reads rd h1
  exact repr_of_reads' rd h2 (PyData.noDict_hsm (dp_noDict _ _ hd)) hg (by omega) (fun _ _ e => e) (fun h' u tk hk => ⟨.str d.shown, H, I.kept hk, ⟨_, rfl⟩, q⟩) h4
end
/-! ### promises by number of arguments -/
theorem on1_len {xs : List V} {k : V → Prop} (h : on1 xs k) : xs.length = 1 := by
  obtain ⟨_, rfl, _⟩ := on1_ex h
  rfl
theorem on2_len {xs : List V} {k : V → V → Prop} (h : on2 xs k) : xs.length = 2 := by
  obtain ⟨_, _, rfl, _⟩ := on2_ex h
  rfl
def on0 (xs : List V) (k : Prop) : Prop := match xs with
  | [] => k
  | _ => False
theorem on0_ex {xs : List V} {k : Prop} (h : on0 xs k) : xs = [] ∧ k := by
  cases xs with
  | nil => exact ⟨rfl, h⟩
  | cons _ _ => exact h.elim
theorem on0_len {xs : List V} {k : Prop} (h : on0 xs k) : xs.length = 0 := by
  obtain ⟨rfl, _⟩ := on0_ex h
  rfl
def on3 (xs : List V) (k : V → V → V → Prop) : Prop := match xs with
  | [x, y, z] => k x y z
  | _ => False
theorem on3_ex {xs : List V} {k : V → V → V → Prop} (h : on3 xs k) : ∃ x y z, xs = [x, y, z] ∧ k x y z := by
  match xs, h with
  | [x, y, z], h => exact ⟨x, y, z, rfl, h⟩
  | [], h => exact h.elim
  | [_], h => exact h.elim
  | [_, _], h => exact h.elim
  | _ :: _ :: _ :: _ :: _, h => exact h.elim
theorem on3_len {xs : List V} {k : V → V → V → Prop} (h : on3 xs k) : xs.length = 3 := by
  obtain ⟨_, _, _, rfl, _⟩ := on3_ex h
  rfl
def on4 (xs : List V) (k : V → V → V → V → Prop) : Prop := match xs with
  | [x, y, z, u] => k x y z u
  | _ => False
theorem on4_ex {xs : List V} {k : V → V → V → V → Prop} (h : on4 xs k) : ∃ x y z u, xs = [x, y, z, u] ∧ k x y z u := by
  match xs, h with
  | [x, y, z, u], h => exact ⟨x, y, z, u, rfl, h⟩
  | [], h => exact h.elim
  | [_], h => exact h.elim
  | [_, _], h => exact h.elim
  | [_, _, _], h => exact h.elim
  | _ :: _ :: _ :: _ :: _ :: _, h => exact h.elim
theorem on4_len {xs : List V} {k : V → V → V → V → Prop} (h : on4 xs k) : xs.length = 4 := by
  obtain ⟨_, _, _, _, rfl, _⟩ := on4_ex h
  rfl
def on5 (xs : List V) (k : V → V → V → V → V → Prop) : Prop := match xs with
  | [x, y, z, u, t] => k x y z u t
  | _ => False
theorem on5_ex {xs : List V} {k : V → V → V → V → V → Prop} (h : on5 xs k) : ∃ x y z u t, xs = [x, y, z, u, t] ∧ k x y z u t := by
  match xs, h with
  | [x, y, z, u, t], h => exact ⟨x, y, z, u, t, rfl, h⟩
  | [], h => exact h.elim
  | [_], h => exact h.elim
  | [_, _], h => exact h.elim
  | [_, _, _], h => exact h.elim
  | [_, _, _, _], h => exact h.elim
  | _ :: _ :: _ :: _ :: _ :: _ :: _, h => exact h.elim
theorem on5_len {xs : List V} {k : V → V → V → V → V → Prop} (h : on5 xs k) : xs.length = 5 := by
  obtain ⟨_, _, _, _, _, rfl, _⟩ := on5_ex h
  rfl

/-! ### defs that are called where nothing is being shown (repr asks that) -/
structure FnG (P : Program) (w : World) (K : PySem.W.Frag) (mg : Str → Option Value) (base : Heap) (CX : CXT) (k : Nat) (f : Addr) (fd : FuncData) (ps : List Str) (sp : Sp) : Prop where
  len : ∀ vs H Q E, sp vs H Q E → vs.length = ps.length
  run : ∀ (A : Around) (outer : List Env) (s : Shared) (H : Hp) (args : Args) (us : List Value) (vs : List V) (Q : VK) (E : XK), A.guards = some [] → Room k A → Env0 P w K mg base A outer s H → BindsTo s fd args (ps.zip us) → Vals vs us → sp vs H Q E →
    codeAny (model P w) A (.call (.ref f) args) (CR CX outer P w H s Q E) s
section
variable {P : Program} {w : World} {K : PySem.W.Frag} {mg : Str → Option Value} {base : Heap} {CX : CXT} {k : Nat} {f : Addr} {fd : FuncData} {ps : List Str} {sp : Sp}
theorem gOk (F : FnOk P w K mg base CX k f fd ps sp) : FnG P w K mg base CX k f fd ps sp := ⟨F.len, fun A outer s H args us vs Q E _ hr => F.run A outer s H args us vs Q E hr⟩
end
theorem fnG_of {CX : CXT} {P : Program} {w : World} {K : PySem.W.Frag} {mg : Str → Option Value} {base : Heap} {k : Nat} {f : Addr} {name qual : Str} {params : Arguments} {body : List Stmt} {scope : Scope} {dV kV doc pm cdv ct oc : Value} {an od : Option Addr}
    {osl : Array (Option Value)} {N ps : List Str} {sp : Sp} (lk : K.lookup f = some ⟨oc, od, .func (PySem.W.fnOf name qual params body scope dV kV doc pm an cdv ct), osl⟩) (hcd : PySem.W.codeIn K cdv qual = true) (S : FnScope N ps scope)
    (len : ∀ vs H Q E, sp vs H Q E → vs.length = ps.length)
    (hbody : ∀ (A : Around) (outer : List Env) (s : Shared) (H : Hp) (vs : List V) (Q : VK) (E : XK), A.guards = some [] → Room k (A.deeper (envOfC qual scope s.heap.objs.size f cdv)) → sp vs H Q E →
      ∃ t, PSs (cxOf CX P w K mg base N qual scope f cdv A outer s H E) body t ∧ t { nx := fun _ H' => Q .non H', rt := Q } (L2.start N vs) H) :
    FnG P w K mg base CX (k + 1) f (PySem.W.fnOf name qual params body scope dV kV doc pm an cdv ct) ps sp := by
  refine ⟨len, fun A outer s H args us vs Q E hgd hr e0 hb r hsp => ?_⟩
  have hl := len _ _ _ _ hsp
  have KX : K.In s.heap := e0.mod.kin.keeps fun b o e => (e0.bs b o e).1
  have kinds : ∀ y ∈ ps.zip us, scope.names.lookup y.1 = some .local ∨ (scope.names.lookup y.1 = some .cell ∧ ((cellsFrom (s.heap.objs.size + 1) scope.names []).lookup y.1).isSome = true) := by
    rintro ⟨n, v⟩ hy
    exact (S.par n (List.of_mem_zip hy).1).imp id fun z => ⟨z, PySem.W.cellsFrom_some _ _ _ (.inl z)⟩
  refine codeAny_call_function hr.depth (KX _ _ lk) rfl S.co S.gen rfl (PySem.W.codeRec_of KX hcd) (hb _ _ _ _ (wpAny_newFunctionEnv_cells S.kind kinds fun env he s1 x => ?_))
  subst he
  refine ⟨(e0.mod.nolimit.keeps fun b o e => (e0.bs b o e).1).keeps x.toInCall.keep, codeAny_func ?_⟩
  obtain ⟨t, ht, hq⟩ := hbody A outer s H vs Q E hgd (hr.deeper _) hsp
  refine wpAny_mono (ht.run [] s1 (L2.start N vs) H _ (inv_start S hr.hd e0 hl r x) hq) (fun fl s' hs => ?_) fun e s' hs => hs
  cases fl with
  | ret u =>
    obtain ⟨v, _, H', J, rv, q⟩ := hs
    exact ⟨v, H', J.os, J.bare, J.base, J.hok, rv, q⟩
  | next =>
    obtain ⟨_, H', J, q⟩ := hs
    exact ⟨V.non, H', J.os, J.bare, J.base, J.hok, rfl, q⟩
  | brk => exact (hs.choose_spec.choose_spec.2 : False).elim
  | cont => exact (hs.choose_spec.choose_spec.2 : False).elim
theorem FunD.okG {P : Program} {w : World} {K : PySem.W.Frag} {mg : Str → Option Value} {base : Heap} {x qual : Str} {params : Arguments} {body : List Stmt} {scope : Scope} {dvs : List V} {kws : List (Str × V)} {f : Addr} {fd : FuncData} {CX : CXT} {N ps : List Str} {k : Nat} {sp : Sp}
    (F : FunD K x qual params body scope dvs kws f fd) (S : FnScope N ps scope) (len : ∀ vs H Q E, sp vs H Q E → vs.length = ps.length)
    (hbody : ∀ (cdv : Value) (A : Around) (outer : List Env) (s : Shared) (H : Hp) (vs : List V) (Q : VK) (E : XK), A.guards = some [] → Room k (A.deeper (envOfC qual scope s.heap.objs.size f cdv)) → sp vs H Q E →
      ∃ t, PSs (cxOf CX P w K mg base N qual scope f cdv A outer s H E) body t ∧ t { nx := fun _ H' => Q .non H', rt := Q } (L2.start N vs) H) : FnG P w K mg base CX (k + 1) f fd ps sp := by
  obtain ⟨oc, od, dV, kV, doc, pm, an, cdv, ct, osl, rfl, lk, hcd, _, _⟩ := F.ex
  exact fnG_of lk hcd S len fun A outer s H vs Q E hg hr hsp => hbody cdv A outer s H vs Q E hg hr hsp
section
variable {X : Cx} {CX : CXT} {k : Nat} {f C : Addr} {fd : FuncData} {ps : List Str} {sp : Sp} {dvs : List V} {ds : List Value} {E : XK} {x m : Str} {p pos apos : Pos} {e o : Expr} {es : List Expr} {ta : TE} {t : TA}
theorem run_fnG {pins : List (Addr × Obj)} {σ : L2.St} {H : Hp} {s : Shared} {Q : VK} {us : List Value} {vs : List V} (hgd : X.A.guards = some []) (F : FnG X.prog X.w X.K X.mg X.base CX k f fd ps sp) (hr : Room k X.A) (hb : Binds X.K fd ps ds) (hd : Vals dvs ds) (hx : Passes CX X E)
    (I : L2.Inv X pins σ H s) (r : Vals vs us) (h : sp (vs ++ dvs) H Q E) : wpAny (model X.prog X.w) X.A (call (.ref f) us) (EP X pins σ Q) X.xe s := by
  have r2 : Vals (vs ++ dvs) (us ++ ds) := r.append hd
  refine wpAny_call (codeAny_mono (F.run X.A X.stack s H ⟨us, []⟩ (us ++ ds) (vs ++ dvs) Q E hgd hr I.env0 (hb s us I.kIn (by rw [← r2.length]; exact F.len _ _ _ _ h)) r2 h) fun res s' hq => ?_)
  match res, hq with
  | .error e, hq => exact hx pins σ H s e s' I hq
  | .ok (.ret u), hq => exact I.after hq
  | .ok .next, hq => exact hq.elim
  | .ok .brk, hq => exact hq.elim
  | .ok .cont, hq => exact hq.elim
theorem e_callG (hgd : X.A.guards = some []) (F : FnG X.prog X.w X.K X.mg X.base CX k f fd ps sp) (hr : Room k X.A) (hg : Gl X x) (hm : X.mg x = some (.ref f)) (hk : PySem.W.keepIn X.K (.ref f) = true) (hb : Binds X.K fd ps ds) (hd : Vals dvs ds) (hx : Passes CX X E)
    (ha : PA X (e :: es) t) (hdb : (x == ("__debug__" : Str)) = false := by decide) (he : starEach (e :: es) X.env = (false, eval e X.env) :: starEach es X.env := by rfl) (hpl : (backTo pos (starEach es X.env)).any (·.1) = false := by rfl) :
    PE X (.Call (.Name x p) (e :: es) [] pos) (tCall sp dvs E t) :=
  ⟨fun pins s σ H Q I h => wpAny_Call_Name_kw (ld_glob I hg hm (PySem.W.callWith_K (h₀ := X.base) I.ok.mod.kin hk (thn (ha.run pos pins s σ H _ I h) fun us s1 ⟨vs, H1, I1, r, q⟩ => ⟨I1.kIn, run_fnG hgd F hr hb hd hx I1 r q⟩) he hpl) hdb)⟩
theorem e_call0G (hgd : X.A.guards = some []) (F : FnG X.prog X.w X.K X.mg X.base CX k f fd ps sp) (hr : Room k X.A) (hg : Gl X x) (hm : X.mg x = some (.ref f)) (hk : PySem.W.keepIn X.K (.ref f) = true) (hb : Binds X.K fd ps ds) (hd : Vals dvs ds) (hx : Passes CX X E)
    (hdb : (x == ("__debug__" : Str)) = false := by decide) : PE X (.Call (.Name x p) [] [] pos) (tCall sp dvs E tNil) :=
  ⟨fun pins s σ H Q I h => wpAny_Call_Name_kw (ld_glob I hg hm (PySem.W.callWith_K0 I.kIn hk (run_fnG (us := []) hgd F hr hb hd hx I .nil h)) hdb)⟩
end
end Sp
namespace Sp
open PySem PySem.Spec PyProof.Rows L2

/-! ### enumerate(tuple) -/
theorem meets_enumT (l : Addr) (items : Array Value) (n : Nat) (dct : Option Addr) (sl : Array (Option Value)) :
    Meets (Builtin.«enumerate.__new__» ⟨[.type "enumerate", .ref l], []⟩) (fun _ R s => s.heap.get? l = some { cls := .type "tuple", dict := dct, data := .seq items n, slots := sl } ∧
      R (.ok (.ret (.ref (s.heap.push { cls := .type "tuple_iterator", data := .fields #[.ref l, .int 0 0] }).objs.size)))
        { s with heap := (s.heap.push { cls := .type "tuple_iterator", data := .fields #[.ref l, .int 0 0] }).push { cls := .type "enumerate", data := .fields #[.none, .bool false, .ref s.heap.objs.size, rawInt 0, .none, .none] } }) :=
  .of_wp fun prog w A R s h => by
    obtain ⟨hp, g, d, tk, os⟩ := s
    obtain ⟨hl, h⟩ := h
    have sub := sub_enumerate
    have tt : Heap.IsTuple (Shared.heap ⟨hp, g, d, tk, os⟩) l items := ⟨_, hl, rfl, n, rfl⟩
    wp_walk using AutoSeq1.wpAny_loadPart' hl
    refine wpAny_stack_any fun st => wpAny_pure ?_
    split
    · rename_i c _ _ _ _ _
      cases (c == Value.type "enumerate") <;> (wp_walk using AutoSeq1.wpAny_loadPart' hl, wpAny_pyIter_tuple tt; exact ⟨_, rfl, h⟩)
    · wp_walk using AutoSeq1.wpAny_loadPart' hl, wpAny_pyIter_tuple tt
      exact ⟨_, rfl, h⟩
section
variable {prog : Program} {w : World} {A : Around} {E : Value → Shared → Prop} {s : Shared}
theorem call_enumT {l : Addr} {items : Array Value} {Q : Value → Shared → Prop} (hL : s.heap.IsTuple l items)
    (h : ∀ h', IsEnum h' (s.heap.objs.size + 1) s.heap.objs.size 0 .none → h'.IsTupleIter s.heap.objs.size l 0 → (∀ b o, s.heap.get? b = some o → h'.get? b = some o) → Q (.ref (s.heap.objs.size + 1)) { s with heap := h' }) :
    wpAny (model prog w) A (call (.type "enumerate") [.ref l]) Q E s := by
  obtain ⟨⟨c, dct, dt, sl⟩, hl, hc, n, hd⟩ := hL
  obtain rfl : c = .type "tuple" := hc
  obtain rfl : dt = .seq items n := hd
  refine callType_new F.called_enumerate (by decide) (F.typeCall_enumerate_1 _) (F.newCall_enumerate_1 _) (fun obj => F.args_object_init_2 obj _) F.entry_enumerate_new (meets_enumT l items n dct sl) ⟨hl, ?_⟩
  have hz : (s.heap.push { cls := .type "tuple_iterator", data := .fields #[.ref l, .int 0 0] }).objs.size = s.heap.objs.size + 1 := Heap.size_push ..
  show _ ∧ _
  rw [hz]
  have he : IsEnum ((s.heap.push { cls := .type "tuple_iterator", data := .fields #[.ref l, .int 0 0] }).push { cls := .type "enumerate", data := .fields #[.none, .bool false, .ref s.heap.objs.size, rawInt 0, .none, .none] }) (s.heap.objs.size + 1) s.heap.objs.size 0 .none := by
    have q := Heap.get?_push_size (s.heap.push { cls := .type "tuple_iterator", data := .fields #[.ref l, .int 0 0] }) (o := { cls := .type "enumerate", data := .fields #[.none, .bool false, .ref s.heap.objs.size, rawInt 0, .none, .none] }) rfl
    rw [hz] at q
    exact q
  exact ⟨⟨_, he, rfl⟩, h _ he ⟨_, Heap.get?_push_of_some _ (Heap.get?_push_size _ rfl), rfl, rfl⟩ fun b o x => Heap.get?_push_of_some _ (Heap.get?_push_of_some _ x)⟩
end
/-- the tuple at a, its items in new pairs with their places -/
def IteT (K : PySem.W.Frag) (a : Addr) : It where
  go := fun i H => ∃ (xs : List V) (x : V), SqT K H a xs ∧ xs[i]? = some x
  yld := fun i H v H' => ∃ T x, v = .ref T ∧ H T = none ∧ H' = upd H T (.tup [.int (i : Nat), x]) ∧ ∀ xs, SqT K H a xs → xs[i]? = some x
  stop := fun i H => ∃ xs : List V, SqT K H a xs ∧ xs.length = i
theorem turn_enumT {P : Program} {w : World} {K : PySem.W.Frag} {elts : List Expr} {kk : Nat} {tpos : Pos} (a e it : Addr) :
    Turn P w K (.Tuple elts kk tpos) (IteT K a) [e, it] e (fun i h => (∃ old, IsEnum h e it ((i : Nat) : Int) old) ∧ h.IsTupleIter it a i ∧ e ≠ it) where
  mem := by simp
  obj := fun i h st b hb => by
    obtain ⟨⟨old, he⟩, ⟨o, ho, hc, hd⟩, _⟩ := st
    rcases (by simpa using hb : b = e ∨ b = it) with rfl | rfl
    · exact ⟨_, he, fun v q => nomatch q⟩
    · exact ⟨o, ho, fun v q => by rw [hd] at q; cases q⟩
  keep := fun i h h' st k => let ⟨⟨old, he⟩, hi, hne⟩ := st; ⟨⟨old, k e (by simp) _ he⟩, hi.at fun o q => k it (by simp) o q, hne⟩
  item := by
    intro X hP hw hK hc i pins s σ H E I hf st hg
    subst hP hw hK
    obtain ⟨⟨old, he⟩, hit, hne⟩ := st
    obtain ⟨xs, x, hq, hx⟩ := hg
    obtain ⟨its, rv, tp, hz⟩ := I.tuple hq
    have tp0 : s.heap.IsTuple a its.toArray := tp
    have hai : a ≠ it := fun z => by
      obtain ⟨o, ho, hcl, _⟩ := tp
      obtain ⟨o2, ho2, hcl2, _⟩ := hit
      rw [z, ho2] at ho
      cases ho
      rw [hcl2] at hcl
      exact absurd hcl (by decide)
    have hea : e ≠ a := fun z => by
      obtain ⟨o, ho, hcl, _⟩ := tp
      have he2 := he
      unfold IsEnum at he2
      rw [z, ho] at he2
      cases he2
      exact absurd (show Value.type "enumerate" = Value.type "tuple" from hcl) (by decide)
    obtain ⟨u, hu, ru⟩ := rv.get hx
    have hel : e < s.heap.objs.size := Heap.lt_size he
    have hil : it < s.heap.objs.size := by obtain ⟨_, q, _⟩ := hit; exact Heap.lt_size q
    have hlt : i < its.toArray.size := by
      rw [List.size_toArray]
      exact (List.getElem?_eq_some_iff.mp hu).1
    refine wpAny_pyNext_enum_itemD (A := X.A) (Draws.tuple (A := X.A.in1) (I.ok.hd hc) it a hai its.toArray) he ⟨hit, tp0⟩ hlt hne (by simp [hne, hea]) fun x' h' tk hx' ho st' hT hsz hk => ?_
    have exu : x' = u := by
      have q : its.toArray[i]? = some x' := hx'
      simp only [List.getElem?_toArray] at q
      rw [hu] at q
      exact (Option.some.inj q).symm
    subst exu
    refine ⟨_, rfl, wpAny_letOwnedTupleGo_enum (s := { s with heap := h', toks := tk + 1 }) ho fun h'' he' sb => ?_⟩
    have hT2 := (sb.2 _ (Nat.ne_of_gt hel)).trans hT
    have new : ObjOk X.prog X.w (upd H s.heap.objs.size (.tup [.int (i : Nat), x])) h'' s.heap.objs.size (.tup [.int (i : Nat), x]) := ⟨by show 2 ≤ sizeLine; decide, [.int i tk, x'], .cons ⟨_, rfl⟩ (.cons ru .nil), ⟨_, hT2, rfl, _, rfl⟩⟩
    have I1 : L2.Inv X pins σ (upd H s.heap.objs.size (.tup [.int (i : Nat), x])) { s with heap := h'', toks := tk + 1 } := by
      refine I.turnedNew (ch := [e, it]) (fun b ob hb q => ?_) hf (Nat.le_refl _) new
      have n1 : b ≠ e := fun z => hb (by simp [z])
      have n2 : b ≠ it := fun z => hb (by simp [z])
      exact (sb.2 b n1).trans (hk b ob n1 n2 q)
    refine ⟨.ref s.heap.objs.size, _, I1, rfl, ⟨_, x, rfl, I.hok.fresh (Nat.le_refl _), rfl, fun ys hy => by rw [I.tuple_inj hy hq]; exact hx⟩, ⟨⟨x', by simpa using he'⟩, st'.1.at fun o q => (sb.2 it (Ne.symm hne)).trans q, hne⟩, fun b hb => ?_⟩
    have hb' : b < s.heap.objs.size := by
      rcases (by simpa using hb : b = e ∨ b = it) with rfl | rfl
      · exact hel
      · exact hil
    rw [upd_ne (Nat.ne_of_lt hb')]
    exact (hf b hb).1
  done := by
    intro X hP hw hK hc i pins s σ H E I hf st hg
    subst hP hw hK
    obtain ⟨⟨old, he⟩, hit, hne⟩ := st
    obtain ⟨xs, hq, hx⟩ := hg
    obtain ⟨its, rv, tp, hz⟩ := I.tuple hq
    have tp0 : s.heap.IsTuple a its.toArray := tp
    have hai : a ≠ it := fun z => by
      obtain ⟨o, ho, hcl, _⟩ := tp
      obtain ⟨o2, ho2, hcl2, _⟩ := hit
      rw [z, ho2] at ho
      cases ho
      rw [hcl2] at hcl
      exact absurd hcl (by decide)
    obtain ⟨f0, f1, f2, f3, f4, f5⟩ := hf it (by simp)
    have hn : i = its.toArray.size := by
      rw [List.size_toArray, ← rv.length, hx]
    exact wpAny_pyNext_enum_endD (A := X.A) (Draws.tuple (A := X.A.in1) (I.ok.hd hc) it a hai its.toArray) he ⟨by rw [← hn]; exact hit, tp0⟩ fun h' eb => ⟨rfl, I.turned (t' := s.toks) (fun b o hb q => eb b o hb q) f0 f1 f3 f4 f5⟩
  self := fun A i s Q E st h => let ⟨⟨_, he⟩, _⟩ := st; wpAny_pyIter_enum he h
def iEnumT (K : PySem.W.Frag) (ta : TA) : TI := fun σ H R => ta σ H fun vs H1 => on1 vs fun x => onRef x fun a => (∃ xs, SqT K H1 a xs) ∧ R (IteT K a) H1
theorem pi_enumT {X : Cx} {e : Expr} {ta : TA} {p pos tpos : Pos} {elts : List Expr} {kk : Nat} (hg : Gl X "enumerate") (hm : X.mg "enumerate" = none) (ha : PA X [e] ta) (hs : starEach [e] X.env = [(false, eval e X.env)] := by rfl) :
    PI X (.Tuple elts kk tpos) (.Call (.Name "enumerate" p) [e] [] pos) (iEnumT X.K ta) := by
  refine ⟨fun pins s σ H R I h => Call_ (ld_blt I hg hm boot_enumerate (PyProof.Rows.callWith_type1 (thn (ha.run pos pins s σ H _ I h) fun us s1 ⟨vs, H1, I1, r1, q1⟩ => ?_) hs rfl))⟩
  obtain ⟨x, rfl, q2⟩ := on1_ex q1
  obtain ⟨a, rfl, ⟨xs, hq⟩, q⟩ := onRef_ex q2
  obtain ⟨u, rfl, ru⟩ := vals1 r1
  cases ru
  obtain ⟨its, rv, tp, hz⟩ := I1.tuple hq
  refine call_enumT (show s1.heap.IsTuple a its.toArray from tp) fun h' he hit hk => wpAny_pyIter_enum he ?_
  refine ⟨s1.heap.objs.size + 1, [s1.heap.objs.size + 1, s1.heap.objs.size], _, _, H1, rfl, I1.kept (t' := s1.toks) hk, turn_enumT a (s1.heap.objs.size + 1) s1.heap.objs.size, ⟨⟨.none, he⟩, hit, Nat.succ_ne_self _⟩, fun b hb => ?_, q⟩
  have hle : s1.heap.objs.size ≤ b := by
    rcases (by simpa using hb : b = s1.heap.objs.size + 1 ∨ b = s1.heap.objs.size) with rfl | rfl <;> omega
  exact I1.fpOk hle (I1.hok.fresh hle)
/-- a for over enumerate(tuple) -/
theorem for_enumT {K : PySem.W.Frag} {a : Addr} {xs : List V} {g : TG} {tb : TS} {D : Ends} {σ : L2.St} {H : Hp} (Pv : Nat → L2.St → Hp → Prop) (h0 : Pv 0 σ H) (hG : ∀ i σ H, i ≤ xs.length → Pv i σ H → SqT K H a xs)
    (hs : ∀ i x σ H T, xs[i]? = some x → Pv i σ H → H T = none → g (.ref T) σ (upd H T (.tup [.int (i : Nat), x])) fun σ2 H2 => tb { D with nx := Pv (i + 1), ct := Pv (i + 1), bk := D.nx } σ2 H2) (hd : ∀ σ H, Pv xs.length σ H → D.nx σ H) :
    ∃ W : Nat → Nat → L2.St → Hp → Prop, (∃ m, W 0 m σ H) ∧ ∀ i m σ H, W i m σ H →
      ((IteT K a).stop i H ∧ D.nx σ H) ∨ ((IteT K a).go i H ∧ ∃ N : L2.St → Hp → Prop, (∀ σ' H', N σ' H' → ∃ m', m' < m ∧ W (i + 1) m' σ' H') ∧ ∀ x H', (IteT K a).yld i H x H' → g x σ H' fun σ2 H2 => tb { D with nx := N, ct := N, bk := D.nx } σ2 H2) := by
  refine ⟨fun i m σ H => m = xs.length - i ∧ i ≤ xs.length ∧ Pv i σ H, ⟨xs.length, by simp, Nat.zero_le _, h0⟩, ?_⟩
  rintro i m σ H ⟨rfl, hi, pv⟩
  have q := hG i σ H hi pv
  by_cases hlt : i < xs.length
  · refine .inr ⟨⟨xs, xs[i], q, by simp [hlt]⟩, Pv (i + 1), fun σ' H' p' => ⟨xs.length - (i + 1), by omega, rfl, hlt, p'⟩, fun v H' y => ?_⟩
    obtain ⟨T, x, rfl, hT, rfl, hx⟩ := y
    exact hs i x σ H T (hx xs q) pv hT
  · obtain rfl : i = xs.length := by omega
    exact .inl ⟨⟨xs, q, rfl⟩, hd σ H pv⟩

/-! ### isinstance, max, min -/
def fIsi (K : PySem.W.Frag) : List V → Hp → VK → Prop := fun xs H Q => on2 xs fun x c => ∃ (t u : Value) (b : Bool), ClsV c u ∧ TyX K H x t ∧ PySem.W.kitOne K t u = some b ∧ Q (.bl b) H
def fMax (K : PySem.W.Frag) : List V → Hp → VK → Prop := fun xs H Q => on1 xs fun x => onRef x fun a => ∃ ns : List Int, SqL K H a (ns.map V.int) ∧ 0 < ns.length ∧ ∀ m, m ∈ ns → (∀ y, y ∈ ns → y ≤ m) → Q (.int m) H
def fMin (K : PySem.W.Frag) : List V → Hp → VK → Prop := fun xs H Q => on1 xs fun x => onRef x fun a => ∃ ns : List Int, SqL K H a (ns.map V.int) ∧ 0 < ns.length ∧ ∀ m, m ∈ ns → (∀ y, y ∈ ns → m ≤ y) → Q (.int m) H
section
variable {X : Cx}
theorem c_isi : CallR X (.builtin "isinstance") (fIsi X.K) := CallR.imp call_isi fun xs H Q h => by
  obtain ⟨x, c, rfl, t, u, b, h1⟩ := on2_ex h
  exact ⟨x, c, t, u, b, rfl, h1⟩
theorem c_max (hc : X.calm = true) : CallR X (.builtin "max") (fMax X.K) := CallR.imp (cr_max hc) fun xs H Q h => by
  obtain ⟨x, rfl, h1⟩ := on1_ex h
  obtain ⟨a, rfl, ns, h2⟩ := onRef_ex h1
  exact ⟨a, ns, rfl, h2⟩
theorem c_min (hc : X.calm = true) : CallR X (.builtin "min") (fMin X.K) := CallR.imp (cr_min hc) fun xs H Q h => by
  obtain ⟨x, rfl, h1⟩ := on1_ex h
  obtain ⟨a, rfl, ns, h2⟩ := onRef_ex h1
  exact ⟨a, ns, rfl, h2⟩
end
/-- is it an int, a bool, .. -/
theorem isi_ty {K : PySem.W.Frag} {x c : V} {H : Hp} {Q : VK} {a b : String} {r : Bool} (hx : TyX K H x (.type a)) (hc : ClsV c (.type b)) (hk : kitB a b = some r) (q : Q (.bl r) H) : fIsi K [x, c] H Q := ⟨_, _, _, hc, hx, kit_ty hk, q⟩

/-! ### calls by keywords alone -/
section
variable {X : Cx} {CX : CXT} {k n : Nat} {f C : Addr} {fd : FuncData} {ps ks : List Str} {sp : L2.Sp} {E : XK} {x m : Str} {p pos apos : Pos} {o : Expr} {kws : List Keyword} {ta : TE} {t tk : TA} {g : List Value → List Value → List Value} {gV : List V → List V → List V}
theorem e_makeK0 (M : Mk X.K C f) (F : FnOk X.prog X.w X.K X.mg X.base CX k f fd ps sp) (hr : Room (k + 1) X.A) (hg : Gl X x) (hm : X.mg x = some (.ref C)) (hb : KBn X.K fd ps 1 ks g gV) (hx : Passes CX X E) (hkw : PK X kws tk)
    (hall : (backToKw pos (keywordEach kws X.env)).all (·.1.isSome) = true := by rfl) (hks : (backToKw pos (keywordEach kws X.env)).filterMap (·.1) = ks := by rfl) (hdb : (x == ("__debug__" : Str)) = false := by decide)
    (hpl : ((backTo pos (starEach [] X.env)).any (·.1) || (backToKw pos (keywordEach kws X.env)).any (·.1.isNone)) = false := by rfl) :
    PE X (.Call (.Name x p) [] kws pos) (tMakeN C 0 ks.length sp gV E tNil tk) := by
  refine ⟨fun pins s σ H Q I h => wpAny_Call_Name_kw (ld_glob I hg hm (PySem.W.callWith_KW0 (h₀ := X.base) I.ok.mod.kin M.kp hall (thn (hkw.run pos pins s σ H _ I h) fun ws s2 ⟨zs, H2, I2, rz, l1, l2, q2⟩ => ⟨I2.kIn, ?_⟩) hpl) hdb)⟩
  rw [hks]
  exact run_makeN (us := []) (vs := []) M F hr hb hx I2 .nil rz l1 l2 q2
/-- o.m(k = v, ..) -/
def tMethK (C : Addr) (m : Str) (mm : Nat) (sp : L2.Sp) (gV : List V → List V → List V) (E : XK) (ta : TE) (tk : TA) : TE := fun σ H Q => ta σ H fun x H1 => onRef x fun a => (∃ dx fs, H1 a = some (.ins C dx fs) ∧ fs.lookup m = none) ∧
  tk σ H1 fun zs H2 => zs.length = mm ∧ sp (gV [x] zs) H2 Q E
theorem e_methK0 {pl : Sem Bool} (he : PE X o ta) (c : Cls X.K C) (hm : Meth X.K C m f) (F : FnOk X.prog X.w X.K X.mg X.base CX k f fd ps sp) (hr : Room k X.A) (hb : KBn X.K fd ps 1 ks g gV) (hx : Passes CX X E) (hkw : PK X kws tk)
    (hall : (backToKw pos (keywordEach kws X.env)).all (·.1.isSome) = true := by rfl) (hks : (backToKw pos (keywordEach kws X.env)).filterMap (·.1) = ks := by rfl)
    (hpl : ((backTo pos (starEach [] X.env)).any (·.1) || (backToKw pos (keywordEach kws X.env)).any (·.1.isNone)) = false := by rfl)
    (ht : eval (.Call (.Attribute o m apos) [] kws pos) X.env = (do
      let ov ← eval o X.env
      standAt apos.atName
      let (f, first) ← holding [ov] (getMethod ov m pl)
      callWith pos f first (backTo pos (starEach [] X.env)) (backToKw pos (keywordEach kws X.env))) := by rfl) :
    PE X (.Call (.Attribute o m apos) [] kws pos) (tMethK C m ks.length sp gV E ta tk) := by
  refine ⟨fun pins s σ H Q I h => PySem.W.methodCall_KW (pl := pl) (thn (he.run pins s σ H _ I h) fun u s1 ⟨x, H1, I1, rx, q⟩ => ?_) ht⟩
  obtain ⟨a, rfl, ⟨dx, fs, ea, l⟩, q⟩ := onRef_ex q
  obtain rfl : u = Value.ref a := rx
  refine getmeth_ok I1 ea c hm l (PySem.W.callWith_KW0 (first := [.ref a]) (h₀ := X.base) I.ok.mod.kin hm.kp hall (thn (hkw.run pos pins s1 σ H1 _ I1 q) fun ws s2 ⟨zs, H2, I2, rz, l2, q2⟩ => ⟨I2.kIn, ?_⟩) hpl)
  rw [hks]
  exact run_fnN (us := [.ref a]) (vs := [.ref a]) F hr hb hx I2 (.cons rfl .nil) rz rfl l2 q2
end

/-! ### lists and tuples alike -/
def SqS (K : PySem.W.Frag) (H : Hp) (a : Addr) (xs : List V) : Prop := SqL K H a xs ∨ SqT K H a xs
def fIxQ (K : PySem.W.Frag) : R2 := fun x y H Q => onRef x fun p => onInt y fun i => ∃ xs, SqS K H p xs ∧ ∃ v, atI xs i = some v ∧ Q v H
def fSlQ (K : PySem.W.Frag) : V → Option Int → Option Int → Hp → VK → Prop := fun x lo hi H Q => rSlL K x lo hi H Q ∨ rSlA K x lo hi H Q
def fTupQ (K : PySem.W.Frag) : List V → Hp → VK → Prop := fun xs H Q => on1 xs fun x => onRef x fun p => ∃ ys, (SqL K H p ys ∧ ∀ l, H l = none → Q (.ref l) (upd H l (.tup ys))) ∨ (SqT K H p ys ∧ Q (.ref p) H)
section
variable {X : Cx}
theorem x_seq : IxR X (fIxQ X.K) := IxR.imp ix_seq fun x y H Q h => by
  obtain ⟨p, rfl, h1⟩ := onRef_ex h
  obtain ⟨i, rfl, xs, h2, v, h3, h4⟩ := onInt_ex h1
  rcases h2 with h2 | h2
  · exact .inl ⟨p, xs, i, v, rfl, rfl, h2, h3, h4⟩
  · exact .inr (.inl ⟨p, xs, i, v, rfl, rfl, h2, h3, h4⟩)
theorem sl_seq : SlR X (fSlQ X.K) := SlR.or sl_list sl_tupA
theorem c_tupQ : CallR X (.type "tuple") (fTupQ X.K) := CallR.imp call_tuple_of fun xs H Q h => by
  obtain ⟨x, rfl, h1⟩ := on1_ex h
  obtain ⟨p, rfl, ys, h2⟩ := onRef_ex h1
  exact ⟨p, ys, rfl, h2⟩
end
theorem Same.upd {H : Hp} {q : Addr} {o : HO} (hq : H q = none) : Same H (upd H q o) := fun b u h => by rw [upd_ne (ne_of_none h hq)]; exact h
theorem sameT {K : PySem.W.Frag} {H H' : Hp} {a : Addr} {xs : List V} (e : Same H H') (h : SqT K H a xs) : SqT K H' a xs := by
  rcases h with (h | ⟨o, h⟩) | h
  · exact .inl (.inl (e _ _ h))
  · exact .inl (.inr ⟨o, e _ _ h⟩)
  · exact .inr h
theorem sameS {K : PySem.W.Frag} {H H' : Hp} {a : Addr} {xs : List V} (e : Same H H') (h : SqS K H a xs) : SqS K H' a xs := h.imp (fun z => e.seq z) (fun z => sameT e z)

/-! ### comprehensions over a range: what holds between the turns -/
theorem lc_rangeI {lo : Int} {n : Nat} {g : TG} {te : TE} {vs : List Nat} {σ : L2.St} {H1 : Hp} {D : Addr} {Qd : Hp → Prop} (hz : n ≤ 1000000) (J : Nat → List V → Hp → Prop) (h0 : J 0 [] (upd H1 D (.lst [])))
    (hs : ∀ (i : Nat) (acc : List V) (H : Hp), i < n → acc.length = i → H D = some (.lst acc) → J i acc H → ∀ R : VK, (∀ y H4, H4 D = some (.lst acc) → J (i + 1) (acc ++ [y]) (upd H4 D (.lst (acc ++ [y]))) → R y H4) →
      g (.int (lo + i)) (wipe σ vs) H fun σ2 H2 => wipe σ2 vs = wipe σ vs ∧ te σ2 H2 R)
    (hd : ∀ acc H, acc.length = n → H D = some (.lst acc) → J n acc H → Qd H) :
    ∃ W : Nat → Nat → Hp → Prop, (∃ m, W 0 m (upd H1 D (.lst []))) ∧ ∀ i m H, W i m H →
      ((Itr lo n).stop i H ∧ Qd H) ∨ ((Itr lo n).go i H ∧ ∃ Nx : Hp → Prop, (∀ H', Nx H' → ∃ m', m' < m ∧ W (i + 1) m' H') ∧ ∀ x H', (Itr lo n).yld i H x H' → g x (wipe σ vs) H' fun σ2 H2 => wipe σ2 vs = wipe σ vs ∧ tYes σ2 H2 fun b H3 =>
        if b = true then te σ2 H3 fun y H4 => ∃ acc, H4 D = some (.lst acc) ∧ acc.length < sizeLine ∧ Nx (upd H4 D (.lst (acc ++ [y]))) else Nx H3) := by
  refine lc_range (fun i H => ∃ acc, acc.length = i ∧ H D = some (.lst acc) ∧ J i acc H) ⟨[], rfl, upd_same, h0⟩ (fun i H hi h => ?_) (fun H h => ?_)
  · obtain ⟨acc, hl, hD, hJ⟩ := h
    have q := hs i acc H hi hl hD hJ (fun y H4 => ∃ acc, H4 D = some (.lst acc) ∧ acc.length < sizeLine ∧ ∃ ac2, ac2.length = i + 1 ∧ (upd H4 D (.lst (acc ++ [y]))) D = some (.lst ac2) ∧ J (i + 1) ac2 (upd H4 D (.lst (acc ++ [y])))) (fun y H4 e j => ⟨acc, e, by rw [hl, sizeLine_eq]; omega, acc ++ [y], by simp [hl], upd_same, j⟩)
    exact q
  · obtain ⟨acc, hl, hD, hJ⟩ := h
    exact hd acc H hl hD hJ
/-- the elements are f i, nothing else changes -/
theorem lc_rangeF {lo : Int} {n : Nat} {g : TG} {te : TE} {vs : List Nat} {σ : L2.St} {H1 : Hp} {D : Addr} {Qd : Hp → Prop} (f : Nat → V) (hn : H1 D = none) (hz : n ≤ 1000000)
    (hs : ∀ (i : Nat) (H : Hp), i < n → Same H1 H → ∀ R : VK, (∀ H4, Same H H4 → R (f i) H4) → g (.int (lo + i)) (wipe σ vs) H fun σ2 H2 => wipe σ2 vs = wipe σ vs ∧ te σ2 H2 R)
    (hd : ∀ H, Same H1 H → H D = some (.lst ((List.range n).map f)) → Qd H) :
    ∃ W : Nat → Nat → Hp → Prop, (∃ m, W 0 m (upd H1 D (.lst []))) ∧ ∀ i m H, W i m H →
      ((Itr lo n).stop i H ∧ Qd H) ∨ ((Itr lo n).go i H ∧ ∃ Nx : Hp → Prop, (∀ H', Nx H' → ∃ m', m' < m ∧ W (i + 1) m' H') ∧ ∀ x H', (Itr lo n).yld i H x H' → g x (wipe σ vs) H' fun σ2 H2 => wipe σ2 vs = wipe σ vs ∧ tYes σ2 H2 fun b H3 =>
        if b = true then te σ2 H3 fun y H4 => ∃ acc, H4 D = some (.lst acc) ∧ acc.length < sizeLine ∧ Nx (upd H4 D (.lst (acc ++ [y]))) else Nx H3) := by
  refine lc_rangeI hz (fun i acc H => acc = (List.range i).map f ∧ Same H1 H) ⟨rfl, Same.upd hn⟩ (fun i acc H hi hl hD hJ R hR => ?_) (fun acc H hl hD hJ => ?_)
  · refine hs i H hi hJ.2 R fun H4 e => hR (f i) H4 (e _ _ hD) ⟨?_, fun b o h => ?_⟩
    · rw [List.range_succ, List.map_append, ← hJ.1]
      rfl
    · rw [upd_ne (ne_of_none h hn)]
      exact e _ _ (hJ.2 _ _ h)
  · exact hd H hJ.2 (by rw [hD, hJ.1])

/-! ### range(a, b) of ints of any size -/
theorem turn_long {P : Program} {w : World} {K : PySem.W.Frag} {tg : Expr} (it : Addr) (lo : Int) (n : Nat) : Turn P w K tg (Itr lo n) [it] it (fun i h => IsLongIter h it (lo + (i : Nat) * 1) ((n : Int) - (i : Nat)) 1) where
  mem := by simp
  obj := fun i h st b hb => by
    obtain rfl : b = it := by simpa using hb
    exact ⟨_, st, fun v z => nomatch z⟩
  keep := fun i h h' st k => k it (by simp) _ st
  item := by
    intro X hP hw hK hc i pins s σ H E I hf st hg
    subst hP hw hK
    obtain ⟨f0, f1, f2, f3, f4, f5⟩ := hf it (by simp)
    have hg2 : i < n := hg
    refine wpAny_pyNext_long_item st (by omega) fun h' st' sb => ?_
    have I1 : L2.Inv X pins σ H { s with heap := h', toks := s.toks + 1 } := I.turned (fun b o hb e => (sb.2 b hb).trans e) f0 f1 f3 f4 f5
    have st2 : IsLongIter h' it (lo + ((i + 1 : Nat) : Int) * 1) ((n : Int) - ((i + 1 : Nat) : Int)) 1 := by
      have e1 : lo + ((i + 1 : Nat) : Int) * 1 = lo + (i : Int) * 1 + 1 := by omega
      have e2 : (n : Int) - ((i + 1 : Nat) : Int) = (n : Int) - (i : Int) - 1 := by omega
      rw [e1, e2]
      exact st'
    refine ⟨_, rfl, go_of (s := { s with heap := h', toks := s.toks + 1 }) (n := "longrange_iterator") st2 rfl rfl (by decide) ⟨.int (lo + i), H, I1, ⟨s.toks, by rw [Int.mul_one]⟩, ⟨rfl, rfl⟩, st2, fun b hb => (hf b hb).1⟩⟩
  done := by
    intro X hP hw hK hc i pins s σ H E I hf st hg
    subst hP hw hK
    obtain ⟨f0, f1, f2, f3, f4, f5⟩ := hf it (by simp)
    have hg2 : n ≤ i := hg
    exact wpAny_pyNext_long_end (I.ok.hd hc) st (by omega) fun h' eb => ⟨rfl, I.turned (t' := s.toks) (fun b o hb e => eb b o hb e) f0 f1 f3 f4 f5⟩
  self := fun _ _ _ _ _ st h => wpAny_pyIter_longiter st h
def iRngL (ta : TA) : TI := fun σ H R => ta σ H fun vs H1 => on2 vs fun x y => onInt x fun i => onInt y fun j => R (Itr i (j - i).toNat) H1
section
variable {X : Cx} {tg : Expr}
theorem rangeL_it {pins : List (Addr × Obj)} {σ : L2.St} {H : Hp} {s : Shared} {R : It → Hp → Prop} {E : Value → Shared → Prop} {lo hi : Int} {t u v : Tok} {tk : Nat} (I : L2.Inv X pins σ H s)
    (q : R (Itr lo (hi - lo).toNat) H) : wpAny (model X.prog X.w) X.A (pyIter (.ref s.heap.objs.size)) (PIE X pins σ tg R) E { s with heap := s.heap.push { cls := .type "range", data := .fields #[.int lo t, .int hi u, .int 1 v] }, toks := tk } := by
  have I1 : L2.Inv X pins σ H { s with heap := s.heap.push { cls := .type "range", data := .fields #[.int lo t, .int hi u, .int 1 v] }, toks := tk } := I.kept fun b o e => Heap.get?_push_of_some _ e
  have e1 : lo + ((0 : Nat) : Int) * 1 = lo := by simp
  have e2 : (((hi - lo).toNat : Nat) : Int) - ((0 : Nat) : Int) = Builtin.Range.rangeSize lo hi 1 := by rw [rangeSize_one]; split <;> omega
  have fp : ∀ b, b ∈ [(s.heap.push { cls := .type "range", data := .fields #[.int lo t, .int hi u, .int 1 v] }).objs.size] → FpOk X pins H b := fun b hb => by
    obtain rfl : b = (s.heap.push { cls := .type "range", data := .fields #[.int lo t, .int hi u, .int 1 v] }).objs.size := by simpa using hb
    exact I1.fpOk (Nat.le_refl _) (I1.hok.fresh (Nat.le_refl _))
  cases hs : Builtin.Range.small lo hi 1 with
  | true =>
    refine wpAny_pyIter_range (IsRange.new ..) hs ⟨_, [(s.heap.push { cls := .type "range", data := .fields #[.int lo t, .int hi u, .int 1 v] }).objs.size], _, _, H, rfl, I1.kept (t' := tk) fun b o e => Heap.get?_push_of_some _ e, turn_range _ lo (hi - lo).toNat, ?_, fp, q⟩
    show IsRangeIter _ _ (lo + ((0 : Nat) : Int) * 1) ((((hi - lo).toNat : Nat) : Int) - ((0 : Nat) : Int)) 1
    rw [e1, e2]
    exact Heap.get?_push_size _ rfl
  | false =>
    refine wpAny_pyIter_longrange (IsRange.new ..) hs ⟨_, [(s.heap.push { cls := .type "range", data := .fields #[.int lo t, .int hi u, .int 1 v] }).objs.size], _, _, H, rfl, I1.kept (t' := tk) fun b o e => Heap.get?_push_of_some _ e, turn_long _ lo (hi - lo).toNat, ?_, fp, q⟩
    show IsLongIter _ _ (lo + ((0 : Nat) : Int) * 1) ((((hi - lo).toNat : Nat) : Int) - ((0 : Nat) : Int)) 1
    rw [e1, e2]
    exact Heap.get?_push_size _ rfl
theorem pi_rangeL {a b : Expr} {ta : TA} {p pos : Pos} (hg : Gl X "range") (hm : X.mg "range" = none) (ha : PA X [a, b] ta) (hs : starEach [a, b] X.env = (false, eval a X.env) :: starEach [b] X.env := by rfl) (hs2 : starEach [b] X.env = [(false, eval b X.env)] := by rfl) :
    PI X tg (.Call (.Name "range" p) [a, b] [] pos) (iRngL ta) := by
  refine ⟨fun pins s σ H R I h => Call_ (ld_blt I hg hm boot_range (PyProof.Rows.callWith_type1 (thn (ha.run pos pins s σ H _ I h) fun us s1 ⟨vs, H1, I1, r1, q1⟩ => ?_) (by rw [hs, hs2]) (by rw [hs2]; rfl)))⟩
  obtain ⟨x, y, rfl, q2⟩ := on2_ex q1
  obtain ⟨i, rfl, q3⟩ := onInt_ex q2
  obtain ⟨j, rfl, q⟩ := onInt_ex q3
  obtain ⟨u, v, rfl, ⟨t, rfl⟩, ⟨t', rfl⟩⟩ := vals2 r1
  exact call_range_2 (rangeL_it I1 q)
end

/-- a comprehension over a list: what holds between the turns -/
theorem lc_listI {K : PySem.W.Frag} {a : Addr} {xs : List V} {g : TG} {te : TE} {vs : List Nat} {σ : L2.St} {H1 : Hp} {D : Addr} {Qd : Hp → Prop} (hz : xs.length ≤ 1000000) (J : Nat → List V → Hp → Prop) (h0 : J 0 [] (upd H1 D (.lst [])))
    (hl : ∀ i acc H, i ≤ xs.length → H D = some (.lst acc) → J i acc H → SqL K H a xs)
    (hs : ∀ (i : Nat) (x : V) (acc : List V) (H : Hp), xs[i]? = some x → acc.length = i → H D = some (.lst acc) → J i acc H → ∀ R : VK, (∀ y H4, H4 D = some (.lst acc) → J (i + 1) (acc ++ [y]) (upd H4 D (.lst (acc ++ [y]))) → R y H4) →
      g x (wipe σ vs) H fun σ2 H2 => wipe σ2 vs = wipe σ vs ∧ te σ2 H2 R)
    (hd : ∀ acc H, acc.length = xs.length → H D = some (.lst acc) → J xs.length acc H → Qd H) :
    ∃ W : Nat → Nat → Hp → Prop, (∃ m, W 0 m (upd H1 D (.lst []))) ∧ ∀ i m H, W i m H →
      ((Itl K a).stop i H ∧ Qd H) ∨ ((Itl K a).go i H ∧ ∃ Nx : Hp → Prop, (∀ H', Nx H' → ∃ m', m' < m ∧ W (i + 1) m' H') ∧ ∀ x H', (Itl K a).yld i H x H' → g x (wipe σ vs) H' fun σ2 H2 => wipe σ2 vs = wipe σ vs ∧ tYes σ2 H2 fun b H3 =>
        if b = true then te σ2 H3 fun y H4 => ∃ acc, H4 D = some (.lst acc) ∧ acc.length < sizeLine ∧ Nx (upd H4 D (.lst (acc ++ [y]))) else Nx H3) := by
  refine lc_list (xs := xs) (fun i H => ∃ acc, acc.length = i ∧ H D = some (.lst acc) ∧ J i acc H) ⟨[], rfl, upd_same, h0⟩ (fun i H hi h => ?_) (fun i x H hx h => ?_) (fun H h => ?_)
  · obtain ⟨acc, _, hD, hJ⟩ := h
    exact hl i acc H hi hD hJ
  · obtain ⟨acc, hac, hD, hJ⟩ := h
    have hi := (List.getElem?_eq_some_iff.mp hx).1
    exact hs i x acc H hx hac hD hJ (fun y H4 => ∃ acc, H4 D = some (.lst acc) ∧ acc.length < sizeLine ∧ ∃ ac2, ac2.length = i + 1 ∧ (upd H4 D (.lst (acc ++ [y]))) D = some (.lst ac2) ∧ J (i + 1) ac2 (upd H4 D (.lst (acc ++ [y])))) (fun y H4 e j => ⟨acc, e, by rw [hac, sizeLine_eq]; omega, acc ++ [y], by simp [hac], upd_same, j⟩)
  · obtain ⟨acc, hac, hD, hJ⟩ := h
    exact hd acc H hac hD hJ
/-- the elements are f of the items, nothing else changes -/
theorem lc_listF {K : PySem.W.Frag} {a : Addr} {xs : List V} {g : TG} {te : TE} {vs : List Nat} {σ : L2.St} {H1 : Hp} {D : Addr} {Qd : Hp → Prop} (f : V → V) (hn : H1 D = none) (hz : xs.length ≤ 1000000) (hS : SqL K H1 a xs)
    (hs : ∀ (i : Nat) (x : V) (H : Hp), xs[i]? = some x → Same H1 H → ∀ R : VK, (∀ H4, Same H H4 → R (f x) H4) → g x (wipe σ vs) H fun σ2 H2 => wipe σ2 vs = wipe σ vs ∧ te σ2 H2 R)
    (hd : ∀ H, Same H1 H → H D = some (.lst (xs.map f)) → Qd H) :
    ∃ W : Nat → Nat → Hp → Prop, (∃ m, W 0 m (upd H1 D (.lst []))) ∧ ∀ i m H, W i m H →
      ((Itl K a).stop i H ∧ Qd H) ∨ ((Itl K a).go i H ∧ ∃ Nx : Hp → Prop, (∀ H', Nx H' → ∃ m', m' < m ∧ W (i + 1) m' H') ∧ ∀ x H', (Itl K a).yld i H x H' → g x (wipe σ vs) H' fun σ2 H2 => wipe σ2 vs = wipe σ vs ∧ tYes σ2 H2 fun b H3 =>
        if b = true then te σ2 H3 fun y H4 => ∃ acc, H4 D = some (.lst acc) ∧ acc.length < sizeLine ∧ Nx (upd H4 D (.lst (acc ++ [y]))) else Nx H3) := by
  refine lc_listI (xs := xs) hz (fun i acc H => acc = (xs.take i).map f ∧ Same H1 H) ⟨rfl, Same.upd hn⟩ (fun i acc H _ _ hJ => hJ.2.seq hS) (fun i x acc H hx hl hD hJ R hR => ?_) (fun acc H hl hD hJ => ?_)
  · refine hs i x H hx hJ.2 R fun H4 e => hR (f x) H4 (e _ _ hD) ⟨?_, fun b o h => ?_⟩
    · have hi := (List.getElem?_eq_some_iff.mp hx).1
      rw [List.take_add_one, hx, List.map_append, ← hJ.1]
      rfl
    · rw [upd_ne (ne_of_none h hn)]
      exact e _ _ (hJ.2 _ _ h)
  · exact hd H hJ.2 (by rw [hD, hJ.1, List.take_length])

/-- keywords where there are no defaults -/
theorem FunD.kbinds0 {K : PySem.W.Frag} {x qual : Str} {params : Arguments} {body : List Stmt} {scope : Scope} {kws : List (Str × V)} {f : Addr} {fd : FuncData} {ps : List Str} (F : FunD K x qual params body scope [] kws f fd) (n : Nat) (ks : List Str) (g : {α : Type} → List α → List α → List α)
    (hrel : ∀ {vs zs : List V} {us ws : List Value}, Vals vs us → Vals zs ws → Vals (g vs zs) (g us ws))
    (h : ∀ (kV doc pm : Value) (an : Option Addr) (cdv ct : Value) (us ws : List Value), us.length = n → ws.length = ks.length → bindArgs (PySem.W.fnOf x qual params body scope .none kV doc pm an cdv ct) ⟨us, ks.zip ws⟩ = pure (ps.zip (g us ws))) :
    KBn K fd ps n ks (fun us ws => g us ws) (fun vs zs => g vs zs) := by
  obtain ⟨oc, od, dV, kV, doc, pm, an, cdv, ct, osl, rfl, lk, hcd, hD, hK⟩ := F.ex
  rcases hD with ⟨_, rfl⟩ | ⟨e, _⟩
  · exact ⟨fun s us ws X l1 l2 => .of_eq (h kV doc pm an cdv ct us ws l1 l2), fun r1 r2 => hrel r1 r2⟩
  · exact absurd rfl e
end Sp
namespace Sp
open PySem PySem.Spec PyProof.Rows L2

/-! ### a def that can be called from below a running body -/
def CallK (X : Cx) (k : Nat) (f : Addr) (sp : L2.Sp) (E : XK) : Prop :=
  ∀ (A : Around) (pins : List (Addr × Obj)) (s : Shared) (σ : L2.St) (H : Hp) (us : List Value) (vs : List V) (Q : VK), Room k A → A.frames = X.A.frames → A.guards = X.A.guards → L2.Inv X pins σ H s → Vals vs us → sp vs H Q E →
    codeAny (model X.prog X.w) A (.call (.ref f) ⟨us, []⟩) (fun r s' => match r with
      | .ok (.ret v) => EP X pins σ Q v s'
      | .ok _ => False
      | .error e => X.xe e s') s
section
variable {X : Cx} {CX : CXT} {k : Nat} {f C : Addr} {fd : FuncData} {ps : List Str} {sp : L2.Sp} {dvs : List V} {ds : List Value} {E : XK} {x m : Str} {p pos apos : Pos} {e o : Expr} {es : List Expr} {ta tf : TE} {t : TA}
theorem env0_at {A : Around} {pins : List (Addr × Obj)} {σ : L2.St} {H : Hp} {s : Shared} (hf : A.frames = X.A.frames) (I : L2.Inv X pins σ H s) : Env0 X.prog X.w X.K X.mg X.base A X.stack s H := by
  have e := I.env0
  exact ⟨by rw [hf]; exact e.frames, e.mod, e.bs, e.bsz, e.funs, e.frf, e.hok, e.bare⟩
theorem ckOk (F : FnOk X.prog X.w X.K X.mg X.base CX k f fd ps sp) (hb : Binds X.K fd ps ds) (hd : Vals dvs ds) (hx : Passes CX X E) : CallK X k f (fun vs => sp (vs ++ dvs)) E := by
  intro A pins s σ H us vs Q hr hf hg I r h
  have r2 : Vals (vs ++ dvs) (us ++ ds) := r.append hd
  refine codeAny_mono (F.run A X.stack s H ⟨us, []⟩ (us ++ ds) (vs ++ dvs) Q E hr (env0_at hf I) (hb s us I.kIn (by rw [← r2.length]; exact F.len _ _ _ _ h)) r2 h) fun res s' hq => ?_
  match res, hq with
  | .error e, hq => exact hx pins σ H s e s' I hq
  | .ok (.ret u), hq => exact I.after hq
  | .ok .next, hq => exact hq.elim
  | .ok .brk, hq => exact hq.elim
  | .ok .cont, hq => exact hq.elim
theorem ckG (hgd : X.A.guards = some []) (F : FnG X.prog X.w X.K X.mg X.base CX k f fd ps sp) (hb : Binds X.K fd ps ds) (hd : Vals dvs ds) (hx : Passes CX X E) : CallK X k f (fun vs => sp (vs ++ dvs)) E := by
  intro A pins s σ H us vs Q hr hf hg I r h
  have r2 : Vals (vs ++ dvs) (us ++ ds) := r.append hd
  refine codeAny_mono (F.run A X.stack s H ⟨us, []⟩ (us ++ ds) (vs ++ dvs) Q E (hg.trans hgd) hr (env0_at hf I) (hb s us I.kIn (by rw [← r2.length]; exact F.len _ _ _ _ h)) r2 h) fun res s' hq => ?_
  match res, hq with
  | .error e, hq => exact hx pins σ H s e s' I hq
  | .ok (.ret u), hq => exact I.after hq
  | .ok .next, hq => exact hq.elim
  | .ok .brk, hq => exact hq.elim
  | .ok .cont, hq => exact hq.elim
theorem CallK.run {A : Around} {pins : List (Addr × Obj)} {σ : L2.St} {H : Hp} {s : Shared} {Q : VK} {us : List Value} {vs : List V} (c : CallK X k f sp E) (hr : Room k A) (hf : A.frames = X.A.frames) (hg : A.guards = X.A.guards) (I : L2.Inv X pins σ H s) (r : Vals vs us) (h : sp vs H Q E) :
    wpAny (model X.prog X.w) A (call (.ref f) us) (EP X pins σ Q) X.xe s := by
  refine wpAny_call (codeAny_mono (c A pins s σ H us vs Q hr hf hg I r h) fun res s' hq => ?_)
  match res, hq with
  | .error e, hq => exact hq
  | .ok (.ret u), hq => exact hq
  | .ok .next, hq => exact hq.elim
  | .ok .brk, hq => exact hq.elim
  | .ok .cont, hq => exact hq.elim

/-- o is an instance of C -/
def InsV (C : Addr) (H : Hp) (a : Addr) : Prop := ∃ dx fs, H a = some (.ins C dx fs)

/-! ### e.f, a property -/
def tPropV (C : Addr) (sp : L2.Sp) (E : XK) (ta : TE) : TE := fun σ H Q => ta σ H fun x H1 => onRef x fun a => InsV C H1 a ∧ sp [.ref a] H1 Q E
theorem e_prop {g pa : Addr} (he : PE X e ta) (c : Cls X.K C) (hp : PropOf X.K C m pa g) (F : CallK X.nox k g sp E) (hr : Room (k + 1) X.A)
    (hab : attributeBase e m X.env (eval e X.env) = eval e X.env := by rfl) : PE X (.Attribute e m pos) (tPropV C sp E ta) := by
  refine ⟨fun pins s σ H Q I h => ?_⟩
  refine attr_of hab (thn (he.run pins s σ H _ I h) fun u s1 ⟨x, H1, I1, rx, q⟩ => ?_)
  obtain ⟨a, rfl, ⟨dx, fs, ea⟩, q⟩ := onRef_ex q
  obtain rfl : u = Value.ref a := rx
  obtain ⟨mA, O, _, _, _, _⟩ := ins_get I1.hok ea
  obtain ⟨od, J, _⟩ := O.look
  obtain ⟨rest, hrec⟩ := hp.rec_
  have I2 := I1.tok (s1.toks + 1)
  have hc : (PySem.W.clsIn X.K C).isSome = true := by
    obtain ⟨cd, hc, _⟩ := PySem.W.any_some c.hd
    rw [hc]
    rfl
  refine PySem.W.get_bind I1.kIn J (PySem.W.plainGet_of (c.get m)).1 (PySem.W.findObj_data hc hp.at_ hp.get hp.tak) (PySem.W.plainGet_of (c.get m)).2 (wpAny_call (PySem.W.prop_get (s := { s1 with toks := s1.toks + 1 }) I1.kIn hrec ?_))
  refine codeAny_mono (F X.A.in1 pins { s1 with toks := s1.toks + 1 } σ H1 [.ref a] [.ref a] Q hr.in1 rfl rfl (I2.wish _) (.cons rfl .nil) q) fun r s' hq => ?_
  match r, hq with
  | .error e, hq => exact False.elim hq
  | .ok (.ret u), hq =>
    obtain ⟨v, H', I3, rv, q3⟩ := hq
    show wpAny _ _ (handedOut u) _ _ _
    rw [PySem.W.handedOut_of (handed_of rv)]
    exact wpAny_pure ⟨v, H', I3.unwish, rv, q3⟩
  | .ok .next, hq => exact hq.elim
  | .ok .brk, hq => exact hq.elim
  | .ok .cont, hq => exact hq.elim

/-! ### o(e, ..), o an instance -/
def tCallV (C : Addr) (sp : L2.Sp) (E : XK) (tf : TE) (t : TA) : TE := fun σ H Q => tf σ H fun y H1 => onRef y fun a => t σ H1 fun vs H2 => InsV C H2 a ∧ sp (.ref a :: vs) H2 Q E
theorem e_callI {g : Addr} {fe : Expr} (hf : PE X fe tf) (c : Meth X.K C "__call__" g) (hfi : PySem.W.fnIn X.K g = true) (F : CallK X k g sp E) (hr : Room k X.A) (ha : PA X (e :: es) t)
    (ht : eval (.Call fe (e :: es) [] pos) X.env = (do callWith pos (← eval fe X.env) [] (backTo pos (starEach (e :: es) X.env)) (backToKw pos (keywordEach [] X.env))) := by rfl)
    (he : starEach (e :: es) X.env = (false, eval e X.env) :: starEach es X.env := by rfl) (hpl : (backTo pos (starEach es X.env)).any (·.1) = false := by rfl) : PE X (.Call fe (e :: es) [] pos) (tCallV C sp E tf t) := by
  refine ⟨fun pins s σ H Q I h => ?_⟩
  refine Call_ (thn (hf.run pins s σ H _ I h) fun u s1 ⟨y, H1, I1, ry, q⟩ => ?_) ht
  obtain ⟨a, rfl, q⟩ := onRef_ex q
  obtain rfl : u = Value.ref a := ry
  refine StX.callO_with (thn (ha.run pos pins s1 σ H1 _ I1 q) fun us s2 ⟨vs, H2, I2, r, ⟨dx, fs, hi⟩, q2⟩ => ?_) he hpl
  obtain ⟨mA, O, _⟩ := ins_get I2.hok hi
  obtain ⟨od, J, _⟩ := O.look
  refine ⟨⟨C, _, _, J, rfl⟩, wpAny_call (PySem.W.kco_code I2.kIn J rfl c.at_ c.fn hfi (codeAny_mono (F X.A pins s2 σ H2 (.ref a :: us) (.ref a :: vs) Q hr rfl rfl I2 (.cons rfl r) q2) fun res s' hq => ?_))⟩
  match res, hq with
  | .error e, hq => exact hq
  | .ok (.ret u), hq => exact hq
  | .ok .next, hq => exact hq.elim
  | .ok .brk, hq => exact hq.elim
  | .ok .cont, hq => exact hq.elim
theorem fnIn_of {K : PySem.W.Frag} {x qual : Str} {params : Arguments} {body : List Stmt} {scope : Scope} {dvs : List V} {kws : List (Str × V)} {f : Addr} {fd : FuncData} (F : FunD K x qual params body scope dvs kws f fd) : PySem.W.fnIn K f = true := by
  obtain ⟨oc, od, dV, kV, doc, pm, an, cdv, ct, osl, rfl, lk, _⟩ := F.ex
  unfold PySem.W.fnIn
  rw [lk]

/-! ### == and != by an own __eq__ -/
def onBl (v : V) (k : Bool → Prop) : Prop := match v with
  | .bl b => k b
  | _ => False
theorem onBl_ex {v : V} {k : Bool → Prop} (h : onBl v k) : ∃ b, v = .bl b ∧ k b := by
  cases v with
  | bl b => exact ⟨b, rfl, h⟩
  | _ => exact h.elim
def fOwnEq (K : PySem.W.Frag) (C : Addr) (sp : L2.Sp) (E : XK) : R2 := fun x y H Q => onRef x fun a => InsV C H a ∧ (∃ t, TyX K H y t ∧ PySem.W.notFirst K C t = true) ∧ sp [x, y] H (fun v H' => onBl v fun b => Q (.bl b) H') E
def fOwnNe (K : PySem.W.Frag) (C : Addr) (sp : L2.Sp) (E : XK) : R2 := fun x y H Q => onRef x fun a => InsV C H a ∧ (∃ t, TyX K H y t ∧ PySem.W.notFirst K C t = true) ∧ sp [x, y] H (fun v H' => onBl v fun b => Q (.bl (!b)) H') E
theorem o_ownEq {g : Addr} (c : Meth X.K C "__eq__" g) (F : CallK X k g sp E) (hr : Room k X.A) : OpR X (compareOp .Eq) (fOwnEq X.K C sp E) := by
  intro pins s σ H x y v u Q I rx ry hq
  obtain ⟨a, rfl, ⟨dx, fs, ea⟩, ⟨t, ty, hn⟩, h⟩ := onRef_ex hq
  cases (show v = Value.ref a from rx)
  obtain ⟨mA, O, _⟩ := ins_get I.hok ea
  obtain ⟨od, J, _⟩ := O.look
  obtain ⟨m, hF⟩ := I.fr
  obtain ⟨P, kx, hP, _⟩ := kit_of I ry ty
  show wpAny (model X.prog X.w) X.A (richCompare .Eq (.ref a) u) (EP X pins σ Q) X.xe s
  refine PySem.W.cmp_K (op := .Eq) (tb := t) hr.units0 hF I.ok.mod.kin J (kx.ty _ _ I.kIn hP) hn c.at_ c.fn ?_
  refine wpAny_mono (F.run hr rfl rfl I (.cons (show RelV (.ref a) (Value.ref a) from rfl) (.cons ry .nil)) h) (fun r s' hs => ?_) fun _ _ x => x
  obtain ⟨z, H', I', rz, hz⟩ := hs
  obtain ⟨b, rfl, q⟩ := onBl_ex hz
  cases rz
  exact ⟨.bl b, H', I', rfl, q⟩

/-- what isinstance, != ask of a class -/
structure InsF (K : PySem.W.Frag) (C : Addr) : Prop where
  ca : PySem.W.findIn K (.ref C) "__class__" = some (some (.builtin "object.__class__"))
  cg : PySem.W.specialIn K (.builtin "object.__class__") "__get__" = some (some (.builtin "getset_descriptor.__get__"))
  ct : PySem.W.takesIn K (.builtin "object.__class__") = some true
  ob : PySem.W.mroIn K C (.type "object") = some true
theorem bind_ne (self : Value) : bindSpecial (.builtin "object.__ne__") self = pure (.builtin "object.__ne__", [self]) :=
  (Slot.of (T := "object") (name := "__ne__") (owner := "object") (n := "__ne__") (by rw [typeLookup_type, builtinLookup_eq_fast]; kernel_rfl) (by decide +kernel) (by decide +kernel) (by decide +kernel)
    (.inl (by decide +kernel)) (by rw [isSubtype_type]; kernel_rfl)).bind self
theorem plain_ne : plainId "object.__ne__" = true := by decide +kernel
theorem ifBound_ne {M : Model} {A : Around} {E : Value → Shared → Prop} {s : Shared} {K : PySem.W.Frag} {x C : Addr} {ox : Obj} {od : Option Obj} {args : List Value} {Q : Option Value → Shared → Prop} (X : K.In s.heap) (I : PySem.W.InstAt s.heap x ox C od)
    (hs : PySem.W.findIn K (.ref C) "__ne__" = some (some (.builtin "object.__ne__")))
    (h : wpAny M A (call (.builtin "object.__ne__") (.ref x :: args)) (fun v => Q (some v)) E s) : wpAny M A (callSpecialIfBound? (.ref x) "__ne__" args) Q E s := by
  simp only [callSpecialIfBound?, bindSpecialIfBound?]
  refine wpAny_holding (wpAny_bind (wpAny_bind (wpAny_bind (I.type.here ((PySem.W.looks_findIn X hs).here ?_)))))
  simp only [bind_ne]
  refine wpAny_bind (wpAny_askSetting (wpAny_ite ?_))
  have fin : wpAny M A (call (.builtin "object.__ne__") ([.ref x] ++ args) >>= fun v => pure (some v)) Q E s := wpAny_bind (wpAny_mono h (fun v s' h' => wpAny_pure h') fun _ _ h' => h')
  split
  · exact wpAny_bind (wpAny_pure (wpAny_pure fin))
  · exact wpAny_tryCatch (wpAny_bind (wpAny_pure (wpAny_pure fin)))
theorem objNe_K {prog : Program} {w : World} {A : Around} {E : Value → Shared → Prop} {s : Shared} {K : PySem.W.Frag} {x C g : Addr} {b : Value} {ox : Obj} {od : Option Obj} {Q : Fin → Shared → Prop} (X : K.In s.heap) (I : PySem.W.InstAt s.heap x ox C od) (hu : A.units < cLine)
    (hs : PySem.W.findIn K (.ref C) "__eq__" = some (some (.ref g))) (hf : PySem.W.isFn K (.ref g) = true)
    (hcall : wpAny (model prog w) A (call (.ref g) [.ref x, b]) (fun v s' => ∃ b, v = .bool b ∧ Q (.done (.ret (.bool (!b)))) s') E s) :
    wpAny (model prog w) A (Builtin.«object.__ne__» ⟨[.ref x, b], []⟩) Q E s := by
  obtain ⟨h, gs, d, t, os⟩ := s
  unfold Builtin.«object.__ne__»
  repeat (first
    | with_reducible refine wpAny_cRoomFor hu ?_
    | (refine wpAny_bind (m := callSpecialIfBound? (.ref x) (Str.ofString "__eq__") [b])
        (PySem.W.ifBound_K X I hs hf (wpAny_mono hcall (fun r s' hr => by
          obtain ⟨b, rfl, hq⟩ := hr
          repeat (first | exact hq | exact wpAny_pure hq | exact wpAny_truthy_bool hq | (refine wpAny_bind (m := truthy (.bool _)) (wpAny_truthy_bool ?_)) | wp_step)) fun _ _ e => e)))
    | wp_step)
theorem o_ownNe {g : Addr} (c : Meth X.K C "__eq__" g) (hne : PySem.W.findIn X.K (.ref C) "__ne__" = some (some (.builtin "object.__ne__"))) (hI : InsF X.K C) (F : CallK X k g sp E) (hr : Room (k + 1) X.A) : OpR X (compareOp .NotEq) (fOwnNe X.K C sp E) := by
  intro pins s σ H x y v u Q I rx ry hq
  obtain ⟨a, rfl, ⟨dx, fs, ea⟩, ⟨t, ty, hn⟩, h⟩ := onRef_ex hq
  cases (show v = Value.ref a from rx)
  obtain ⟨mA, O, _⟩ := ins_get I.hok ea
  obtain ⟨od, J, _⟩ := O.look
  obtain ⟨m, hF⟩ := I.fr
  obtain ⟨P, kx, hP, _⟩ := kit_of I ry ty
  have key : wpAny (model X.prog X.w) X.A.in1 (call (.ref g) [.ref a, u]) (fun v s' => ∃ b, v = .bool b ∧ EP X pins σ Q (.bool (!b)) s') X.xe s := by
    refine wpAny_mono (F.run hr.in1 rfl rfl I (.cons (show RelV (.ref a) (Value.ref a) from rfl) (.cons ry .nil)) h) (fun r s' hs => ?_) fun _ _ x => x
    obtain ⟨z, H', I', rz, hz⟩ := hs
    obtain ⟨b, rfl, q⟩ := onBl_ex hz
    cases rz
    exact ⟨b, rfl, .bl (!b), H', I', rfl, q⟩
  have hi : PySem.W.Looks (model X.prog X.w) s.heap (isInstance (.ref a) (.type "object")) true := by
    unfold isInstance
    exact J.type.andThen (PySem.W.looks_subIn (t := .ref C) I.kIn hI.ob)
  have one : wpAny (model X.prog X.w) X.A (tryCompare (.ref a) (cmpInfo .NotEq).2.1 u) (fun r s' => ∃ v, r = some v ∧ EP X pins σ Q v s') X.xe s := by
    rw [cmpInfo_NotEq]
    dsimp only
    unfold tryCompare
    refine wpAny_bind (ifBound_ne I.kIn J hne (wpAny_call (codeAny_call_builtin plain_ne PySem.F.cmpEntry_ne (PySem.W.check_slot PySem.F.cmpKind_ne PySem.F.cmpSplit_ne hi (PySem.F.cmpArgs_ne _ _) ?_))))
    refine objNe_K (A := X.A.in1) I.kIn J hr.in1.units0 c.at_ c.fn (wpAny_mono key (fun v s' hv => ?_) fun _ _ e => e)
    obtain ⟨b, rfl, hq⟩ := hv
    exact ⟨b, rfl, wpAny_pure ⟨_, rfl, hq⟩⟩
  show wpAny (model X.prog X.w) X.A (richCompare .NotEq (.ref a) u) (EP X pins σ Q) X.xe s
  unfold richCompare
  simp only [oneThing_ref]
  refine wpAny_holding (wpAny_bind (wpAny_cRoomFor hr.units0 ?_))
  refine wpAny_bind (J.type.here (wpAny_bind ((kx.ty _ _ I.kIn hP).here ?_)))
  split
  · rename_i q
    have e : PySem.W.subIn X.K t (.ref C) = some false := by
      rcases Bool.or_eq_true_iff.mp hn with e | e
      · rw [beq_iff_eq.mp e] at q; simp at q
      · exact beq_iff_eq.mp e
    refine wpAny_bind ((PySem.W.looks_subIn I.kIn e).here ?_)
    simp only [Bool.false_eq_true, if_false]
    refine wpAny_bind (wpAny_mono one (fun r s' z => ?_) fun _ _ e => e)
    obtain ⟨v, rfl, hq⟩ := z
    exact wpAny_pure hq
  · refine wpAny_bind (wpAny_pure ?_)
    simp only [Bool.false_eq_true, if_false]
    refine wpAny_bind (wpAny_mono one (fun r s' z => ?_) fun _ _ e => e)
    obtain ⟨v, rfl, hq⟩ := z
    exact wpAny_pure hq

/-! ### repr, str, bool of an instance -/
def fReprI (C : Addr) (sp : L2.Sp) (E : XK) : List V → Hp → VK → Prop := fun xs H Q => on1 xs fun x => onRef x fun a => InsV C H a ∧ sp [x] H (fun v H' => onStr v fun y => Q (.str y) H') E
theorem c_reprI {g : Addr} (c : Meth X.K C "__repr__" g) (F : CallK X k g sp E) (hr : Room (k + 1) X.A) : CallR X (.builtin "repr") (fReprI C sp E) := by
  intro pins s σ H xs us Q I r h
  obtain ⟨x, rfl, h⟩ := on1_ex h
  obtain ⟨a, rfl, ⟨dx, fs, ea⟩, h⟩ := onRef_ex h
  obtain ⟨u, rfl, rx⟩ := vals1 r
  cases (show u = Value.ref a from rx)
  obtain ⟨mA, O, _⟩ := ins_get I.hok ea
  obtain ⟨od, J, _⟩ := O.look
  obtain ⟨m, hF⟩ := I.fr
  refine PySem.W.repr_K hr.in1.units0 hF I.ok.mod.kin J c.at_ c.fn ?_
  refine wpAny_mono (F.run hr.in1 rfl rfl I (.cons (show RelV (.ref a) (Value.ref a) from rfl) .nil) h) (fun r s' hs => ?_) fun _ _ x => x
  obtain ⟨z, H', I', rz, hz⟩ := hs
  obtain ⟨y, rfl, q⟩ := onStr_ex hz
  obtain ⟨tk, rfl⟩ := rz
  exact ⟨.str y, H', I', ⟨tk, rfl⟩, q⟩
/-- str(o) by an own __str__ -/
theorem c_strO {g : Addr} (c : Meth X.K C "__str__" g) (F : CallK X k g sp E) (hr : Room (k + 2) X.A) : CallR X (.type "str") (fReprI C sp E) := by
  intro pins s σ H xs us Q I r h
  obtain ⟨x, rfl, h⟩ := on1_ex h
  obtain ⟨a, rfl, ⟨dx, fs, ea⟩, h⟩ := onRef_ex h
  obtain ⟨u, rfl, rx⟩ := vals1 r
  cases (show u = Value.ref a from rx)
  obtain ⟨mA, O, _⟩ := ins_get I.hok ea
  obtain ⟨od, J, _⟩ := O.look
  refine PySem.W.kso_call hr.in1.in1.units0 I.kIn J c.at_ c.fn ?_
  refine wpAny_mono (F.run hr.in1.in1 rfl rfl I (.cons (show RelV (.ref a) (Value.ref a) from rfl) .nil) h) (fun r s' hs => ?_) fun _ _ x => x
  obtain ⟨z, H', I', rz, hz⟩ := hs
  obtain ⟨y, rfl, q⟩ := onStr_ex hz
  obtain ⟨tk, rfl⟩ := rz
  exact ⟨.str y, H', I', ⟨tk, rfl⟩, q⟩
theorem truthy_I {M : Model} {A : Around} {E : Value → Shared → Prop} {s : Shared} {K : PySem.W.Frag} {x C : Addr} {ox : Obj} {od : Option Obj} {Q : Bool → Shared → Prop} (X : K.In s.heap) (I : PySem.W.InstAt s.heap x ox C od) (hs : NoAttr K C "__bool__") (hl : NoAttr K C "__len__")
    (h : Q true s) : wpAny M A (truthy (.ref x)) Q E s := by
  unfold truthy
  refine wpAny_bind (m := callSpecial? (.ref x) (Str.ofString "__bool__")) (wpAny_bind (wpAny_bind (I.type.here ((PySem.W.looks_findIn X hs).here (wpAny_pure ?_)))))
  refine wpAny_bind (wpAny_bind (I.type.here ((PySem.W.looks_findIn X hl).here ?_)))
  exact wpAny_pure h
theorem meets_bool_I (K : PySem.W.Frag) (x C : Addr) (hb : NoAttr K C "__bool__") (hl : NoAttr K C "__len__") :
    Meets (Builtin.«bool.__new__» ⟨[.type "bool", .ref x], []⟩) (fun _ R s => (K.In s.heap ∧ ∃ ox od, PySem.W.InstAt s.heap x ox C od) ∧ R (.ok (.ret (.bool true))) s) :=
  Meets.of_wp fun prog w A R s hs => by
    obtain ⟨⟨hK, ox, od, J⟩, hs⟩ := hs
    obtain ⟨hp, g, d, tk, os⟩ := s
    have f1 := PySem.F.conv_sub_bool
    repeat (any_goals (first | assumption | (with_reducible refine truthy_I hK J hb hl ?_) | wp_step))
    all_goals first | exact ⟨_, rfl, hs⟩ | exact hs | skip
def fBoolI (C : Addr) : List V → Hp → VK → Prop := fun xs H Q => on1 xs fun x => onRef x fun a => InsV C H a ∧ Q (.bl true) H
theorem c_boolI (hb : NoAttr X.K C "__bool__") (hl : NoAttr X.K C "__len__") : CallR X (.type "bool") (fBoolI C) := by
  intro pins s σ H xs us Q I r h
  obtain ⟨x, rfl, h⟩ := on1_ex h
  obtain ⟨a, rfl, ⟨dx, fs, ea⟩, h⟩ := onRef_ex h
  obtain ⟨u, rfl, rx⟩ := vals1 r
  cases (show u = Value.ref a from rx)
  obtain ⟨mA, O, _⟩ := ins_get I.hok ea
  obtain ⟨od, J, _⟩ := O.look
  exact call_bool_1 (meets_bool_I X.K a C hb hl) ⟨⟨I.kIn, _, _, J⟩, rfl, .bl true, H, I, rfl, h⟩

/-! ### f-strings -/
/-- {x!r} of data -/
def tFmtD (K : PySem.W.Frag) (te : TE) : TE := fun σ H Q => te σ H fun x H1 => fRepr K [x] H1 Q
theorem e_fmtD {pos : Pos} (hg : X.A.guards = some []) (hu : X.A.units + 64 < cLine) (he : PE X e ta) : PE X (.FormattedValue e 114 none pos) (tFmtD X.K ta) := by
  refine ⟨fun pins s σ H Q I h => ?_⟩
  refine wpAny_FormattedValue_repr (thn (he.run pins s σ H _ I h) fun u s1 hv => ?_)
  obtain ⟨x, H1, I1, rx, _, ⟨d, hd, h1, h2, h3, h4, rfl⟩, q⟩ := hv
  obtain ⟨as, rd⟩ := Dp.reads I1 d x u hd rx
  obtain ⟨a, rfl⟩ := isRef_of_reads rd h1
  exact pyReprObj_of_reads rd h2 (PyData.noDict_hsm (dp_noDict _ _ hd)) hg (by omega) (fun _ _ e => e) (fun h' u tk hk => wpAny_formatField_str ⟨.str d.shown, H1, I1.kept hk, ⟨_, rfl⟩, q⟩ ⟨.str d.shown, H1, (I1.kept (t' := tk) hk).tok _, ⟨_, rfl⟩, q⟩ h4) h4
/-- {x} of an int, a text -/
def tFmtV (te : TE) : TE := fun σ H Q => te σ H fun x H1 => match x with
  | .int i => i.natAbs.log2 < 1920 ∧ Q (.str (toString i)) H1
  | .str y => y.length ≤ sizeLine ∧ Q (.str y) H1
  | _ => False
theorem e_fmtV {pos : Pos} (he : PE X e ta) : PE X (.FormattedValue e (-1) none pos) (tFmtV ta) := by
  refine ⟨fun pins s σ H Q I h => ?_⟩
  refine wpAny_FormattedValue_plain (thn (he.run pins s σ H _ I h) fun v s1 hv => ?_)
  obtain ⟨x, H1, I1, r1, q⟩ := hv
  cases x with
  | str y =>
    obtain ⟨t, rfl⟩ := r1
    obtain ⟨hz, q⟩ := q
    exact wpAny_formatField_str ⟨.str y, H1, I1, ⟨t, rfl⟩, q⟩ ⟨.str y, H1, I1.tok _, ⟨_, rfl⟩, q⟩ hz
  | int i =>
    obtain ⟨t, rfl⟩ := r1
    obtain ⟨hz, q⟩ := q
    exact wpAny_formatField_int hz ⟨.str (toString i), H1, I1.tok _, ⟨_, rfl⟩, q⟩
  | _ => exact q.elim
def tJsV : List TE → Str → L2.St → Hp → (Str → Hp → Prop) → Prop
  | [], acc, _, H, Q => Q acc H
  | t :: ts, acc, σ, H, Q => t σ H fun x H1 => onStr x fun y => (acc ++ y).length ≤ sizeLine ∧ tJsV ts (acc ++ y) σ H1 Q
theorem pjV_run {pins : List (Addr × Obj)} {σ : L2.St} {es : List Expr} {ts : List TE} (h : PJ X es ts) : ∀ (acc : Str) (s : Shared) (H : Hp) (Q : Str → Hp → Prop) (R : Str → Shared → Prop), acc.length ≤ sizeLine → L2.Inv X pins σ H s → tJsV ts acc σ H Q →
    (∀ out s1 H1, out.length ≤ sizeLine → L2.Inv X pins σ H1 s1 → Q out H1 → R out s1) → Joins (model X.prog X.w) X.A X.xe (evalEach es X.env) acc R s := by
  induction h with
  | nil =>
    intro acc s H Q R hz I q k
    have e0 : evalEach [] X.env = [] := by first | rfl | simp [evalEach]
    rw [e0]
    exact k acc s H hz I q
  | @cons e t es ts he r ih =>
    intro acc s H Q R hz I q k
    have e0 : evalEach (e :: es) X.env = eval e X.env :: evalEach es X.env := by first | rfl | simp [evalEach]
    rw [e0]
    refine thn (he.run pins s σ H _ I q) fun v s1 hv => ?_
    obtain ⟨x, H1, I1, r1, h1⟩ := hv
    obtain ⟨y, rfl, hy, q1⟩ := onStr_ex h1
    obtain ⟨tk, rfl⟩ := r1
    exact ⟨y, tk, rfl, hy, ih (acc ++ y) s1 H1 Q R hy I1 q1 k⟩
def tJn (ts : List TE) : TE := fun σ H Q => tJsV ts Str.empty σ H fun out H1 => Q (.str out) H1
/-- f'..' of two parts or more -/
theorem e_joined {v1 v2 : Expr} {rest : List Expr} {ts : List TE} {pos : Pos} (h : PJ X (v1 :: v2 :: rest) ts) : PE X (.JoinedStr (v1 :: v2 :: rest) pos) (tJn ts) := by
  refine ⟨fun pins s σ H Q I q => ?_⟩
  exact wpAny_JoinedStr (pjV_run h Str.empty s H (fun out H1 => Q (.str out) H1) _ (Nat.zero_le _) I q fun out s1 H1 hz I1 q1 => ⟨hz, .str out, H1, I1.tok _, ⟨_, rfl⟩, q1⟩)
end

/-! ### a Hook with defs at any place, and any facts -/
def fnAt (K : PySem.W.Frag) (f : Addr) : He.FnW := match K.lookup f with
  | some ⟨_, _, .func fd, _⟩ => some (fd.name, fd.qualname, fd.params, fd.body, fd.scope, fd.globals, fd.closure, fd.builtins)
  | _ => none
structure DefA where
  at_ : PySem.W.Frag → Addr
  name : Str
  qual : Str
  params : Arguments
  body : List Stmt
  scope : Scope
  dfl : List He.Dv := []
  kwd : List (Str × He.Dv) := []
def DefA.val (d : DefA) : He.FnW := some (d.name, d.qual, d.params, .stmts d.body, d.scope, mainGlobals, [], builtinsNs)
def DefA.dvs (K : PySem.W.Frag) (d : DefA) : List V := d.dfl.map (He.Dv.v K)
def DefA.kws (K : PySem.W.Frag) (d : DefA) : List (Str × V) := d.kwd.map fun q => (q.1, q.2.v K)
def DefA.ok (K : PySem.W.Frag) (d : DefA) : Bool := PySem.W.keepIn K (.ref (d.at_ K)) && (match K.lookup (d.at_ K) with
  | some ⟨_, _, .func fd, _⟩ => PySem.W.codeIn K fd.code d.qual && (He.dflB K fd.defaults (d.dvs K) && He.kwdB K fd.kwdefaults (d.kws K))
  | _ => false)
theorem DefA.funD {K : PySem.W.Frag} {d : DefA} (e : fnAt K (d.at_ K) = d.val) (c : d.ok K = true) : ∃ fd, FunD K d.name d.qual d.params d.body d.scope (d.dvs K) (d.kws K) (d.at_ K) fd := by
  obtain ⟨kp, c2⟩ := He.ba c
  unfold fnAt at e
  cases q : K.lookup (d.at_ K) with
  | none =>
    rw [q] at c2
    cases c2
  | some o =>
    obtain ⟨oc, od, dt, osl⟩ := o
    rw [q] at c2 e
    cases dt with
    | func fd =>
      obtain ⟨n1, n2, n3, n4, n5, n6, n7, n8, n9, n10, n11, n12, n13, n14, n15⟩ := fd
      have e2 : (some (n1, n2, n3, n4, n5, n6, n7, n15) : He.FnW) = some (d.name, d.qual, d.params, .stmts d.body, d.scope, mainGlobals, [], builtinsNs) := e
      simp only [Option.some.injEq, Prod.mk.injEq] at e2
      obtain ⟨h1, h2, h3, h4, h5, h6, h7, h8⟩ := e2
      subst h1 h2 h3 h4 h5 h6 h7 h8
      have c3 : (PySem.W.codeIn K n13 d.qual && (He.dflB K n8 (d.dvs K) && He.kwdB K n9 (d.kws K))) = true := c2
      obtain ⟨k1, k2⟩ := He.ba c3
      obtain ⟨k3, k4⟩ := He.ba k2
      exact ⟨_, ⟨oc, od, n8, n9, n10, n11, n12, n13, n14, osl, rfl, q, k1, He.dflB_ok k3, He.kwdB_ok k4⟩, kp⟩
    | _ => cases c2
abbrev AlA : Type := He.AlX × List He.FnW
def allB (da : List DefA) (exs : List (PySem.W.Frag → Bool)) (K : PySem.W.Frag) : Bool := (da.all fun d => d.ok K) && exs.all fun f => f K
def obsA (n : Nat) (fa : List He.Fa) (fn : List He.DefD) (da : List DefA) (exs : List (PySem.W.Frag → Bool)) (g : Addr → Option Obj) : AlA :=
  (He.obsX n fa fn [] [] (allB da exs) g, da.map fun d => fnAt (He.frT g (He.asD g n)) (d.at_ (He.frT g (He.asD g n))))
def valA (fn : List He.DefD) (da : List DefA) (w : World) : AlA := (He.valX fn [] w, da.map DefA.val)
structure SaysA (fa : List He.Fa) (fn : List He.DefD) (da : List DefA) (exs : List (PySem.W.Frag → Bool)) (K : PySem.W.Frag) : Prop where
  d : He.SaysD fa fn K
  ok : allB da exs K = true
  fn : (da.map fun d => fnAt K (d.at_ K)) = da.map DefA.val
theorem SaysA.def_ {fa : List He.Fa} {fn : List He.DefD} {da : List DefA} {exs : List (PySem.W.Frag → Bool)} {K : PySem.W.Frag} (c : SaysA fa fn da exs K) (i : Nat) {d : DefA} (h : da[i]? = some d := by rfl) : ∃ fd, FunD K d.name d.qual d.params d.body d.scope (d.dvs K) (d.kws K) (d.at_ K) fd := by
  have c2 := (He.ba c.ok).1
  have e2 : (da.map fun d => fnAt K (d.at_ K))[i]? = (da.map DefA.val)[i]? := by rw [c.fn]
  rw [List.getElem?_map, List.getElem?_map, h] at e2
  exact DefA.funD (Option.some.inj e2) (List.all_eq_true.mp c2 d (List.mem_of_getElem? h))
theorem SaysA.ex {fa : List He.Fa} {fn : List He.DefD} {da : List DefA} {exs : List (PySem.W.Frag → Bool)} {K : PySem.W.Frag} (c : SaysA fa fn da exs K) (i : Nat) {f : PySem.W.Frag → Bool} (h : exs[i]? = some f := by rfl) : f K = true :=
  List.all_eq_true.mp (He.ba c.ok).2 f (List.mem_of_getElem? h)
def hookA (n : Nat) (fa : List He.Fa) (fn : List He.DefD) (da : List DefA) (exs : List (PySem.W.Frag → Bool)) : PySem.W.Hook where
  α := AlA
  obs := fun s => obsA n fa fn da exs s.heap.get?
  val := fun w => valA fn da w
  says := fun w h => ∃ K : PySem.W.Frag, K.In h ∧ SaysA fa fn da exs K
  of := fun _ _ e => by
    have e1 := congrArg Prod.fst e
    have e2 := congrArg Prod.snd e
    have q := He.saysX_of e1
    exact ⟨_, He.frT_in, q.t.d, q.more, e2⟩
  keeps := fun _ _ _ ⟨K, hK, c⟩ k => ⟨K, PySem.W.Frag.In.keeps hK k, c⟩
theorem obsA_eq {n : Nat} {fa : List He.Fa} {fn : List He.DefD} {da : List DefA} {exs : List (PySem.W.Frag → Bool)} {g : Addr → Option Obj} {s : Shared} (h : ∀ a, g a = s.heap.get? a) : obsA n fa fn da exs g = (hookA n fa fn da exs).obs s := by
  have e : g = s.heap.get? := funext h
  rw [e] <;> rfl
/-! facts for it -/
def pA (C m : Str) (K : PySem.W.Frag) : Addr := He.ma K (He.ga K C) m
def recA (T : String) (C m : Str) (K : PySem.W.Frag) : Addr := match PySem.W.recIn K (pA C m K) T with
  | some (.ref g :: _) => g
  | _ => 0
def propB (C m : Str) (K : PySem.W.Frag) : Bool := He.eqO (PySem.W.findIn K (.ref (He.ga K C)) m) (some (some (.ref (pA C m K)))) && (He.eqO (PySem.W.specialIn K (.ref (pA C m K)) "__get__") (some (some (.builtin "property.__get__"))) &&
  (decide (PySem.W.takesIn K (.ref (pA C m K)) = some true) && (match PySem.W.recIn K (pA C m K) "property" with
    | some (.ref _ :: _) => true
    | _ => false)))
theorem propB_ok {C m : Str} {K : PySem.W.Frag} (h : propB C m K = true) : PropOf K (He.ga K C) m (pA C m K) (recA "property" C m K) := by
  obtain ⟨h1, h⟩ := He.ba h
  obtain ⟨h2, h⟩ := He.ba h
  obtain ⟨h3, h⟩ := He.ba h
  refine ⟨He.eqO_ok h1, He.eqO_ok h2, of_decide_eq_true h3, ?_⟩
  unfold recA
  cases e : PySem.W.recIn K (pA C m K) "property" with
  | none => rw [e] at h; cases h
  | some r =>
    rw [e] at h
    cases r with
    | nil => cases h
    | cons u rest =>
      cases u with
      | ref g => exact ⟨rest, rfl⟩
      | _ => cases h
def insB (C : Str) (K : PySem.W.Frag) : Bool := He.eqO (PySem.W.findIn K (.ref (He.ga K C)) "__class__") (some (some (.builtin "object.__class__"))) && (He.eqO (PySem.W.specialIn K (.builtin "object.__class__") "__get__") (some (some (.builtin "getset_descriptor.__get__"))) &&
  (decide (PySem.W.takesIn K (.builtin "object.__class__") = some true) && decide (PySem.W.mroIn K (He.ga K C) (.type "object") = some true)))
theorem insB_ok {C : Str} {K : PySem.W.Frag} (h : insB C K = true) : InsF K (He.ga K C) := by
  obtain ⟨h1, h⟩ := He.ba h
  obtain ⟨h2, h⟩ := He.ba h
  obtain ⟨h3, h4⟩ := He.ba h
  exact ⟨He.eqO_ok h1, He.eqO_ok h2, of_decide_eq_true h3, of_decide_eq_true h4⟩
def blB (C m : Str) (id : String) (K : PySem.W.Frag) : Bool := He.eqO (PySem.W.findIn K (.ref (He.ga K C)) m) (some (some (.builtin id)))
theorem blB_ok {C m : Str} {id : String} {K : PySem.W.Frag} (h : blB C m id K = true) : PySem.W.findIn K (.ref (He.ga K C)) m = some (some (.builtin id)) := He.eqO_ok h
def sfB (C : Str) (K : PySem.W.Frag) : Bool := PySem.W.selfFirst K (He.ga K C)
/-- the class of an instance by its name is another one than that -/
def unB (C D : Str) (K : PySem.W.Frag) : Bool := decide (PySem.W.subIn K (.ref (He.ga K C)) (.ref (He.ga K D)) = some false)
theorem InsF.ty {K : PySem.W.Frag} {C a dx : Addr} {fs : List (Str × V)} {H : Hp} (I : InsF K C) (c : Cls K C) (e : H a = some (.ins C dx fs)) : TyX K H (.ref a) (.ref C) := .base (.ins e c I.ca I.cg I.ct I.ob)
theorem nf_self {K : PySem.W.Frag} {C : Addr} : PySem.W.notFirst K C (.ref C) = true := by simp [PySem.W.notFirst]

/-! ### calls without defaults; isinstance of an own class -/
section
variable {X : Cx} {CX : CXT} {k : Nat} {f C : Addr} {fd : FuncData} {ps : List Str} {sp : L2.Sp} {E : XK}
theorem ck0 (F : FnOk X.prog X.w X.K X.mg X.base CX k f fd ps sp) (hb : Binds X.K fd ps []) (hx : Passes CX X E) : CallK X k f sp E := by
  have h := ckOk F hb .nil hx
  simp only [List.append_nil] at h
  exact h
theorem ckG0 (hgd : X.A.guards = some []) (F : FnG X.prog X.w X.K X.mg X.base CX k f fd ps sp) (hb : Binds X.K fd ps []) (hx : Passes CX X E) : CallK X k f sp E := by
  have h := ckG hgd F hb .nil hx
  simp only [List.append_nil] at h
  exact h
end
/-- is it of this own class -/
def ownB (C : Str) (K : PySem.W.Frag) : Bool := (["NoneType", "bool", "int", "str", "list", "tuple", "dict", "float", "set", "bytes"] : List String).all fun T => decide (PySem.W.kitOne K (.type T) (.ref (He.ga K C)) = some false) && PySem.W.notFirst K (He.ga K C) (.type T)
/-- a value of a built-in type -/
structure OwnF (K : PySem.W.Frag) (C : Addr) : Prop where
  isi : ∀ T ∈ (["NoneType", "bool", "int", "str", "list", "tuple", "dict", "float", "set", "bytes"] : List String), PySem.W.kitOne K (.type T) (.ref C) = some false
  nf : ∀ T ∈ (["NoneType", "bool", "int", "str", "list", "tuple", "dict", "float", "set", "bytes"] : List String), PySem.W.notFirst K C (.type T) = true
theorem ownB_ok {C : Str} {K : PySem.W.Frag} (h : ownB C K = true) : OwnF K (He.ga K C) :=
  ⟨fun T hT => of_decide_eq_true (He.ba (List.all_eq_true.mp h T hT)).1, fun T hT => (He.ba (List.all_eq_true.mp h T hT)).2⟩
theorem kit_self {K : PySem.W.Frag} {C : Addr} : PySem.W.kitOne K (.ref C) (.ref C) = some true := by simp [PySem.W.kitOne]
/-- two own classes -/
def isoB (C D : Str) (b : Bool) (K : PySem.W.Frag) : Bool := decide (PySem.W.kitOne K (.ref (He.ga K C)) (.ref (He.ga K D)) = some b)

/-! ### the end, where the law's def may show things -/
theorem lawG {P : Program} {w : World} {K : PySem.W.Frag} {mg mb : Str → Option Value} {CX : CXT} {k : Nat} {fa a : Addr} {fd : FuncData} {x : Str} {sp : L2.Sp} {s : Shared} {vs : List Value} {ns : List Int}
    (KX : K.In s.heap) (hns : s.heap.Ns mainGlobals mg) (hb : s.heap.Ns builtinsNs mb) (hbb : ∀ x : Str, x ≠ "__name__" → mb x = bootBuiltins x) (hlim : s.heap.NoLimit) (hg : s.gens = #[])
    (ha : s.heap.get? a = some { cls := .type "list", data := .seq vs.toArray }) (hi : IntsAre vs ns) (hl : ns.length ≤ sizeLine) (hr : Room k callerA)
    (F : ∀ base : Heap, FnG P w K mg base CX k fa fd [x] sp) (hbind : ∀ (s : Shared) (u : Value), BindsTo s fd ⟨[u], []⟩ [(x, u)])
    (hsp : ∀ H : Hp, SqL K H a (ns.map V.int) → sp [.ref a] H (fun v _ => v = .bl true) fun _ _ _ => False)
    (hCX : ∀ H e s', CX [] H s (fun _ _ _ => False) e s' → False) :
    codeAny (model P w) callerA (.call (.ref fa) ⟨[.ref a], []⟩) (fun r s' => r = .ok (.ret (.bool true)) ∧ OldK s.heap s'.heap ∧ s'.os = s.os ∧ AllBare s'.gens) s := by
  have rv := vals_ints hi
  have lenV := hi.length
  -- what is tracked is the script or nothing
  have go : ∀ H : Hp, SqL K H a (ns.map V.int) → HOk P w H s.heap → (∀ b u, H b = some u → b = a ∧ K.lookup a = none ∧ ∃ o xs, u = .frz o (.lst xs)) →
      codeAny (model P w) callerA (.call (.ref fa) ⟨[.ref a], []⟩) (fun r s' => r = .ok (.ret (.bool true)) ∧ OldK s.heap s'.heap ∧ s'.os = s.os ∧ AllBare s'.gens) s := by
    intro H hS hok hA
    have none_of : ∀ {b : Addr}, b ≠ a → H b = none := fun {b} hne => by
      cases q : H b with
      | none => rfl
      | some u => exact absurd (hA b u q).1 hne
    have ns_of : ∀ {b : Addr} {m : Str → Option Value}, s.heap.Ns b m → (hidT s.heap H).Ns b m := fun {b m} ⟨o, es, ep, e, d, r⟩ => by
      refine ⟨o, es, ep, hidT_get e (none_of fun z => ?_), d, r⟩
      rw [z, ha] at e
      cases e
      cases d
    have hK : K.In (hidT s.heap H) := fun b o e => by
      refine hidT_get (KX b o e) ?_
      cases q : H b with
      | none => rfl
      | some u =>
        obtain ⟨z, l, _⟩ := hA b u q
        rw [z, l] at e
        cases e
    obtain ⟨mc, l1, l2⟩ := hlim
    have e0 : Env0 P w K mg (hidT s.heap H) callerA [] s H := ⟨rfl, ⟨hK, ns_of hns, ⟨mb, ns_of hb, hbb⟩, ⟨mc, ns_of l1, l2⟩⟩, fun b o e => of_hidT e, Nat.le_of_eq (hidT_size _ _), trivial, fun b hb => absurd (show b ∈ ([] : List Addr) from hb) (by simp), hok, .of_eq hg⟩
    refine codeAny_mono ((F _).run callerA [] s H ⟨[.ref a], []⟩ [.ref a] [.ref a] _ _ rfl hr e0 (hbind s (.ref a)) (.cons rfl .nil) (hsp H hS)) fun r s' h => ?_
    match r, h with
    | .error e, h => exact (hCX H e s' h).elim
    | .ok .next, h => exact False.elim h
    | .ok .brk, h => exact False.elim h
    | .ok .cont, h => exact False.elim h
    | .ok (.ret u), h =>
      obtain ⟨v, H', os, bare, un, hok', r', q⟩ := h
      cases (show v = .bl true from q)
      obtain rfl : u = Value.bool true := r'
      refine ⟨rfl, OldK.of_keep fun b o e => ?_, os, bare⟩
      cases q : H b with
      | none => exact un.keep b o e q (by intro z; exact absurd (show b ∈ ([] : List Addr) from z) (by simp)) (by simp)
      | some u =>
        obtain ⟨_, _, ob, xs, rfl⟩ := hA b u q
        have e1 := (hok b _ q).1
        have e2 := (hok' b _ (un.frzs b ob _ q)).1
        rw [e] at e1
        cases e1
        exact e2
  cases hk : K.lookup a with
  | some o =>
    have e := KX a o hk
    rw [ha] at e
    cases e
    exact go (fun _ => none) (.inr ⟨_, vs.toArray, _, hk, rfl, rfl, rfl, by rw [List.size_toArray, lenV]; exact hl, by simpa using rv⟩) (fun b u z => by cases z) fun b u z => by cases z
  | none =>
    refine go (fun b => if b = a then some (.frz { cls := .type "list", data := .seq vs.toArray } (.lst (ns.map V.int))) else none) (.inl (.inr ⟨{ cls := .type "list", data := .seq vs.toArray }, if_pos rfl⟩)) (fun b u z => ?_) (fun b u z => ?_)
    · by_cases hb : b = a
      · cases (if_pos hb).symm.trans z
        rw [hb]
        exact ⟨ha, by rw [List.length_map]; exact hl, vs, _, rv, ha⟩
      · cases (if_neg hb).symm.trans z
    · by_cases hb : b = a
      · cases (if_pos hb).symm.trans z
        exact ⟨hb, hk, _, _, rfl⟩
      · cases (if_neg hb).symm.trans z
theorem walkG {l : PySem.W.OpenLaw} {n k : Nat} {q : Program} {loose : List Str} {XP : (Str → Option Value) → Heap → Prop} {YP : World → Heap → Prop} {d : DefRec} {x : Str}
    (hn : l.most = some n) (hn2 : n ≤ sizeLine) (hdf : d.params.defaults = []) (hr : Room k callerA)
    (F : ∀ (w : World) (mg : Str → Option Value) (fa : Addr) (h : Heap), YP w h → h.Ns mainGlobals mg → mg d.name = some (.ref fa) → ∃ K : PySem.W.Frag, K.In h ∧ ∃ fd sp, (∀ (s : Shared) (u : Value), BindsTo s fd ⟨[u], []⟩ [(x, u)]) ∧
      (∀ (H : Hp) (a : Addr) (ns : List Int), ns.length ≤ n → SqL K H a (ns.map V.int) → sp [.ref a] H (fun v _ => v = .bl true) fun _ _ _ => False) ∧ ∀ base : Heap, FnG l.prog w K mg base CX0 k fa fd [x] sp) :
    PySem.W.WalkO q loose XP YP l.row.toRowW d [] (fun f vs => PySem.call f vs) := by
  refine Att.attach_callB hn hdf fun w s₀ s₁ mg mb fa o pm cd doc a vs ns G Y ho hd hcd hmg hobj hints hlen hbits hg => ?_
  obtain ⟨K, KX, fd, sp, hb, hsp, hF⟩ := F w mg fa _ Y G.T.g hmg
  exact lawG KX G.T.g G.T.b G.T.builtins G.T.nolimit hg hobj hints (Nat.le_trans hlen hn2) hr hF hb (fun H hS => hsp H a ns hlen hS) fun _ _ _ z => z

/-! ### how long what is shown is -/
mutual
def cells : PyData → Nat
  | .none | .bool _ | .int _ => 1
  | .str x => 1 + (reprText x).length
  | .list xs | .tuple xs => 1 + cellsAll xs
  | .dict _ => 0
def cellsAll : List PyData → Nat
  | [] => 0
  | x :: xs => cells x + cellsAll xs
end
theorem shownAll_len (xs : List PyData) : (PyData.shownAll xs).length = xs.length := by
  induction xs with
  | nil => rfl
  | cons x r ih => simp [PyData.shownAll, ih]
mutual
theorem shownAll_le : ∀ (xs : List PyData), PyData.showableAll xs = true → PyData.hasDictAll xs = false → ((PyData.shownAll xs).map (·.length)).sum + 2 * xs.length ≤ 2000 * cellsAll xs
  | [], _, _ => by simp [PyData.shownAll, cellsAll]
  | x :: xs, h, hd => by
    simp only [PyData.showableAll, Bool.and_eq_true] at h
    simp only [PyData.hasDictAll, Bool.or_eq_false_iff] at hd
    have a := shown_le' x h.1 hd.1
    have b := shownAll_le xs h.2 hd.2
    simp only [PyData.shownAll, List.map_cons, List.sum_cons, cellsAll, List.length_cons]
    omega
theorem shown_le' : ∀ (d : PyData), d.showable = true → d.hasDict = false → d.shown.length + 2 ≤ 2000 * cells d
  | .none, _, _ => by show (4 : Nat) + 2 ≤ 2000 * 1; decide
  | .bool b, _, _ => by cases b <;> (show _ + 2 ≤ 2000 * 1; decide)
  | .int i, h, _ => by
    have e := int_text_length_le (a := i) (k := 1920) (by decide) (by simpa [PyData.showable] using h)
    simp only [PyData.shown, cells, PySem.ofString_length]
    omega
  | .str x, _, _ => by
    simp only [PyData.shown, cells]
    omega
  | .list xs, h, hd => by
    have e := shownAll_le xs (by simpa [PyData.showable] using h) (by simpa [PyData.hasDict] using hd)
    have e2 := listText_len_le (PyData.shownAll xs)
    rw [shownAll_len] at e2
    simp only [PyData.shown, cells]
    omega
  | .tuple xs, h, hd => by
    have e := shownAll_le xs (by simpa [PyData.showable] using h) (by simpa [PyData.hasDict] using hd)
    have e2 := tupleText_len_le (PyData.shownAll xs)
    rw [shownAll_len] at e2
    simp only [PyData.shown, cells]
    omega
  | .dict kvs, _, hd => by simp [PyData.hasDict] at hd
end
theorem shown_le (d : PyData) (h : d.showable = true) (hd : d.hasDict = false) : d.shown.length ≤ 2000 * cells d := by
  have := shown_le' d h hd
  omega
theorem log_of {i : Int} (h : i.natAbs ≤ 10 ^ 100) : i.natAbs.log2 < 1920 := by
  rcases Nat.eq_zero_or_pos i.natAbs with z | z
  · rw [z]
    decide
  · refine (Nat.log2_lt (by omega)).mpr (Nat.lt_of_le_of_lt h ?_)
    have e : (10 : Nat) ^ 100 < 2 ^ 400 := by decide +kernel
    exact Nat.lt_trans e (Nat.pow_lt_pow_right (by decide) (by decide))
theorem showInts : ∀ {ns : List Int}, (∀ z ∈ ns, z.natAbs ≤ 10 ^ 100) → PyData.showableAll (ns.map PyData.int) = true
  | [], _ => rfl
  | n :: ns, h => by
    rw [List.map_cons]
    simp only [PyData.showableAll, PyData.showable, Bool.and_eq_true]
    exact ⟨decide_eq_true (log_of (h n (List.mem_cons_self ..))), showInts fun z hz => h z (List.mem_cons_of_mem _ hz)⟩
theorem cellsInts : ∀ (ns : List Int), cellsAll (ns.map PyData.int) = ns.length
  | [] => rfl
  | n :: ns => by rw [List.map_cons]; simp only [cellsAll, cells, cellsInts ns, List.length_cons]; omega
theorem depthInts : ∀ (ns : List Int), PyData.depthAll (ns.map PyData.int) ≤ 1
  | [] => by simp [PyData.depthAll]
  | n :: ns => by have := depthInts ns; simp [PyData.depthAll, PyData.depth]; omega
theorem hdInts : ∀ (ns : List Int), PyData.hasDictAll (ns.map PyData.int) = false
  | [] => rfl
  | n :: ns => by have := hdInts ns; simp [PyData.hasDictAll, PyData.hasDict]; simpa using this
end Sp
namespace Sp
open PySem PySem.Spec PyProof.Rows L2

theorem intAdd_ref {prog : Program} {w : World} {A : Around} {E : Value → Shared → Prop} {s : Shared} {Q : Fin → Shared → Prop} {i : Int} {t : Tok} {x C dx : Addr} (hx : s.heap.get? x = some (PySem.W.instObj C dx)) (h : Q (.done (.ret .notImplemented)) s) :
    wpAny (model prog w) A (Builtin.«int.__add__» ⟨[.int i t, .ref x], []⟩) Q E s := by
  obtain ⟨hp, g, d, tk, os⟩ := s
  unfold Builtin.«int.__add__» Builtin.Int.intBinary
  repeat (first
    | exact h
    | (with_reducible refine wpAny_load hx ?_)
    | wp_step)
theorem intAdd_call {prog : Program} {w : World} {A : Around} {E : Value → Shared → Prop} {s : Shared} {P : Shared → Prop} {i : Int} {t : Tok} {x C dx : Addr} (hx : s.heap.get? x = some (PySem.W.instObj C dx)) (h : P s) :
    wpAny (model prog w) A (call (.builtin "int.__add__") [.int i t, .ref x]) (fun v s' => v = .notImplemented ∧ P s') E s :=
  wpAny_call (codeAny_call_builtin (id := "int.__add__") F.slot_int_add.plain F.entry_int_add (F.slot_int_add.check _ _ _ _ _ _ _ _ (typeIs_int s i t) (F.args_int_add_2 _ _) (intAdd_ref hx ⟨rfl, h⟩)))
theorem intAdd_try {prog : Program} {w : World} {A : Around} {E : Value → Shared → Prop} {s : Shared} {R : Option Value → Shared → Prop} {i : Int} {t : Tok} {x C dx : Addr} (hx : s.heap.get? x = some (PySem.W.instObj C dx)) (h : R none s) :
    wpAny (model prog w) A (tryMethod (.int i t) (PySem.dunder "add") (.ref x)) R E s :=
  wpAny_tryMethod_declines (self := .int i t) (name := PySem.dunder "add") (id := "int.__add__") (T := "int") (Q := R) (typeIs_int s i t) F.slot_int_add (intAdd_call (P := fun s' => R none s') hx h)
theorem relNI {v : V} {u : Value} (r : RelV v u) : u ≠ .notImplemented := by
  intro z
  cases v <;> subst z <;> first | (obtain ⟨_, r⟩ := r; cases r) | cases r
theorem backNI {Q : Value → Shared → Prop} {u : Value} {s' : Shared} (h : u ≠ .notImplemented) (q : Q u s') : PySem.W.CmpBack Q u s' := by
  cases u <;> first | exact absurd rfl h | exact q
section
variable {prog : Program} {w : World} {A : Around} {E : Value → Shared → Prop} {s : Shared} {K : PySem.W.Frag} {x C dx f g : Addr} {od : Option Obj}
theorem radd_K {i : Int} {t : Tok} {Q : Value → Shared → Prop} (X : K.In s.heap) (I : PySem.W.InstAt s.heap x (PySem.W.instObj C dx) C od) (hx : s.heap.get? x = some (PySem.W.instObj C dx)) (hc : PySem.W.selfFirst K C = true)
    (ha : PySem.W.findIn K (.ref C) "__add__" = some (some (.ref g))) (hs : PySem.W.findIn K (.ref C) "__radd__" = some (some (.ref f))) (hf : PySem.W.isFn K (.ref f) = true) (hsub : PySem.W.subIn K (.ref C) (.type "int") = some false)
    (h : wpAny (model prog w) A (call (.ref f) [.ref x, .int i t]) (PySem.W.CmpBack Q) E s) : wpAny (model prog w) A (binaryOp .Add (.int i t) (.ref x)) Q E s := by
  obtain ⟨cd, rest, hcd, hm⟩ := PySem.W.ksp_first hc
  have er : ("__radd__" : Str) = PySem.dunderR "add" := by decide +kernel
  rw [er] at hs
  have one := PySem.W.ksp_try X I hs hf h
  have L3 : PySem.W.Looks (model prog w) s.heap (fillsNumberSlot (.ref C) "add") true := PySem.W.fills_K X hcd hm ha
  have L5 : PySem.W.Looks (model prog w) s.heap (isSubtype (.ref C) (.type "int")) false := PySem.W.looks_subIn X hsub
  simp only [binaryOp, Operator.info]
  refine wpAny_holding (wpAny_bind ?_)
  unfold binaryOp1
  refine wpAny_bind (wpAny_typeOf (typeIs_int s i t) ?_)
  refine wpAny_bind (I.type.here ?_)
  refine wpAny_bind ?_
  refine wpAny_of_eq F.fills_int_add ?_
  have hne : (Value.type "int" == Value.ref C) = false := Bool.eq_false_iff.mpr fun q => by cases beq_iff_eq.mp q
  simp only [hne, Bool.false_eq_true, if_false]
  refine wpAny_bind (L3.here ?_)
  simp only [Bool.and_self, if_true]
  refine wpAny_bind (L5.here ?_)
  have hpy : numberSlotInPython (.type "int") "add" = pure false := rfl
  simp only [Bool.false_eq_true, if_false, pure_bind, Bool.not_false, Bool.and_self, if_true, hpy]
  refine wpAny_bind (m := tryMethod (.int i t) (PySem.dunder "add") (.ref x)) ?_
  refine intAdd_try hx ?_
  refine wpAny_bind (wpAny_mono one (fun r s' hr => ?_) fun _ _ e => e)
  obtain ⟨v, rfl, hq⟩ := hr
  exact wpAny_bind (wpAny_rule (wpAny_pure (wpAny_pure hq)))
end
/-- what + asks of a class -/
structure AddF (K : PySem.W.Frag) (C : Addr) : Prop where
  ia : (PySem.W.findIn K (.type "int") "__add__").isSome = true
  ir : (PySem.W.findIn K (.type "int") "__radd__").isSome = true
  s1 : PySem.W.subIn K (.type "int") (.ref C) = some false
  s2 : PySem.W.subIn K (.ref C) (.type "int") = some false
def addB (C : Str) (K : PySem.W.Frag) : Bool := (PySem.W.findIn K (.type "int") "__add__").isSome && ((PySem.W.findIn K (.type "int") "__radd__").isSome && (decide (PySem.W.subIn K (.type "int") (.ref (He.ga K C)) = some false) && decide (PySem.W.subIn K (.ref (He.ga K C)) (.type "int") = some false)))
theorem addB_ok {C : Str} {K : PySem.W.Frag} (h : addB C K = true) : AddF K (He.ga K C) := by
  obtain ⟨h1, h⟩ := He.ba h
  obtain ⟨h2, h⟩ := He.ba h
  obtain ⟨h3, h4⟩ := He.ba h
  exact ⟨h1, h2, of_decide_eq_true h3, of_decide_eq_true h4⟩
/-- o + p by own methods: p an instance of the same class, or an int; or o an int -/
def fOwnAdd (C : Addr) (sp spR : L2.Sp) (E : XK) : R2 := fun x y H Q => match x, y with
  | .ref a, .ref b => InsV C H a ∧ InsV C H b ∧ sp [x, y] H Q E
  | .ref a, .int _ => InsV C H a ∧ sp [x, y] H Q E
  | .int _, .ref b => InsV C H b ∧ spR [y, x] H Q E
  | _, _ => False
section
variable {X : Cx} {k : Nat} {C : Addr} {sp spR : L2.Sp} {E : XK}
theorem o_ownAdd {g g' : Addr} (c : Meth X.K C "__add__" g) (c' : Meth X.K C "__radd__" g') (hsf : PySem.W.selfFirst X.K C = true) (hA : AddF X.K C) (F : CallK X k g sp E) (F' : CallK X k g' spR E) (hr : Room k X.A) : OpR X (binaryOp .Add) (fOwnAdd C sp spR E) := by
  intro pins s σ H x y v u Q I rx ry hq
  have back : ∀ {M : Sem Value}, wpAny (model X.prog X.w) X.A M (EP X pins σ Q) X.xe s → wpAny (model X.prog X.w) X.A M (PySem.W.CmpBack (EP X pins σ Q)) X.xe s := fun h => by
    refine wpAny_mono h (fun r s' hs => ?_) fun _ _ e => e
    obtain ⟨z, H', I', rz, hz⟩ := id hs
    exact backNI (relNI rz) hs
  obtain ⟨m, hF⟩ := I.fr
  match x, y, rx, ry, hq with
  | .ref a, .ref b, rx, ry, hq =>
    obtain ⟨⟨dx, fs, ea⟩, ⟨dx', fs', eb⟩, h⟩ := hq
    cases (show v = Value.ref a from rx)
    cases (show u = Value.ref b from ry)
    obtain ⟨mA, O, _⟩ := ins_get I.hok ea
    obtain ⟨od, J, _⟩ := O.look
    obtain ⟨mB, O', _⟩ := ins_get I.hok eb
    obtain ⟨od', J', _⟩ := O'.look
    exact PySem.W.binop_K hF I.ok.mod.kin J J'.type hsf c.at_ c.fn (back (F.run hr rfl rfl I (.cons (show RelV (.ref a) (Value.ref a) from rfl) (.cons ry .nil)) h))
  | .ref a, .int i, rx, ry, hq =>
    obtain ⟨⟨dx, fs, ea⟩, h⟩ := hq
    cases (show v = Value.ref a from rx)
    obtain ⟨tk, rfl⟩ := id ry
    obtain ⟨mA, O, _⟩ := ins_get I.hok ea
    obtain ⟨od, J, _⟩ := O.look
    obtain ⟨fo, h1⟩ := Option.isSome_iff_exists.mp hA.ia
    obtain ⟨ro, h2⟩ := Option.isSome_iff_exists.mp hA.ir
    exact PySem.W.ksp_binT (T := "int") (op := .Add) hF I.ok.mod.kin J rfl hsf c.at_ c.fn c'.at_ (.inr ⟨_, rfl⟩) h1 h2 hA.s1 (back (F.run hr rfl rfl I (.cons (show RelV (.ref a) (Value.ref a) from rfl) (.cons ry .nil)) h))
  | .int i, .ref b, rx, ry, hq =>
    obtain ⟨⟨dx, fs, eb⟩, h⟩ := hq
    cases (show u = Value.ref b from ry)
    obtain ⟨tk, rfl⟩ := id rx
    obtain ⟨mA, O, _⟩ := ins_get I.hok eb
    obtain ⟨od, J, _⟩ := O.look
    exact radd_K I.kIn J O.1 hsf c.at_ c'.at_ c'.fn hA.s2 (back (F'.run hr rfl rfl I (.cons (show RelV (.ref b) (Value.ref b) from rfl) (.cons rx .nil)) h))
  | .non, _, _, _, hq => exact hq.elim
  | .bl _, _, _, _, hq => exact hq.elim
  | .str _, _, _, _, hq => exact hq.elim
  | .int _, .non, _, _, hq => exact hq.elim
end

/-- a comprehension over zip of two lists of one length: the elements are f of the items, nothing else changes -/
theorem lc_zipF {K : PySem.W.Frag} {a b : Addr} {xs ys : List V} {g : TG} {te : TE} {vs : List Nat} {σ : L2.St} {H1 : Hp} {D : Addr} {Qd : Hp → Prop} (f : V → V → V) (hn : H1 D = none) (hl : xs.length = ys.length) (hz : xs.length ≤ 1000000) (hA : SqL K H1 a xs) (hB : SqL K H1 b ys)
    (hs : ∀ (i : Nat) (x y : V) (T : Addr) (H : Hp), xs[i]? = some x → ys[i]? = some y → Same H1 H → H T = none → ∀ R : VK, (∀ H4, Same (upd H T (.tup [x, y])) H4 → R (f x y) H4) → g (.ref T) (wipe σ vs) (upd H T (.tup [x, y])) fun σ2 H2 => wipe σ2 vs = wipe σ vs ∧ te σ2 H2 R)
    (hd : ∀ H, Same H1 H → H D = some (.lst (List.zipWith f xs ys)) → Qd H) :
    ∃ W : Nat → Nat → Hp → Prop, (∃ m, W 0 m (upd H1 D (.lst []))) ∧ ∀ i m H, W i m H →
      ((Itz K a b).stop i H ∧ Qd H) ∨ ((Itz K a b).go i H ∧ ∃ Nx : Hp → Prop, (∀ H', Nx H' → ∃ m', m' < m ∧ W (i + 1) m' H') ∧ ∀ x H', (Itz K a b).yld i H x H' → g x (wipe σ vs) H' fun σ2 H2 => wipe σ2 vs = wipe σ vs ∧ tYes σ2 H2 fun b H3 =>
        if b = true then te σ2 H3 fun y H4 => ∃ acc, H4 D = some (.lst acc) ∧ acc.length < sizeLine ∧ Nx (upd H4 D (.lst (acc ++ [y]))) else Nx H3) := by
  have hzl : (List.zipWith f xs ys).length = xs.length := by rw [List.length_zipWith]; omega
  refine ⟨fun i m H => m = xs.length - i ∧ i ≤ xs.length ∧ Same H1 H ∧ H D = some (.lst ((List.zipWith f xs ys).take i)), ⟨xs.length, rfl, Nat.zero_le _, Same.upd hn, upd_same⟩, ?_⟩
  rintro i m H ⟨rfl, hi, e1, hD⟩
  have qx := e1.seq hA
  have qy := e1.seq hB
  by_cases hlt : i < xs.length
  · have hx : xs[i]? = some xs[i] := List.getElem?_eq_getElem hlt
    have hlt2 : i < ys.length := by omega
    have hy : ys[i]? = some ys[i] := List.getElem?_eq_getElem hlt2
    refine .inr ⟨⟨xs, ys, _, _, qx, qy, hx, hy⟩, fun H' => Same H1 H' ∧ H' D = some (.lst ((List.zipWith f xs ys).take (i + 1))), fun H' p' => ⟨xs.length - (i + 1), by omega, rfl, hlt, p'⟩, fun v H' y => ?_⟩
    obtain ⟨T, x', y', rfl, hT, rfl, f1, f2⟩ := y
    have hx' := f1 xs qx
    have hy' := f2 ys qy
    refine hs i x' y' T H hx' hy' e1 hT _ fun H4 e4 => ?_
    have hTD : D ≠ T := ne_of_none hD hT
    have hD4 : H4 D = some (.lst ((List.zipWith f xs ys).take i)) := e4 _ _ (by rw [upd_ne hTD]; exact hD)
    have hget : (List.zipWith f xs ys)[i]? = some (f x' y') := by rw [List.getElem?_zipWith, hx', hy']
    refine ⟨_, hD4, by rw [List.length_take, sizeLine_eq]; omega, fun b o hb => ?_, ?_⟩
    · rw [upd_ne (ne_of_none hb hn)]
      exact e4 _ _ (by rw [upd_ne (ne_of_none (e1 _ _ hb) hT)]; exact e1 _ _ hb)
    · rw [upd_same, List.take_add_one, hget]
      rfl
  · have e : i = xs.length := by omega
    subst e
    refine .inl ⟨⟨xs, ys, qx, qy, Or.inl (Nat.le_refl _)⟩, hd H e1 ?_⟩
    rw [hD, List.take_of_length_le (by omega)]
end Sp
namespace Sp
open PySem PySem.Spec PyProof.Rows L2
/-- a comprehension over a list: the elements are f of the places, nothing else changes -/
theorem lc_listN {K : PySem.W.Frag} {a : Addr} {xs : List V} {g : TG} {te : TE} {vs : List Nat} {σ : L2.St} {H1 : Hp} {D : Addr} {Qd : Hp → Prop} (f : Nat → V) (hn : H1 D = none) (hz : xs.length ≤ 1000000) (hS : SqL K H1 a xs)
    (hs : ∀ (i : Nat) (x : V) (H : Hp), xs[i]? = some x → Same H1 H → ∀ R : VK, (∀ H4, Same H H4 → R (f i) H4) → g x (wipe σ vs) H fun σ2 H2 => wipe σ2 vs = wipe σ vs ∧ te σ2 H2 R)
    (hd : ∀ H, Same H1 H → H D = some (.lst ((List.range xs.length).map f)) → Qd H) :
    ∃ W : Nat → Nat → Hp → Prop, (∃ m, W 0 m (upd H1 D (.lst []))) ∧ ∀ i m H, W i m H →
      ((Itl K a).stop i H ∧ Qd H) ∨ ((Itl K a).go i H ∧ ∃ Nx : Hp → Prop, (∀ H', Nx H' → ∃ m', m' < m ∧ W (i + 1) m' H') ∧ ∀ x H', (Itl K a).yld i H x H' → g x (wipe σ vs) H' fun σ2 H2 => wipe σ2 vs = wipe σ vs ∧ tYes σ2 H2 fun b H3 =>
        if b = true then te σ2 H3 fun y H4 => ∃ acc, H4 D = some (.lst acc) ∧ acc.length < sizeLine ∧ Nx (upd H4 D (.lst (acc ++ [y]))) else Nx H3) := by
  refine lc_listI (xs := xs) hz (fun i acc H => acc = (List.range i).map f ∧ Same H1 H) ⟨rfl, Same.upd hn⟩ (fun i acc H _ _ hJ => hJ.2.seq hS) (fun i x acc H hx hl hD hJ R hR => ?_) (fun acc H hl hD hJ => ?_)
  · refine hs i x H hx hJ.2 R fun H4 e => hR (f i) H4 (e _ _ hD) ⟨?_, fun b o h => ?_⟩
    · rw [List.range_succ, List.map_append, ← hJ.1]
      rfl
    · rw [upd_ne (ne_of_none h hn)]
      exact e _ _ (hJ.2 _ _ h)
  · exact hd H hJ.2 (by rw [hD, hJ.1])
/-! ### where ways meet again -/
def tCut (t u : TS) : TS := fun D σ H => ∃ Mid : L2.St → Hp → Prop, t { D with nx := Mid } σ H ∧ ∀ σ' H', Mid σ' H' → u D σ' H'
theorem pss_cut {X : Cx} {st : Stmt} {rest : List Stmt} {t u : TS} (h1 : PS X st t) (h2 : PSs X rest u) : PSs X (st :: rest) (tCut t u) := by
  refine ⟨fun pins s σ H D I h => ?_⟩
  obtain ⟨Mid, hm, hu⟩ := h
  refine wpAny_execs_cons (thn (h1.run pins s σ H { D with nx := Mid } I hm) fun f s1 q => ?_)
  cases f with
  | next =>
    obtain ⟨σ', H', I', q⟩ := q
    exact h2.run pins s1 σ' H' D I' (hu σ' H' q)
  | ret v => exact q
  | brk => exact q
  | cont => exact q
end Sp
namespace Sp
open PySem PySem.Spec PyProof.Rows L2

/-- a number: an int, or a truth that counts as 1 or 0 -/
def isN : Int → Value → Bool
  | k, .int i _ => i == k
  | k, .bool b => PpSet.b2 b == k
  | _, _ => false
theorem isN_shape {k : Int} {v : Value} (h : isN k v = true) : (∃ t, v = .int k t) ∨ ∃ b, v = .bool b ∧ PpSet.b2 b = k := by
  cases v with
  | int i t => exact .inl ⟨t, by rw [show i = k from eq_of_beq h]⟩
  | bool b => exact .inr ⟨b, rfl, eq_of_beq h⟩
  | _ => exact absurd h Bool.false_ne_true
theorem beq_decI (a b : Int) : (a == b) = decide (a = b) := by
  by_cases h : a = b
  · rw [h, decide_eq_true rfl, beq_self_eq_true]
  · rw [decide_eq_false h, beq_eq_false_iff_ne.mpr h]
def numK (prog : Program) (w : World) : PySem.KeyKind prog w Int where
  is := isN
  hash := hashInt
  inj := fun v a b ha hb => by
    rcases isN_shape ha with ⟨t, rfl⟩ | ⟨x, rfl, rfl⟩
    · exact eq_of_beq hb
    · exact eq_of_beq hb
  byValue := fun k v h => by
    rcases isN_shape h with ⟨t, rfl⟩ | ⟨x, rfl, rfl⟩ <;> rfl
  pyHash := fun hv h => by
    rcases isN_shape hv with ⟨t, rfl⟩ | ⟨x, rfl, rfl⟩
    · exact wpAny_pyHash_int h
    · exact PpSet.pyHash_bool h
  eqBool := fun {A E s a b u v Q} hu hv h => by
    rcases isN_shape hu with ⟨t, rfl⟩ | ⟨x, rfl, rfl⟩
    · rcases isN_shape hv with ⟨t', rfl⟩ | ⟨y, rfl, rfl⟩
      · rw [← beq_decI] at h
        exact SeqAt.EqAt.int_int a t b t' _ _ _ _ h
      · rw [← beq_decI] at h
        exact SeqAt.EqAt.int_bool a t y _ _ _ _ h
    · rcases isN_shape hv with ⟨t', rfl⟩ | ⟨y, rfl, rfl⟩
      · rw [← beq_decI] at h
        exact SeqAt.EqAt.bool_int x b t' _ _ _ _ h
      · refine SeqAt.EqAt.bool_bool x y _ _ _ _ ?_
        have e : decide (PpSet.b2 x = PpSet.b2 y) = (x == y) := by cases x <;> cases y <;> decide
        rw [← e]
        exact h
  «strs» := fun k x t v h => absurd h Bool.false_ne_true

/-- the number of a value -/
def numV : V → Option Int
  | .int i => some i
  | .bl b => some (PpSet.b2 b)
  | _ => none
theorem isN_of {x : V} {k : Int} {u : Value} (h : numV x = some k) (r : RelV x u) : isN k u = true := by
  cases x with
  | int i =>
    obtain ⟨t, rfl⟩ := r
    cases h
    exact beq_self_eq_true _
  | bl b =>
    cases (show u = Value.bool b from r)
    cases h
    exact beq_self_eq_true _
  | _ => cases h
theorem itemsAre_of {prog : Program} {w : World} : ∀ {vs : List V} {ks : List Int} {us : List Value}, vs.map numV = ks.map some → Vals vs us → ItemsAre (numK prog w) ks us
  | [], ks, _, h, .nil => by
    cases ks with
    | nil => exact .nil
    | cons _ _ => cases h
  | x :: vs, ks, _, h, .cons r t => by
    cases ks with
    | nil => cases h
    | cons k ks =>
      rw [List.map_cons, List.map_cons] at h
      injection h with h1 h2
      exact .cons (isN_of h1 r) (itemsAre_of h2 t)
/-- a tuple of these numbers at a -/
def KeyT (K : PySem.W.Frag) (H : Hp) (k : List Int) (a : Addr) : Prop := ∃ vs, SqT K H a vs ∧ vs.map numV = k.map some
theorem KeyT.same {K : PySem.W.Frag} {H H' : Hp} {k : List Int} {a : Addr} (e : Same H H') (h : KeyT K H k a) : KeyT K H' k a := by
  obtain ⟨vs, h1, h2⟩ := h
  exact ⟨vs, sameT e h1, h2⟩
theorem keyT_is {X : Cx} {pins : List (Addr × Obj)} {σ : L2.St} {H : Hp} {s : Shared} {k : List Int} {a : Addr} (I : L2.Inv X pins σ H s) (h : KeyT X.K H k a) : (tupleKind (numK X.prog X.w)).is s.heap k a := by
  obtain ⟨vs, hs, e⟩ := h
  obtain ⟨its, rv, ⟨o, h1, h2, n, h3⟩, hz⟩ := I.tuple hs
  exact ⟨o, its.toArray, n, h1, h2, h3, by simpa using itemsAre_of e rv⟩
def ctH (k : List Int) : Int := reduceHash (Builtin.Tuple.tupleHashOf (k.map hashInt))
def ctE (x : List Int × Addr × Value) : DictEntry := ⟨ctH x.1, .ref x.2.1, x.2.2⟩
/-- the dict at d: its entries -/
def CD (d : Addr) (xs : List (List Int × Addr × Value)) : HO := .ext fun h => ∃ o es ep, h.get? d = some o ∧ o.ExactDict ∧ o.data = .dict es ep ∧ es.toList = xs.map ctE ∧ (xs.map (·.1)).Nodup
/-- a dict with these keys -/
def CDict (K : PySem.W.Frag) (H : Hp) (d : Addr) (ks : List (List Int)) : Prop := ∃ xs, H d = some (CD d xs) ∧ (∀ x ∈ xs, KeyT K H x.1 x.2.1) ∧ xs.map (·.1) = ks ∧ xs.length ≤ sizeLine ∧ (d == sysModules) = false
theorem CDict.same {K : PySem.W.Frag} {H H' : Hp} {d : Addr} {ks : List (List Int)} (e : Same H H') (h : CDict K H d ks) : CDict K H' d ks := by
  obtain ⟨xs, h1, h2, h3⟩ := h
  exact ⟨xs, e _ _ h1, fun x hx => (h2 x hx).same e, h3⟩
section
variable {X : Cx} {pins : List (Addr × Obj)} {σ : L2.St} {H : Hp} {s : Shared} {d : Addr} {xs : List (List Int × Addr × Value)}
theorem cd_at (I : L2.Inv X pins σ H s) (h : H d = some (CD d xs)) (hk : ∀ x ∈ xs, KeyT X.K H x.1 x.2.1) : s.heap.DictOfH (tupleKind (numK X.prog X.w)) d xs := by
  obtain ⟨⟨o, es, ep, h1, h2, h3, h4, h5⟩, _⟩ := (show ObjOk X.prog X.w H s.heap d (CD d xs) from I.hok d _ h)
  exact ⟨o, es, ep, h1, h2, h3, h4, fun x hx => keyT_is I (hk x hx), h5⟩
theorem cd_ok {P : Program} {w : World} {H : Hp} {h : Heap} (x : h.DictOfH (tupleKind (numK P w)) d xs) : ObjOk P w H h d (CD d xs) := by
  obtain ⟨o, es, ep, h1, h2, h3, h4, _, h5⟩ := x
  refine ⟨⟨o, es, ep, h1, h2, h3, h4, h5⟩, ⟨o, h1⟩, ?_⟩
  rintro ha hb ⟨o, es, ep, h1, h2⟩ k
  exact ⟨o, es, ep, k o h1, h2⟩
end
theorem atKey_iff {α : Type} [DecidableEq α] {xs : List (α × Addr × Value)} {k : α} : (atKey xs k).isSome = true ↔ k ∈ xs.map (·.1) := by
  induction xs with
  | nil => simp [atKey]
  | cons x r ih =>
    obtain ⟨a, b⟩ := x
    unfold atKey at ih ⊢
    rw [List.find?_cons, List.map_cons]
    by_cases h : a = k
    · simp [h]
    · have h2 : ¬ k = a := fun z => h z.symm
      rw [show decide ((a, b).1 = k) = false from decide_eq_false h]
      simp only [List.mem_cons, h2, false_or]
      exact ih
/-- k in d, k not in d -/
def fInC (K : PySem.W.Frag) (neg : Bool) : R2 := fun x y H Q => onRef x fun a => onRef y fun d => ∃ k ks, KeyT K H k a ∧ CDict K H d ks ∧ ∀ b : Bool, (b = true ↔ k ∈ ks) → Q (.bl (neg != b)) H
section
variable {X : Cx}
theorem o_inC (hu : X.A.units + 64 < cLine) : OpR X (compareOp .In) (fInC X.K false) := by
  intro pins s σ H x y v u Q I rx ry hq
  obtain ⟨a, rfl, hq2⟩ := onRef_ex hq
  obtain ⟨d, rfl, k, ks, hk, ⟨xs, h1, h2, h3, h4, h5⟩, q⟩ := onRef_ex hq2
  cases (show v = Value.ref a from rx)
  cases (show u = Value.ref d from ry)
  refine wpAny_in_heap (tupleKind_room_in1 (by omega)) (keyT_is I hk) h5 (cd_at I h1 h2) ?_
  refine ⟨.bl _, H, I.tok _, rfl, ?_⟩
  have z := q (atKey xs k).isSome (by rw [atKey_iff, h3])
  simpa using z
theorem o_notInC (hu : X.A.units + 64 < cLine) : OpR X (compareOp .NotIn) (fInC X.K true) := by
  intro pins s σ H x y v u Q I rx ry hq
  obtain ⟨a, rfl, hq2⟩ := onRef_ex hq
  obtain ⟨d, rfl, k, ks, hk, ⟨xs, h1, h2, h3, h4, h5⟩, q⟩ := onRef_ex hq2
  cases (show v = Value.ref a from rx)
  cases (show u = Value.ref d from ry)
  refine wpAny_notIn_heap (tupleKind_room_in1 (by omega)) (keyT_is I hk) h5 (cd_at I h1 h2) ?_
  refine ⟨.bl _, H, I.tok _, rfl, ?_⟩
  have z := q (atKey xs k).isSome (by rw [atKey_iff, h3])
  simpa using z
/-- d[k] = v, k new -/
def fSetC (K : PySem.W.Frag) : V → V → V → Hp → (Hp → Prop) → Prop := fun o i v H Q => onRef o fun d => onRef i fun a => ∃ k ks, KeyT K H k a ∧ CDict K H d ks ∧ k ∉ ks ∧ ks.length < 100000 ∧ ∀ H', (∀ b u, b ≠ d → H b = some u → H' b = some u) → (∀ b, b ≠ d → H b = none → H' b = none) → CDict K H' d (ks ++ [k]) → Q H'
theorem s_cd (hu : X.A.units + 64 < cLine) : PSet X (fSetC X.K) := by
  intro pins s σ H o i v uo ui uv Q I ro ri rv hq
  obtain ⟨d, rfl, hq2⟩ := onRef_ex hq
  obtain ⟨a, rfl, k, ks, hk, ⟨xs, h1, h2, h3, h4, h5⟩, hn, hl, q⟩ := onRef_ex hq2
  cases (show uo = Value.ref d from ro)
  cases (show ui = Value.ref a from ri)
  have hat : atKey xs k = none := by
    have e := atKey_iff (xs := xs) (k := k)
    rw [h3] at e
    cases z : atKey xs k with
    | none => rfl
    | some p => rw [z] at e; exact absurd (e.mp rfl) hn
  have hlx : xs.length < 100000 := by
    rw [← h3, List.length_map] at hl
    exact hl
  refine wpAny_setItem_heap (tupleKind_room_in1 (by omega)) (keyT_is I hk) (cd_at I h1 h2) (fun h' hd hs => ?_) h4
  rw [storedH_new hat] at hd
  have he : ∃ q, h'.get? d = some q := let ⟨q, _, _, hq, _⟩ := hd; ⟨q, hq⟩
  have nd : ∀ {b : Addr} {ys : List V}, SqT X.K H b ys → SqT X.K (upd H d (CD d (xs ++ [(k, a, uv)]))) b ys := fun {b ys} hb => by
    rcases hb with (hb | ⟨ob, hb⟩) | hb
    · exact .inl (.inl (by rw [upd_ne (ne_of hb h1 (fun z => by cases z))]; exact hb))
    · exact .inl (.inr ⟨ob, by rw [upd_ne (ne_of hb h1 (fun z => by cases z))]; exact hb⟩)
    · exact .inr hb
  have nk : ∀ {k : List Int} {b : Addr}, KeyT X.K H k b → KeyT X.K (upd H d (CD d (xs ++ [(k, a, uv)]))) k b := fun {k b} ⟨vs, hb, e⟩ => by
    refine ⟨vs, ?_, e⟩
    rcases hb with (hb | ⟨ob, hb⟩) | hb
    · exact .inl (.inl (by rw [upd_ne (ne_of hb h1 (fun z => by cases z))]; exact hb))
    · exact .inl (.inr ⟨ob, by rw [upd_ne (ne_of hb h1 (fun z => by cases z))]; exact hb⟩)
    · exact .inr hb
  have I2 : L2.Inv X pins σ (upd H d (CD d (xs ++ [(k, a, uv)]))) { s with heap := h', toks := s.toks + (tupleKind (numK X.prog X.w)).draws k } := d_write I (by rw [h1]; exact True.intro) hs he (cd_ok hd)
  refine ⟨_, I2, q _ (fun b u hb hbu => by rw [upd_ne hb]; exact hbu) (fun b hb hbu => by rw [upd_ne hb]; exact hbu) ⟨xs ++ [(k, a, uv)], upd_same, fun x hx => ?_, ?_, ?_, h5⟩⟩
  · rcases List.mem_append.mp hx with hx | hx
    · obtain ⟨vs, hb, e⟩ := h2 x hx
      exact ⟨vs, nd hb, e⟩
    · rw [List.mem_singleton.mp hx]
      obtain ⟨vs, hb, e⟩ := hk
      exact ⟨vs, nd hb, e⟩
  · rw [List.map_append, h3]
    rfl
  · rw [List.length_append, sizeLine_eq]
    show xs.length + 1 ≤ _
    omega
/-- {k: v}, k a tuple of numbers -/
def tDispC (K : PySem.W.Frag) (tk tv : TE) : TE := fun σ H Q => ∀ d, H d = none → tk σ (upd H d (.dK [])) fun x H1 => tv σ H1 fun _ H2 => onRef x fun a => H2 d = some (.dK []) ∧ ∃ k, KeyT K H2 k a ∧
  ∀ H', (∀ b u, b ≠ d → H2 b = some u → H' b = some u) → (∀ b, b ≠ d → H2 b = none → H' b = none) → CDict K H' d [k] → Q (.ref d) H'
theorem e_dispC {k v : Expr} {tk tv : TE} {pos : Pos} (hk : PE X k tk) (hv : PE X v tv) (hu : X.A.units + 64 < cLine) : PE X (.Dict [some k] [v] pos) (tDispC X.K tk tv) := by
  refine ⟨fun pins s σ H Q I q => ?_⟩
  have hn := I.hok.fresh (Nat.le_refl s.heap.objs.size)
  have I1 := I.laid (a := s.heap.objs.size) (o := .dK []) (h' := s.heap.push { cls := .type "dict", data := .dict #[] }) (t' := s.toks) (fun _ _ q => Heap.get?_push_of_some _ q) (Nat.le_refl _) (dk_empty s.heap I.big)
  have hshape := zip_pairTrees [some k] [v] X.env pos rfl rfl
  have hlen := pairTrees_length [some k] [v] X.env pos rfl rfl
  have h0 : pairTrees [some k] [v] X.env pos ≠ [] := fun z => by rw [z] at hlen; cases hlen
  have hlen2 : (pairTrees [some k] [v] X.env pos).length = 1 := hlen
  rw [arm_eval_Dict, hshape, dictDisplay_pairs _ h0 (by rw [hlen2]; decide)]
  refine wpAny_bind (wpAny_standAt (wpAny_bind (wpAny_subDictH (knd := tupleKind (numK X.prog X.w)) (Q := fun d s' => wpAny (model X.prog X.w) X.A (pure (Value.ref d)) (EP X pins σ Q) X.xe s') (show X.A.units < cLine by omega) (by rw [hlen2]; decide) ?_)))
  refine pairTrees_cons_walk (thn (hk.run pins _ σ _ _ I1 (q _ hn)) fun kv s1 ⟨x, H1, J1, rx, q1⟩ => thn (hv.run pins s1 σ H1 _ J1 q1) fun vv s2 ⟨y, H2, J2, ry, q2⟩ => pairTrees_nil_walk ?_)
  obtain ⟨a, rfl, e, kk, hkey, q3⟩ := onRef_ex q2
  cases (show kv = Value.ref a from rx)
  obtain ⟨z, hd0, vs0, r0, dd⟩ := dk_of J2.hok e
  cases r0
  refine ⟨[(kk, a, vv)], ⟨rfl, rfl, keyT_is J2 hkey, trivial⟩, ?_, fun h' tk' hd hs => wpAny_pure ?_⟩
  · obtain ⟨o, es, ep, h1, h2, h3, h4, h5, _⟩ := dd
    refine ⟨o, es, ep, h1, h2, h3, ?_, fun x hx => (by cases hx), List.nodup_nil⟩
    cases q : es.toList with
    | nil => rfl
    | cons a r =>
      rw [q] at h5
      first
        | exact h5.elim
        | cases h5
  · have he : ∃ q, h'.get? s.heap.objs.size = some q := let ⟨q, _, _, hq, _⟩ := hd; ⟨q, hq⟩
    have hd2 : h'.DictOfH (tupleKind (numK X.prog X.w)) s.heap.objs.size [(kk, a, vv)] := hd
    have I2 : L2.Inv X pins σ (upd H2 s.heap.objs.size (CD s.heap.objs.size [(kk, a, vv)])) { s2 with heap := h', toks := tk' } := d_write J2 (by rw [e]; exact True.intro) hs he (cd_ok hd2)
    refine ⟨.ref s.heap.objs.size, _, I2, rfl, q3 _ (fun b u hb hbu => by rw [upd_ne hb]; exact hbu) (fun b hb hbu => by rw [upd_ne hb]; exact hbu) ⟨[(kk, a, vv)], upd_same, fun x hx => ?_, rfl, by show 1 ≤ sizeLine; decide, hd0⟩⟩
    rw [List.mem_singleton.mp hx]
    obtain ⟨vs, hb, e2⟩ := hkey
    refine ⟨vs, ?_, e2⟩
    rcases hb with (hb | ⟨ob, hb⟩) | hb
    · exact .inl (.inl (by rw [upd_ne (ne_of hb e (fun z => by cases z))]; exact hb))
    · exact .inl (.inr ⟨ob, by rw [upd_ne (ne_of hb e (fun z => by cases z))]; exact hb⟩)
    · exact .inr hb
end
end Sp
namespace Sp
open PySem PySem.Spec PyProof.Rows L2
open PySem.StrLaws PySem.Builtin PySem.Builtin.Str
/-- the codes of a text -/
abbrev cl (x : Str) : List Nat := x.cps.toList
theorem cl_ext {x y : Str} (h : cl x = cl y) : x = y := PySem.Str.ext' (Array.ext' h)
theorem cl_app (x y : Str) : cl (x ++ y) = cl x ++ cl y := by
  show (x ++ y).cps.toList = _
  rw [PySem.Str.cps_append, Array.toList_append]
theorem cl_len (x : Str) : (cl x).length = x.length := by
  show x.cps.toList.length = x.cps.size
  exact Array.length_toList
theorem at_head {x y : Str} {c : Nat} {t : List Nat} {hi i : Nat} (hy : cl y = c :: t) (h : At x y hi i) : (cl x)[i]? = some c := by
  have h2 := h.2
  rw [subAt_eq, beq_iff_eq] at h2
  have e : ((cl x).drop i).take y.length = c :: t := h2.trans hy
  have e2 : (((cl x).drop i).take y.length)[0]? = some c := by rw [e]; rfl
  rw [List.getElem?_take] at e2
  split at e2
  · rw [List.getElem?_drop, Nat.add_zero] at e2
    exact e2
  · cases e2
theorem at_of {x y : Str} {p q : List Nat} (h : cl x = p ++ cl y ++ q) : At x y x.length p.length := by
  have hl : x.length = p.length + y.length + q.length := by
    rw [← cl_len x, h, List.length_append, List.length_append, cl_len]
  refine ⟨by omega, ?_⟩
  rw [subAt_eq, beq_iff_eq]
  show ((cl x).drop p.length).take y.length = cl y
  rw [h, List.append_assoc, List.drop_left, ← cl_len y, List.take_left]
theorem sub_cl (x : Str) (i j : Nat) : cl (strSub x i j) = ((cl x).drop i).take (j - i) := strSub_toList x i j
theorem join_cons2 (y p q : Str) (r : List Str) : Str.join y (p :: q :: r) = p ++ y ++ Str.join y (q :: r) := rfl
theorem split_aux {x y : Str} {c : Nat} {t : List Nat} (hy : cl y = c :: t) : ∀ (cs : List Str) (pre : List Nat) (cuts : List Nat) (f : Nat), cs ≠ [] → (∀ p ∈ cs, c ∉ cl p) → cl x = pre ++ cl (Str.join y cs) → ChainG x y x.length pre.length cuts f →
    (∀ k, f ≤ k → ¬ At x y x.length k) → partsFrom x y.length pre.length cuts = cs
  | [], _, _, _, h, _, _, _, _ => absurd rfl h
  | [p], pre, cuts, f, _, hf, hx, hc, hn => by
    have hx2 : cl x = pre ++ cl p := hx
    have no : ∀ k, pre.length ≤ k → ¬ At x y x.length k := fun k hk ha => by
      have e := at_head hy ha
      rw [hx2, List.getElem?_append_right hk] at e
      exact hf p (List.mem_singleton.mpr rfl) (List.mem_of_getElem? e)
    cases cuts with
    | cons c' r => exact absurd hc.2.1 (no c' hc.1)
    | nil =>
      show [strSub x pre.length x.length] = [p]
      refine congrArg (fun z => [z]) (cl_ext ?_)
      rw [sub_cl, hx2, List.drop_left, ← cl_len x, hx2, List.length_append, Nat.add_sub_cancel_left, List.take_length]
  | p :: q :: r, pre, cuts, f, _, hf, hx, hc, hn => by
    have hx2 : cl x = pre ++ cl p ++ cl y ++ cl (Str.join y (q :: r)) := by
      rw [hx, join_cons2, cl_app, cl_app]
      simp only [List.append_assoc]
    have hat : At x y x.length (pre ++ cl p).length := at_of (by rw [hx2, List.append_assoc])
    have hlen : (pre ++ cl p).length = pre.length + p.length := by rw [List.length_append, cl_len]
    have no : ∀ k, pre.length ≤ k → k < pre.length + p.length → ¬ At x y x.length k := fun k h1 h2 ha => by
      have e := at_head hy ha
      rw [hx2, List.append_assoc, List.append_assoc, List.getElem?_append_right h1, List.getElem?_append_left (by rw [cl_len]; omega)] at e
      exact hf p (List.mem_cons_self ..) (List.mem_of_getElem? e)
    cases cuts with
    | nil =>
      have e : f = pre.length := hc
      exact absurd hat (hn _ (by rw [hlen, e]; omega))
    | cons c' r' =>
      obtain ⟨h1, h2, h3, h4⟩ := hc
      have ec : c' = pre.length + p.length := by
        rcases Nat.lt_trichotomy c' (pre.length + p.length) with z | z | z
        · exact absurd h2 (no c' h1 z)
        · exact z
        · exact absurd (hlen ▸ hat) (h3 _ (by omega) z)
      subst ec
      have ih := split_aux hy (q :: r) (pre ++ cl p ++ cl y) r' f (by simp) (fun z hz => hf z (List.mem_cons_of_mem _ hz)) hx2 (by rw [List.length_append, hlen, cl_len]; exact h4) hn
      rw [List.length_append, hlen, cl_len] at ih
      show strSub x pre.length (pre.length + p.length) :: partsFrom x y.length (pre.length + p.length + y.length) r' = p :: q :: r
      rw [ih]
      refine congrArg (fun z => z :: q :: r) (cl_ext ?_)
      rw [sub_cl, hx2, List.append_assoc, List.append_assoc, List.drop_left, Nat.add_sub_cancel_left, ← cl_len p, List.take_left]
theorem split_join {y : Str} {c : Nat} {t : List Nat} (hy : cl y = c :: t) {cs : List Str} (hne : cs ≠ []) (hf : ∀ p ∈ cs, c ∉ cl p) (hk : ¬ strKind (Str.join y cs) < strKind y) : Txt.split (Str.join y cs) y = cs := by
  have hyl : y.length = t.length + 1 := by rw [← cl_len, hy]; rfl
  unfold Txt.split
  split
  · rename_i h
    rw [Bool.or_eq_true, decide_eq_true_eq, decide_eq_true_eq] at h
    rcases h with h | h
    · cases cs with
      | nil => exact absurd rfl hne
      | cons p r =>
        cases r with
        | nil => rfl
        | cons q r =>
          rw [join_cons2, PySem.Str.length_append, PySem.Str.length_append] at h
          omega
    · exact absurd h hk
  · obtain ⟨f, hG, hn⟩ := occ_tight (Str.join y cs) y (by omega)
    have key := split_aux hy cs [] _ f hne hf rfl hG hn
    split
    · rename_i h
      have e : occurrences (Str.join y cs) y 0 (Str.join y cs).length ((Str.join y cs).length + 1) = [] := by
        cases q : occurrences (Str.join y cs) y 0 (Str.join y cs).length ((Str.join y cs).length + 1) with
        | nil => rfl
        | cons _ _ => rw [q] at h; cases h
      rw [e] at key
      have key2 : [strSub (Str.join y cs) 0 (Str.join y cs).length] = cs := key
      rw [sub_whole] at key2
      exact key2
    · rw [partsBetween_eq]
      exact key
/-- cut at the last place -/
theorem rpart_found {y h d : Str} {c : Nat} {t : List Nat} (hy : cl y = c :: t) (ht : c ∉ t) (hd : c ∉ cl d) : Txt.rpartition (h ++ y ++ d) y = (h, y, d) := by
  have hx : cl (h ++ y ++ d) = cl h ++ cl y ++ cl d := by rw [cl_app, cl_app]
  have hat : At (h ++ y ++ d) y (h ++ y ++ d).length (cl h).length := at_of hx
  have no : ∀ k, (cl h).length < k → ¬ At (h ++ y ++ d) y (h ++ y ++ d).length k := fun k hk ha => by
    have e := at_head hy ha
    rw [hx, hy] at e
    obtain ⟨j, rfl⟩ : ∃ j, k = (cl h).length + 1 + j := ⟨k - (cl h).length - 1, by omega⟩
    rw [List.append_assoc, List.getElem?_append_right (by omega), show (cl h).length + 1 + j - (cl h).length = j + 1 by omega, List.cons_append, List.getElem?_cons_succ] at e
    rcases List.mem_append.mp (List.mem_of_getElem? e) with z | z
    · exact ht z
    · exact hd z
  rcases last_spec (h ++ y ++ d) y with ⟨_, z⟩ | ⟨i, e, ha, hz⟩
  · exact absurd hat (z _)
  · have ei : i = (cl h).length := by
      rcases Nat.lt_trichotomy i (cl h).length with z | z | z
      · exact absurd hat (hz _ z)
      · exact z
      · exact absurd ha (no i z)
    unfold Txt.rpartition
    rw [e]
    dsimp only
    rw [ei]
    have l1 : (cl h).length = h.length := cl_len h
    have e1 : strSub (h ++ y ++ d) 0 (cl h).length = h := cl_ext (by rw [sub_cl, hx, List.drop_zero, Nat.sub_zero, List.append_assoc, List.take_left])
    have e2 : strSub (h ++ y ++ d) ((cl h).length + y.length) (h ++ y ++ d).length = d := cl_ext (by
      rw [sub_cl, hx, ← cl_len y, ← List.length_append, List.drop_left, ← cl_len (h ++ y ++ d), hx, List.length_append, Nat.add_sub_cancel_left, List.take_length])
    rw [e1, e2]
theorem rpart_none {y x : Str} {c : Nat} {t : List Nat} (hy : cl y = c :: t) (hx : c ∉ cl x) : Txt.rpartition x y = (Str.empty, Str.empty, x) := by
  rcases last_spec x y with ⟨e, _⟩ | ⟨i, _, ha, _⟩
  · unfold Txt.rpartition
    rw [e]
  · exact absurd (List.mem_of_getElem? (at_head hy ha)) hx
section
variable {X : Cx}
theorem mt_rpartition : MtR X "str.rpartition" (fun x xs H Q => ∃ a b, x = .str a ∧ xs = [.str b] ∧ (b.length == 0) = false ∧ a.length ≤ sizeLine ∧
    ∀ p, H p = none → Q (.ref p) (upd H p (.tup [.str (Txt.rpartition a b).1, .str (Txt.rpartition a b).2.1, .str (Txt.rpartition a b).2.2]))) := by
  intro pins s σ H x xs v us Q I rx rs h
  obtain ⟨a, b, rfl, rfl, hb, hz, h⟩ := h
  obtain ⟨t, rfl⟩ := rx
  cases rs with
  | cons r1 rs =>
    cases rs
    obtain ⟨u, rfl⟩ := r1
    refine call_meets F.slot_str_rpartition (typeIs_str _ _ _) F.entry_str_rpartition (F.args_str_rpartition_2 _ _) (meets_str_rpartition a b t u hb hz) ?_
    unfold Txt.rpartition at h
    revert h
    cases lastOccurrence a b 0 a.length with
    | none => intro h; exact laid_parts I h
    | some i => intro h; exact laid_parts I h
end
end Sp
namespace Sp
open PySem PySem.Spec PyProof.Rows L2
/-- the tuple at a place of the written part -/
def tupB (p : PySem.W.Frag → Addr) (vs : List V) (K : PySem.W.Frag) : Bool := match K.lookup (p K) with
  | some ⟨.type "tuple", _, .seq its _, _⟩ => decide (its.size ≤ sizeLine) && He.relAll vs its.toList
  | _ => false
theorem tupB_ok {p : PySem.W.Frag → Addr} {vs : List V} {K : PySem.W.Frag} (h : tupB p vs K = true) : ∀ H : Hp, SqT K H (p K) vs := by
  intro H
  unfold tupB at h
  split at h
  · rename_i e
    obtain ⟨h1, h2⟩ := He.ba h
    exact .inr ⟨_, _, _, e, rfl, rfl, of_decide_eq_true h1, He.relAll_ok h2⟩
  · cases h
def fInT (K : PySem.W.Frag) : R2 := fun x y H Q => ∃ d ds, Dp K H x d ∧ Dp K H y (.tuple ds) ∧ SeqAt.shaped d = true ∧ SeqAt.shaped (.tuple ds) = true ∧ Q (.bl (ds.any fun z => PyData.eqv z d)) H
section
variable {X : Cx}
theorem o_inT (hu : X.A.units + 65 < cLine) : OpR X (compareOp .In) (fInT X.K) := by
  intro pins s σ H x y v u Q I rx ry h
  obtain ⟨d, ds, hd, he, sd, se, q⟩ := h
  obtain ⟨as, r1⟩ := Dp.reads I d x v hd rx
  obtain ⟨bs, r2⟩ := Dp.reads I (.tuple ds) y u he ry
  exact SeqAt.in_tuple_reads r2 r1 (SeqAt.canLay_of_shaped se) (SeqAt.canLay_of_shaped sd) (room_in_shaped sd hu) ⟨.bl _, H, I, rfl, q⟩
end
/-- x in xs, x not in xs of plain things -/
def fIn (K : PySem.W.Frag) (neg : Bool) : R2 := fun x y H Q => onRef y fun p => ∃ xs, (SqL K H p xs ∨ SqT K H p xs) ∧ flatV x = true ∧ xs.all flatV = true ∧ ∃ b, inV x xs = b ∧ Q (.bl (neg != b)) H
section
variable {X : Cx}
theorem o_inS : OpR X (compareOp .In) (fIn X.K false) := OpR.imp op_in_seq fun x y H Q h => by
  obtain ⟨p, rfl, xs, h1, h2, h3, b, rfl, q⟩ := onRef_ex h
  refine ⟨p, xs, rfl, h1, h2, h3, ?_⟩
  cases e : inV x xs <;> rw [e] at q <;> exact q
theorem o_notInS : OpR X (compareOp .NotIn) (fIn X.K true) := OpR.imp op_notIn_seq fun x y H Q h => by
  obtain ⟨p, rfl, xs, h1, h2, h3, b, rfl, q⟩ := onRef_ex h
  refine ⟨p, xs, rfl, h1, h2, h3, ?_⟩
  cases e : inV x xs <;> rw [e] at q <;> exact q
end
/-- a comprehension over a tuple: what holds between the turns -/
theorem lc_tupI {K : PySem.W.Frag} {a : Addr} {xs : List V} {g : TG} {te : TE} {vs : List Nat} {σ : L2.St} {H1 : Hp} {D : Addr} {Qd : Hp → Prop} (hz : xs.length ≤ 1000000) (J : Nat → List V → Hp → Prop) (h0 : J 0 [] (upd H1 D (.lst [])))
    (hl : ∀ i acc H, i ≤ xs.length → H D = some (.lst acc) → J i acc H → SqT K H a xs)
    (hs : ∀ (i : Nat) (x : V) (acc : List V) (H : Hp), xs[i]? = some x → acc.length = i → H D = some (.lst acc) → J i acc H → ∀ R : VK, (∀ y H4, H4 D = some (.lst acc) → J (i + 1) (acc ++ [y]) (upd H4 D (.lst (acc ++ [y]))) → R y H4) →
      g x (wipe σ vs) H fun σ2 H2 => wipe σ2 vs = wipe σ vs ∧ te σ2 H2 R)
    (hd : ∀ acc H, acc.length = xs.length → H D = some (.lst acc) → J xs.length acc H → Qd H) :
    ∃ W : Nat → Nat → Hp → Prop, (∃ m, W 0 m (upd H1 D (.lst []))) ∧ ∀ i m H, W i m H →
      ((Itt K a).stop i H ∧ Qd H) ∨ ((Itt K a).go i H ∧ ∃ Nx : Hp → Prop, (∀ H', Nx H' → ∃ m', m' < m ∧ W (i + 1) m' H') ∧ ∀ x H', (Itt K a).yld i H x H' → g x (wipe σ vs) H' fun σ2 H2 => wipe σ2 vs = wipe σ vs ∧ tYes σ2 H2 fun b H3 =>
        if b = true then te σ2 H3 fun y H4 => ∃ acc, H4 D = some (.lst acc) ∧ acc.length < sizeLine ∧ Nx (upd H4 D (.lst (acc ++ [y]))) else Nx H3) := by
  refine lc_tup (xs := xs) (fun i H => ∃ acc, acc.length = i ∧ H D = some (.lst acc) ∧ J i acc H) ⟨[], rfl, upd_same, h0⟩ (fun i H hi h => ?_) (fun i x H hx h => ?_) (fun H h => ?_)
  · obtain ⟨acc, _, hD, hJ⟩ := h
    exact hl i acc H hi hD hJ
  · obtain ⟨acc, hac, hD, hJ⟩ := h
    have hi := (List.getElem?_eq_some_iff.mp hx).1
    exact hs i x acc H hx hac hD hJ (fun y H4 => ∃ acc, H4 D = some (.lst acc) ∧ acc.length < sizeLine ∧ ∃ ac2, ac2.length = i + 1 ∧ (upd H4 D (.lst (acc ++ [y]))) D = some (.lst ac2) ∧ J (i + 1) ac2 (upd H4 D (.lst (acc ++ [y])))) (fun y H4 e j => ⟨acc, e, by rw [hac, sizeLine_eq]; omega, acc ++ [y], by simp [hac], upd_same, j⟩)
  · obtain ⟨acc, hac, hD, hJ⟩ := h
    exact hd acc H hac hD hJ
/-- the elements are f of the places, nothing else changes -/
theorem lc_tupN {K : PySem.W.Frag} {a : Addr} {xs : List V} {g : TG} {te : TE} {vs : List Nat} {σ : L2.St} {H1 : Hp} {D : Addr} {Qd : Hp → Prop} (f : Nat → V) (hn : H1 D = none) (hz : xs.length ≤ 1000000) (hS : SqT K H1 a xs)
    (hs : ∀ (i : Nat) (x : V) (H : Hp), xs[i]? = some x → Same H1 H → ∀ R : VK, (∀ H4, Same H H4 → R (f i) H4) → g x (wipe σ vs) H fun σ2 H2 => wipe σ2 vs = wipe σ vs ∧ te σ2 H2 R)
    (hd : ∀ H, Same H1 H → H D = some (.lst ((List.range xs.length).map f)) → Qd H) :
    ∃ W : Nat → Nat → Hp → Prop, (∃ m, W 0 m (upd H1 D (.lst []))) ∧ ∀ i m H, W i m H →
      ((Itt K a).stop i H ∧ Qd H) ∨ ((Itt K a).go i H ∧ ∃ Nx : Hp → Prop, (∀ H', Nx H' → ∃ m', m' < m ∧ W (i + 1) m' H') ∧ ∀ x H', (Itt K a).yld i H x H' → g x (wipe σ vs) H' fun σ2 H2 => wipe σ2 vs = wipe σ vs ∧ tYes σ2 H2 fun b H3 =>
        if b = true then te σ2 H3 fun y H4 => ∃ acc, H4 D = some (.lst acc) ∧ acc.length < sizeLine ∧ Nx (upd H4 D (.lst (acc ++ [y]))) else Nx H3) := by
  refine lc_tupI (xs := xs) hz (fun i acc H => acc = (List.range i).map f ∧ Same H1 H) ⟨rfl, Same.upd hn⟩ (fun i acc H _ _ hJ => sameT hJ.2 hS) (fun i x acc H hx hl hD hJ R hR => ?_) (fun acc H hl hD hJ => ?_)
  · refine hs i x H hx hJ.2 R fun H4 e => hR (f i) H4 (e _ _ hD) ⟨?_, fun b o h => ?_⟩
    · rw [List.range_succ, List.map_append, ← hJ.1]
      rfl
    · rw [upd_ne (ne_of_none h hn)]
      exact e _ _ (hJ.2 _ _ h)
  · exact hd H hJ.2 (by rw [hD, hJ.1])
/-- a comprehension whose elements are new things: by places -/
theorem newL {H1 H4 : Hp} {D : Addr} {acc : List V} {y : V} (hn : H1 D = none) (e : Same H1 H4) : Same H1 (upd H4 D (.lst (acc ++ [y]))) := fun b o h => by
  rw [upd_ne (ne_of_none h hn)]
  exact e _ _ h
/-! ### texts by methods -/
def rSplit : V → List V → Hp → VK → Prop := fun x xs H Q => ∃ a b, x = .str a ∧ xs = [.str b] ∧ (b.length == 0) = false ∧ a.length + 2 ≤ sizeLine ∧ rNewStrs (Txt.split a b) H Q
def rPart : V → List V → Hp → VK → Prop := fun x xs H Q => ∃ a b, x = .str a ∧ xs = [.str b] ∧ (b.length == 0) = false ∧ a.length ≤ sizeLine ∧
    ∀ p, H p = none → Q (.ref p) (upd H p (.tup [.str (Txt.partition a b).1, .str (Txt.partition a b).2.1, .str (Txt.partition a b).2.2]))
def rRPart : V → List V → Hp → VK → Prop := fun x xs H Q => ∃ a b, x = .str a ∧ xs = [.str b] ∧ (b.length == 0) = false ∧ a.length ≤ sizeLine ∧
    ∀ p, H p = none → Q (.ref p) (upd H p (.tup [.str (Txt.rpartition a b).1, .str (Txt.rpartition a b).2.1, .str (Txt.rpartition a b).2.2]))
def rStarts : V → List V → Hp → VK → Prop := fun x xs H Q => ∃ a b, x = .str a ∧ xs = [.str b] ∧ Q (.bl (Txt.startswith a b)) H
def rJoin (K : PySem.W.Frag) : V → List V → Hp → VK → Prop := fun x xs H Q => ∃ a p, ∃ ys : List Str, x = .str a ∧ xs = [.ref p] ∧ (SqL K H p (ys.map V.str) ∨ SqT K H p (ys.map V.str)) ∧
    (ys.map (·.length)).sum + ys.length * a.length ≤ 16777216 ∧ Q (.str (Txt.join a ys)) H
def fIntS : List V → Hp → VK → Prop := fun xs H Q => ∃ a n, xs = [.str a] ∧ PySem.intText? a = some n ∧ a.length ≤ 640 ∧ Q (.int n) H
end Sp
namespace Sp
open PySem PySem.Spec PyProof.Rows L2
theorem room65 {k : Nat} {A : Around} (r : Room k A) : A.units + 65 < cLine := by have := r.un; omega
def on6 (xs : List V) (k : V → V → V → V → V → V → Prop) : Prop := match xs with
  | [x, y, z, u, t, w] => k x y z u t w
  | _ => False
theorem on6_ex {xs : List V} {k : V → V → V → V → V → V → Prop} (h : on6 xs k) : ∃ x y z u t w, xs = [x, y, z, u, t, w] ∧ k x y z u t w := by
  match xs, h with
  | [x, y, z, u, t, w], h => exact ⟨x, y, z, u, t, w, rfl, h⟩
  | [], h => exact h.elim
  | [_], h => exact h.elim
  | [_, _], h => exact h.elim
  | [_, _, _], h => exact h.elim
  | [_, _, _, _], h => exact h.elim
  | [_, _, _, _, _], h => exact h.elim
  | _ :: _ :: _ :: _ :: _ :: _ :: _ :: _, h => exact h.elim
theorem on6_len {xs : List V} {k : V → V → V → V → V → V → Prop} (h : on6 xs k) : xs.length = 6 := by
  obtain ⟨_, _, _, _, _, _, rfl, _⟩ := on6_ex h
  rfl
/-- all but one thing stays -/
def KpX (x : Addr) (H H' : Hp) : Prop := ∀ b o, b ≠ x → H b = some o → H' b = some o
theorem KpX.refl (x : Addr) (H : Hp) : KpX x H H := fun _ _ _ h => h
theorem KpX.trans {x : Addr} {H H1 H2 : Hp} (a : KpX x H H1) (b : KpX x H1 H2) : KpX x H H2 := fun c o n h => b c o n (a c o n h)
theorem KpX.of {x : Addr} {H H' : Hp} (e : Same H H') : KpX x H H' := fun b o _ h => e b o h
theorem KpX.upd {x : Addr} {H : Hp} {o : HO} : KpX x H (upd H x o) := fun b u n h => by rw [upd_ne n]; exact h
theorem KpX.T {K : PySem.W.Frag} {x l C dx : Addr} {fs : List (Str × V)} {H H' : Hp} {xs : List V} (k : KpX x H H') (hx : H x = some (.ins C dx fs)) (h : SqT K H l xs) : SqT K H' l xs := by
  rcases h with (h | ⟨ob, h⟩) | h
  · exact .inl (.inl (k _ _ (ne_of h hx (fun z => by cases z)) h))
  · exact .inl (.inr ⟨ob, k _ _ (ne_of h hx (fun z => by cases z)) h⟩)
  · exact .inr h
/-- a list is changed: the tuples stay -/
theorem setL_T {K : PySem.W.Frag} {H : Hp} {l b : Addr} {xs zs ys : List V} (hl : H l = some (.lst xs)) (h : SqT K H b ys) : SqT K (upd H l (.lst zs)) b ys := by
  rcases h with (hb | ⟨ob, hb⟩) | hb
  · exact .inl (.inl (by rw [upd_ne (ne_of hb hl (fun z => by cases z))]; exact hb))
  · exact .inl (.inr ⟨ob, by rw [upd_ne (ne_of hb hl (fun z => by cases z))]; exact hb⟩)
  · exact .inr hb
theorem newO {H1 H4 : Hp} {D : Addr} {o : HO} (hn : H1 D = none) (e : Same H1 H4) : Same H1 (upd H4 D o) := fun b o h => by
  rw [upd_ne (ne_of_none h hn)]
  exact e _ _ h
end Sp
namespace Sp
open PySem PySem.Spec PyProof.Rows L2
abbrev PK := List Nat × Option Bool
def uV : Option Bool → V
  | none => .non
  | some b => .bl b
def uK : Option Bool → NestedKey
  | none => .none
  | some b => .num (if b = true then 1 else 0)
def nk (p : PK) : NestedKey := .tup [.tup (p.1.map fun i : Nat => NestedKey.num (i : Int)), uK p.2]
theorem nums_inj : ∀ {a b : List Nat}, (a.map fun i : Nat => NestedKey.num (i : Int)) = (b.map fun i : Nat => NestedKey.num (i : Int)) → a = b
  | [], [], _ => rfl
  | [], _ :: _, h => by cases h
  | _ :: _, [], h => by cases h
  | x :: a, y :: b, h => by
    rw [List.map_cons, List.map_cons] at h
    injection h with h1 h2
    injection h1 with h1
    rw [nums_inj h2, show x = y by omega]
theorem nk_inj {p q : PK} (h : nk p = nk q) : p = q := by
  obtain ⟨a, u⟩ := p
  obtain ⟨b, v⟩ := q
  unfold nk at h
  injection h with h
  injection h with h1 h2
  injection h1 with h1
  injection h2 with h2 _
  have e1 := nums_inj h1
  have e1 : a = b := e1
  have h2 : uK u = uK v := h2
  have e2 : u = v := by
    cases u with
    | none =>
      cases v with
      | none => rfl
      | some y => unfold uK at h2; cases h2
    | some x =>
      cases v with
      | none => unfold uK at h2; cases h2
      | some y =>
        unfold uK at h2
        injection h2 with h2
        cases x <;> cases y <;> first | rfl | (simp at h2)
  rw [e1, e2]
def uH : Option Bool → Int
  | none => reduceHash 0xFCA86420
  | some b => hashInt (if b = true then 1 else 0)
def pkH (p : PK) : Int := reduceHash (Builtin.Tuple.tupleHashOf [reduceHash (Builtin.Tuple.tupleHashOf (p.1.map fun i : Nat => hashInt (i : Int))), uH p.2])
theorem nums_hash (w : World) : ∀ a : List Nat, NestedKey.hashes w (a.map fun i : Nat => NestedKey.num (i : Int)) = a.map fun i : Nat => hashInt (i : Int)
  | [] => by simp [NestedKey.hashes]
  | x :: a => by
    rw [List.map_cons, List.map_cons, NestedKey.hashes, NestedKey.hash, nums_hash w a]
theorem uK_hash (w : World) (u : Option Bool) : (uK u).hash w = uH u := by
  cases u <;> simp [uK, uH, NestedKey.hash]
theorem nk_hash (w : World) (p : PK) : (nk p).hash w = pkH p := by
  unfold nk pkH
  rw [NestedKey.hash, NestedKey.hashes, NestedKey.hashes, NestedKey.hashes, NestedKey.hash, nums_hash, uK_hash]
theorem nums_depth : ∀ a : List Nat, NestedKey.depthAll (a.map fun i : Nat => NestedKey.num (i : Int)) = 0
  | [] => by simp [NestedKey.depthAll]
  | x :: a => by
    rw [List.map_cons, NestedKey.depthAll, nums_depth a, NestedKey.depth]
    rfl
theorem nk_depth (p : PK) : (nk p).depth ≤ 8 := by
  unfold nk
  rw [NestedKey.depth, NestedKey.depthAll, NestedKey.depthAll, NestedKey.depthAll, NestedKey.depth, nums_depth]
  have : (uK p.2).depth = 0 := by cases p.2 <;> simp [uK, NestedKey.depth]
  rw [this]
  decide
/-- the key at a -/
def KeyAt (K : PySem.W.Frag) (H : Hp) (p : PK) (a : Addr) : Prop := ∃ b, SqT K H a [.ref b, uV p.2] ∧ SqT K H b (p.1.map fun i : Nat => V.int (i : Int))
/-- tuples stay -/
def TK (K : PySem.W.Frag) (H H' : Hp) : Prop := ∀ l xs, SqT K H l xs → SqT K H' l xs
theorem TK.refl {K : PySem.W.Frag} {H : Hp} : TK K H H := fun _ _ h => h
theorem TK.trans {K : PySem.W.Frag} {H H1 H2 : Hp} (a : TK K H H1) (b : TK K H1 H2) : TK K H H2 := fun l xs h => b l xs (a l xs h)
theorem TK.of {K : PySem.W.Frag} {H H' : Hp} (e : Same H H') : TK K H H' := fun _ _ h => sameT e h
theorem TK.lst {K : PySem.W.Frag} {H : Hp} {l : Addr} {xs zs : List V} (hl : H l = some (.lst xs)) : TK K H (upd H l (.lst zs)) := fun _ _ h => setL_T hl h
theorem KeyAt.tk {K : PySem.W.Frag} {H H' : Hp} {p : PK} {a : Addr} (e : TK K H H') (h : KeyAt K H p a) : KeyAt K H' p a := by
  obtain ⟨b, h1, h2⟩ := h
  exact ⟨b, e _ _ h1, e _ _ h2⟩
theorem nums_is {h : Heap} : ∀ {a : List Nat} {us : List Value}, Vals (a.map fun i : Nat => V.int (i : Int)) us → NestedAll h (a.map fun i : Nat => NestedKey.num (i : Int)) us
  | [], _, .nil => .nil
  | x :: a, _, .cons r t => by
    obtain ⟨tk, rfl⟩ := (show ∃ t, _ = Value.int (x : Int) t from r)
    exact .cons (.int _ tk) (nums_is t)
theorem uK_is {h : Heap} {u : Option Bool} {v : Value} (r : RelV (uV u) v) : NestedIs h (uK u) v := by
  cases u with
  | none =>
    cases (show v = Value.none from r)
    exact .none
  | some b =>
    cases (show v = Value.bool b from r)
    exact .bool rfl
theorem keyAt_is {X : Cx} {pins : List (Addr × Obj)} {σ : L2.St} {H : Hp} {s : Shared} {p : PK} {a : Addr} (I : L2.Inv X pins σ H s) (h : KeyAt X.K H p a) : (nestedKind X.prog X.w).is s.heap (nk p) a := by
  obtain ⟨b, h1, h2⟩ := h
  obtain ⟨its, rv, ⟨o, e1, e2, n, e3⟩, hz⟩ := I.tuple h1
  obtain ⟨its2, rv2, ⟨o2, f1, f2, n2, f3⟩, hz2⟩ := I.tuple h2
  refine ⟨?_, nk_depth p⟩
  refine NestedIs.tup e1 e2 e3 ?_
  cases rv with
  | cons r t =>
    cases t with
    | cons r2 t2 =>
      cases t2
      rw [show _ = Value.ref b from r]
      exact .cons (NestedIs.tup f1 f2 f3 (nums_is rv2)) (.cons (uK_is r2) .nil)
def pdE (x : PK × Addr × Addr) : DictEntry := ⟨pkH x.1, .ref x.2.1, .ref x.2.2⟩
/-- the dict at d: its epoch, its entries -/
def PD (d : Addr) (ep : Nat) (xs : List (PK × Addr × Addr)) : HO := .ext fun h => ∃ o es, h.get? d = some o ∧ o.ExactDict ∧ o.data = .dict es ep ∧ es.toList = xs.map pdE ∧ (xs.map (·.1)).Nodup
/-- a dict with these keys and things -/
def PDict (K : PySem.W.Frag) (H : Hp) (d : Addr) (xs : List (PK × Addr × Addr)) : Prop := (∃ ep, H d = some (PD d ep xs)) ∧ (∀ x ∈ xs, KeyAt K H x.1 x.2.1) ∧ xs.length ≤ sizeLine ∧ (d == sysModules) = false
theorem PDict.to {K : PySem.W.Frag} {H H' : Hp} {d : Addr} {xs : List (PK × Addr × Addr)} (e : H' d = H d) (t : TK K H H') (h : PDict K H d xs) : PDict K H' d xs := by
  obtain ⟨⟨ep, h1⟩, h2, h3⟩ := h
  exact ⟨⟨ep, e.trans h1⟩, fun x hx => (h2 x hx).tk t, h3⟩
theorem PDict.same {K : PySem.W.Frag} {H H' : Hp} {d : Addr} {xs : List (PK × Addr × Addr)} (e : Same H H') (h : PDict K H d xs) : PDict K H' d xs := by
  obtain ⟨⟨ep, h1⟩, h2⟩ := id h
  exact h.to ((e _ _ h1).trans h1.symm) (TK.of e)
def upK (xs : List (PK × Addr × Addr)) : List (NestedKey × Addr × Value) := xs.map fun x => (nk x.1, x.2.1, .ref x.2.2)
theorem upK_keys (xs : List (PK × Addr × Addr)) : (upK xs).map (·.1) = (xs.map (·.1)).map nk := by
  unfold upK
  rw [List.map_map, List.map_map]
  rfl
theorem upK_ent (w : World) {prog : Program} (xs : List (PK × Addr × Addr)) : (upK xs).map (entryOfKey (nestedKind prog w)) = xs.map pdE := by
  unfold upK
  rw [List.map_map]
  refine List.map_congr_left fun x _ => ?_
  show (⟨(nk x.1).hash w, _, _⟩ : DictEntry) = ⟨pkH x.1, _, _⟩
  rw [nk_hash]
section
variable {X : Cx} {pins : List (Addr × Obj)} {σ : L2.St} {H : Hp} {s : Shared} {d : Addr} {ep : Nat} {xs : List (PK × Addr × Addr)}
theorem pd_at (I : L2.Inv X pins σ H s) (h : H d = some (PD d ep xs)) (hk : ∀ x ∈ xs, KeyAt X.K H x.1 x.2.1) : s.heap.DictOfH (nestedKind X.prog X.w) d (upK xs) := by
  obtain ⟨⟨o, es, h1, h2, h3, h4, h5⟩, _⟩ := (show ObjOk X.prog X.w H s.heap d (PD d ep xs) from I.hok d _ h)
  refine ⟨o, es, ep, h1, h2, h3, ?_, fun x hx => ?_, ?_⟩
  · rw [h4, upK_ent]
  · obtain ⟨y, hy, rfl⟩ := List.mem_map.mp hx
    exact keyAt_is I (hk y hy)
  · rw [upK_keys]
    exact List.Pairwise.map _ (fun a b z e => z (nk_inj e)) h5
theorem pd_ok {P : Program} {w : World} {H : Hp} {h : Heap} (x : h.DictOfH (nestedKind P w) d (upK xs)) : ∃ ep, ObjOk P w H h d (PD d ep xs) := by
  obtain ⟨o, es, ep, h1, h2, h3, h4, _, h5⟩ := x
  refine ⟨ep, ⟨o, es, h1, h2, h3, ?_, ?_⟩, ⟨o, h1⟩, ?_⟩
  · rw [h4, upK_ent]
  · rw [upK_keys] at h5
    exact (List.pairwise_map.mp h5).imp fun z e => z (congrArg nk e)
  · rintro ha hb ⟨o, es, h1, h2⟩ k
    exact ⟨o, es, k o h1, h2⟩
end
def valP (xs : List (PK × Addr × Addr)) (p : PK) : Option Addr := (xs.find? fun x => decide (x.1 = p)).map (·.2.2)
def putP (xs : List (PK × Addr × Addr)) (p : PK) (a v : Addr) : List (PK × Addr × Addr) :=
  if p ∈ xs.map (·.1) then xs.map (fun x => if x.1 = p then (x.1, x.2.1, v) else x) else xs ++ [(p, a, v)]
theorem upK_at (xs : List (PK × Addr × Addr)) (p : PK) : (atKey (upK xs) (nk p)).map (·.2) = (valP xs p).map Value.ref := by
  unfold atKey valP upK
  induction xs with
  | nil => rfl
  | cons x r ih =>
    rw [List.map_cons, List.find?_cons, List.find?_cons]
    by_cases h : x.1 = p
    · have h2 : nk x.1 = nk p := congrArg nk h
      simp [h, h2]
    · have h2 : ¬ nk x.1 = nk p := fun z => h (nk_inj z)
      simp only [decide_eq_false h, decide_eq_false h2]
      exact ih
theorem upK_some (xs : List (PK × Addr × Addr)) (p : PK) : (atKey (upK xs) (nk p)).isSome = decide (p ∈ xs.map (·.1)) := by
  rw [Bool.eq_iff_iff, atKey_iff, upK_keys, decide_eq_true_iff]
  constructor
  · intro h
    obtain ⟨q, hq, e⟩ := List.mem_map.mp h
    rw [← nk_inj e]
    exact hq
  · exact fun h => List.mem_map.mpr ⟨p, h, rfl⟩
theorem upK_put (xs : List (PK × Addr × Addr)) (p : PK) (a v : Addr) : storedH (upK xs) (nk p) a (.ref v) = upK (putP xs p a v) := by
  unfold storedH putP
  rw [upK_some]
  by_cases h : p ∈ xs.map (·.1)
  · rw [if_pos (decide_eq_true h), if_pos h]
    unfold upK
    rw [List.map_map, List.map_map]
    refine List.map_congr_left fun x _ => ?_
    show putAt (nk p) (Value.ref v) (nk x.1, x.2.1, Value.ref x.2.2) = _
    unfold putAt
    by_cases e : x.1 = p
    · have e2 : nk x.1 = nk p := congrArg nk e
      simp [e, e2]
    · have e2 : ¬ nk x.1 = nk p := fun z => e (nk_inj z)
      simp [e, e2]
  · rw [if_neg (by rw [decide_eq_false h]; exact Bool.false_ne_true), if_neg h]
    unfold upK
    rw [List.map_append]
    rfl
theorem putP_len {xs : List (PK × Addr × Addr)} {p : PK} {a v : Addr} : (putP xs p a v).length ≤ xs.length + 1 := by
  unfold putP
  split
  · rw [List.length_map]; omega
  · rw [List.length_append]; exact Nat.le_refl _
theorem putP_mem {xs : List (PK × Addr × Addr)} {p : PK} {a v : Addr} {x : PK × Addr × Addr} (h : x ∈ putP xs p a v) : (∃ y ∈ xs, x.1 = y.1 ∧ x.2.1 = y.2.1) ∨ (x.1 = p ∧ x.2.1 = a) := by
  unfold putP at h
  split at h
  · obtain ⟨y, hy, rfl⟩ := List.mem_map.mp h
    refine .inl ⟨y, hy, ?_⟩
    split <;> exact ⟨rfl, rfl⟩
  · rcases List.mem_append.mp h with h | h
    · exact .inl ⟨x, h, rfl, rfl⟩
    · rw [List.mem_singleton.mp h]
      exact .inr ⟨rfl, rfl⟩
/-- k in d, k not in d -/
def fInP (K : PySem.W.Frag) (neg : Bool) : R2 := fun x y H Q => onRef x fun a => onRef y fun d => ∃ p xs, KeyAt K H p a ∧ PDict K H d xs ∧ Q (.bl (neg != decide (p ∈ xs.map (·.1)))) H
def fGetP (K : PySem.W.Frag) : R2 := fun x y H Q => onRef x fun d => onRef y fun a => ∃ p xs v, KeyAt K H p a ∧ PDict K H d xs ∧ valP xs p = some v ∧ Q (.ref v) H
def fSetP (K : PySem.W.Frag) : V → V → V → Hp → (Hp → Prop) → Prop := fun o i v H Q => onRef o fun d => onRef i fun a => onRef v fun v => ∃ p xs, KeyAt K H p a ∧ PDict K H d xs ∧ xs.length < 100000 ∧ ∀ H', (∀ b u, b ≠ d → H b = some u → H' b = some u) → (∀ b, b ≠ d → H b = none → H' b = none) → TK K H H' → PDict K H' d (putP xs p a v) → Q H'
section
variable {X : Cx}
theorem room_nk {A : Around} (hu : A.units + 64 < cLine) {prog : Program} {w : World} : (nestedKind prog w).room A.in1 := by
  show A.units + 1 + 8 < cLine
  omega
theorem o_inP (hu : X.A.units + 64 < cLine) : OpR X (compareOp .In) (fInP X.K false) := by
  intro pins s σ H x y v u Q I rx ry hq
  obtain ⟨a, rfl, hq2⟩ := onRef_ex hq
  obtain ⟨d, rfl, p, xs, hk, ⟨⟨ep, h1⟩, h2, h4, h5⟩, q⟩ := onRef_ex hq2
  cases (show v = Value.ref a from rx)
  cases (show u = Value.ref d from ry)
  refine wpAny_in_heap (room_nk hu) (keyAt_is I hk) h5 (pd_at I h1 h2) ?_
  refine ⟨.bl _, H, I.tok _, rfl, ?_⟩
  rw [upK_some]
  simpa using q
theorem o_notInP (hu : X.A.units + 64 < cLine) : OpR X (compareOp .NotIn) (fInP X.K true) := by
  intro pins s σ H x y v u Q I rx ry hq
  obtain ⟨a, rfl, hq2⟩ := onRef_ex hq
  obtain ⟨d, rfl, p, xs, hk, ⟨⟨ep, h1⟩, h2, h4, h5⟩, q⟩ := onRef_ex hq2
  cases (show v = Value.ref a from rx)
  cases (show u = Value.ref d from ry)
  refine wpAny_notIn_heap (room_nk hu) (keyAt_is I hk) h5 (pd_at I h1 h2) ?_
  refine ⟨.bl _, H, I.tok _, rfl, ?_⟩
  rw [upK_some]
  simpa using q
theorem x_pd (hu : X.A.units + 64 < cLine) : IxR X (fGetP X.K) := by
  intro value slice pins s σ H x y v u Q I rx ry hq hs
  obtain ⟨d, rfl, hq2⟩ := onRef_ex hq
  obtain ⟨a, rfl, p, xs, val, hk, ⟨⟨ep, h1⟩, h2, h4, h5⟩, hv, q⟩ := onRef_ex hq2
  cases (show v = Value.ref d from rx)
  cases (show u = Value.ref a from ry)
  have hm := pd_at I h1 h2
  have e := upK_at xs p
  rw [hv] at e
  obtain ⟨⟨b, z⟩, ez, rfl⟩ : ∃ z, atKey (upK xs) (nk p) = some z ∧ z.2 = Value.ref val := by
    cases z : atKey (upK xs) (nk p) with
    | none => rw [z] at e; cases e
    | some z' => rw [z] at e; exact ⟨z', rfl, by simpa using e⟩
  exact tail_any hm.typeIs slot_dict_getitem.lookup (wpAny_getItem_heap (room_nk hu) (keyAt_is I hk) hm ez ⟨.ref val, H, I.tok _, rfl, q⟩) hs
theorem s_pd (hu : X.A.units + 64 < cLine) : PSet X (fSetP X.K) := by
  intro pins s σ H o i v uo ui uv Q I ro ri rv hq
  obtain ⟨d, rfl, hq2⟩ := onRef_ex hq
  obtain ⟨a, rfl, hq3⟩ := onRef_ex hq2
  obtain ⟨val, rfl, p, xs, hk, ⟨⟨ep, h1⟩, h2, h4, h5⟩, hl, q⟩ := onRef_ex hq3
  cases (show uo = Value.ref d from ro)
  cases (show ui = Value.ref a from ri)
  cases (show uv = Value.ref val from rv)
  refine wpAny_setItem_heap (room_nk hu) (keyAt_is I hk) (pd_at I h1 h2) (fun h' hd hs => ?_) (by unfold upK; rw [List.length_map]; exact h4)
  rw [upK_put] at hd
  have he : ∃ q, h'.get? d = some q := let ⟨q, _, _, hq, _⟩ := hd; ⟨q, hq⟩
  obtain ⟨ep', hok⟩ := pd_ok (H := H) hd
  have nd : ∀ {ob : HO}, TK X.K H (upd H d ob) := fun {ob} b ys hb => by
    rcases hb with (hb | ⟨o2, hb⟩) | hb
    · exact .inl (.inl (by rw [upd_ne (ne_of hb h1 (fun z => by cases z))]; exact hb))
    · exact .inl (.inr ⟨o2, by rw [upd_ne (ne_of hb h1 (fun z => by cases z))]; exact hb⟩)
    · exact .inr hb
  obtain ⟨ep', hok⟩ := pd_ok (H := upd H d (PD d ep' (putP xs p a val))) hd
  obtain ⟨ep2, hok⟩ : ∃ ep2, ObjOk X.prog X.w (upd H d (PD d ep2 (putP xs p a val))) h' d (PD d ep2 (putP xs p a val)) := by
    obtain ⟨o, es, ep, h1, h2, h3, h4, _, h5⟩ := hd
    refine ⟨ep, ⟨o, es, h1, h2, h3, ?_, ?_⟩, ⟨o, h1⟩, ?_⟩
    · rw [h4, upK_ent]
    · rw [upK_keys] at h5
      exact (List.pairwise_map.mp h5).imp fun z e => z (congrArg nk e)
    · rintro ha hb ⟨o, es, h1, h2⟩ k
      exact ⟨o, es, k o h1, h2⟩
  have I2 : L2.Inv X pins σ (upd H d (PD d ep2 (putP xs p a val))) { s with heap := h', toks := s.toks + (nestedKind X.prog X.w).draws (nk p) } := d_write I (by rw [h1]; exact True.intro) hs he hok
  refine ⟨_, I2, q _ (fun b u hb hbu => by rw [upd_ne hb]; exact hbu) (fun b hb hbu => by rw [upd_ne hb]; exact hbu) nd ⟨⟨ep2, upd_same⟩, fun x hx => ?_, ?_, h5⟩⟩
  · rcases putP_mem hx with ⟨y, hy, e1, e2⟩ | ⟨e1, e2⟩
    · rw [e1, e2]
      exact (h2 y hy).tk nd
    · rw [e1, e2]
      exact hk.tk nd
  · have := putP_len (xs := xs) (p := p) (a := a) (v := val)
    rw [sizeLine_eq]
    omega
/-- {} to be such a dict -/
def tNewP (K : PySem.W.Frag) : TE := fun _ H Q => ∀ d, H d = none → ∀ H', Same H H' → PDict K H' d [] → (∀ b, b ≠ d → H b = none → H' b = none) → Q (.ref d) H'
theorem e_newP {pos : Pos} : PE X (.Dict [] [] pos) (tNewP X.K) := ⟨fun pins s σ H Q I h => by
  have hn := I.hok.fresh (Nat.le_refl s.heap.objs.size)
  have big := I.big
  refine wpAny_Dict_empty ⟨.ref s.heap.objs.size, upd H s.heap.objs.size (PD s.heap.objs.size 0 []), I.laid (a := s.heap.objs.size) (o := PD s.heap.objs.size 0 []) (t' := s.toks) (fun _ _ q => Heap.get?_push_of_some _ q) (Nat.le_refl _) ?_, rfl, h _ hn _ (Same.upd hn) ⟨⟨0, upd_same⟩, fun x hx => (by cases hx), Nat.zero_le _, ?_⟩ (fun b hb hbu => by rw [upd_ne hb]; exact hbu)⟩
  · refine ⟨⟨_, #[], Heap.get?_push_size _ rfl, ⟨rfl, rfl, rfl⟩, rfl, rfl, List.nodup_nil⟩, ⟨_, Heap.get?_push_size _ rfl⟩, ?_⟩
    rintro ha hb ⟨o, es, h1, h2⟩ k
    exact ⟨o, es, k o h1, h2⟩
  · exact beq_eq_false_iff_ne.mpr (Nat.ne_of_gt big)⟩
/-- {k: v} -/
def tDispP (K : PySem.W.Frag) (tk tv : TE) : TE := fun σ H Q => ∀ d, H d = none → tk σ (upd H d (.dK [])) fun x H1 => tv σ H1 fun y H2 => onRef x fun a => onRef y fun v => H2 d = some (.dK []) ∧ ∃ p, KeyAt K H2 p a ∧
  ∀ H', (∀ b u, b ≠ d → H2 b = some u → H' b = some u) → (∀ b, b ≠ d → H2 b = none → H' b = none) → TK K H2 H' → PDict K H' d [(p, a, v)] → Q (.ref d) H'
theorem e_dispP {k v : Expr} {tk tv : TE} {pos : Pos} (hk : PE X k tk) (hv : PE X v tv) (hu : X.A.units + 64 < cLine) : PE X (.Dict [some k] [v] pos) (tDispP X.K tk tv) := by
  refine ⟨fun pins s σ H Q I q => ?_⟩
  have hn := I.hok.fresh (Nat.le_refl s.heap.objs.size)
  have I1 := I.laid (a := s.heap.objs.size) (o := .dK []) (h' := s.heap.push { cls := .type "dict", data := .dict #[] }) (t' := s.toks) (fun _ _ q => Heap.get?_push_of_some _ q) (Nat.le_refl _) (dk_empty s.heap I.big)
  have hshape := zip_pairTrees [some k] [v] X.env pos rfl rfl
  have hlen := pairTrees_length [some k] [v] X.env pos rfl rfl
  have h0 : pairTrees [some k] [v] X.env pos ≠ [] := fun z => by rw [z] at hlen; cases hlen
  have hlen2 : (pairTrees [some k] [v] X.env pos).length = 1 := hlen
  rw [arm_eval_Dict, hshape, dictDisplay_pairs _ h0 (by rw [hlen2]; decide)]
  refine wpAny_bind (wpAny_standAt (wpAny_bind (wpAny_subDictH (knd := nestedKind X.prog X.w) (Q := fun d s' => wpAny (model X.prog X.w) X.A (pure (Value.ref d)) (EP X pins σ Q) X.xe s') (show X.A.units + 8 < cLine by omega) (by rw [hlen2]; decide) ?_)))
  refine pairTrees_cons_walk (thn (hk.run pins _ σ _ _ I1 (q _ hn)) fun kv s1 ⟨x, H1, J1, rx, q1⟩ => thn (hv.run pins s1 σ H1 _ J1 q1) fun vv s2 ⟨y, H2, J2, ry, q2⟩ => pairTrees_nil_walk ?_)
  obtain ⟨a, ea, q2b⟩ := onRef_ex q2
  subst ea
  obtain ⟨val, ev, e, p, hkey, q3⟩ := onRef_ex (show onRef y _ from q2b)
  subst ev
  cases (show kv = Value.ref a from rx)
  cases (show vv = Value.ref val from ry)
  obtain ⟨z, hd0, vs0, r0, dd⟩ := dk_of J2.hok e
  cases r0
  refine ⟨[(nk p, a, .ref val)], ⟨rfl, rfl, keyAt_is J2 hkey, trivial⟩, ?_, fun h' tk' hd hs => wpAny_pure ?_⟩
  · obtain ⟨o, es, ep, h1, h2, h3, h4, h5, _⟩ := dd
    refine ⟨o, es, ep, h1, h2, h3, ?_, fun x hx => (by cases hx), List.nodup_nil⟩
    cases q : es.toList with
    | nil => rfl
    | cons a r =>
      rw [q] at h5
      first
        | exact h5.elim
        | cases h5
  · have he : ∃ q, h'.get? s.heap.objs.size = some q := let ⟨q, _, _, hq, _⟩ := hd; ⟨q, hq⟩
    have hd2 : h'.DictOfH (nestedKind X.prog X.w) s.heap.objs.size (upK [(p, a, val)]) := hd
    obtain ⟨ep2, hok⟩ : ∃ ep2, ObjOk X.prog X.w (upd H2 s.heap.objs.size (PD s.heap.objs.size ep2 [(p, a, val)])) h' s.heap.objs.size (PD s.heap.objs.size ep2 [(p, a, val)]) := by
      obtain ⟨o, es, ep, h1, h2, h3, h4, _, h5⟩ := hd2
      refine ⟨ep, ⟨o, es, h1, h2, h3, ?_, ?_⟩, ⟨o, h1⟩, ?_⟩
      · rw [h4, upK_ent]
      · rw [upK_keys] at h5
        exact (List.pairwise_map.mp h5).imp fun z e => z (congrArg nk e)
      · rintro ha hb ⟨o, es, h1, h2⟩ k
        exact ⟨o, es, k o h1, h2⟩
    have nd : ∀ {ob : HO}, TK X.K H2 (upd H2 s.heap.objs.size ob) := fun {ob} b ys hb => by
      rcases hb with (hb | ⟨o2, hb⟩) | hb
      · exact .inl (.inl (by rw [upd_ne (ne_of hb e (fun z => by cases z))]; exact hb))
      · exact .inl (.inr ⟨o2, by rw [upd_ne (ne_of hb e (fun z => by cases z))]; exact hb⟩)
      · exact .inr hb
    have I2 : L2.Inv X pins σ (upd H2 s.heap.objs.size (PD s.heap.objs.size ep2 [(p, a, val)])) { s2 with heap := h', toks := tk' } := d_write J2 (by rw [e]; exact True.intro) hs he hok
    refine ⟨.ref s.heap.objs.size, _, I2, rfl, q3 _ (fun b u hb hbu => by rw [upd_ne hb]; exact hbu) (fun b hb hbu => by rw [upd_ne hb]; exact hbu) nd ⟨⟨ep2, upd_same⟩, fun x hx => ?_, by show 1 ≤ sizeLine; decide, hd0⟩⟩
    rw [List.mem_singleton.mp hx]
    exact hkey.tk nd
end
/-! ### walks over such a dict -/
def ItP (d : Addr) (ep : Nat) (xs : List (PK × Addr × Addr)) : It :=
  ⟨fun i H => (H d = some (PD d ep xs) ∧ (d == sysModules) = false) ∧ i < xs.length, fun i H x H' => H' = H ∧ ∃ e, xs[i]? = some e ∧ x = .ref e.2.1, fun i H => (H d = some (PD d ep xs) ∧ (d == sysModules) = false) ∧ xs.length ≤ i⟩
theorem pd_raw {X : Cx} {pins : List (Addr × Obj)} {σ : L2.St} {H : Hp} {s : Shared} {d : Addr} {ep : Nat} {xs : List (PK × Addr × Addr)} (I : L2.Inv X pins σ H s) (h : H d = some (PD d ep xs)) :
    ∃ o es, s.heap.get? d = some o ∧ o.ExactDict ∧ o.data = .dict es ep ∧ es.size = xs.length ∧ ∀ (i : Nat) (e : PK × Addr × Addr), xs[i]? = some e → es[i]? = some (pdE e) := by
  obtain ⟨⟨o, es, h1, h2, h3, h4, h5⟩, _⟩ := (show ObjOk X.prog X.w H s.heap d (PD d ep xs) from I.hok d _ h)
  refine ⟨o, es, h1, h2, h3, ?_, fun i e he => ?_⟩
  · rw [← Array.length_toList, h4, List.length_map]
  · rw [← Array.getElem?_toList, h4, List.getElem?_map, he]
    rfl
theorem turn_pd {P : Program} {w : World} {K : PySem.W.Frag} {tg : Expr} {d : Addr} {ep : Nat} {xs : List (PK × Addr × Addr)} (it : Addr) : Turn P w K tg (ItP d ep xs) [it] it (fun i h => h.IsKeyIter it d i xs.length ep) where
  mem := by simp
  obj := fun i h st b hb => by
    have e : b = it := by simpa using hb
    subst e
    obtain ⟨oi, e, c, dd⟩ := st
    exact ⟨oi, e, fun v z => by rw [dd] at z; cases z⟩
  keep := fun i h h' st k => st.at fun oi e => k it (by simp) oi e
  item := by
    intro X hP hw hK hc i pins s σ H E I hf st hg
    subst hP hw hK
    obtain ⟨⟨hd, hs⟩, hi⟩ := hg
    obtain ⟨f0, f1, f2, f3, f4, f5⟩ := hf it (by simp)
    obtain ⟨o, es, hgd, hx, hdt, hsz, ent⟩ := pd_raw I hd
    have hkv : xs[i]? = some xs[i] := List.getElem?_eq_getElem hi
    have hen := ent i _ hkv
    refine next_key_item st hgd hdt hsz hen fun h' st' sb => ?_
    have I1 : L2.Inv X pins σ H { s with heap := h' } := I.turned (t' := s.toks) (fun b ob hb e => (sb.2 b hb).trans e) f0 f1 f3 f4 f5
    obtain ⟨oi, e, c, dd⟩ := id st'
    exact ⟨_, rfl, go_of (s := { s with heap := h' }) e c dd (by decide) ⟨.ref xs[i].2.1, H, I1, rfl, ⟨rfl, _, hkv, rfl⟩, st', fun b hb => (hf b hb).1⟩⟩
  done := by
    intro X hP hw hK hc i pins s σ H E I hf st hg
    subst hP hw hK
    obtain ⟨⟨hd, hs⟩, hi⟩ := hg
    obtain ⟨f0, f1, f2, f3, f4, f5⟩ := hf it (by simp)
    obtain ⟨o, es, hgd, hx, hdt, hsz, ent⟩ := pd_raw I hd
    exact next_key_end (I.ok.hd hc) st hgd hdt hsz hi fun h' eb => ⟨rfl, I.turned (t' := s.toks) (fun b ob hb e => eb b ob hb e) f0 f1 f3 f4 f5⟩
  self := fun A i s Q E st h => wpAny_pyIter_keyiter st h
def iPD (K : PySem.W.Frag) (td : TE) : TI := fun σ H R => td σ H fun x H1 => onRef x fun d => ∃ ep xs, (H1 d = some (PD d ep xs) ∧ (d == sysModules) = false) ∧ R (ItP d ep xs) H1
theorem pi_pd {X : Cx} {tg e : Expr} {td : TE} (he : PE X e td) : PI X tg e (iPD X.K td) := by
  refine ⟨fun pins s σ H R I h => ?_⟩
  refine thn (he.run pins s σ H _ I h) fun u s1 ⟨x, H1, I1, rx, q⟩ => ?_
  obtain ⟨d, rfl, ep, xs, ⟨hd, hs⟩, q⟩ := onRef_ex q
  obtain rfl : u = Value.ref d := rx
  obtain ⟨o, es, hgd, hx, hdt, hsz, ent⟩ := pd_raw I1 hd
  refine iter_keys hs hgd hx hdt (pi_one (tk := s1.toks) I1 _ (turn_pd _) ⟨_, Heap.get?_push_size _ rfl, rfl, ?_⟩ q)
  rw [hsz] <;> rfl
theorem for_pd {d : Addr} {ep : Nat} {xs : List (PK × Addr × Addr)} {g : TG} {tb : TS} {D : Ends} {σ : L2.St} {H : Hp} (Pv : Nat → L2.St → Hp → Prop) (h0 : Pv 0 σ H) (hl : ∀ i σ H, i ≤ xs.length → Pv i σ H → H d = some (PD d ep xs) ∧ (d == sysModules) = false)
    (hs : ∀ i e σ H, xs[i]? = some e → Pv i σ H → g (.ref e.2.1) σ H fun σ2 H2 => tb { D with nx := Pv (i + 1), ct := Pv (i + 1), bk := D.nx } σ2 H2) (hd : ∀ σ H, Pv xs.length σ H → D.nx σ H) :
    ∃ W : Nat → Nat → L2.St → Hp → Prop, (∃ m, W 0 m σ H) ∧ ∀ i m σ H, W i m σ H →
      ((ItP d ep xs).stop i H ∧ D.nx σ H) ∨ ((ItP d ep xs).go i H ∧ ∃ N : L2.St → Hp → Prop, (∀ σ' H', N σ' H' → ∃ m', m' < m ∧ W (i + 1) m' σ' H') ∧ ∀ x H', (ItP d ep xs).yld i H x H' → g x σ H' fun σ2 H2 => tb { D with nx := N, ct := N, bk := D.nx } σ2 H2) := by
  refine ⟨fun i m σ H => m = xs.length - i ∧ i ≤ xs.length ∧ Pv i σ H, ⟨xs.length, by simp, Nat.zero_le _, h0⟩, ?_⟩
  rintro i m σ H ⟨rfl, hi, p⟩
  have q := hl i σ H hi p
  by_cases hlt : i < xs.length
  · refine .inr ⟨⟨q, hlt⟩, Pv (i + 1), fun σ' H' p' => ⟨xs.length - (i + 1), by omega, rfl, hlt, p'⟩, fun x H' y => ?_⟩
    obtain ⟨e, e', hy, rfl⟩ := y
    subst e
    exact hs i e' σ _ hy p
  · have e : i = xs.length := by omega
    subst e
    exact .inl ⟨⟨q, Nat.le_refl _⟩, hd σ H p⟩
end Sp
namespace Sp
open PySem PySem.Spec PyProof.Rows L2
section
variable {prog : Program} {w : World} {A : Around} {R : Result → Shared → Prop} {I : Addr} {fp wr : List Addr} {n : Nat} {P : Nat → Value → Prop} {St : Nat → Heap → Prop}
def lessV (val : Nat → Int) (i j : Nat) : Bool := decide (val i < val j)
theorem minK_loop (W : Walks prog w A.in1 I fp wr n P St) (val : Nat → Int) (S : Addr) (hSf : S ∉ fp) (Ok : Heap → Prop) (hok : ∀ h h', Ok h → (∀ b o, b ∉ wr → b ≠ S → h.get? b = some o → h'.get? b = some o) → Ok h')
    (hkey : ∀ i v (s : Shared) (Q : Value → Shared → Prop) (E : Value → Shared → Prop), P i v → Ok s.heap → (∀ t tk, Q (.int (val i) t) { s with toks := tk }) → wpAny (model prog w) A.in1 (call (.builtin "len") [v]) Q E s) :
    ∀ (k j : Nat) (s : Shared) (vb : Value) (tb : Tok) (c : Nat), n - (j + 1) = k → j + 1 ≤ n → St (j + 1) s.heap → Ok s.heap → P (argBest (lessV val) j) vb →
    s.heap.get? S = some { cls := .type "list", dict := none, data := .seq #[vb, .int (val (argBest (lessV val) j)) tb] c, slots := #[] } →
    (∀ v h' tk, P (argBest (lessV val) (n - 1)) v → (∀ b o, b ∉ wr → b ≠ S → s.heap.get? b = some o → h'.get? b = some o) → R (.ok (.ret v)) { s with heap := h', toks := tk }) →
    codeAny (model prog w) A (.builtin "min.loop" ⟨[.ref I, .builtin "len", .ref S], []⟩) R s := by
  have hSw : S ∉ wr := fun h => hSf (W.sub _ h)
  have hname : (toString "min" ++ toString ".loop" : String) = "min.loop" := by decide
  have hcmp := CmpOf.ints_lt (prog := prog) (w := w) (A := A.in1) (P := fun i v => ∃ t, v = .int (val i) t) val (fun _ _ h => h)
  intro k
  induction k with
  | zero =>
    intro j s vb tb c hk hj hst hO hPb hS hR
    have hin : j + 1 = n := by omega
    refine codeAny_builtin F.entry_min_loop ?_
    rw [Around.under_plainId F.plain_min_loop _]
    show wpAny _ A.in1 (seqItems? (.ref S) >>= _) _ _ s
    refine wpAny_bind (wpAny_seqItems hS rfl ?_)
    show wpAny _ A.in1 (tryCatch (pyNext (.ref I)) _ >>= _) _ _ s
    refine wpAny_bind (wpAny_tryCatch (W.done s _ _ (hin ▸ hst) fun h' tk hk' => ?_))
    have hS' := hk' S _ hSw hS
    show wpAny _ A.in1 (updateSeq S (fun _ => #[]) >>= _) _ _ _
    refine wpAny_bind ?_
    refine wpAny_updateSeq hS' rfl (wpAny_bind (wpAny_letGo (wpAny_pure ?_)))
    refine hR vb _ tk (by rw [← hin]; exact hPb) fun b o hbw hbS e => (Heap.get?_update_other _ _ (Ne.symm hbS)).trans (hk' b o hbw e)
  | succ k ih =>
    intro j s vb tb c hk hj hst hO hPb hS hR
    have hlt : j + 1 < n := by omega
    refine codeAny_builtin F.entry_min_loop ?_
    rw [Around.under_plainId F.plain_min_loop _]
    show wpAny _ A.in1 (seqItems? (.ref S) >>= _) _ _ s
    refine wpAny_bind (wpAny_seqItems hS rfl ?_)
    show wpAny _ A.in1 (tryCatch (pyNext (.ref I)) _ >>= _) _ _ s
    refine wpAny_bind (wpAny_tryCatch (W.item (j + 1) s _ _ hlt hst fun v h' tk hP hst' hk' => ?_))
    have hS' := hk' S _ hSw hS
    have hO' : Ok h' := hok _ _ hO fun b o hb _ e => hk' b o hb e
    show wpAny _ A.in1 (tryCatch (holding [v] (call (.builtin "len") [v])) _ >>= _) _ _ _
    refine wpAny_bind (wpAny_tryCatch (wpAny_holding (hkey (j + 1) v _ _ _ hP hO' fun t tk2 => ?_)))
    show wpAny _ A.in1 (tryCatch (holding [v, .int (val (j + 1)) t] (richCompare .Lt (.int (val (j + 1)) t) (.int (val (argBest (lessV val) j)) tb) >>= _)) _ >>= _) _ _ _
    refine wpAny_bind (wpAny_tryCatch (wpAny_holding (wpAny_bind (hcmp (j + 1) (argBest (lessV val) j) _ _ _ _ _ ⟨t, rfl⟩ ⟨tb, rfl⟩ ?_))))
    refine wpAny_bind (wpAny_holding (wpAny_truthy_bool ?_))
    refine wpAny_bind (wpAny_letGo (wpAny_pure ?_))
    cases hb : lessV val (j + 1) (argBest (lessV val) j) with
    | true =>
      have hb2 : decide (val (j + 1) < val (argBest (lessV val) j)) = true := hb
      simp only [hb2, if_true]
      refine wpAny_bind ?_
      refine wpAny_updateSeq hS' rfl (wpAny_bind (wpAny_letGo ?_))
      rw [hname]
      refine wpAny_pure ⟨plainId_quiet F.plain_min_loop _, ih (j + 1) _ v t _ (by omega) hlt (W.frame _ _ _ hst' fun b hbf o e => ?_) (hok _ _ hO' fun b o hbw hbS e => (Heap.get?_update_other _ _ (Ne.symm hbS)).trans e) (by simp only [argBest, hb, if_true]; exact hP) (by simp only [argBest, hb, if_true]; exact Heap.get?_update_self _ hS' rfl)
        fun v' h'' tk'' hP' hk'' => ?_⟩
      · exact (Heap.get?_update_other _ _ (fun h : S = b => hSf (by rw [h]; exact hbf))).trans e
      · exact hR v' h'' tk'' hP' fun b o hbw hbS e => hk'' b o hbw hbS ((Heap.get?_update_other _ _ (Ne.symm hbS)).trans (hk' b o hbw e))
    | false =>
      have hb2 : decide (val (j + 1) < val (argBest (lessV val) j)) = false := hb
      simp only [hb2, Bool.false_eq_true, if_false]
      refine wpAny_bind (wpAny_letGo ?_)
      rw [hname]
      refine wpAny_pure ⟨plainId_quiet F.plain_min_loop _, ih (j + 1) _ vb tb c (by omega) hlt hst' hO' (by simp only [argBest, hb, Bool.false_eq_true, if_false]; exact hPb) (by simp only [argBest, hb, Bool.false_eq_true, if_false]; exact hS') fun v' h'' tk'' hP' hk'' => ?_⟩
      exact hR v' h'' tk'' hP' fun b o hbw hbS e => hk'' b o hbw hbS (hk' b o hbw e)
theorem minK_first (W : Walks prog w A.in1 I fp wr n P St) (val : Nat → Int) (S : Addr) (hSf : S ∉ fp) (Ok : Heap → Prop) (hok : ∀ h h', Ok h → (∀ b o, b ∉ wr → b ≠ S → h.get? b = some o → h'.get? b = some o) → Ok h')
    (hkey : ∀ i v (s : Shared) (Q : Value → Shared → Prop) (E : Value → Shared → Prop), P i v → Ok s.heap → (∀ t tk, Q (.int (val i) t) { s with toks := tk }) → wpAny (model prog w) A.in1 (call (.builtin "len") [v]) Q E s) (hn : 0 < n) {s : Shared} {c : Nat} (hst : St 0 s.heap) (hO : Ok s.heap)
    (hS : s.heap.get? S = some { cls := .type "list", dict := none, data := .seq #[] c, slots := #[] })
    (hR : ∀ v h' tk, P (argBest (lessV val) (n - 1)) v → (∀ b o, b ∉ wr → b ≠ S → s.heap.get? b = some o → h'.get? b = some o) → R (.ok (.ret v)) { s with heap := h', toks := tk }) :
    codeAny (model prog w) A (.builtin "min.loop" ⟨[.ref I, .builtin "len", .ref S], []⟩) R s := by
  have hSw : S ∉ wr := fun h => hSf (W.sub _ h)
  have hname : (toString "min" ++ toString ".loop" : String) = "min.loop" := by decide
  refine codeAny_builtin F.entry_min_loop ?_
  rw [Around.under_plainId F.plain_min_loop _]
  show wpAny _ A.in1 (seqItems? (.ref S) >>= _) _ _ s
  refine wpAny_bind (wpAny_seqItems hS rfl ?_)
  show wpAny _ A.in1 (tryCatch (pyNext (.ref I)) _ >>= _) _ _ s
  refine wpAny_bind (wpAny_tryCatch (W.item 0 s _ _ hn hst fun v h' tk hP hst' hk' => ?_))
  have hS' := hk' S _ hSw hS
  have hO' : Ok h' := hok _ _ hO fun b o hb _ e => hk' b o hb e
  show wpAny _ A.in1 (tryCatch (holding [v] (call (.builtin "len") [v])) _ >>= _) _ _ _
  refine wpAny_bind (wpAny_tryCatch (wpAny_holding (hkey 0 v _ _ _ hP hO' fun t tk2 => ?_)))
  show wpAny _ A.in1 (updateSeq S (fun _ => #[v, .int (val 0) t]) >>= _) _ _ _
  refine wpAny_bind ?_
  refine wpAny_updateSeq hS' rfl ?_
  rw [hname]
  refine wpAny_pure ⟨plainId_quiet F.plain_min_loop _, minK_loop W val S hSf Ok hok hkey _ 0 _ v t _ rfl hn (W.frame _ _ _ hst' fun b hbf o e => ?_) (hok _ _ hO' fun b o hbw hbS e => (Heap.get?_update_other _ _ (Ne.symm hbS)).trans e) hP (Heap.get?_update_self _ hS' rfl) fun v' h'' tk'' hP' hk'' => ?_⟩
  · exact (Heap.get?_update_other _ _ (fun h : S = b => hSf (by rw [h]; exact hbf))).trans e
  · exact hR v' h'' tk'' hP' fun b o hbw hbS e => hk'' b o hbw hbS ((Heap.get?_update_other _ _ (Ne.symm hbS)).trans (hk' b o hbw e))
end
/-! ### min(xs, key=len) of a list of tuples -/
theorem fn_treeK {prog : Program} {w : World} {A : Around} {E : Value → Shared → Prop} {s : Shared} {id : String} {b : Builtin} {args : List Value} {kw : List (Str × Value)} {Q : Value → Shared → Prop} (hk : builtinKind id = none) (hp : plainId id = true)
    (hb : entryFor table id = some b) (ha : argsOk id ⟨args, kw⟩)
    (hc : wpAny (model prog w) A.in1 (b ⟨args, kw⟩) (fun fin s' => match fin with
      | .done f => (match (Except.ok f : Result) with | .ok (.ret v) => Q v s' | .ok _ => False | .error e => E e s')
      | .again c' => c'.quiet = true ∧ codeAny (model prog w) A c' (fun r s' => match r with | .ok (.ret v) => Q v s' | .ok _ => False | .error e => E e s') s') E s) :
    wpAny (model prog w) A (call (.builtin id) args kw) Q E s := by
  refine wpAny_call (codeAny_call_builtin hp hb ?_)
  simp only [checkBuiltinCall, hk]
  cases hsig : Manifest.signature? id with
  | none => exact wpAny_pure hc
  | some sig =>
    simp only [argsOk, hsig] at ha
    have h2 : Bind.checkArgs id sig ⟨args, kw⟩ = pure () := ha
    show wpAny _ A.in1 (Bind.checkArgs id sig ⟨args, kw⟩) _ _ s
    rw [h2]; exact wpAny_pure hc
section
variable {X : Cx}
/-- the first of the shortest -/
def rMinLen (K : PySem.W.Frag) : List V → Hp → VK → Prop := fun xs H Q => on1 xs fun x => onRef x fun a => ∃ (as : List Addr) (ns : List Nat), SqL K H a (as.map V.ref) ∧ 0 < as.length ∧ as.length = ns.length ∧
  (∀ (i : Nat) (b : Addr) (n : Nat), as[i]? = some b → ns[i]? = some n → ∃ ys, SqT K H b ys ∧ ys.length = n) ∧ ∀ b, as[argBest (lessV fun i => ((ns.getD i 0 : Nat) : Int)) (as.length - 1)]? = some b → Q (.ref b) H
theorem minLen_ok {pins : List (Addr × Obj)} {s : Shared} {σ : L2.St} {H : Hp} {Q : VK} {a : Addr} (hc : X.calm = true) (I : L2.Inv X pins σ H s) (h : rMinLen X.K [.ref a] H Q) :
    wpAny (model X.prog X.w) X.A (call (.builtin "min") [.ref a] [(Str.ofString "key", .builtin "len")]) (EP X pins σ Q) X.xe s := by
  obtain ⟨as, ns, hl, h0, hn, ht, q⟩ := h
  obtain ⟨its, rv, pl, hz⟩ := I.list hl
  have hh : X.A.handled = none := I.ok.hd hc
  have hlist : s.heap.IsList a its.toArray := pl.isList
  obtain ⟨ol, hol, _⟩ := id hlist
  have hlen : its.length = as.length := by rw [← rv.length, List.length_map]
  have hat : ∀ (i : Nat) (v : Value), its.toArray[i]? = some v → ∃ b, as[i]? = some b ∧ v = .ref b := fun i v e => by
    have e2 : its[i]? = some v := by simpa using e
    have hi := (List.getElem?_eq_some_iff.mp e2).1
    have hb : as[i]? = some as[i] := List.getElem?_eq_getElem (by omega)
    obtain ⟨u, hu, ru⟩ := rv.get (show (as.map V.ref)[i]? = some (V.ref as[i]) by rw [List.getElem?_map, hb]; rfl)
    rw [e2] at hu
    cases hu
    exact ⟨_, hb, ru⟩
  have hname : (toString "min" ++ toString ".loop" : String) = "min.loop" := by decide
  refine fn_treeK F.kind_min F.plain_min F.entry_min (by unfold argsOk; kernel_rfl) ?_
  show wpAny _ X.A.in1 (Builtin.Builtins.bindParams "min" ["key", "default"] 0 ⟨[], [(Str.ofString "key", .builtin "len")]⟩ >>= _) _ _ s
  refine wpAny_bind (wpAny_of_eq (show Builtin.Builtins.bindParams "min" ["key", "default"] 0 ⟨[], [(Str.ofString "key", .builtin "len")]⟩ = pure [some (.builtin "len"), none] from rfl) ?_)
  refine wpAny_bind (wpAny_pure ?_)
  have hlt : a < s.heap.objs.size := Heap.lt_size hol
  refine wpAny_bind (wpAny_pyIter_list hlist ?_)
  refine wpAny_bind (wpAny_newObj_type ?_)
  rw [hname]
  have hsz : (s.heap.push { cls := .type "list_iterator", data := .fields #[.ref a, .int 0 0] }).objs.size = s.heap.objs.size + 1 := Heap.size_push _ _
  have hSf : (s.heap.push { cls := .type "list_iterator", data := .fields #[.ref a, .int 0 0] }).objs.size ∉ [s.heap.objs.size, a] := fun hm => by
    rw [hsz] at hm
    rcases List.mem_cons.mp hm with e | hm
    · exact Nat.succ_ne_self _ e
    · rcases List.mem_cons.mp hm with e | hm
      · rw [← e] at hlt
        exact Nat.lt_irrefl _ (Nat.lt_trans (Nat.lt_succ_self _) hlt)
      · cases hm
  refine wpAny_pure ⟨plainId_quiet F.plain_min_loop _, minK_first (Walks.list (A := X.A.in1) hh s.heap.objs.size a (Nat.ne_of_lt hlt) its.toArray) (fun i => ((ns.getD i 0 : Nat) : Int)) _ hSf (fun h => ∀ b o, s.heap.get? b = some o → h.get? b = some o)
    (fun h h' hO hk b o e => hk b o (fun hm => ?_) (fun hm => ?_) (hO b o e)) (fun i v s2 Q2 E2 hP hO hq => ?_) (by simpa [hlen] using h0) ⟨⟨_, Heap.get?_push_of_some _ (Heap.get?_push_size _ rfl), rfl, rfl⟩, (hlist.push _).push _⟩ (fun b o e => Heap.get?_push_of_some _ (Heap.get?_push_of_some _ e)) (Heap.get?_push_size _ rfl) fun v h' tk hP hk => ?_⟩
  · rw [List.mem_singleton.mp hm] at e
    exact absurd (Heap.lt_size e) (Nat.lt_irrefl _)
  · rw [hm] at e
    have := Heap.lt_size e
    rw [hsz] at this
    exact Nat.lt_irrefl _ (Nat.lt_trans (Nat.lt_succ_self _) this)
  · obtain ⟨b, hb, rfl⟩ := hat i v hP
    have hi := (List.getElem?_eq_some_iff.mp hb).1
    have hnb : ns[i]? = some ns[i] := List.getElem?_eq_getElem (by omega)
    obtain ⟨ys, hy, hyl⟩ := ht i b _ hb hnb
    obtain ⟨it2, r2, pl2, hz2⟩ := I.tuple hy
    have pl3 : IsTup s2.heap b it2.toArray := by
      obtain ⟨o, ho, r⟩ := pl2
      exact ⟨o, hO b o ho, r⟩
    have hl2 := r2.length
    have hsl : sizeLine = 16777216 := sizeLine_eq
    refine len_tuple pl3 (by simp only [List.size_toArray]; omega) ?_
    have e1 : ((ns.getD i 0 : Nat) : Int) = (it2.toArray.size : Int) := by
      rw [List.getD_eq_getElem?_getD, hnb, List.size_toArray, ← hl2, hyl]
      rfl
    rw [← e1]
    exact hq _ _
  · have hk' : ∀ b o, s.heap.get? b = some o → h'.get? b = some o := fun b o e => hk b o (fun hm => by rw [List.mem_singleton.mp hm] at e; exact absurd (Heap.lt_size e) (Nat.lt_irrefl _)) (fun hm => by
      rw [hm] at e
      have := Heap.lt_size e
      rw [hsz] at this
      exact Nat.lt_irrefl _ (Nat.lt_trans (Nat.lt_succ_self _) this)) (Heap.get?_push_of_some _ (Heap.get?_push_of_some _ e))
    obtain ⟨b, hb, rfl⟩ := hat _ v hP
    refine ⟨.ref b, H, I.kept (t' := tk) hk', rfl, q b ?_⟩
    rw [← hlen]
    simpa using hb
def tMinLen (K : PySem.W.Frag) (te : TE) : TE := fun σ H Q => te σ H fun x H1 => rMinLen K [x] H1 Q
theorem e_minLen {e : Expr} {te : TE} {p p2 kp pos : Pos} (hc : X.calm = true) (hg : Gl X "min") (hm : X.mg "min" = none) (hg2 : Gl X "len") (hm2 : X.mg "len" = none) (he : PE X e te)
    (hst : starEach [e] X.env = [(false, eval e X.env)] := by rfl) : PE X (.Call (.Name "min" p) [e] [⟨some "key", .Name "len" p2, kp⟩] pos) (tMinLen X.K te) := by
  refine ⟨fun pins s σ H Q I h => ?_⟩
  refine wpAny_Call_Name_kw (ld_blt I hg hm (u := .builtin "min") boot_min ?_)
  have ha : PA X [e] (tCons te tNil) := pa_cons he pa_nil (hs := hst)
  refine PyProof.Rows.callWith_kw (thn (ha.run pos pins s σ H (fun vs H1 => on1 vs fun x => rMinLen X.K [x] H1 Q) I h) fun us s1 ⟨vs, H1, I1, r1, q1⟩ => ?_) (by rw [hst]; rfl) (by rw [hst]; rfl) rfl rfl
  obtain ⟨x, rfl, q1⟩ := on1_ex q1
  show wpAny _ _ (evalAll [(do let v ← eval (.Name "len" p2) X.env; standAt pos; pure v)]) _ _ s1
  refine wpAny_evalAll_cons (wpAny_bind (ld_blt I1 hg2 hm2 (u := .builtin "len") boot_len (wpAny_bind (wpAny_standAt (wpAny_pure (wpAny_evalAll_nil ?_))))))
  obtain ⟨u, rfl, rx⟩ := vals1 r1
  obtain ⟨x', e1, q2⟩ := on1_ex q1
  cases e1
  obtain ⟨a, rfl, q3⟩ := onRef_ex q2
  obtain rfl : u = Value.ref a := rx
  exact minLen_ok hc I1 q1
end
/-! ### t[::-1] -/
theorem fm_congr {α β : Type} {f g : α → Option β} : ∀ {l : List α}, (∀ x ∈ l, f x = g x) → l.filterMap f = l.filterMap g
  | [], _ => rfl
  | x :: l, h => by
    rw [List.filterMap_cons, List.filterMap_cons, h x (List.mem_cons_self ..), fm_congr fun y hy => h y (List.mem_cons_of_mem _ hy)]
theorem pick_rev (xs : Array Value) : ((List.range xs.size).filterMap fun (k : Nat) => xs[(((xs.size : Int) - 1) + (k : Int) * (-1)).toNat]?).toArray = xs.toList.reverse.toArray := by
  have e := HT.pick_gen xs.toList.reverse.toArray 0 xs.size
  have e2 : ((List.range xs.size).filterMap fun (k : Nat) => xs[(((xs.size : Int) - 1) + (k : Int) * (-1)).toNat]?) = ((List.range xs.size).filterMap fun (m : Nat) => xs.toList.reverse.toArray[(((0 : Nat) : Int) + (m : Int) * 1).toNat]?) := by
    refine fm_congr fun k hk => ?_
    have hk := List.mem_range.mp hk
    have h1 : (((xs.size : Int) - 1) + (k : Int) * (-1)).toNat = xs.size - 1 - k := by omega
    have h2 : (((0 : Nat) : Int) + (k : Int) * 1).toNat = k := by omega
    rw [h1, h2, ← Array.getElem?_toList]
    simp only [List.getElem?_toArray]
    rw [List.getElem?_reverse (by rw [Array.length_toList]; exact hk), Array.length_toList]
  rw [e2, e, List.drop_zero, List.take_of_length_le]
  rw [List.length_reverse, Array.length_toList]
  exact Nat.le_refl _
section
variable {prog : Program} {w : World} {A : Around} {E : Value → Shared → Prop} {s : Shared}
theorem getItem_tuple_rev {t sl : Addr} {items : Array Value} {vs : Value} {Q : Value → Shared → Prop} (ht : IsTup s.heap t items) (hs : s.heap.IsSliceOf sl .none .none vs) (ps : IsPart vs (some (-1)))
    (h : Q (.ref s.heap.objs.size) { s with heap := s.heap.push { cls := .type "tuple", data := .seq items.toList.reverse.toArray } }) (hsz : items.size ≤ sizeLine) : wpAny (model prog w) A (getItem (.ref t) (.ref sl)) Q E s := by
  obtain ⟨os, hos, hcs, hds⟩ := id hs
  have hTs : s.TypeIs (.ref sl) "slice" := ⟨os, hos, hcs⟩
  have htake : sizeOk (.seq items.toList.reverse.toArray) := by
    show items.toList.reverse.toArray.size ≤ sizeLine
    rw [List.size_toArray, List.length_reverse, Array.length_toList]
    exact hsz
  unfold getItem
  try with_reducible refine wpAny_holding ?_
  first | refine wpAny_bind (wpAny_pure ?_) | skip
  refine wpAny_bind (wpAny_sequenceKey ht.typeIs (by decide) ?_)
  refine wpAny_bind (wpAny_callSpecial?_slot (name := Str.ofString "__getitem__") ht.typeIs PyProof.Rows.slot_tuple_getitem
    (wpAny_call_entry PyProof.Rows.slot_tuple_getitem ht.typeIs entry_tuple_getitem ?_ (args_tuple_getitem _ _)))
  show wpAny _ _ (Builtin.Tuple.tupleItemsOf (.ref t) >>= _) _ _ s
  refine wpAny_bind (tupleItemsOf_ ht ?_)
  refine wpAny_bind (wpAny_typeOf hTs ?_)
  rw [if_pos (by decide)]
  refine wpAny_bind (?_ : wpAny _ _ (Builtin.Slice.sliceApplied (.ref sl) (pure (items.size : Int))) _ _ s)
  unfold Builtin.Slice.sliceApplied Builtin.Slice.sliceFields
  refine wpAny_bind (wpAny_bind (wpAny_field hos hds (x := .none) rfl (wpAny_bind (wpAny_field hos hds (x := .none) rfl (wpAny_bind (wpAny_field hos hds (x := vs) rfl (wpAny_pure ?_)))))))
  refine wpAny_bind (HT.slicePart_ ps ?_)
  show wpAny _ _ (if ((-1 : Int) == 0) = true then _ else _) _ _ s
  rw [if_neg (by decide)]
  refine wpAny_bind (PyProof.Rows.slicePart_none (wpAny_bind (PyProof.Rows.slicePart_none (wpAny_bind (wpAny_pure ?_)))))
  have e1 : Builtin.Slice.sliceAdjust none none (-1) (items.size : Int) = ((items.size : Int) - 1, -1) := rfl
  have e2 : Builtin.Slice.slicePlaces ((items.size : Int) - 1) (-1) (-1) = items.size := by
    unfold Builtin.Slice.slicePlaces
    rw [if_neg (by decide)]
    split
    · rw [show (-(-1 : Int)) = 1 by decide, Int.ediv_one]; omega
    · omega
  show wpAny _ _ (match Builtin.Slice.sliceAdjust none none (-1) (items.size : Int) with | (lo, hi) => pure (lo, (-1 : Int), Builtin.Slice.slicePlaces lo hi (-1))) _ _ s
  rw [e1]
  show wpAny _ _ (pure ((items.size : Int) - 1, (-1 : Int), Builtin.Slice.slicePlaces ((items.size : Int) - 1) (-1) (-1))) _ _ s
  rw [e2]
  refine wpAny_pure ?_
  show wpAny _ _ (if (((items.size : Int) - 1) == 0 && (-1 : Int) == 1 && items.size == items.size) = true then _ else _) _ _ s
  rw [if_neg (by rw [show ((-1 : Int) == 1) = false by decide, Bool.and_false, Bool.false_and]; exact Bool.false_ne_true), pick_rev]
  first
    | exact wpAny_bind (m := Builtin.Tuple.tupleExact _) (wpAny_newObj_type (wpAny_pure ⟨_, rfl, wpAny_pure h⟩) htake)
    | exact wpAny_bind (m := Builtin.Tuple.tupleExact _) (wpAny_newObj_type (wpAny_bind (wpAny_pure (wpAny_pure ⟨_, rfl, wpAny_pure h⟩))) htake)
    | exact wpAny_bind (wpAny_bind (m := Builtin.Tuple.tupleExact _) (wpAny_newObj_type (wpAny_pure (wpAny_pure ⟨_, rfl, wpAny_pure h⟩)) htake))
    | exact wpAny_bind (wpAny_bind (m := Builtin.Tuple.tupleExact _) (wpAny_newObj_type (wpAny_pure ⟨_, rfl, wpAny_pure h⟩) htake))
end
section
variable {X : Cx}
def tRevT (K : PySem.W.Frag) (te : TE) : TE := fun σ H Q => te σ H fun x H1 => onRef x fun a => ∃ xs, SqT K H1 a xs ∧ ∀ p, H1 p = none → Q (.ref p) (upd H1 p (.tup xs.reverse))
theorem e_revT {e : Expr} {te : TE} {k : Nat} {p1 p2 p3 pos : Pos} (he : PE X e te) : PE X (.Subscript e (.Slice none none (some (.UnaryOp .USub (.Constant (.int 1) k p1) p2)) p3) pos) (tRevT X.K te) := by
  refine ⟨fun pins s σ H Q I h => ?_⟩
  refine Subscript_ (thn (he.run pins s σ H _ I h) fun v s1 ⟨x, H1, I1, r1, q1⟩ => ?_)
  obtain ⟨a, rfl, xs, hx, q⟩ := onRef_ex q1
  cases r1
  have hst : PO X (some (.UnaryOp .USub (.Constant (.int 1) k p1) p2)) (tPart (tUn (rU fun i => .int (-i)) (tC (.int 1)))) := po_some (pe_un un_neg pe_int)
  refine wpAny_Slice (thn (po_none.run pins s1 σ H1 (fun o H2 => o = none ∧ H2 = H1) I1 ⟨rfl, rfl⟩) fun vl s2 ⟨l, H2, I2, pl, el, e2⟩ => ?_)
  subst el e2
  refine thn (po_none.run pins s2 σ H2 (fun o H3 => o = none ∧ H3 = H2) I2 ⟨rfl, rfl⟩) fun vu s3 ⟨u, H3, I3, pu, eu, e3⟩ => ?_
  subst eu e3
  refine thn (hst.run pins s3 σ H3 (fun o H4 => o = some (-1) ∧ H4 = H3) I3 ⟨1, rfl, -1, rfl, rfl, rfl⟩) fun vs s4 ⟨o, H4, I4, ps, eo, e4⟩ => ?_
  subst eo e4
  cases pl
  cases pu
  have I5 : L2.Inv X pins σ H4 { s4 with heap := s4.heap.push { cls := .type "slice", data := .fields #[.none, .none, vs] } } := I4.kept (t' := s4.toks) fun b ob q => Heap.get?_push_of_some _ q
  obtain ⟨its, r, ht, hz⟩ := I5.tuple hx
  have hlen := r.length
  show wpAny (model X.prog X.w) X.A (subscriptTail e (.Slice none none (some (.UnaryOp .USub (.Constant (.int 1) k p1) p2)) p3) (.ref a) (.ref s4.heap.objs.size)) (EP X pins σ Q) X.xe { s4 with heap := s4.heap.push { cls := .type "slice", data := .fields #[.none, .none, vs] } }
  refine tail_any (ops := [.ref a, .ref s4.heap.objs.size]) ht.typeIs (PyProof.Rows.slot_tuple_getitem.lookup) ?_ (by with_unfolding_all rfl)
  refine getItem_tuple_rev ht (Heap.IsSliceOf.new _ .none .none vs) ps ?_ (by rw [List.size_toArray]; omega)
  refine ⟨.ref _, _, I5.laid (t' := s4.toks) (o := .tup xs.reverse) (fun b ob q => Heap.get?_push_of_some _ q) (Nat.le_refl _) ?_, rfl, q _ (I5.hok.fresh (Nat.le_refl _))⟩
  exact ⟨by rw [List.length_reverse]; exact hz, _, r.reverse, ⟨_, Heap.get?_push_size _ rfl, rfl, _, rfl⟩⟩
end
/-! ### comprehensions over a dict of plans; with a test -/
theorem lc_pdI {d : Addr} {ep : Nat} {xs : List (PK × Addr × Addr)} {g : TG} {te : TE} {vs : List Nat} {σ : L2.St} {H1 : Hp} {D : Addr} {Qd : Hp → Prop} (hz : xs.length ≤ 1000000) (J : Nat → List V → Hp → Prop) (h0 : J 0 [] (upd H1 D (.lst [])))
    (hl : ∀ i acc H, i ≤ xs.length → H D = some (.lst acc) → J i acc H → H d = some (PD d ep xs) ∧ (d == sysModules) = false)
    (hs : ∀ (i : Nat) (e : PK × Addr × Addr) (acc : List V) (H : Hp), xs[i]? = some e → acc.length = i → H D = some (.lst acc) → J i acc H → ∀ R : VK, (∀ y H4, H4 D = some (.lst acc) → J (i + 1) (acc ++ [y]) (upd H4 D (.lst (acc ++ [y]))) → R y H4) →
      g (.ref e.2.1) (wipe σ vs) H fun σ2 H2 => wipe σ2 vs = wipe σ vs ∧ te σ2 H2 R)
    (hd : ∀ acc H, acc.length = xs.length → H D = some (.lst acc) → J xs.length acc H → Qd H) :
    ∃ W : Nat → Nat → Hp → Prop, (∃ m, W 0 m (upd H1 D (.lst []))) ∧ ∀ i m H, W i m H →
      ((ItP d ep xs).stop i H ∧ Qd H) ∨ ((ItP d ep xs).go i H ∧ ∃ Nx : Hp → Prop, (∀ H', Nx H' → ∃ m', m' < m ∧ W (i + 1) m' H') ∧ ∀ x H', (ItP d ep xs).yld i H x H' → g x (wipe σ vs) H' fun σ2 H2 => wipe σ2 vs = wipe σ vs ∧ tYes σ2 H2 fun b H3 =>
        if b = true then te σ2 H3 fun y H4 => ∃ acc, H4 D = some (.lst acc) ∧ acc.length < sizeLine ∧ Nx (upd H4 D (.lst (acc ++ [y]))) else Nx H3) := by
  refine ⟨fun i m H => m = xs.length - i ∧ i ≤ xs.length ∧ ∃ acc, acc.length = i ∧ H D = some (.lst acc) ∧ J i acc H, ⟨xs.length, by simp, Nat.zero_le _, [], rfl, upd_same, h0⟩, ?_⟩
  rintro i m H ⟨rfl, hi, acc, hac, hD, hJ⟩
  have q := hl i acc H hi hD hJ
  by_cases hlt : i < xs.length
  · refine .inr ⟨⟨q, hlt⟩, fun H' => ∃ ac2, ac2.length = i + 1 ∧ H' D = some (.lst ac2) ∧ J (i + 1) ac2 H', fun H' p' => ⟨xs.length - (i + 1), by omega, rfl, hlt, p'⟩, fun x H' y => ?_⟩
    obtain ⟨e, e', hy, rfl⟩ := y
    subst e
    exact hs i e' acc _ hy hac hD hJ (fun y H4 => ∃ acc, H4 D = some (.lst acc) ∧ acc.length < sizeLine ∧ ∃ ac2, ac2.length = i + 1 ∧ (upd H4 D (.lst (acc ++ [y]))) D = some (.lst ac2) ∧ J (i + 1) ac2 (upd H4 D (.lst (acc ++ [y])))) (fun y H4 e j => ⟨acc, e, by rw [hac, sizeLine_eq]; omega, acc ++ [y], by simp [hac], upd_same, j⟩)
  · have e : i = xs.length := by omega
    subst e
    exact .inl ⟨⟨q, Nat.le_refl _⟩, hd acc H hac hD hJ⟩
/-- [x for x in xs if p x] -/
theorem lc_tupFil {K : PySem.W.Frag} {a : Addr} {xs : List V} {g : TG} {tt : TT} {te : TE} {vs : List Nat} {σ : L2.St} {H1 : Hp} {D : Addr} {Qd : Hp → Prop} (p : V → Bool) (hn : H1 D = none) (hz : xs.length ≤ 1000000) (hS : SqT K H1 a xs)
    (hs : ∀ (i : Nat) (x : V) (H : Hp), xs[i]? = some x → Same H1 H → ∀ (R1 : VK) (R2 : Hp → Prop), (p x = true → R1 x H) → (p x = false → R2 H) → g x (wipe σ vs) H fun σ2 H2 => wipe σ2 vs = wipe σ vs ∧ tt σ2 H2 fun b H3 => if b = true then te σ2 H3 R1 else R2 H3)
    (hd : ∀ H, Same H1 H → H D = some (.lst (xs.filter p)) → Qd H) :
    ∃ W : Nat → Nat → Hp → Prop, (∃ m, W 0 m (upd H1 D (.lst []))) ∧ ∀ i m H, W i m H →
      ((Itt K a).stop i H ∧ Qd H) ∨ ((Itt K a).go i H ∧ ∃ Nx : Hp → Prop, (∀ H', Nx H' → ∃ m', m' < m ∧ W (i + 1) m' H') ∧ ∀ x H', (Itt K a).yld i H x H' → g x (wipe σ vs) H' fun σ2 H2 => wipe σ2 vs = wipe σ vs ∧ tt σ2 H2 fun b H3 =>
        if b = true then te σ2 H3 fun y H4 => ∃ acc, H4 D = some (.lst acc) ∧ acc.length < sizeLine ∧ Nx (upd H4 D (.lst (acc ++ [y]))) else Nx H3) := by
  refine lc_tup (xs := xs) (fun i H => H D = some (.lst ((xs.take i).filter p)) ∧ Same H1 H) ⟨upd_same, Same.upd hn⟩ (fun i H hi h => sameT h.2 hS) (fun i x H hx h => ?_) (fun H h => ?_)
  · obtain ⟨hD, e⟩ := h
    have hi := (List.getElem?_eq_some_iff.mp hx).1
    refine hs i x H hx e (fun y H4 => ∃ acc, H4 D = some (.lst acc) ∧ acc.length < sizeLine ∧ (upd H4 D (.lst (acc ++ [y]))) D = some (.lst ((xs.take (i + 1)).filter p)) ∧ Same H1 (upd H4 D (.lst (acc ++ [y])))) (fun H4 => H4 D = some (.lst ((xs.take (i + 1)).filter p)) ∧ Same H1 H4) (fun hp => ?_) (fun hp => ?_)
    · refine ⟨_, hD, ?_, ?_, newL hn e⟩
      · have h1 := List.length_filter_le p (xs.take i)
        rw [List.length_take] at h1
        rw [sizeLine_eq]
        omega
      · rw [upd_same, List.take_add_one, hx, List.filter_append]
        simp [hp]
    · refine ⟨?_, e⟩
      rw [hD, List.take_add_one, hx, List.filter_append]
      simp [hp]
  · refine hd H h.2 ?_
    rw [h.1, List.take_length]
end Sp
namespace Sp
open PySem PySem.Spec PyProof.Rows L2
def fIsB : R2 := fun x y H Q => match x, y with
  | .bl a, .bl b => Q (.bl (decide (a = b))) H
  | _, _ => False
def fNotB : R2 := fun x y H Q => match x, y with
  | .bl a, .bl b => Q (.bl (!decide (a = b))) H
  | _, _ => False
section
variable {X : Cx}
theorem o_isB : OpR X (compareOp .Is) fIsB := OpR.imp op_isBl fun x y H Q h => by
  cases x <;> cases y <;> first
    | exact h.elim
    | exact ⟨_, _, rfl, rfl, h⟩
theorem o_notB : OpR X (compareOp .IsNot) fNotB := OpR.imp op_notBl fun x y H Q h => by
  cases x <;> cases y <;> first
    | exact h.elim
    | exact ⟨_, _, rfl, rfl, h⟩
def tCallK0 (mm : Nat) (sp : L2.Sp) (gV : List V → List V → List V) (E : XK) (tk : TA) : TE := fun σ H Q => tk σ H fun zs H2 => zs.length = mm ∧ sp (gV [] zs) H2 Q E
theorem e_callK0 {CX : CXT} {k : Nat} {f : Addr} {fd : FuncData} {ps ks : List Str} {sp : L2.Sp} {E : XK} {x : Str} {p pos : Pos} {kws : List Keyword} {tk : TA} {g : List Value → List Value → List Value} {gV : List V → List V → List V} (F : FnOk X.prog X.w X.K X.mg X.base CX k f fd ps sp) (hr : Room k X.A) (hg : Gl X x) (hm : X.mg x = some (.ref f)) (hk : PySem.W.keepIn X.K (.ref f) = true) (hb : KBn X.K fd ps 0 ks g gV) (hx : Passes CX X E) (hkw : L2.PK X kws tk)
    (hall : (backToKw pos (keywordEach kws X.env)).all (·.1.isSome) = true := by rfl) (hks : (backToKw pos (keywordEach kws X.env)).filterMap (·.1) = ks := by rfl) (hdb : (x == ("__debug__" : Str)) = false := by decide)
    (hpl : ((backTo pos (starEach [] X.env)).any (·.1) || (backToKw pos (keywordEach kws X.env)).any (·.1.isNone)) = false := by rfl) :
    PE X (.Call (.Name x p) [] kws pos) (tCallK0 ks.length sp gV E tk) := by
  refine ⟨fun pins s σ H Q I h => wpAny_Call_Name_kw (ld_glob I hg hm (PySem.W.callWith_KW0 (h₀ := X.base) I.ok.mod.kin hk hall (thn (hkw.run pos pins s σ H _ I h) fun ws s2 ⟨zs, H2, I2, rz, l2, q2⟩ => ⟨I2.kIn, ?_⟩) hpl) hdb)⟩
  rw [hks]
  exact run_fnN (us := []) (vs := []) F hr hb hx I2 .nil rz rfl l2 q2
/-- repr of a truth -/
def fReprB : List V → Hp → VK → Prop := fun xs H Q => on1 xs fun x => match x with
  | .bl b => Q (.str (if b then "True" else "False")) H
  | _ => False
theorem c_reprB : CallR X (.builtin "repr") fReprB := fun pins s σ H xs us Q I r h => by
  obtain ⟨x, rfl, h⟩ := on1_ex h
  cases x with
  | bl b =>
    obtain ⟨u, rfl, rx⟩ := vals1 r
    cases (show u = Value.bool b from rx)
    exact PySem.P.repr_of_bool ⟨.str _, H, I.tok _, ⟨_, rfl⟩, h⟩
  | _ => exact h.elim
end
end Sp
namespace Sp
open PySem PySem.Spec PyProof.Rows L2
theorem tuple_mul1 (l : Addr) (items : Array Value) (n : Nat) (dd : Option Addr) (sl : Array (Option Value)) (u : Tok) :
    Meets (Builtin.«tuple.__mul__» ⟨[.ref l, .int 1 u], []⟩) (fun _ R s => s.heap.get? l = some { cls := .type "tuple", dict := dd, data := .seq items n, slots := sl } ∧ R (.ok (.ret (Value.ref l))) s) :=
  .of_wp fun prog w A R s h => by
    obtain ⟨hp, g, d, tk, os⟩ := s
    obtain ⟨hl, h⟩ := h
    have f1 := AutoSeq1.idx_int
    have c1 : (items.isEmpty || (1 : Int) == 1) = true := by simp
    wp_walk using wpAny_loadPart' hl
    repeat (first
      | (refine wpAny_ite_true (decide_eq_true c1) ?_; wp_walk using wpAny_loadPart' hl))
    exact ⟨_, rfl, h⟩
theorem tuple_mul0 (l : Addr) (items : Array Value) (n : Nat) (dd : Option Addr) (sl : Array (Option Value)) (u : Tok) (hi : items.isEmpty = false) :
    Meets (Builtin.«tuple.__mul__» ⟨[.ref l, .int 0 u], []⟩) (fun _ R s => s.heap.get? l = some { cls := .type "tuple", dict := dd, data := .seq items n, slots := sl } ∧
      R (.ok (.ret (Value.ref s.heap.objs.size))) { s with heap := s.heap.push { cls := Value.type "tuple", data := Data.seq #[] }, toks := s.toks }) :=
  .of_wp fun prog w A R s h => by
    obtain ⟨hp, g, d, tk, os⟩ := s
    obtain ⟨hl, h⟩ := h
    have f1 := AutoSeq1.idx_int
    have c1 : (items.isEmpty || (0 : Int) == 1) = false := by rw [hi]; rfl
    have c2 : (decide ((0 : Int) ≤ 0) || items.isEmpty) = true := by simp
    wp_walk using wpAny_loadPart' hl
    repeat (first
      | (refine wpAny_ite_false (decide_eq_false (by rw [c1]; exact Bool.false_ne_true)) ?_; wp_walk using wpAny_loadPart' hl)
      | (refine wpAny_ite_true (decide_eq_true c2) ?_; wp_walk using wpAny_loadPart' hl))
    exact ⟨_, rfl, h⟩
def fRepT (K : PySem.W.Frag) : R2 := fun x y H Q => onRef x fun l => onInt y fun k => ∃ xs, SqT K H l xs ∧ xs ≠ [] ∧ 0 ≤ k ∧ k ≤ 1000 ∧ xs.length ≤ 1000 ∧ (k = 1 → Q (.ref l) H) ∧ (k ≠ 1 → ∀ p, H p = none → Q (.ref p) (upd H p (.tup (List.replicate k.toNat xs).flatten)))
def fRepL : R2 := fun x y H Q => onRef x fun l => onInt y fun k => ∃ xs, H l = some (.lst xs) ∧ -(2 ^ 63) ≤ k ∧ k < 2 ^ 63 ∧ xs.length * k.toNat ≤ sizeLine ∧ ∀ p, H p = none → Q (.ref p) (upd H p (.lst (List.replicate k.toNat xs).flatten))
section
variable {X : Cx}
theorem o_repL : OpR X (binaryOp .Mult) fRepL := OpR.imp op_rep fun x y H Q h => by
  obtain ⟨l, rfl, h⟩ := onRef_ex h
  obtain ⟨k, rfl, xs, h1⟩ := onInt_ex h
  exact ⟨l, k, xs, rfl, rfl, h1⟩
theorem o_repT : OpR X (binaryOp .Mult) (fRepT X.K) := by
  intro pins s σ H x y v u Q I rx ry h
  obtain ⟨l, rfl, h⟩ := onRef_ex h
  obtain ⟨k, rfl, xs, hT, hne, h1, h2, hz, q1, q2⟩ := onInt_ex h
  by_cases hk : 2 ≤ k
  · exact op_repT pins s σ H _ _ v u Q I rx ry ⟨l, k, xs, rfl, rfl, hT, hne, hk, h2, hz, q2 (by omega)⟩
  cases rx
  obtain ⟨t, rfl⟩ := ry
  obtain ⟨its, r, ⟨⟨cls, dd, data, sl⟩, ho, hc, n, hd⟩, hs⟩ := I.tuple hT
  simp only at hc hd
  subst hc hd
  have hle : its.length = xs.length := r.length.symm
  have hn : its ≠ [] := fun e => hne (by
    rw [e] at hle
    exact List.eq_nil_of_length_eq_zero hle.symm)
  have hi : its.toArray.isEmpty = false := by
    cases its with
    | nil => exact absurd rfl hn
    | cons a b => rfl
  have hk01 : k = 0 ∨ k = 1 := by omega
  rcases hk01 with rfl | rfl
  · refine wpAny_binaryOp_repeat_ref (T := "tuple") (U := "int") (by decide) ⟨_, ho, rfl⟩ (fun s' => typeIs_int s' 0 t) noFill_tuple_mul F.fills_int_mul F.slot_int_rmul repeat_tuple F.slot_int_index.lookup
      (call_meets F.slot_int_rmul (typeIs_int s 0 t) F.entry_int_rmul (F.args_int_rmul_2 _ _) (int_rmul_tuple 0 t l its.toArray n dd sl)
        ⟨ho, rfl, ⟨_, ho, rfl⟩, call_meets F.slot_tuple_mul ⟨_, ho, rfl⟩ F.entry_tuple_mul (F.args_tuple_mul_2 _ _) (tuple_mul0 l its.toArray n dd sl t hi) ⟨ho, ?_⟩⟩)
    refine ⟨.ref s.heap.objs.size, _, I.laid (t' := s.toks) (o := .tup []) (fun b ob q => Heap.get?_push_of_some _ q) (Nat.le_refl _) ?_, rfl, q2 (by decide) _ (I.hok.fresh (Nat.le_refl _))⟩
    exact ⟨Nat.zero_le _, [], .nil, IsTup.new _ _⟩
  · refine wpAny_binaryOp_repeat_ref (T := "tuple") (U := "int") (by decide) ⟨_, ho, rfl⟩ (fun s' => typeIs_int s' 1 t) noFill_tuple_mul F.fills_int_mul F.slot_int_rmul repeat_tuple F.slot_int_index.lookup
      (call_meets F.slot_int_rmul (typeIs_int s 1 t) F.entry_int_rmul (F.args_int_rmul_2 _ _) (int_rmul_tuple 1 t l its.toArray n dd sl)
        ⟨ho, rfl, ⟨_, ho, rfl⟩, call_meets F.slot_tuple_mul ⟨_, ho, rfl⟩ F.entry_tuple_mul (F.args_tuple_mul_2 _ _) (tuple_mul1 l its.toArray n dd sl t) ⟨ho, ?_⟩⟩)
    exact ⟨.ref l, H, I, rfl, q1 rfl⟩
end
end Sp
namespace PySem.XE
open PySem Builtin
section
variable {prog : Program} {w : World} {A : Around} {E : Value → Shared → Prop} {R : Result → Shared → Prop} {h : Heap} {g : Array GenState} {d : Drawn} {t : Nat} {os : OsState}
variable {nm q : Str} {C N : Addr} {bs bm tl : List Value} {hd : Bool} {sn : List Str} {sub : List Value} {ab : Bool} {col : Option Bool} {dd : Option Addr} {k0 k1 k2 k3 k5 : Option Value} {B nw it : String}
/-- C.__new__ may be called with anything -/
theorem x_newOk (F : ExcBaseFacts B nw it tl) (hT : ∀ Y : String, bm.contains (.type Y) = tl.contains (.type Y)) {rest : List Value} {kw : List (Str × Value)} {Q : Unit → Shared → Prop}
    (hC : h.get? C = some (excClassObj nm q C N bs bm hd sn sub ab col dd k0 k1 k2 k3 k5 nw)) (hq : Q () ⟨h, g, d, t, os⟩) : wpAny (model prog w) A (checkBuiltinCall nw ⟨.ref C :: rest, kw⟩) Q E ⟨h, g, d, t, os⟩ := by
  have i1 : (Value.ref C :: bm).contains (.type B) = true := by rw [List.contains_cons, hT, F.hasB, Bool.or_true]
  have i2 := F.noStar
  simp only [checkBuiltinCall, F.newKind, F.newSplit, F.newRow]
  repeat (first | (refine wpAny_isSubtype_exc hC ?_; rw [i1]) | refine wpAny_staticBase_exc hC ?_ | refine wpAny_madeBy_exc hC ?_ | refine wpAny_loadPart_at hC ?_ | simp only [bne_self_eq_false, Bool.false_eq_true, if_false] | wp_step)
  exact hq
theorem x_tcOk {M : Model} {rest : List Value} {kw : List (Str × Value)} {Q : Unit → Shared → Prop} (hC : h.get? C = some (excClassObj nm q C N bs bm hd sn sub ab col dd k0 k1 k2 k3 k5 nw))
    (hq : Q () ⟨h, g, d, t, os⟩) : wpAny M A (checkBuiltinCall "type.__call__" ⟨.ref C :: rest, kw⟩) Q E ⟨h, g, d, t, os⟩ := by
  have f3 := tc_sub
  have f4 : (⟨h, g, d, t, os⟩ : Shared).TypeIs (.ref C) "type" := ⟨_, hC, rfl⟩
  simp only [checkBuiltinCall, tc_kind, tc_split]
  repeat (any_goals (first | assumption | with_reducible refine wpAny_map ?_ | with_reducible refine wpAny_onRaise ?_ | with_reducible refine wpAny_loadPart_at hC ?_ | wp_step))
theorem x_new (F : ExcBaseFacts B nw it tl) (hT : ∀ Y : String, bm.contains (.type Y) = tl.contains (.type Y)) {rest : List Value} {kw : List (Str × Value)}
    (hC : h.get? C = some (excClassObj nm q C N bs bm hd sn sub ab col dd k0 k1 k2 k3 k5 nw)) (hr : rest.length ≤ sizeLine)
    (hq : R (.ok (.ret (.ref (h.objs.size + 1)))) ⟨(h.push (PySem.W.kdv_tup rest)).push (PySem.HandSPX.excO C h.objs.size), g, d, t, os⟩) :
    codeAny (model prog w) A (.builtin nw ⟨.ref C :: rest, kw⟩) R ⟨h, g, d, t, os⟩ := by
  have i0 := F.ends
  have i1 : (Value.ref C :: bm).contains (.type B) = true := by rw [List.contains_cons, hT, F.hasB, Bool.or_true]
  have i2 : (Value.ref C :: bm).contains (.type "AttributeError") = false := by rw [List.contains_cons, hT, F.noAttr]; rfl
  have i3 : (Value.ref C :: bm).contains (.type "NameError") = false := by rw [List.contains_cons, hT, F.noName]; rfl
  refine codeAny_builtinAt F.entry ?_
  unfold Builtin.«BaseException.__new__»
  refine wpAt_bind ?_
  show wpAt _ _ _ (stack >>= _) _ _ _
  refine wpAt_bind (wpAt_stack fun _ _ => wpAt_of_wpAny ?_)
  wp_walk
  refine wpAt_of_wpAny ?_
  rw [F.owner]
  repeat (first | with_reducible refine wpAny_madeHere_exc F.canon hC ?_ | (with_reducible refine wpAny_isSubtype_exc hC ?_; first | rw [i1] | rw [i2] | rw [i3]) | with_reducible refine wpAny_loadPart_at hC ?_ | wp_step)
  show R _ _
  rw [Heap.size_push]
  exact hq
/-- C(..): __new__, then its own __init__ with the same arguments -/
theorem x_call (F : ExcBaseFacts B nw it tl) (hT : ∀ Y : String, bm.contains (.type Y) = tl.contains (.type Y)) {rest : List Value} {kw : List (Str × Value)} {fI : Addr}
    (hC : h.get? C = some (excClassObj nm q C N bs bm hd sn sub ab col dd k0 k1 k2 k3 k5 nw)) (hr : rest.length ≤ sizeLine)
    (hi : PySem.W.Looks (model prog w) h (typeLookup (.ref C) "__init__") (some (.ref fI))) (hb : ∀ z, PySem.W.Looks (model prog w) h (bindSpecial (.ref fI) z) (.ref fI, [z]))
    (hq : codeAny (model prog w) (A.under (.builtin "type.__call__" ⟨.ref C :: rest, kw⟩)) (.call (.ref fI) ⟨.ref (h.objs.size + 1) :: rest, kw⟩) (PySem.W.InitBack (h.objs.size + 1) R)
      ⟨(h.push (PySem.W.kdv_tup rest)).push (PySem.HandSPX.excO C h.objs.size), g, d, t, os⟩) :
    codeAny (model prog w) A (.call (.ref C) ⟨rest, kw⟩) R ⟨h, g, d, t, os⟩ := by
  have f1 := tc_lookup
  have f2 := tc_bind (.ref C)
  have f3 : (⟨h, g, d, t, os⟩ : Shared).TypeIs (.ref C) "type" := ⟨_, hC, rfl⟩
  have kk : ∀ b o, h.get? b = some o → ((h.push (PySem.W.kdv_tup rest)).push (PySem.HandSPX.excO C h.objs.size)).get? b = some o := fun b o z => Heap.get?_push_of_some _ (Heap.get?_push_of_some _ z)
  have g1 : ((h.push (PySem.W.kdv_tup rest)).push (PySem.HandSPX.excO C h.objs.size)).get? (h.objs.size + 1) = some (PySem.HandSPX.excO C h.objs.size) := by heap_get
  have i4 : (Value.ref C :: bm).contains (.ref C) = true := by simp
  refine codeAny_of_tree ?_
  show wpAny _ _ (callAny (.ref C) _) _ _ _
  repeat (any_goals (first | assumption | with_reducible refine wpAny_loadPart_at hC ?_ | wp_step))
  refine ⟨rfl, ?_⟩
  refine codeAny_call_builtin_at (Code.quiet_builtin _ (by decide +kernel)) entry_typeCall ?_
  refine x_tcOk hC ?_
  unfold Builtin.«type.__call__»
  repeat (first | with_reducible refine wpAny_loadPart_at hC ?_ | with_reducible refine wpAny_madeBy_exc hC ?_ | wp_step)
  refine codeAny_call_builtin_code (Code.quiet_builtin _ F.quiet) (x_newOk F hT hC ?_)
  refine x_new F hT hC hr ?_
  show wpAny _ _ _ _ _ _
  have hC1 := kk _ _ hC
  have j1 := hi.keeps kk
  have j2 := (hb (.ref (h.objs.size + 1))).keeps kk
  unfold isInstance
  repeat (first | with_reducible refine wpAny_loadPart_at g1 ?_ | wp_step)
  refine wpAny_isSubtype_exc hC1 ?_
  rw [i4]
  repeat (first | with_reducible refine wpAny_loadPart_at g1 ?_ | wp_step)
  show wpAny _ _ (typeLookup (.ref C) _) _ _ _
  refine j1.at (wpAny_holding (wpAny_bind (j2.at (wpAny_bind (wpAny_call (codeAny_mono hq fun r s' z => ?_))))))
  cases r with
  | error e => exact z
  | ok fl =>
    cases fl with
    | ret v =>
      obtain ⟨rfl, z⟩ := z
      wp_walk
      exact z
    | next => exact z.elim
    | brk => exact z.elim
    | cont => exact z.elim
end
end PySem.XE
namespace Sp
open PySem PySem.Spec PyProof.Rows L2
/-- the built-in class above an own class of errors -/
def XB (tl : List Value) (nw : String) : Prop := ∃ B it, ExcBaseFacts B nw it tl ∧ StoreFacts B tl "object.__setattr__" "object"
abbrev tlOf (B : String) : List Value := [.type B, .type "Exception", .type "BaseException", .type "object"]
theorem xb_V : XB (tlOf "ValueError") "ValueError.__new__" := ⟨_, _, PySem.F.excBase_ValueError, PySem.F.store_ValueError⟩
theorem xb_L : XB (tlOf "LookupError") "LookupError.__new__" := ⟨_, _, PySem.F.excBase_LookupError, PySem.F.store_LookupError⟩
theorem xb_A : XB (tlOf "ArithmeticError") "ArithmeticError.__new__" := ⟨_, _, PySem.F.excBase_ArithmeticError, PySem.F.store_ArithmeticError⟩
structure XCl (K : PySem.W.Frag) (C : Addr) (tl : List Value) (nw : String) : Prop where
  q : PySem.W.excInitIn K C tl nw = true
  ov : PySem.W.excOver K C tl = true
  hd : PySem.W.hasDictIn K C = true
  sa : PySem.W.findIn K (.ref C) "__setattr__" = some (some (.builtin "object.__setattr__"))
  ga : PySem.W.findIn K (.ref C) "__getattribute__" = some (some (.builtin "BaseException.__getattribute__"))
  gt : PySem.W.findIn K (.ref C) "__getattr__" = some none
  ex : PySem.W.subIn K (.ref C) (.type "BaseException") = some true
  ca : PySem.W.findIn K (.ref C) "__class__" = some (some (.builtin "object.__class__"))
  cg : PySem.W.specialIn K (.builtin "object.__class__") "__get__" = some (some (.builtin "getset_descriptor.__get__"))
  ct : PySem.W.takesIn K (.builtin "object.__class__") = some true
  mo : PySem.W.mroIn K C (.type "object") = some true
  kC : PySem.W.keepIn K (.ref C) = true
def xclB (tl : List Value) (nw : String) (K : PySem.W.Frag) (C : Addr) : Bool :=
  PySem.W.excInitIn K C tl nw && (PySem.W.excOver K C tl && (PySem.W.hasDictIn K C && (decide (PySem.W.findIn K (.ref C) "__setattr__" = some (some (.builtin "object.__setattr__"))) &&
  (decide (PySem.W.findIn K (.ref C) "__getattribute__" = some (some (.builtin "BaseException.__getattribute__"))) && (decide (PySem.W.findIn K (.ref C) "__getattr__" = some none) && (decide (PySem.W.subIn K (.ref C) (.type "BaseException") = some true) &&
  (decide (PySem.W.findIn K (.ref C) "__class__" = some (some (.builtin "object.__class__"))) && (decide (PySem.W.specialIn K (.builtin "object.__class__") "__get__" = some (some (.builtin "getset_descriptor.__get__"))) && (decide (PySem.W.takesIn K (.builtin "object.__class__") = some true) &&
  (decide (PySem.W.mroIn K C (.type "object") = some true) && PySem.W.keepIn K (.ref C)))))))))))
theorem xclB_ok {tl : List Value} {nw : String} {K : PySem.W.Frag} {C : Addr} (h : xclB tl nw K C = true) : XCl K C tl nw := by
  obtain ⟨h1, h⟩ := He.ba h
  obtain ⟨h2, h⟩ := He.ba h
  obtain ⟨h3, h⟩ := He.ba h
  obtain ⟨h4, h⟩ := He.ba h
  obtain ⟨h5, h⟩ := He.ba h
  obtain ⟨h6, h⟩ := He.ba h
  obtain ⟨h7, h⟩ := He.ba h
  obtain ⟨h8, h⟩ := He.ba h
  obtain ⟨h9, h⟩ := He.ba h
  obtain ⟨h10, h⟩ := He.ba h
  obtain ⟨h11, h12⟩ := He.ba h
  exact ⟨h1, h2, h3, of_decide_eq_true h4, of_decide_eq_true h5, of_decide_eq_true h6, of_decide_eq_true h7, of_decide_eq_true h8, of_decide_eq_true h9, of_decide_eq_true h10, of_decide_eq_true h11, h12⟩
def XC (K : PySem.W.Frag) (C : Addr) : Prop := ∃ tl nw, XCl K C tl nw ∧ XB tl nw
/-- an error that is held: its class, its attributes -/
def XAt (H : Hp) (a C : Addr) (fs : List (Str × V)) : Prop := (H a = some (exo a C none) ∧ fs = []) ∨ ∃ d, H a = some (exo a C (some d)) ∧ H d = some (exd d fs)
def xiB (n : Str) (K : PySem.W.Frag) : Bool := decide (PySem.W.findIn K (.ref (He.ga K n)) "__init__" = some (some (.ref (He.ma K (He.ga K n) "__init__")))) && decide (PySem.W.typeIn K (.ref (He.ma K (He.ga K n) "__init__")) = some (.type "function"))
def xnB (n a : Str) (K : PySem.W.Frag) : Bool := decide (PySem.W.takerIn K (He.ga K n) a = some none) && decide (PySem.W.findIn K (.ref (He.ga K n)) a = some none)
theorem xnB_ok {n a : Str} {K : PySem.W.Frag} (h : xnB n a K = true) : PySem.W.takerIn K (He.ga K n) a = some none ∧ PySem.W.findIn K (.ref (He.ga K n)) a = some none :=
  ⟨of_decide_eq_true (He.ba h).1, of_decide_eq_true (He.ba h).2⟩
theorem boot_ValueError : bootBuiltins "ValueError" = some (.type "ValueError") := PyProof.Rows.Boot.«ValueError»
theorem boot_LookupError : bootBuiltins "LookupError" = some (.type "LookupError") := PyProof.Rows.Boot.«LookupError»
theorem boot_ArithmeticError : bootBuiltins "ArithmeticError" = some (.type "ArithmeticError") := PyProof.Rows.Boot.«ArithmeticError»
section
variable {X : Cx} {pins : List (Addr × Obj)} {σ : L2.St} {H : Hp} {s : Shared} {a C dx : Addr} {f : Str} {y : V} {u : Value} {fs : List (Str × V)} {Q : Unit → Shared → Prop} {E : Value → Shared → Prop} {A : Around}
theorem x_first (T : XC X.K C) (I : Inv X pins σ H s) (e : H a = some (exo a C none)) (hno : PySem.W.takerIn X.K C f = some none) (ry : RelV y u)
    (h : ∀ dx s', H dx = none → dx ≠ a → Inv X pins σ (upd (upd H dx (exd dx [(f, y)])) a (exo a C (some dx))) s' → Q () s') : wpAny (model X.prog X.w) A (setAttr (.ref a) f u) Q E s := by
  obtain ⟨tl, nw, T, B, it, _, SF⟩ := T
  obtain ⟨t1, ho⟩ := exo_at I.hok e
  obtain ⟨hp, g, d, t, os⟩ := s
  refine PySem.W.set_plain I.kIn (ox := { cls := .ref C, dict := none, data := .fields #[.ref t1, .none, .none, .none, .bool false, .none] }) (od := none) ⟨ho, rfl, rfl, trivial⟩ T.sa ?_
  refine PySem.W.osa_openX (od := none) SF I.kIn ⟨ho, rfl, rfl, trivial⟩ T.ov hno fun b => ?_
  obtain ⟨cd, hc, hd'⟩ := PySem.W.any_some T.hd
  refine wpAny_bind (wpAny_pure (wpAny_bind (PySem.W.instanceDict_exc ho (PySem.W.looks_clsIn I.kIn hc) hd' ?_)))
  show wpAny _ _ (Builtin.ObjectAttr.storeInDict hp.objs.size (.str f t) f u) _ _ _
  have hna : a ≠ hp.objs.size := Nat.ne_of_lt (Heap.lt_size ho)
  have hnd : H hp.objs.size = none := I.hok.fresh (Nat.le_refl _)
  have gd : (hp.push (PySem.W.dictOf [] 0)).get? hp.objs.size = some (PySem.W.dictOf [] 0) := Heap.get?_push_size hp rfl
  have ns1 : (hp.push (PySem.W.dictOf [] 0)).Ns1 hp.objs.size (fun _ => none) := Heap.Ns1.of_empty ⟨_, #[], _, gd, rfl, fun e he => absurd he (by simp), fun _ => rfl⟩
  have I1 : Inv X pins σ (upd H hp.objs.size (exd hp.objs.size [])) ⟨hp.push (PySem.W.dictOf [] 0), g, d, t, os⟩ :=
    I.laid (t' := t) (a := hp.objs.size) (o := exd hp.objs.size []) (h' := hp.push (PySem.W.dictOf [] 0)) (fun b o z => Heap.get?_push_of_some _ z) (Nat.le_refl _) (exd_ok ns1 fun _ => trivial)
  have ga : (hp.push (PySem.W.dictOf [] 0)).get? a = some _ := Heap.get?_push_of_some _ ho
  have ga2 := Heap.get?_update_self (fun o : Obj => { o with dict := some hp.objs.size }) ga rfl
  have ea : (upd H hp.objs.size (exd hp.objs.size [])) a = some (exo a C none) := by rw [upd_ne hna]; exact e
  have I2 := I1.write (t' := t) (x := a) (e := a) (o := exo a C (some hp.objs.size)) (h' := (hp.push (PySem.W.dictOf [] 0)).update a fun o => { o with dict := some hp.objs.size }) (by rw [ea]; exact True.intro) (.inl rfl)
    (fun b o hb z => (Heap.get?_update_ne _ _ _ _ hb).trans z) ⟨_, ga2⟩ (exo_ok ga2)
  have nsd : ((hp.push (PySem.W.dictOf [] 0)).update a fun o => { o with dict := some hp.objs.size }).Ns hp.objs.size (fun _ => none) :=
    ⟨_, #[], _, (Heap.get?_update_ne _ _ _ _ hna.symm).trans gd, rfl, fun e he => absurd he (by simp), fun _ => rfl⟩
  refine PySem.HandSPX.store_in_new nsd fun h' tk' hn hs => ?_
  have ed : (upd (upd H hp.objs.size (exd hp.objs.size [])) a (exo a C (some hp.objs.size))) hp.objs.size = some (exd hp.objs.size []) := by rw [upd_ne hna.symm, upd_same]
  have I3 := I2.write (t' := tk') (x := hp.objs.size) (e := hp.objs.size) (o := exd hp.objs.size [(f, y)]) (h' := h') (by rw [ed]; exact True.intro) (.inl rfl)
    (fun b o hb z => (hs.2 b hb).trans z) (by obtain ⟨o, _, _, z, _⟩ := hn; exact ⟨o, z⟩) (exd_ok hn (relO_put (fs := []) ry fun _ => trivial))
  refine h hp.objs.size _ hnd hna.symm ?_
  have eH : upd (upd (upd H hp.objs.size (exd hp.objs.size [])) a (exo a C (some hp.objs.size))) hp.objs.size (exd hp.objs.size [(f, y)]) = upd (upd H hp.objs.size (exd hp.objs.size [(f, y)])) a (exo a C (some hp.objs.size)) := by
    funext b
    by_cases h1 : b = hp.objs.size
    · rw [h1, upd_same, upd_ne hna.symm, upd_same]
    · rw [upd_ne h1]
      by_cases h2 : b = a
      · rw [h2, upd_same, upd_same]
      · rw [upd_ne h2, upd_ne h2, upd_ne h1, upd_ne h1]
  rw [← eH]
  exact I3
theorem x_next (T : XC X.K C) (I : Inv X pins σ H s) (e : H a = some (exo a C (some dx))) (ed : H dx = some (exd dx fs)) (hl : fs.length ≤ 900) (hno : PySem.W.takerIn X.K C f = some none) (ry : RelV y u)
    (h : ∀ s', Inv X pins σ (upd H dx (exd dx ((f, y) :: fs))) s' → Q () s') : wpAny (model X.prog X.w) A (setAttr (.ref a) f u) Q E s := by
  obtain ⟨tl, nw, T, B, it, _, SF⟩ := T
  obtain ⟨t1, ho⟩ := exo_at I.hok e
  obtain ⟨mA, hns, rel⟩ := exd_at I.hok ed
  have hw := within_of rel
  obtain ⟨hp, g, d, t, os⟩ := s
  obtain ⟨oD, _, _, hoD, _, _⟩ := hns.count hw
  refine PySem.W.set_plain I.kIn (ox := { cls := .ref C, dict := some dx, data := .fields #[.ref t1, .none, .none, .none, .bool false, .none] }) (od := some oD) ⟨ho, rfl, rfl, hoD⟩ T.sa ?_
  refine PySem.W.osa_openX (od := some oD) SF I.kIn ⟨ho, rfl, rfl, hoD⟩ T.ov hno fun b => ?_
  obtain ⟨cd, hc, hd'⟩ := PySem.W.any_some T.hd
  refine wpAny_bind (wpAny_pure (wpAny_bind (wpAny_bind (wpAny_loadPart ho (wpAny_bind ((PySem.W.looks_clsIn I.kIn hc).at ?_))))))
  rw [hd']
  refine wpAny_pure (a := some dx) ?_
  show wpAny _ _ (Builtin.ObjectAttr.storeInDict dx (.str f t) f u) _ _ _
  refine PySem.OEX.store_in_old hns hw (by rw [List.length_map]; omega) fun h' tk' hn hs => ?_
  exact h _ (I.write (t' := tk') (x := dx) (e := dx) (o := exd dx ((f, y) :: fs)) (by rw [ed]; exact True.intro) (.inl rfl) (fun b o hb z => (hs.2 b hb).trans z) (by obtain ⟨o, _, _, z, _⟩ := hn; exact ⟨o, z⟩) (exd_ok hn (relO_put ry rel)))
end
/-- self.f = e -/
def tXst (K : PySem.W.Frag) (f : Str) (to te : TE) : TS := fun D σ H => te σ H fun y H1 => to σ H1 fun x H2 => onRef x fun a => ∃ C : Addr, XC K C ∧ PySem.W.takerIn K C f = some none ∧
  ((H2 a = some (exo a C none) ∧ ∀ dx, H2 dx = none → dx ≠ a → D.nx σ (upd (upd H2 dx (exd dx [(f, y)])) a (exo a C (some dx)))) ∨
    ∃ (dx : Addr) (fs : List (Str × V)), H2 a = some (exo a C (some dx)) ∧ H2 dx = some (exd dx fs) ∧ fs.length ≤ 900 ∧ D.nx σ (upd H2 dx (exd dx ((f, y) :: fs))))
/-- e.f -/
def tXat (K : PySem.W.Frag) (f : Str) (te : TE) : TE := fun σ H Q => te σ H fun x H1 => onRef x fun a => ∃ (C dx : Addr) (fs : List (Str × V)) (v : V), XC K C ∧ PySem.W.findIn K (.ref C) f = some none ∧ H1 a = some (exo a C (some dx)) ∧ H1 dx = some (exd dx fs) ∧ fs.lookup f = some v ∧ Q v H1
def clsW : V → Option Value
  | .ref a => some (.ref a)
  | .ty n => some (.type n)
  | _ => none
theorem clsW_ok {c : V} {cv u : Value} (h : clsW c = some cv) (r : RelV c u) : u = cv := by
  cases c with
  | ref a => exact Eq.trans (r : u = _) (Option.some.inj h)
  | ty n => exact Eq.trans (r : u = _) (Option.some.inj h)
  | _ => cases h
/-- isinstance(e, c) -/
def fIsX (K : PySem.W.Frag) : List V → Hp → VK → Prop := fun xs H Q => on2 xs fun x c => onRef x fun a => ∃ (C : Addr) (fs : List (Str × V)) (cv : Value) (b : Bool), XC K C ∧ XAt H a C fs ∧ clsW c = some cv ∧ PySem.W.kitOne K (.ref C) cv = some b ∧ Q (.bl b) H
/-- C(e, ..) -/
def tXMk (C : Addr) (sp : L2.Sp) (ta : TA) : TE := fun σ H Q => ta σ H fun vs H1 => vs.length ≤ 1000 ∧ ∀ a, H1 a = none → sp (.ref a :: vs) (upd H1 a (exo a C none)) (fun v H2 => v = .non ∧ Q (.ref a) H2) E0
/-- C(k = e, ..) -/
def tXMkK (C : Addr) (mm : Nat) (sp : L2.Sp) (gV : List V → List V → List V) (tk : TA) : TE := fun σ H Q => tk σ H fun zs H1 => zs.length = mm ∧ ∀ a, H1 a = none → sp (gV [.ref a] zs) (upd H1 a (exo a C none)) (fun v H2 => v = .non ∧ Q (.ref a) H2) E0
/-- C() -/
def tXMk0 (C : Addr) : TE := fun σ H Q => ∀ a, H a = none → Q (.ref a) (upd H a (exo a C none))
structure XM (K : PySem.W.Frag) (C fI : Addr) : Prop where
  xc : XC K C
  ini : PySem.W.findIn K (.ref C) "__init__" = some (some (.ref fI))
  fn : PySem.W.typeIn K (.ref fI) = some (.type "function")
theorem xiB_ok {n : Str} {K : PySem.W.Frag} {tl : List Value} {nw : String} (b : XB tl nw) (x : XCl K (He.ga K n) tl nw) (h : xiB n K = true) : XM K (He.ga K n) (He.ma K (He.ga K n) "__init__") :=
  ⟨⟨tl, nw, x, b⟩, of_decide_eq_true (He.ba h).1, of_decide_eq_true (He.ba h).2⟩
section
variable {X : Cx} {o e : Expr} {es : List Expr} {to te : TE} {ta tk : TA} {f x : Str} {p p' pos : Pos} {C fI : Addr} {CX : CXT} {k n : Nat} {fd : FuncData} {ps ks : List Str} {sp : L2.Sp} {kws : List Keyword} {g : List Value → List Value → List Value} {gV : List V → List V → List V}
theorem s_xst (ho : PE X o to) (he : PE X e te) (hs : swapsWith e (some (.Attribute o f p')) pos.line X.env = pure false := by rfl) : PS X (.Assign [.Attribute o f p'] e pos) (tXst X.K f to te) := by
  refine ⟨fun pins s σ H D I h => plainObj_wpAny_Assign_Attribute (thn (he.run pins s σ H _ I h) fun v s1 ⟨y, H1, I1, r1, q1⟩ => thn (ho.run pins s1 σ H1 _ I1 q1) fun u s2 ⟨x, H2, I2, r2, q2⟩ => ?_) hs⟩
  obtain ⟨a, rfl, C, T, hno, q⟩ := onRef_ex q2
  obtain rfl : u = Value.ref a := r2
  rcases q with ⟨ea, q⟩ | ⟨dx, fs, ea, ed, hl, q⟩
  · exact x_first T I2 ea hno r1 fun dx s' i1 i2 J => ⟨σ, _, J, q dx i1 i2⟩
  · exact x_next T I2 ea ed hl hno r1 fun s' J => ⟨σ, _, J, q⟩
theorem inst_x {pins : List (Addr × Obj)} {σ : L2.St} {H : Hp} {s : Shared} {a : Addr} {fs : List (Str × V)} (I : Inv X pins σ H s) (h : XAt H a C fs) : ∃ ox od, PySem.W.InstAt s.heap a ox C od := by
  rcases h with ⟨h, _⟩ | ⟨d, h, hd⟩
  · obtain ⟨t, ho⟩ := exo_at I.hok h
    exact ⟨_, none, ho, rfl, rfl, trivial⟩
  · obtain ⟨t, ho⟩ := exo_at I.hok h
    obtain ⟨mA, ⟨od, es, ep, hod, _⟩, _⟩ := exd_at I.hok hd
    exact ⟨_, some od, ho, rfl, rfl, hod⟩
theorem e_xat (he : PE X e te) (hb : attributeBase e f X.env (eval e X.env) = eval e X.env := by rfl) : PE X (.Attribute e f pos) (tXat X.K f te) := by
  refine ⟨fun pins s σ H Q I h => attr_of hb (thn (he.run pins s σ H _ I h) fun u s1 ⟨x, H1, I1, rx, q⟩ => ?_)⟩
  obtain ⟨a, rfl, C, dx, fs, v, ⟨tl, nw, T, _⟩, hno, ea, ed, l, q⟩ := onRef_ex q
  obtain rfl : u = Value.ref a := rx
  obtain ⟨t1, ho⟩ := exo_at I1.hok ea
  obtain ⟨mA, hns, hr⟩ := exd_at I1.hok ed
  obtain ⟨od, hod, hl⟩ := lookIn_ns hns
  obtain ⟨u, hu, ru⟩ := RelO.some_of (v := v) (o := mA f) (by rw [← l]; exact hr f)
  exact PySem.HandSPX.exc_get I1.kIn (ox := { cls := .ref C, dict := some dx, data := .fields #[.ref t1, .none, .none, .none, .bool false, .none] }) ⟨ho, rfl, rfl, hod⟩ T.ga T.gt T.ex (PySem.W.findObj_own T.hd hno rfl (by rw [hl, hu])) (handed_of ru) ⟨v, H1, I1.tok _, ru, q⟩
theorem c_isX : CallR X (.builtin "isinstance") (fIsX X.K) := by
  intro pins s σ H xs us Q I r h
  obtain ⟨x, c, rfl, h⟩ := on2_ex h
  obtain ⟨a, rfl, C, fs, cv, b, ⟨tl, nw, T, _⟩, hx, hc, e, q⟩ := onRef_ex h
  cases r with
  | cons rx rr =>
    cases rr with
    | cons rt rr =>
      cases rr
      cases rx
      have ec := clsW_ok hc rt
      subst ec
      obtain ⟨ox, od, J⟩ := inst_x I hx
      obtain ⟨cd, hcd, _⟩ := PySem.W.any_some T.hd
      exact PySem.W.kia_one (PySem.W.kitx_exc (by rw [hcd]; rfl) T.ga T.gt T.ex T.ca T.cg T.ct T.mo) I.kIn J e (fun z => nomatch z) fun tk => ⟨.bl b, H, I.kept (t' := tk) fun _ _ z => z, rfl, q⟩
theorem run_x {pins : List (Addr × Obj)} {σ : L2.St} {H : Hp} {s : Shared} {Q : VK} {us ws : List Value} {vs zs : List V} (M : XM X.K C fI) (F : FnOk X.prog X.w X.K X.mg X.base CX k fI fd ps sp) (hr : Room (k + 1) X.A) (hx : Passes CX X E0) (I : Inv X pins σ H s) (hu : us.length ≤ 1000) {bs : List (Str × Value)} {ms : List V} {mu : List Value}
    (rm : ∀ a, Vals (.ref a :: ms) (.ref a :: mu)) (hb : ∀ (a : Addr) s', X.K.In s'.heap → BindsTo s' fd ⟨.ref a :: us, ks.zip ws⟩ (ps.zip (.ref a :: mu)))
    (h : ∀ a, H a = none → sp (.ref a :: ms) (upd H a (exo a C none)) (fun v H2 => v = .non ∧ Q (.ref a) H2) E0) :
    wpAny (model X.prog X.w) X.A (call (.ref C) us (ks.zip ws)) (EP X pins σ Q) X.xe s := by
  obtain ⟨⟨tl, nw, T, B, it, FB, _⟩, hini, hfn⟩ := M
  obtain ⟨nm, N', qn, bs, bm, hdct, sn, sub, ab, col, dd, k0, k1, k2, k3, k5, hC, hT⟩ := PySem.W.excInit_of I.kIn T.q
  obtain ⟨hp, gg, dr, t, os⟩ := s
  have hsz : hp.objs.size ≤ hp.objs.size + 1 := Nat.le_succ _
  have hq := h (hp.objs.size + 1) (I.hok.fresh hsz)
  have kk : ∀ b o, hp.get? b = some o → ((hp.push (PySem.W.kdv_tup us)).push (PySem.HandSPX.excO C hp.objs.size)).get? b = some o := fun b o z => Heap.get?_push_of_some _ (Heap.get?_push_of_some _ z)
  have g1 : ((hp.push (PySem.W.kdv_tup us)).push (PySem.HandSPX.excO C hp.objs.size)).get? (hp.objs.size + 1) = some (PySem.HandSPX.excO C hp.objs.size) := by heap_get
  have I2 : Inv X pins σ (upd H (hp.objs.size + 1) (exo (hp.objs.size + 1) C none)) ⟨(hp.push (PySem.W.kdv_tup us)).push (PySem.HandSPX.excO C hp.objs.size), gg, dr, t, os⟩ :=
    I.laid (t' := t) (a := hp.objs.size + 1) (o := exo (hp.objs.size + 1) C none) (h' := (hp.push (PySem.W.kdv_tup us)).push (PySem.HandSPX.excO C hp.objs.size)) kk hsz (exo_ok g1)
  refine wpAny_call (PySem.XE.x_call FB hT hC (by rw [sizeLine_eq]; omega) (PySem.W.looks_findIn I.kIn hini) (fun z => PySem.W.bind_fn I.kIn z hfn)
    (codeAny_mono (F.run _ X.stack _ _ ⟨Value.ref (hp.objs.size + 1) :: us, ks.zip ws⟩ (Value.ref (hp.objs.size + 1) :: mu) _ _ E0 (hr.make C us (ks.zip ws)) (I2.env0.make C us (ks.zip ws)) (hb _ _ I2.kIn) (rm _) hq) fun r s' hq' => ?_))
  cases r with
  | error er => exact hx pins σ _ _ er s' I2 hq'
  | ok fl =>
    cases fl with
    | ret u =>
      obtain ⟨v, H', I3, rv, ev, q3⟩ := I2.after hq'
      subst ev
      exact ⟨rv, ⟨V.ref (hp.objs.size + 1), H', I3, rfl, q3⟩⟩
    | next => exact False.elim hq'
    | brk => exact False.elim hq'
    | cont => exact False.elim hq'
theorem e_xmk (M : XM X.K C fI) (F : FnOk X.prog X.w X.K X.mg X.base CX k fI fd ps sp) (hr : Room (k + 1) X.A) (hg : Gl X x) (hm : X.mg x = some (.ref C)) (hb : Binds X.K fd ps []) (hx : Passes CX X E0) (ha : PA X (e :: es) ta)
    (hdb : (x == ("__debug__" : Str)) = false := by decide) (he : starEach (e :: es) X.env = (false, eval e X.env) :: starEach es X.env := by rfl) (hpl : (backTo pos (starEach es X.env)).any (·.1) = false := by rfl) :
    PE X (.Call (.Name x p) (e :: es) [] pos) (tXMk C sp ta) := by
  obtain ⟨tl, nw, T, XBp⟩ := M.xc
  refine ⟨fun pins s σ H Q I h => wpAny_Call_Name_kw (ld_glob I hg hm (PySem.W.callWith_K (h₀ := X.base) I.ok.mod.kin T.kC (thn (ha.run pos pins s σ H _ I h) fun us s1 ⟨vs, H1, I1, r1, hz, q1⟩ => ⟨I1.kIn, ?_⟩) he hpl) hdb)⟩
  refine run_x (ks := []) (ws := []) (us := us) (ms := vs) (mu := us) (bs := []) (zs := []) (vs := vs) M F hr hx I1 (by rw [← Paired.length r1]; exact hz) (fun a => .cons rfl r1) (fun a s' ki => ?_) q1
  have hl : (Value.ref a :: us).length = ps.length := by
    have z := (Paired.length (show Vals (V.ref a :: vs) (Value.ref a :: us) from .cons rfl r1))
    have z2 := F.len (V.ref s1.heap.objs.size :: vs) _ _ _ (q1 (s1.heap.objs.size) (I1.hok.fresh (Nat.le_refl _)))
    rw [← z]
    exact z2
  have := hb s' (.ref a :: us) ki (by rw [List.append_nil]; exact hl)
  rw [List.append_nil] at this
  exact this
theorem e_xmkK (M : XM X.K C fI) (F : FnOk X.prog X.w X.K X.mg X.base CX k fI fd ps sp) (hr : Room (k + 1) X.A) (hg : Gl X x) (hm : X.mg x = some (.ref C)) (hb : KBn X.K fd ps 1 ks g gV) (hx : Passes CX X E0) (hkw : L2.PK X kws tk)
    (hgv : ∀ (a : Addr) (us : List Value), ∃ mu, g [.ref a] us = .ref a :: mu) (hgV : ∀ (a : Addr) (zs : List V), ∃ ms, gV [.ref a] zs = .ref a :: ms ∧ ∀ b, gV [.ref b] zs = .ref b :: ms) (hgw : ∀ (a b : Addr) (us mu : List Value), g [.ref a] us = .ref a :: mu → g [.ref b] us = .ref b :: mu)
    (hall : (backToKw pos (keywordEach kws X.env)).all (·.1.isSome) = true := by rfl) (hks : (backToKw pos (keywordEach kws X.env)).filterMap (·.1) = ks := by rfl) (hdb : (x == ("__debug__" : Str)) = false := by decide)
    (hpl : ((backTo pos (starEach [] X.env)).any (·.1) || (backToKw pos (keywordEach kws X.env)).any (·.1.isNone)) = false := by rfl) :
    PE X (.Call (.Name x p) [] kws pos) (tXMkK C ks.length sp gV tk) := by
  obtain ⟨tl, nw, T, XBp⟩ := M.xc
  refine ⟨fun pins s σ H Q I h => wpAny_Call_Name_kw (ld_glob I hg hm (PySem.W.callWith_KW0 (h₀ := X.base) I.ok.mod.kin T.kC hall (thn (hkw.run pos pins s σ H _ I h) fun ws s2 ⟨zs, H2, I2, rz, l2, q2⟩ => ⟨I2.kIn, ?_⟩) hpl) hdb)⟩
  rw [hks]
  obtain ⟨mu, hmu⟩ := hgv 0 ws
  obtain ⟨ms, _, hms⟩ := hgV 0 zs
  refine run_x (us := []) (ms := ms) (mu := mu) (bs := []) (zs := []) (vs := []) M F hr hx I2 (Nat.zero_le _) (fun a => ?_) (fun a s' ki => ?_) (fun a ha => ?_)
  · have := hb.rel (vs := [.ref a]) (us := [.ref a]) (.cons rfl .nil) rz
    rw [hms, hgw 0 a ws mu hmu] at this
    exact this
  · have := hb.to s' [.ref a] ws ki rfl (by rw [← Paired.length rz]; exact l2)
    rw [hgw 0 a ws mu hmu] at this
    exact this
  · have := q2 a ha
    rw [hms] at this
    exact this
theorem e_xmk0 {tl : List Value} {nw B it : String} (T : XCl X.K C tl nw) (FB : ExcBaseFacts B nw it tl) (hini : PySem.W.findIn X.K (.ref C) "__init__" = some (some (.builtin it))) (hg : Gl X x) (hm : X.mg x = some (.ref C))
    (hdb : (x == ("__debug__" : Str)) = false := by decide) : PE X (.Call (.Name x p) [] [] pos) (tXMk0 C) := by
  refine ⟨fun pins s σ H Q I h => wpAny_Call_Name_kw (ld_glob I hg hm (PySem.W.callWith_K0 I.kIn T.kC ?_) hdb)⟩
  obtain ⟨nm, N', qn, bs, bm, hdct, sn, sub, ab, col, dd, k0, k1, k2, k3, k5, hC, hT⟩ := PySem.W.excInit_of I.kIn T.q
  obtain ⟨hp, gg, dr, t, os⟩ := s
  refine PySem.W.call_B FB hT hC (PySem.W.looks_findIn I.kIn hini) (Nat.zero_le _) fun h' kk g1 _ => ?_
  have hsz : hp.objs.size ≤ hp.objs.size + 1 := Nat.le_succ _
  exact ⟨.ref (hp.objs.size + 1), _, I.laid (t' := t) (a := hp.objs.size + 1) (o := exo (hp.objs.size + 1) C none) (h' := h') kk hsz (exo_ok g1), rfl, h _ (I.hok.fresh hsz)⟩
end
end Sp
namespace Sp
open PySem PySem.Spec PyProof.Rows L2
def flatD : V → Option PyData
  | .non => some .none
  | .bl b => some (.bool b)
  | .int i => some (.int i)
  | .str x => some (.str x)
  | _ => none
mutual
/-- a thing and its data -/
inductive Dt (K : PySem.W.Frag) (H : Hp) : V → PyData → Prop
  | fl {x : V} {d : PyData} : flatD x = some d → Dt K H x d
  | tup {a : Addr} {xs : List V} {ds : List PyData} : SqT K H a xs → DtAll K H xs ds → Dt K H (.ref a) (.tuple ds)
  | lst {a : Addr} {xs : List V} {ds : List PyData} : H a = some (.lst xs) → xs.length ≠ 3 → a ≠ sysModules → DtAll K H xs ds → Dt K H (.ref a) (.list ds)
  | d0 {a : Addr} : H a = some (.dK []) → Dt K H (.ref a) (.dict [])
  | d1 {a : Addr} {k : Str} {n : Int} : H a = some (.dK [(.inr k, .int n)]) → Dt K H (.ref a) (.dict [(.str k, .int n)])
inductive DtAll (K : PySem.W.Frag) (H : Hp) : List V → List PyData → Prop
  | nil : DtAll K H [] []
  | cons {x : V} {xs : List V} {d : PyData} {ds : List PyData} : Dt K H x d → DtAll K H xs ds → DtAll K H (x :: xs) (d :: ds)
end
theorem Dt.keep {K : PySem.W.Frag} {H H' : Hp} {x : V} {d : PyData} (t : TK K H H') (k : ∀ b o, (∀ x y z, o ≠ .lst [x, y, z]) → H b = some o → H' b = some o) (h : Dt K H x d) : Dt K H' x d := by
  refine Dt.rec (motive_1 := fun x d _ => Dt K H' x d) (motive_2 := fun xs ds _ => DtAll K H' xs ds) (fun h => .fl h) (fun h _ ih => .tup (t _ _ h) ih) (fun h h3 hs _ ih => .lst (k _ _ (fun _ _ _ z => ?_) h) h3 hs ih) (fun h => .d0 (k _ _ (fun _ _ _ z => ?_) h)) (fun h => .d1 (k _ _ (fun _ _ _ z => ?_) h)) .nil (fun _ _ a b => .cons a b) h
  · cases z
    exact h3 rfl
  · cases z
  · cases z
theorem Dt.same {K : PySem.W.Frag} {H H' : Hp} {x : V} {d : PyData} (e : Same H H') (h : Dt K H x d) : Dt K H' x d := h.keep (TK.of e) fun b o _ z => e b o z
def encK : Key → PyData
  | .inl i => .int i
  | .inr x => .str x
section
variable {X : Cx} {pins : List (Addr × Obj)} {σ : L2.St} {H : Hp} {s : Shared}
theorem key_reads {P : Program} {w : World} {h : Heap} (k : Key) (key : Value) (e : (mixKind P w).is k key = true) : Reads h key (encK k) [] := by
  rcases keyIs_shape e with ⟨i, t, rfl, rfl⟩ | ⟨x, t, rfl, rfl⟩
  · exact Reads.int _ _
  · exact Reads.str _ _
theorem Dt.reads (I : Inv X pins σ H s) {x : V} {d : PyData} (h : Dt X.K H x d) : ∀ {u : Value}, RelV x u → ∃ as, Reads s.heap u d as ∧ sysModules ∉ as := by
  refine Dt.rec (motive_1 := fun x d _ => ∀ {u : Value}, RelV x u → ∃ as, Reads s.heap u d as ∧ sysModules ∉ as) (motive_2 := fun xs ds _ => ∀ {us : List Value}, Vals xs us → ∃ as, ReadsAll s.heap us ds as ∧ sysModules ∉ as) ?_ ?_ ?_ ?_ ?_ ?_ ?_ h
  · intro x d h u r
    cases x with
    | non => cases h; cases (r : u = _); exact ⟨_, .none, List.not_mem_nil⟩
    | bl b => cases h; cases (r : u = _); exact ⟨_, .bool b, List.not_mem_nil⟩
    | int i => cases h; obtain ⟨t, rfl⟩ := r; exact ⟨_, .int i t, List.not_mem_nil⟩
    | str x => cases h; obtain ⟨t, rfl⟩ := r; exact ⟨_, .str x t, List.not_mem_nil⟩
    | _ => cases h
  · intro a xs ds h _ ih u r
    cases (r : u = _)
    obtain ⟨its, rv, ⟨o, ho, hc, n, hd⟩, _⟩ := I.tuple h
    obtain ⟨as, h1, h2⟩ := ih rv
    exact ⟨as, .tuple ho hc hd h1, h2⟩
  · intro a xs ds h _ hs _ ih u r
    cases (r : u = _)
    obtain ⟨_, its, n, rv, ho⟩ : xs.length ≤ sizeLine ∧ ∃ (its : List Value) (n : Nat), Vals xs its ∧ s.heap.get? a = some { cls := .type "list", data := .seq its.toArray n } := I.hok a _ h
    obtain ⟨as, h1, h2⟩ := ih rv
    refine ⟨_, .list ho rfl rfl h1, fun z => ?_⟩
    rcases List.mem_cons.mp z with z | z
    · exact hs z.symm
    · exact h2 z
  · intro a h u r
    obtain ⟨_, hs, vs, rel, dd⟩ := dk_of I.hok h
    cases rel
    cases (r : u = _)
    refine ⟨_, PyProof.V.reads_dictOf (enc := encK) key_reads dd .nil, fun z => ?_⟩
    rw [List.mem_singleton] at z
    rw [z] at hs
    simp at hs
  · intro a k n h u r
    obtain ⟨_, hs, vs, rel, dd⟩ := dk_of I.hok h
    cases rel with
    | cons h1 h2 =>
      cases h2
      rename_i q
      obtain ⟨k', v⟩ := q
      obtain ⟨e1, t, e2⟩ := h1
      dsimp only at e1 e2
      subst e1 e2
      cases (r : u = _)
      refine ⟨_, PyProof.V.reads_dictOf (enc := encK) (D := [(.str k, .int n)]) key_reads dd (.cons (Reads.int n t) .nil), fun z => ?_⟩
      rw [List.append_nil, List.mem_singleton] at z
      rw [z] at hs
      simp at hs
  · intro us r
    cases r
    exact ⟨_, .nil, List.not_mem_nil⟩
  · intro x xs d ds _ _ ih1 ih2 us r
    cases r with
    | cons r rs =>
      obtain ⟨as, h1, h2⟩ := ih1 r
      obtain ⟨bs, h3, h4⟩ := ih2 rs
      exact ⟨_, .cons h1 h3, fun z => (List.mem_append.mp z).elim h2 h4⟩
/-- small enough to be shown -/
def Sml (d : PyData) : Prop := d.showable = true ∧ d.depth ≤ 5 ∧ d.shown.length ≤ 10000
theorem smlAll : ∀ {ds : List PyData}, (∀ d ∈ ds, Sml d) → PyData.showableAll ds = true ∧ PyData.depthAll ds ≤ 5 ∧ ((PyData.shownAll ds).map (·.length)).sum ≤ 10000 * ds.length
  | [], _ => ⟨rfl, Nat.zero_le _, Nat.zero_le _⟩
  | d :: ds, h => by
    obtain ⟨a1, a2, a3⟩ := smlAll fun x hx => h x (List.mem_cons_of_mem _ hx)
    obtain ⟨b1, b2, b3⟩ := h d (List.mem_cons_self ..)
    refine ⟨by simp only [PyData.showableAll, a1, b1, Bool.and_self], by simp only [PyData.depthAll]; omega, ?_⟩
    simp only [PyData.shownAll, List.map_cons, List.sum_cons, List.length_cons]
    omega
/-- repr of a list of few things -/
def fReprX (K : PySem.W.Frag) : List V → Hp → VK → Prop := fun xs H Q => on1 xs fun x => onRef x fun l => ∃ vs ds, H l = some (.lst vs) ∧ l ≠ sysModules ∧ vs.length ≠ 3 ∧ DtAll K H vs ds ∧ (∀ d ∈ ds, Sml d) ∧ ds.length ≤ 20 ∧ Q (.str (PyData.shown (.list ds))) H
theorem c_reprX (hg : X.A.guards = some []) (hu : X.A.units + 64 < cLine) : CallR X (.builtin "repr") (fReprX X.K) := fun pins s σ H xs us Q I r h => by
  obtain ⟨x, rfl, h⟩ := on1_ex h
  obtain ⟨l, rfl, vs, ds, h1, h2, h3, h4, h5, h6, q⟩ := onRef_ex h
  obtain ⟨u, rfl, rx⟩ := vals1 r
  obtain ⟨as, rd, ns⟩ := Dt.reads I (.lst h1 h3 h2 h4) rx
  cases (rx : u = _)
  obtain ⟨a1, a2, a3⟩ := smlAll h5
  have e2 := listText_len_le (PyData.shownAll ds)
  rw [shownAll_len] at e2
  exact repr_of_reads' rd (by simpa [PyData.showable] using a1) (fun _ => ns) hg (by simp only [PyData.depth]; omega) (fun _ _ e => e) (fun h' u tk hk => ⟨.str (PyData.shown (.list ds)), H, I.kept hk, ⟨_, rfl⟩, q⟩) (by simp only [PyData.shown]; rw [sizeLine_eq]; omega)
/-- [e, ..]: a new list, not sys.modules -/
def tLstN (t : TA) : TE := fun σ H Q => t σ H fun xs H1 => xs.length ≤ sizeLine ∧ ∀ p, H1 p = none → p ≠ sysModules → Q (.ref p) (upd H1 p (.lst xs))
theorem e_lstN {es : List Expr} {pos : Pos} {t : TA} (h : PA X es t) : PE X (.List es pos) (tLstN t) := by
  refine ⟨fun pins s σ H Q I hq => wpAny_List_spliced (thn (h.run pos pins s σ H _ I hq) fun us s1 ⟨xs, H1, I1, r, z, q⟩ => ⟨by rw [← r.length]; exact z, ?_⟩)⟩
  exact ⟨.ref s1.heap.objs.size, upd H1 s1.heap.objs.size (.lst xs), I1.laid (t' := s1.toks) (fun b u e => Heap.get?_push_of_some _ e) (Nat.le_refl _) ⟨z, us, 0, r, Heap.get?_push_size _ rfl⟩, rfl, q _ (I1.hok.fresh (Nat.le_refl _)) (Nat.ne_of_gt I1.big)⟩
end
end Sp
namespace PySem.XE
open PySem PySem.Spec PySem.Calls PyProof.Rows PySem.W
section
variable {M : Model} {K : Frag}
theorem exm_each {cls : Value} : ∀ {cs : List Value} {b : Bool}, exmAny K cls cs = some b → ∀ c ∈ cs, ∃ v, exmOne K cls c = some v
  | [], _, _, c, hc => absurd hc List.not_mem_nil
  | x :: r, b, h, c, hc => by
    obtain ⟨b1, d1, h1, h2, _⟩ := exmAny_cons h
    rcases List.mem_cons.mp hc with rfl | hc
    · exact ⟨_, h1⟩
    · exact exm_each h2 c hc
theorem loopA {A : Around} {E : Value → Shared → Prop} {h : Heap} {s : Shared} (hs : s.heap = h) : ∀ {cs : List Value} {Q : PUnit → Shared → Prop}, (∀ c ∈ cs, Looks M h (isExcClass c) true) → Q PUnit.unit s →
    wpAny M A (forIn cs PUnit.unit fun c _ => do
      let z ← isExcClass c
      if (!z) = true then do
        rule "try.except-non-exception-class"
        raiseErrorWords "TypeError" "catching classes that do not inherit from BaseException is not allowed"
        pure (ForInStep.yield PUnit.unit)
      else pure (ForInStep.yield PUnit.unit)) Q E s
  | [], Q, _, q => by
    rw [List.forIn_nil]
    exact wpAny_pure q
  | c :: r, Q, h1, q => by
    rw [List.forIn_cons]
    have e1 := h1 c (List.mem_cons_self ..)
    refine wpAny_bind (wpAny_bind ?_)
    subst hs
    refine e1.at ?_
    rw [if_neg (by decide)]
    exact wpAny_pure (loopA rfl (fun x hx => h1 x (List.mem_cons_of_mem _ hx)) q)
theorem loopB {A : Around} {E : Value → Shared → Prop} {h : Heap} {s : Shared} {te : Value} (X : K.In h) (hs : s.heap = h) : ∀ {cs : List Value} {b : Bool} {Q : Option Bool × Unit → Shared → Prop}, exmAny K te cs = some b → Q (if b = true then some true else none, ()) s →
    wpAny M A (forIn cs ((none : Option Bool), ()) fun c _ => do
      let z ← isSubtype te c
      if z = true then pure (ForInStep.done (some true, ())) else pure (ForInStep.yield (none, ()))) Q E s
  | [], b, Q, hx, q => by
    cases hx
    rw [List.forIn_nil]
    exact wpAny_pure q
  | c :: r, b, Q, hx, q => by
    rw [List.forIn_cons]
    obtain ⟨b1, d1, h1, h2, rfl⟩ := exmAny_cons hx
    obtain ⟨_, e1⟩ := exm_cls (M := M) X h1
    refine wpAny_bind (wpAny_bind ?_)
    subst hs
    refine e1.at ?_
    cases b1 with
    | true =>
      rw [if_pos rfl]
      exact wpAny_pure (wpAny_pure q)
    | false =>
      rw [if_neg Bool.false_ne_true]
      exact wpAny_pure (loopB X rfl h2 q)
theorem exm_tupN {cs : List Value} {cls : Value} {tp e : Addr} {b : Bool} {h : Heap} (X : K.In h) (LT : Looks M h (typeOf (.ref e)) cls) (hp : h.get? tp = some { cls := .type "tuple", data := .seq cs.toArray }) (hx : exmAny K cls cs = some b) :
    Looks M h (excMatches (.ref e) (.ref tp)) b := by
  intro A Q E s kk q
  obtain ⟨hh, g, d, tk, os⟩ := s
  have k : ∀ b o, h.get? b = some o → hh.get? b = some o := kk
  have L0 : Looks M h (isInstance (.ref tp) (.type "tuple")) true := ((Looks.ld hp).andThen .now).andThen (Looks.of_pure isSubtype_tuple_tuple)
  have L1 := L0.keeps k
  have L2 := LT.keeps k
  have hp2 := k _ _ hp
  unfold excMatches
  refine wpAny_bind (L1.at ?_)
  dsimp only
  rw [if_pos rfl]
  first
    | refine wpAny_bind (wpAny_seqItems hp2 rfl ?_)
    | refine wpAny_bind (wpAny_bind (wpAny_seqItems hp2 rfl (wpAny_pure ?_)))
  dsimp only [Option.getD_some, Option.getD]
  refine wpAny_bind (wpAny_pure (wpAny_bind (loopA (h := hh) rfl (fun c hc => ?_) (wpAny_bind (L2.at (wpAny_bind (loopB (X.keeps k) rfl hx ?_)))))))
  · obtain ⟨v, hv⟩ := exm_each hx c hc
    exact ((exm_cls (M := M) X hv).1).keeps k
  · cases b
    · exact wpAny_pure q
    · exact wpAny_pure q
end
end PySem.XE
namespace Sp
open PySem PySem.Spec PyProof.Rows L2
/-- the classes that a tuple of an except clause names -/
inductive NmAll (X : Cx) : List Expr → List Value → Prop
  | nil : NmAll X [] []
  | cons {x : Str} {p : Pos} {c : Value} {es : List Expr} {cs : List Value} : Names X x c → NmAll X es cs → NmAll X (.Name x p :: es) (c :: cs)
theorem names_run {X : Cx} {a : Addr} {pn pins : List (Addr × Obj)} {σ : L2.St} {H : Hp} {s : Shared} {E : Value → Shared → Prop} (I : Inv (X.suite a pn) pins σ H s) (pos : Pos) : ∀ {es : List Expr} {cs : List Value} {Q : List Value → Shared → Prop}, NmAll X es cs → Q cs s →
    wpAny (model X.prog X.w) (X.A.mark (some (.ref a))) (spliced (backTo pos (starEach es X.env))) Q E s
  | _, _, _, .nil, q => Calls.spliced_nil q
  | _, _, _, .cons (x := x) (p := p) (es := es) hc t, q => by
    show wpAny _ _ (spliced ((false, eval (.Name x p) X.env) :: backTo pos (starEach es X.env))) _ _ _
    refine Calls.spliced_cons ?_
    obtain ⟨hg, hd, hm | ⟨hm, hv, hn⟩⟩ := hc
    · exact ld_glob (X := X.suite a pn) I hg hm (names_run I pos t q) hd
    · exact ld_blt (X := X.suite a pn) I hg hm hv (names_run I pos t q) hn hd
/-- raise C(e, ..) -/
def tRaiseX (C : Addr) (sp : L2.Sp) (E : XK) (ta : TA) : TS := fun _ σ H => tMkO C sp [] ta σ H fun cls d H' => E cls d H'
theorem s_raiseX {X : Cx} {e : Expr} {C : Addr} {sp : L2.Sp} {E : XK} {ta : TA} {pos : Pos} (hc : X.calm = true) (tk : Takes X (fun cls d _ H => E cls d H)) (he : PMk X e (tMkO C sp [] ta)) : PS X (.Raise (some e) none pos) (tRaiseX C sp E ta) := ps_raise hc tk he
theorem typ_of {K : PySem.W.Frag} {C : Addr} {tl : List Value} {nw : String} (q : PySem.W.excInitIn K C tl nw = true) : PySem.W.typeIn K (.ref C) = some (.type "type") := by
  unfold PySem.W.excInitIn at q
  split at q
  · rename_i dd cd sl ho
    show (K.lookup C).map (·.cls) = _
    rw [ho]
    rfl
  · cases q
section
variable {X : Cx} {e : Expr} {es : List Expr} {ta : TA} {x : Str} {p pos : Pos} {C fI : Addr} {CX : CXT} {k : Nat} {fd : FuncData} {ps : List Str} {sp : L2.Sp}
/-- C(e, ..) to be raised -/
theorem pmk_x (M : XM X.K C fI) (F : FnOk X.prog X.w X.K X.mg X.base CX k fI fd ps sp) (hr : Room (k + 1) X.A) (hg : Gl X x) (hm : X.mg x = some (.ref C)) (hb : Binds X.K fd ps []) (hx : Passes CX X (fun _ _ _ => False)) (ha : PA X (e :: es) ta)
    (hdb : (x == ("__debug__" : Str)) = false := by decide) (he : starEach (e :: es) X.env = (false, eval e X.env) :: starEach es X.env := by rfl) (hpl : (backTo pos (starEach es X.env)).any (·.1) = false := by rfl) :
    PMk X (.Call (.Name x p) (e :: es) [] pos) (tMkO C sp [] ta) := by
  intro pins s σ H Q I h
  obtain ⟨⟨tl, nw, T, B, it, FB, _⟩, hini, hfn⟩ := M
  refine wpAny_Call_Name_kw (ld_glob I hg hm (PySem.W.callWith_K (h₀ := X.base) I.ok.mod.kin T.kC (thn (ha.run pos pins s σ H _ I h) fun us s1 ⟨vs, H1, I1, r1, hz, q1⟩ => ⟨I1.kIn, ?_⟩) he hpl) hdb)
  show wpAny _ _ (call (.ref C) us) _ _ _
  obtain ⟨nm, N', qn, bs, bm, hdct, sn, sub, ab, col, dd, k0, k1, k2, k3, k5, hC, hT⟩ := PySem.W.excInit_of I1.kIn T.q
  obtain ⟨hp, gg, dr, t, os⟩ := s1
  have hsz : hp.objs.size ≤ hp.objs.size + 1 := Nat.le_succ _
  have hq := q1 (hp.objs.size + 1) (I1.hok.fresh hsz)
  rw [List.append_nil] at hq
  have kk : ∀ b o, hp.get? b = some o → ((hp.push (PySem.W.kdv_tup us)).push (PySem.HandSPX.excO C hp.objs.size)).get? b = some o := fun b o z => Heap.get?_push_of_some _ (Heap.get?_push_of_some _ z)
  have g1 : ((hp.push (PySem.W.kdv_tup us)).push (PySem.HandSPX.excO C hp.objs.size)).get? (hp.objs.size + 1) = some (PySem.HandSPX.excO C hp.objs.size) := by heap_get
  have I2 : Inv X pins σ (upd H1 (hp.objs.size + 1) (exo (hp.objs.size + 1) C none)) ⟨(hp.push (PySem.W.kdv_tup us)).push (PySem.HandSPX.excO C hp.objs.size), gg, dr, t, os⟩ :=
    I1.laid (t' := t) (a := hp.objs.size + 1) (o := exo (hp.objs.size + 1) C none) (h' := (hp.push (PySem.W.kdv_tup us)).push (PySem.HandSPX.excO C hp.objs.size)) kk hsz (exo_ok g1)
  have r2 : Vals (V.ref (hp.objs.size + 1) :: vs) (Value.ref (hp.objs.size + 1) :: us) := .cons rfl r1
  have hl : (Value.ref (hp.objs.size + 1) :: us).length = ps.length := by
    rw [← r2.length]
    exact F.len _ _ _ _ hq
  have b1 := hb ⟨(hp.push (PySem.W.kdv_tup us)).push (PySem.HandSPX.excO C hp.objs.size), gg, dr, t, os⟩ (Value.ref (hp.objs.size + 1) :: us) I2.kIn (by rw [List.append_nil]; exact hl)
  rw [List.append_nil] at b1
  refine wpAny_call (PySem.XE.x_call (kw := []) FB hT hC (by rw [← Paired.length r1, sizeLine_eq]; omega) (PySem.W.looks_findIn I1.kIn hini) (fun z => PySem.W.bind_fn I1.kIn z hfn)
    (codeAny_mono (F.run _ X.stack _ _ ⟨Value.ref (hp.objs.size + 1) :: us, []⟩ (Value.ref (hp.objs.size + 1) :: us) _ _ (fun _ _ _ => False) (hr.make C us []) (I2.env0.make C us []) b1 r2 hq) fun r s' hq' => ?_))
  cases r with
  | error er => exact hx pins σ _ _ er s' I2 hq'
  | ok fl =>
    cases fl with
    | ret u =>
      obtain ⟨v, H2, os2, bare2, un2, hok2, rv, ev, d, fs, ea, ed, hd1, q2⟩ := hq'
      subst ev
      obtain ⟨h2, g2, d2, t2, os'⟩ := s'
      exact ⟨rv, mk_end (raises_own T.ex (typ_of T.q)) I1 hsz kk un2 hok2 os2 bare2 ea ed hd1 q2⟩
    | next => exact False.elim hq'
    | brk => exact False.elim hq'
    | cont => exact False.elim hq'
end
theorem fly_keep {B h h' : Heap} {l : List Env} {e : Addr} {Z : Obj → Prop} (k : ∀ b o, h.get? b = some o → h'.get? b = some o) (f : HandSPX.FlyingZ B l e Z h) : HandSPX.FlyingZ B l e Z h' := by
  obtain ⟨f1, f2, f3, oe, vs, T, oT, ts, a1, a2, a3, a4, a5, a6, a7, a8, a9⟩ := f
  exact ⟨fun b o z => k b o (f1 b o z), f2, f3.of_keeps fun b o z _ => ⟨o, k b o z, rfl⟩, oe, vs, T, oT, ts, k _ _ a1, a2, a3, a4, a5, a6, k _ _ a7, a8, a9⟩
/-- what the clause 'except (x, ..) as n' wishes, where it is always the one that catches -/
def wTup (K : PySem.W.Frag) (cs : List Value) (i : Nat) (ts : Addr → Value → Option Addr → TS) (D : Ends) : WX := fun cls d σ H => PySem.W.exmAny K cls cs = some true ∧ ∀ a, H a = none →
  ts a cls d { nx := fun σ' H' => D.nx (σ'.set i none) H', rt := D.rt, bk := fun σ' H' => D.bk (σ'.set i none) H', ct := fun σ' H' => D.ct (σ'.set i none) H' } (σ.set i (some (.ref a))) H
section
variable {X : Cx} {n : Str} {es : List Expr} {cs : List Value} {i kt : Nat} {body suite : List Stmt} {b₀ : Stmt} {more : List ExceptHandler} {tp pos pos' : Pos} {tb : WX → TS} {ts : Addr → Value → Option Addr → TS}
theorem s_tryT (hs : X.stack = X.env :: X.outer) (hf : X.env.frame = some X.env.locals) (hN : X.N.Nodup) (hi : X.N[i]? = some n) (hln : X.env.kindOf n = some .local) (hc : NmAll X es cs) (hl : cs.length ≤ 100)
    (hb : ∀ (W : WX) (pn : List (Addr × Obj)) (xe : Value → Shared → Prop), Takes (X.tr pn xe) W → PassesOwn (model X.prog X.w) X.A X.env xe → PSs (X.tr pn xe) body (tb W))
    (hsu : ∀ (a : Addr) (oe : Obj) (cls : Value) (d : Option Addr) (pn : List (Addr × Obj)), Zc cls d oe → (∃ vs, oe.data = .fields vs) → PSs (X.suite a ((a, oe) :: pn)) (b₀ :: suite) (ts a cls d)) :
    PS X (.Try body (.ExceptHandler (some (.Tuple es kt tp)) (some n) (b₀ :: suite) pos' :: more) [] [] pos) (fun D σ H => tb (wTup X.K cs i ts D) D σ H) := by
  refine ⟨fun pins s σ H D I h => ?_⟩
  have ok := I.ok
  have hfr : X.A.frames = some (X.env :: X.outer) := by rw [ok.frames, hs]
  refine wpAny_Try_except (wpAny_mono ((hb (wTup X.K cs i ts D) (X.pn ++ pins) (fun e s₁ => wpAny (model X.prog X.w) X.A (noteFrame e X.env) (fun _ s₂ => wpAny (model X.prog X.w) X.A (setFlight e none) (fun _ s₃ =>
    wpAny (model X.prog X.w) X.A (handleBy e X.env (.ExceptHandler (some (.Tuple es kt tp)) (some n) (b₀ :: suite) pos' :: more)) (SP X pins D) X.xe s₃) X.xe s₂) X.xe s₁) (fun u s' xx => ?_) PassesOwn.looking).run [] s σ H D (I.toTry _) h) (fun f s1 hsp => ?_) (fun e s1 he => he))
  · obtain ⟨a, B, sI, pins', σ', H', cls, d, rfl, J', nb, up, sky, na, os, ag, hm, hyes⟩ := xx
    have J : Inv X pins σ' H' sI := J'.ofTry ok
    have sky2 : Sky B (X.env :: X.outer) a (Zc cls d) X.env.locals s'.heap := by rw [← hs]; exact sky
    refine Sky.land Zc.steady hfr hf sky2 fun h3 fl3 up3 => ?_
    have out : ∀ {hh : Heap} {o : Obj} {vs : Array Value}, HandSPX.FlyingZ B (X.env :: X.outer) a (Zc cls d) hh → hh.get? a = some o → o.data = .fields vs → a ≠ X.env.locals ∧ a ∉ X.fs := fun {hh o vs} fl e dd => by
      have nfr : a ∉ frs (X.env :: X.outer) := fun hmem => by
        obtain ⟨_, o', e', hnf⟩ := fl.2.2.1.mem hmem
        rw [e] at e'
        cases e'
        exact hnf _ dd
      refine ⟨fun z => nfr (List.mem_filterMap.mpr ⟨X.env, List.mem_cons_self, by rw [hf, z]⟩), fun hmem => ?_⟩
      obtain ⟨e, he, q⟩ := List.mem_filterMap.mp hmem
      exact nfr (List.mem_filterMap.mpr ⟨e, List.mem_cons_of_mem _ he, q⟩)
    have J3 : Inv X pins σ' H' { s' with heap := h3 } := J.landed nb fl3.1 (up.trans up3) os ag
    obtain ⟨oe3, vs3, he3, hz3, hd3⟩ := fl3.there
    have S3 := J3.suite he3 hd3 na (out fl3 he3 hd3).1 (out fl3 he3 hd3).2
    have k3 : ∀ b o, h3.get? b = some o → (h3.push { cls := .type "tuple", data := .seq cs.toArray }).get? b = some o := fun b o z => Heap.get?_push_of_some _ z
    refine wpAny_handleBy_cons (codeAny_handlers_test (wpAny_Tuple_spliced (names_run S3 tp hc ⟨by rw [sizeLine_eq]; omega, ?_⟩))) (by intro q; cases q)
    have LT : PySem.W.Looks (model X.prog X.w) (h3.push { cls := .type "tuple", data := .seq cs.toArray }) (typeOf (.ref a)) cls := fun A Q E s k q => wpAny_typeOf_ref (k _ _ (k3 _ _ he3)) (by rw [hz3.1]; exact q)
    refine (PySem.XE.exm_tupN (M := model X.prog X.w) (J3.kIn.keeps k3) LT (Heap.get?_push_size _ rfl) hm).here ?_
    refine codeAny_handlers_suite_as ?_
    refine HandSPX.lands_againZ (fly_keep k3 fl3) fun h4 fl4 up4 => ?_
    have J4 : Inv X pins σ' H' { s' with heap := h4 } := J.landed nb fl4.1 (((up.trans up3).trans (Heap.UpToSlots.of_keeps k3)).trans up4) os ag
    obtain ⟨oe4, vs4, he4, hz4, hd4⟩ := fl4.there
    have S4 := J4.suite he4 hd4 na (out fl4 he4 hd4).1 (out fl4 he4 hd4).2
    refine store_ok (X := X.suite a ((a, oe4) :: (X.pn ++ pins))) (v := .ref a) S4 hN hi (.inl hln) rfl (fun s5 S5 => ?_) (.inr hln)
    refine wpAny_mono ((hsu a oe4 cls d (X.pn ++ pins) hz4 ⟨_, hd4⟩).run [] s5 _ H' _ S5 (hyes a na)) (fun f s6 hsp => ?_) (fun _ _ z => False.elim z)
    have fin : ∀ {σ6 : L2.St} {H6 : Hp} {Q : Shared → Prop}, Inv (X.suite a ((a, oe4) :: (X.pn ++ pins))) [] σ6 H6 s6 → (∀ s7, Inv X pins (σ6.set i none) H6 s7 → Q s7) →
        wpAny (model X.prog X.w) X.A (do bindName X.env n .none; unbindBehindTheSuite X.env n pos') (fun _ s7 => Q s7) X.xe s6 := fun {σ6 H6 Q} S6 hq => gone_ok (S6.unsuite ok) hN hi hln hq
    cases f with
    | ret u =>
      obtain ⟨v6, σ6, H6, S6, r6, q6⟩ := hsp
      exact fin S6 fun s7 J7 => ⟨_, _, _, J7, r6, q6⟩
    | next =>
      obtain ⟨σ6, H6, S6, q6⟩ := hsp
      exact fin S6 fun s7 J7 => ⟨_, _, J7, q6⟩
    | brk =>
      obtain ⟨σ6, H6, S6, q6⟩ := hsp
      exact fin S6 fun s7 J7 => ⟨_, _, J7, q6⟩
    | cont =>
      obtain ⟨σ6, H6, S6, q6⟩ := hsp
      exact fin S6 fun s7 J7 => ⟨_, _, J7, q6⟩
  · cases f with
    | ret u =>
      obtain ⟨v, σ', H', J', r, q⟩ := hsp
      exact ⟨v, σ', H', J'.ofTry ok, r, q⟩
    | next =>
      obtain ⟨σ', H', J', q⟩ := hsp
      exact wpAny_execs_nil ⟨σ', H', J'.ofTry ok, q⟩
    | brk =>
      obtain ⟨σ', H', J', q⟩ := hsp
      exact ⟨σ', H', J'.ofTry ok, q⟩
    | cont =>
      obtain ⟨σ', H', J', q⟩ := hsp
      exact ⟨σ', H', J'.ofTry ok, q⟩
end
end Sp
namespace Sp
open PySem PySem.Spec PyProof.Rows L2 L2H
/-! ### a def that is handed the error which an except suite holds -/
structure FnP (P : Program) (w : World) (K : PySem.W.Frag) (mg : Str → Option Value) (base : Heap) (CX : CXT) (k : Nat) (f : Addr) (fd : FuncData) (ps : List Str) (sp : Addr × Obj → L2.Sp) : Prop where
  len : ∀ p vs H Q E, sp p vs H Q E → vs.length = ps.length
  run : ∀ (A : Around) (outer : List Env) (s : Shared) (H : Hp) (args : Args) (us : List Value) (vs : List V) (Q : VK) (E : XK) (p : Addr × Obj), RoomH k A → PinOk outer H s p → Env0 P w K mg base A outer s H → BindsTo s fd args (ps.zip us) → Vals vs us → sp p vs H Q E →
    codeAny (model P w) A (.call (.ref f) args) (CR CX outer P w H s Q E) s
theorem okP {CX : CXT} {P : Program} {w : World} {K : PySem.W.Frag} {mg : Str → Option Value} {base : Heap} {k : Nat} {f : Addr} {x qual : Str} {params : Arguments} {body : List Stmt} {scope : Scope} {fd : FuncData} {N ps : List Str} {sp : Addr × Obj → L2.Sp} (F : FunD K x qual params body scope [] [] f fd) (S : FnScope N ps scope)
    (len : ∀ p vs H Q E, sp p vs H Q E → vs.length = ps.length)
    (hbody : ∀ (cdv : Value) (A : Around) (outer : List Env) (s : Shared) (H : Hp) (vs : List V) (Q : VK) (E : XK) (p : Addr × Obj), RoomH k (A.deeper (envOfC qual scope s.heap.objs.size f cdv)) → sp p vs H Q E →
      ∃ t, PSs (cxH CX P w K mg base N qual scope f cdv A outer s H E p) body t ∧ t { nx := fun _ H' => Q .non H', rt := Q } (L2.start N vs) H) : FnP P w K mg base CX (k + 1) f fd ps sp := by
  obtain ⟨oc, od, dV, kV, doc, pm, an, cdv, ct, osl, rfl, lk, hcd, _, _⟩ := F.ex
  refine ⟨len, fun A outer s H args us vs Q E p hr hpin e0 hb r hsp => ?_⟩
  have hl := len _ _ _ _ _ hsp
  have KX : K.In s.heap := e0.mod.kin.keeps fun b o e => (e0.bs b o e).1
  have lim : s.heap.NoLimit := e0.mod.nolimit.keeps fun b o e => (e0.bs b o e).1
  have hkind : ∀ y ∈ ps.zip us, scope.names.lookup y.1 = some .local ∨ (scope.names.lookup y.1 = some .cell ∧ ((cellsFrom (s.heap.objs.size + 1) scope.names []).lookup y.1).isSome = true) := fun ⟨n, v⟩ hy =>
    (S.par n (List.of_mem_zip hy).1).elim .inl fun q => .inr ⟨q, PySem.W.cellsFrom_some _ _ _ (.inl q)⟩
  refine codeAny_call_function hr.depth (KX _ _ lk) rfl S.co S.gen rfl (PySem.W.codeRec_of KX hcd) (hb _ _ _ _ (wpAny_newFunctionEnv_cells S.kind hkind fun env he s1 x => ?_))
  subst he
  obtain ⟨t, ht, hq⟩ := hbody cdv A outer s H vs Q E p (hr.deeper _) hsp
  have I : Inv (cxH CX P w K mg base N qual scope f cdv A outer s H E p) [] (L2.start N vs) H s1 := inv_startH S hpin e0 hl r x
  refine ⟨lim.keeps x.toInCall.keep, codeAny_func (wpAny_mono (ht.run [] s1 (L2.start N vs) H _ I hq) (fun fl s' hs => ?_) fun e s' hs => hs)⟩
  have fin : ∀ {σ' : L2.St} {H' : Hp} {v : V} {u : Value}, Inv (cxH CX P w K mg base N qual scope f cdv A outer s H E p) [] σ' H' s' → RelV v u → Q v H' → CE outer P w H s Q u s' :=
    fun {σ' H' v u} J rv q => ⟨v, H', J.os, J.bare, J.base, J.hok, rv, q⟩
  cases fl with
  | ret u =>
    obtain ⟨v, σ', H', J, rv, q⟩ := hs
    exact fin J rv q
  | next =>
    obtain ⟨σ', H', J, q⟩ := hs
    exact fin (v := V.non) (u := Value.none) J rfl q
  | brk =>
    obtain ⟨_, _, _, q⟩ := hs
    exact False.elim q
  | cont =>
    obtain ⟨_, _, _, q⟩ := hs
    exact False.elim q
section
variable {X : Cx} {CX : CXT} {k : Nat} {f : Addr} {fd : FuncData} {ps : List Str} {sp : Addr × Obj → L2.Sp} {x : Str} {q pos : Pos} {e : Expr} {es : List Expr} {t : TA} {p : Addr × Obj}
theorem e_callP (F : FnP X.prog X.w X.K X.mg X.base CX k f fd ps sp) (hr : RoomH k X.A) (hp : p ∈ X.pn) (hg : Gl X x) (hm : X.mg x = some (.ref f)) (hk : PySem.W.keepIn X.K (.ref f) = true) (hb : Binds X.K fd ps []) (hx : Passes CX X E0)
    (ha : PA X (e :: es) t) (hdb : (x == ("__debug__" : Str)) = false := by decide) (he : starEach (e :: es) X.env = (false, eval e X.env) :: starEach es X.env := by rfl) (hpl : (backTo pos (starEach es X.env)).any (·.1) = false := by rfl) :
    PE X (.Call (.Name x q) (e :: es) [] pos) (tCall (sp p) [] E0 t) := by
  refine ⟨fun pins s σ H Q I h => wpAny_Call_Name_kw (ld_glob I hg hm (PySem.W.callWith_K (h₀ := X.base) I.ok.mod.kin hk (thn (ha.run pos pins s σ H _ I h) fun us s1 ⟨vs, H1, I1, r, h1⟩ => ⟨I1.kIn, ?_⟩) he hpl) hdb)⟩
  have h1 : sp p (vs ++ []) H1 Q E0 := h1
  rw [List.append_nil] at h1
  have hl : us.length = ps.length := by rw [← r.length]; exact F.len _ _ _ _ _ h1
  have b := hb s1 us I1.kIn (by rw [List.append_nil]; exact hl)
  rw [List.append_nil] at b
  have P1 := I1.pin p (List.mem_append_left _ hp)
  have hpin : PinOk X.stack H1 s1 p := ⟨P1.1, P1.2.1, fun hmem => (List.mem_cons.mp (I1.stkSub p.1 hmem)).elim P1.2.2.1 P1.2.2.2.1, P1.2.2.2.2⟩
  refine wpAny_call (codeAny_mono (F.run X.A X.stack s1 H1 ⟨us, []⟩ us vs Q E0 p hr hpin I1.env0 b r h1) fun r s' hq => ?_)
  cases r with
  | error er => exact hx pins σ H1 s1 er s' I1 hq
  | ok fl =>
    cases fl with
    | ret u => exact I1.after hq
    | next => exact False.elim hq
    | brk => exact False.elim hq
    | cont => exact False.elim hq
/-- isinstance(e, c), e the error that is handed on -/
def fIsP (K : PySem.W.Frag) (p : Addr × Obj) : List V → Hp → VK → Prop := fun xs H Q => on2 xs fun x c => ∃ (C d : Addr) (fs : List (Str × V)) (cv : Value) (b : Bool), x = .ref p.1 ∧ p.2.cls = .ref C ∧ p.2.dict = some d ∧ (∃ vs, p.2.data = .fields vs) ∧ H d = some (.xd fs) ∧ XC K C ∧ clsW c = some cv ∧ PySem.W.kitOne K (.ref C) cv = some b ∧ Q (.bl b) H
theorem c_isP (hp : p ∈ X.pn) : CallR X (.builtin "isinstance") (fIsP X.K p) := by
  intro pins s σ H xs us Q I r h
  obtain ⟨x, c, rfl, C, d, fs, cv, b, rfl, hcl, hdi, ⟨vs, hda⟩, hd, ⟨tl, nw, T, _⟩, hc, e, q⟩ := on2_ex h
  cases r with
  | cons rx rr =>
    cases rr with
    | cons rt rr =>
      cases rr
      cases rx
      have ec := clsW_ok hc rt
      subst ec
      have P1 := (I.pin p (List.mem_append_left _ hp)).1
      obtain ⟨mA, ⟨od, es, ep, hod, _⟩, _⟩ : ∃ mA, s.heap.Ns1 d mA ∧ ∀ f, RelO (fs.lookup f) (mA f) := I.hok d _ hd
      have J : PySem.W.InstAt s.heap p.1 p.2 C (some od) := ⟨P1, hcl, by unfold PySem.W.notCls; rw [hda] <;> rfl, by rw [hdi]; exact hod⟩
      obtain ⟨cd, hcd, _⟩ := PySem.W.any_some T.hd
      exact PySem.W.kia_one (PySem.W.kitx_exc (by rw [hcd]; rfl) T.ga T.gt T.ex T.ca T.cg T.ct T.mo) I.kIn J e (fun z => nomatch z) fun tk => ⟨.bl b, H, I.kept (t' := tk) fun _ _ z => z, rfl, q⟩
end
end Sp
namespace Sp
open PySem PySem.Spec PyProof.Rows L2
/-- x is not True, x is not False: x of any kind -/
def fNotBX : R2 := fun x y H Q => onBl y fun b => Q (.bl (!decide (x = .bl b))) H
theorem o_notBX {X : Cx} : OpR X (compareOp .IsNot) fNotBX := by
  intro pins s σ H x y v u Q I rx ry h
  obtain ⟨b, rfl, q⟩ := onBl_ex h
  cases (show u = Value.bool b from ry)
  have other : plainIs v (.bool b) = true → v ≠ .bool b → x ≠ .bl b → wpAny (model X.prog X.w) X.A (compareOp .IsNot v (.bool b)) (EP X pins σ Q) X.xe s := fun h1 h2 h3 =>
    wpAny_isNot_other h1 h2 ⟨.bl true, H, I, rfl, by rw [decide_eq_false h3] at q; exact q⟩
  cases x with
  | bl a =>
    cases (show v = Value.bool a from rx)
    by_cases e : a = b
    · subst e
      exact wpAny_isNot_self rfl ⟨.bl false, H, I, rfl, by simpa using q⟩
    · exact other rfl (fun z => e (Value.bool.inj z)) (fun z => e (V.bl.inj z))
  | non => cases (show v = Value.none from rx); exact other rfl (fun z => nomatch z) (fun z => nomatch z)
  | int i => obtain ⟨t, rfl⟩ := rx; exact other rfl (fun z => nomatch z) (fun z => nomatch z)
  | str i => obtain ⟨t, rfl⟩ := rx; exact other rfl (fun z => nomatch z) (fun z => nomatch z)
  | byt i => obtain ⟨t, rfl⟩ := rx; exact other rfl (fun z => nomatch z) (fun z => nomatch z)
  | flt i => obtain ⟨t, rfl⟩ := rx; exact other rfl (fun z => nomatch z) (fun z => nomatch z)
  | ref a => cases (show v = Value.ref a from rx); exact other rfl (fun z => nomatch z) (fun z => nomatch z)
  | ty n => cases (show v = Value.type n from rx); exact other rfl (fun z => nomatch z) (fun z => nomatch z)
end Sp
namespace Sp
open PySem PySem.Spec PyProof.Rows L2
def fReprT (K : PySem.W.Frag) : List V → Hp → VK → Prop := fun xs H Q => on1 xs fun x => ∃ d, Dt K H x d ∧ Sml d ∧ Q (.str d.shown) H
def strD : PyData → Str
  | .str s => s
  | d => d.shown
def fStrT (K : PySem.W.Frag) : List V → Hp → VK → Prop := fun xs H Q => on1 xs fun x => ∃ d, Dt K H x d ∧ Sml d ∧ Q (.str (strD d)) H
theorem dt_ref {K : PySem.W.Frag} {H : Hp} {a : Addr} {d : PyData} (h : Dt K H (.ref a) d) : strD d = d.shown := by
  cases h with
  | fl h => cases h
  | tup _ _ => rfl
  | lst _ _ _ _ => rfl
  | d0 _ => rfl
  | d1 _ => rfl
section
variable {X : Cx}
theorem c_reprT (hg : X.A.guards = some []) (hu : X.A.units + 64 < cLine) : CallR X (.builtin "repr") (fReprT X.K) := fun pins s σ H xs us Q I r h => by
  obtain ⟨x, rfl, d, hd, ⟨h1, h2, h3⟩, q⟩ := on1_ex h
  obtain ⟨u, rfl, rx⟩ := vals1 r
  cases x with
  | non => cases hd with | fl h => cases h; cases (show u = Value.none from rx); exact PySem.P.repr_of_none ⟨.str _, H, I.tok _, ⟨_, rfl⟩, q⟩
  | bl b => cases hd with | fl h => cases h; cases (show u = Value.bool b from rx); exact PySem.P.repr_of_bool ⟨.str _, H, I.tok _, ⟨_, rfl⟩, q⟩
  | int i => cases hd with | fl h => cases h; obtain ⟨t, rfl⟩ := rx; exact PySem.P.repr_of_int (of_decide_eq_true h1) ⟨.str _, H, I.tok _, ⟨_, rfl⟩, q⟩
  | str y => cases hd with | fl h => cases h; obtain ⟨t, rfl⟩ := rx; exact PySem.P.repr_of_str ⟨.str _, H, I.tok _, ⟨_, rfl⟩, q⟩ (by rw [sizeLine_eq]; exact Nat.le_trans h3 (by decide))
  | ref a =>
    cases (show u = Value.ref a from rx)
    obtain ⟨as, rd, ns⟩ := Dt.reads I hd rx
    exact repr_of_reads' rd h1 (fun _ => ns) hg (by omega) (fun _ _ e => e) (fun h' u tk hk => ⟨.str d.shown, H, I.kept hk, ⟨_, rfl⟩, q⟩) (by rw [sizeLine_eq]; omega)
  | byt b => cases hd with | fl h => cases h
  | flt b => cases hd with | fl h => cases h
  | ty b => cases hd with | fl h => cases h
theorem c_strT (hg : X.A.guards = some []) (hu : X.A.units + 64 < cLine) : CallR X (.type "str") (fStrT X.K) := fun pins s σ H xs us Q I r h => by
  obtain ⟨x, rfl, d, hd, ⟨h1, h2, h3⟩, q⟩ := on1_ex h
  obtain ⟨u, rfl, rx⟩ := vals1 r
  cases x with
  | non => cases hd with | fl h => cases h; cases (show u = Value.none from rx); exact PySem.P.str_of_none ⟨.str _, H, I.tok _, ⟨_, rfl⟩, q⟩
  | bl b => cases hd with | fl h => cases h; cases (show u = Value.bool b from rx); exact PySem.P.str_of_bool ⟨.str _, H, I.tok _, ⟨_, rfl⟩, q⟩
  | int i => cases hd with | fl h => cases h; obtain ⟨t, rfl⟩ := rx; exact PySem.P.str_of_int (of_decide_eq_true h1) ⟨.str _, H, I.tok _, ⟨_, rfl⟩, q⟩
  | str y => cases hd with | fl h => cases h; obtain ⟨t, rfl⟩ := rx; exact PySem.P.str_of_str ⟨.str _, H, I, ⟨_, rfl⟩, q⟩
  | ref a =>
    cases (show u = Value.ref a from rx)
    obtain ⟨as, rd, ns⟩ := Dt.reads I hd rx
    rw [dt_ref hd] at q
    exact str_of_reads rd h1 (fun _ => ns) hg (by omega) (fun _ _ e => e) (fun h' u tk hk => ⟨.str d.shown, H, I.kept hk, ⟨_, rfl⟩, q⟩) (by rw [sizeLine_eq]; omega)
  | byt b => cases hd with | fl h => cases h
  | flt b => cases hd with | fl h => cases h
  | ty b => cases hd with | fl h => cases h
end
end Sp
namespace Sp
open PySem PySem.Spec PyProof.Rows L2
/-- the classes that a clause names -/
inductive ClN (X : Cx) : Expr → List Value → Prop
  | one {x : Str} {p : Pos} {c : Value} : Names X x c → ClN X (.Name x p) [c]
  | tup {es : List Expr} {cs : List Value} {kt : Nat} {tp : Pos} : NmAll X es cs → cs.length ≤ 100 → ClN X (.Tuple es kt tp) cs
/-- a clause: its classes, the slot of its name, its suite -/
abbrev Cl : Type := List Value × Option Nat × (Addr × Obj → TS)
def endI (i : Nat) (D : Ends) : Ends := { nx := fun σ H => D.nx (σ.set i none) H, rt := D.rt, bk := fun σ H => D.bk (σ.set i none) H, ct := fun σ H => D.ct (σ.set i none) H }
def wSu (D : Ends) (p : Addr × Obj) (σ : L2.St) (H : Hp) (t : Addr × Obj → TS) : Option Nat → Prop
  | none => t p D σ H
  | some i => t p (endI i D) (σ.set i (some (.ref p.1))) H
/-- what the clauses wish, one after the other; each error is caught -/
def wHs (K : PySem.W.Frag) (D : Ends) : List Cl → WX
  | [] => fun _ _ _ _ => False
  | c :: r => fun cls d σ H => ∃ b, PySem.W.exmAny K cls c.1 = some b ∧ (b = true → ∀ p : Addr × Obj, H p.1 = none → p.2.cls = cls → p.2.dict = d → (∃ vs, p.2.data = .fields vs) → wSu D p σ H c.2.2 c.2.1) ∧ (b = false → wHs K D r cls d σ H)
inductive Hds (X : Cx) : List ExceptHandler → List Cl → Prop
  | rest {hds : List ExceptHandler} : Hds X hds []
  | bare {e : Expr} {cs : List Value} {b₀ : Stmt} {suite : List Stmt} {pos : Pos} {hds : List ExceptHandler} {l : List Cl} {t : Addr × Obj → TS} (hc : ClN X e cs) (hsu : ∀ (p : Addr × Obj) (pn : List (Addr × Obj)), p ∈ pn → PSs (X.suite p.1 pn) (b₀ :: suite) (t p)) (r : Hds X hds l) :
      Hds X (.ExceptHandler (some e) none (b₀ :: suite) pos :: hds) ((cs, none, t) :: l)
  | named {e : Expr} {n : Str} {i : Nat} {cs : List Value} {b₀ : Stmt} {suite : List Stmt} {pos : Pos} {hds : List ExceptHandler} {l : List Cl} {t : Addr × Obj → TS} (hi : X.N[i]? = some n) (hln : X.env.kindOf n = some .local) (hc : ClN X e cs)
      (hsu : ∀ (p : Addr × Obj) (pn : List (Addr × Obj)), p ∈ pn → PSs (X.suite p.1 pn) (b₀ :: suite) (t p)) (r : Hds X hds l) : Hds X (.ExceptHandler (some e) (some n) (b₀ :: suite) pos :: hds) ((cs, some i, t) :: l)
section
variable {X : Cx} {pins : List (Addr × Obj)} {σ : L2.St} {H : Hp} {D : Ends} {a : Addr} {B : Heap} {sI s' : Shared} {cls : Value} {d : Option Addr}
theorem exm_sole {K : PySem.W.Frag} {c : Value} {b : Bool} (h : PySem.W.exmAny K cls [c] = some b) : PySem.W.exmOne K cls c = some b := by
  obtain ⟨b1, d1, h1, h2, rfl⟩ := PySem.W.exmAny_cons h
  cases h2
  rw [h1, Bool.or_false]
/-- the clause is tried: the heap may have grown -/
theorem clause_test {e : Expr} {cs : List Value} {b : Bool} {h : Heap} {pn : List (Addr × Obj)} {oe : Obj} {Q : Bool → Heap → Prop} {E E' : Value → Shared → Prop} (hc : ClN X e cs) (S : Inv (X.suite a pn) [] σ H { s' with heap := h }) (ha : h.get? a = some oe) (hcls : oe.cls = cls)
    (hm : PySem.W.exmAny X.K cls cs = some b) (hq : ∀ h', (∀ c o, h.get? c = some o → h'.get? c = some o) → Q b h') :
    wpAny (model X.prog X.w) (X.A.mark (some (.ref a))) (eval e X.env) (fun c s1 => wpAny (model X.prog X.w) (X.A.mark (some (.ref a))) (excMatches (.ref a) c) (fun b s2 => ∃ h', s2 = { s' with heap := h' } ∧ Q b h') E' s1) E { s' with heap := h } := by
  cases hc with
  | one hc =>
    have LT : PySem.W.Looks (model X.prog X.w) h (typeOf (.ref a)) cls := fun A Q E s k q => wpAny_typeOf_ref (k _ _ ha) (by rw [hcls]; exact q)
    have LM := PySem.W.exm_one (M := model X.prog X.w) S.kIn LT (exm_sole hm)
    obtain ⟨hg, hd, hv | ⟨hv, hb, hn⟩⟩ := hc
    · exact ld_glob (X := X.suite a pn) S hg hv (LM.here ⟨h, rfl, hq h fun _ _ z => z⟩) hd
    · exact ld_blt (X := X.suite a pn) S hg hv hb (LM.here ⟨h, rfl, hq h fun _ _ z => z⟩) hn hd
  | tup hc hl =>
    have k3 : ∀ c o, h.get? c = some o → (h.push { cls := .type "tuple", data := .seq cs.toArray }).get? c = some o := fun c o z => Heap.get?_push_of_some _ z
    refine wpAny_Tuple_spliced (names_run S _ hc ⟨by rw [sizeLine_eq]; omega, ?_⟩)
    have LT : PySem.W.Looks (model X.prog X.w) (h.push { cls := .type "tuple", data := .seq cs.toArray }) (typeOf (.ref a)) cls := fun A Q E s k q => wpAny_typeOf_ref (k _ _ (k3 _ _ ha)) (by rw [hcls]; exact q)
    exact (PySem.XE.exm_tupN (M := model X.prog X.w) (S.kIn.keeps k3) LT (Heap.get?_push_size _ rfl) hm).here ⟨_, rfl, hq _ k3⟩
theorem hds_run (hN : X.N.Nodup) (hf : X.env.frame = some X.env.locals) (ok : X.Ok) (J : Inv X pins σ H sI) (nb : ∀ b o, sI.heap.get? b = some o → b ∉ frs X.stack → B.get? b = some o) (na : H a = none) (os : s'.os = sI.os) (ag : AllBare s'.gens) {hds : List ExceptHandler} {l : List Cl} (hh : Hds X hds l) :
    ∀ (h : Heap), HandSPX.FlyingZ B (X.env :: X.outer) a (Zc cls d) h → sI.heap.UpToSlots h → wHs X.K D l cls d σ H → wpAny (model X.prog X.w) X.A (handleBy (.ref a) X.env hds) (SP X pins D) X.xe { s' with heap := h } := by
  have out : ∀ {hh : Heap} {o : Obj} {vs : Array Value}, HandSPX.FlyingZ B (X.env :: X.outer) a (Zc cls d) hh → hh.get? a = some o → o.data = .fields vs → a ≠ X.env.locals ∧ a ∉ X.fs := fun {hh o vs} fl e dd => by
    have nfr : a ∉ frs (X.env :: X.outer) := fun hmem => by
      obtain ⟨_, o', e', hnf⟩ := fl.2.2.1.mem hmem
      rw [e] at e'
      cases e'
      exact hnf _ dd
    refine ⟨fun z => nfr (List.mem_filterMap.mpr ⟨X.env, List.mem_cons_self, by rw [hf, z]⟩), fun hmem => ?_⟩
    obtain ⟨e, he, q⟩ := List.mem_filterMap.mp hmem
    exact nfr (List.mem_filterMap.mpr ⟨e, List.mem_cons_of_mem _ he, q⟩)
  have inv : ∀ {h : Heap}, HandSPX.FlyingZ B (X.env :: X.outer) a (Zc cls d) h → sI.heap.UpToSlots h → ∃ oe vs, h.get? a = some oe ∧ Zc cls d oe ∧ oe.data = .fields vs ∧ Inv (X.suite a ((a, oe) :: (X.pn ++ pins))) [] σ H { s' with heap := h } := fun {h} fl up => by
    have J3 : Inv X pins σ H { s' with heap := h } := J.landed nb fl.1 up os ag
    obtain ⟨oe, vs, he, hz, hd⟩ := fl.there
    exact ⟨oe, vs, he, hz, hd, J3.suite he hd na (out fl he hd).1 (out fl he hd).2⟩
  induction hh with
  | rest => exact fun _ _ _ w => False.elim w
  | @bare e cs b₀ suite pos hds l t hc hsu r ih =>
    intro h fl up ⟨b, hm, hyes, hno⟩
    obtain ⟨oe, vs, he, hz, hd, S⟩ := inv fl up
    refine wpAny_handleBy_cons (codeAny_handlers_test ?_) (by intro q; cases q)
    refine wpAny_mono (clause_test (Q := fun b' h' => b' = b ∧ ∀ c o, h.get? c = some o → h'.get? c = some o) hc S he hz.1 hm fun h' k => ⟨rfl, k⟩) (fun c s1 z => wpAny_mono z (fun b' s2 ⟨h', e1, e2, k⟩ => ?_) fun _ _ z => z) (fun _ _ z => z)
    · subst e1 e2
      have fl2 := fly_keep k fl
      have up2 := up.trans (Heap.UpToSlots.of_keeps k)
      cases b' with
      | false => exact ih h' fl2 up2 (hno rfl)
      | true =>
        refine codeAny_handlers_suite (HandSPX.lands_againZ fl2 fun h4 fl4 up4 => ?_)
        obtain ⟨oe4, vs4, he4, hz4, hd4, S4⟩ := inv fl4 (up2.trans up4)
        refine wpAny_mono ((hsu (a, oe4) _ List.mem_cons_self).run [] _ _ H _ S4 (hyes rfl (a, oe4) na hz4.1 hz4.2 ⟨_, hd4⟩)) (fun f s6 hsp => ?_) (fun _ _ z => False.elim z)
        cases f with
        | next => obtain ⟨σ6, H6, S6, q6⟩ := hsp; exact ⟨_, _, S6.unsuite ok, q6⟩
        | brk => obtain ⟨σ6, H6, S6, q6⟩ := hsp; exact ⟨_, _, S6.unsuite ok, q6⟩
        | cont => obtain ⟨σ6, H6, S6, q6⟩ := hsp; exact ⟨_, _, S6.unsuite ok, q6⟩
        | ret u => obtain ⟨v6, σ6, H6, S6, r6, q6⟩ := hsp; exact ⟨_, _, _, S6.unsuite ok, r6, q6⟩
  | @named e n i cs b₀ suite pos hds l t hi hln hc hsu r ih =>
    intro h fl up ⟨b, hm, hyes, hno⟩
    obtain ⟨oe, vs, he, hz, hd, S⟩ := inv fl up
    refine wpAny_handleBy_cons (codeAny_handlers_test ?_) (by intro q; cases q)
    refine wpAny_mono (clause_test (Q := fun b' h' => b' = b ∧ ∀ c o, h.get? c = some o → h'.get? c = some o) hc S he hz.1 hm fun h' k => ⟨rfl, k⟩) (fun c s1 z => wpAny_mono z (fun b' s2 ⟨h', e1, e2, k⟩ => ?_) fun _ _ z => z) (fun _ _ z => z)
    · subst e1 e2
      have fl2 := fly_keep k fl
      have up2 := up.trans (Heap.UpToSlots.of_keeps k)
      cases b' with
      | false => exact ih h' fl2 up2 (hno rfl)
      | true =>
        refine codeAny_handlers_suite_as (HandSPX.lands_againZ fl2 fun h4 fl4 up4 => ?_)
        obtain ⟨oe4, vs4, he4, hz4, hd4, S4⟩ := inv fl4 (up2.trans up4)
        refine store_ok (X := X.suite a ((a, oe4) :: (X.pn ++ pins))) (v := .ref a) S4 hN hi (.inl hln) rfl (fun s5 S5 => ?_) (.inr hln)
        refine wpAny_mono ((hsu (a, oe4) _ List.mem_cons_self).run [] s5 _ H _ S5 (hyes rfl (a, oe4) na hz4.1 hz4.2 ⟨_, hd4⟩)) (fun f s6 hsp => ?_) (fun _ _ z => False.elim z)
        have fin : ∀ {σ6 : L2.St} {H6 : Hp} {Q : Shared → Prop}, Inv (X.suite a ((a, oe4) :: (X.pn ++ pins))) [] σ6 H6 s6 → (∀ s7, Inv X pins (σ6.set i none) H6 s7 → Q s7) →
            wpAny (model X.prog X.w) X.A (do bindName X.env n .none; unbindBehindTheSuite X.env n pos) (fun _ s7 => Q s7) X.xe s6 := fun {σ6 H6 Q} S6 hq => gone_ok (S6.unsuite ok) hN hi hln hq
        cases f with
        | ret u => obtain ⟨v6, σ6, H6, S6, r6, q6⟩ := hsp; exact fin S6 fun s7 J7 => ⟨_, _, _, J7, r6, q6⟩
        | next => obtain ⟨σ6, H6, S6, q6⟩ := hsp; exact fin S6 fun s7 J7 => ⟨_, _, J7, q6⟩
        | brk => obtain ⟨σ6, H6, S6, q6⟩ := hsp; exact fin S6 fun s7 J7 => ⟨_, _, J7, q6⟩
        | cont => obtain ⟨σ6, H6, S6, q6⟩ := hsp; exact fin S6 fun s7 J7 => ⟨_, _, J7, q6⟩
end
section
variable {X : Cx} {body : List Stmt} {h₀ : ExceptHandler} {hds : List ExceptHandler} {l : List Cl} {pos : Pos} {tb : WX → TS}
def tTry (K : PySem.W.Frag) (tb : WX → TS) (l : List Cl) : TS := fun D σ H => tb (wHs K D l) D σ H
/-- try: .. except ..: .. -/
theorem s_tryH (hs : X.stack = X.env :: X.outer) (hf : X.env.frame = some X.env.locals) (hN : X.N.Nodup) (hb : ∀ (W : WX) (pn : List (Addr × Obj)) (xe : Value → Shared → Prop), Takes (X.tr pn xe) W → PSs (X.tr pn xe) body (tb W)) (hh : Hds X (h₀ :: hds) l) :
    PS X (.Try body (h₀ :: hds) [] [] pos) (tTry X.K tb l) := by
  refine ⟨fun pins s σ H D I h => ?_⟩
  have ok := I.ok
  have hfr : X.A.frames = some (X.env :: X.outer) := by rw [ok.frames, hs]
  refine wpAny_Try_except (wpAny_mono ((hb (wHs X.K D l) (X.pn ++ pins) (fun e s₁ => wpAny (model X.prog X.w) X.A (noteFrame e X.env) (fun _ s₂ => wpAny (model X.prog X.w) X.A (setFlight e none) (fun _ s₃ =>
    wpAny (model X.prog X.w) X.A (handleBy e X.env (h₀ :: hds)) (SP X pins D) X.xe s₃) X.xe s₂) X.xe s₁) (fun u s' xx => ?_)).run [] s σ H D (I.toTry _) h) (fun f s1 hsp => ?_) (fun e s1 he => he))
  · obtain ⟨a, B, sI, pins', σ', H', cls, d, rfl, J', nb, up, sky, na, os, ag, hw⟩ := xx
    have sky2 : Sky B (X.env :: X.outer) a (Zc cls d) X.env.locals s'.heap := by rw [← hs]; exact sky
    exact Sky.land Zc.steady hfr hf sky2 fun h3 fl3 up3 => hds_run hN hf ok (J'.ofTry ok) nb na os ag hh h3 fl3 (up.trans up3) hw
  · cases f with
    | ret u => obtain ⟨v, σ', H', J', r, q⟩ := hsp; exact ⟨v, σ', H', J'.ofTry ok, r, q⟩
    | next => obtain ⟨σ', H', J', q⟩ := hsp; exact wpAny_execs_nil ⟨σ', H', J'.ofTry ok, q⟩
    | brk => obtain ⟨σ', H', J', q⟩ := hsp; exact ⟨σ', H', J'.ofTry ok, q⟩
    | cont => obtain ⟨σ', H', J', q⟩ := hsp; exact ⟨σ', H', J'.ofTry ok, q⟩
/-- e.f, e the error that is handled -/
def tXfP (K : PySem.W.Frag) (p : Addr × Obj) (f : Str) (te : TE) : TE := fun σ H Q => te σ H fun x H1 => x = .ref p.1 ∧ ∃ (C d : Addr) (fs : List (Str × V)) (v : V), p.2.cls = .ref C ∧ p.2.dict = some d ∧ (∃ vs, p.2.data = .fields vs) ∧ H1 d = some (.xd fs) ∧ XC K C ∧ PySem.W.findIn K (.ref C) f = some none ∧ fs.lookup f = some v ∧ Q v H1
theorem e_xfP {p : Addr × Obj} {e : Expr} {te : TE} {n : Str} (hp : p ∈ X.pn) (he : PE X e te) (hb : attributeBase e n X.env (eval e X.env) = eval e X.env := by rfl) : PE X (.Attribute e n pos) (tXfP X.K p n te) := by
  refine ⟨fun pins s σ H Q I h => attr_of hb (thn (he.run pins s σ H _ I h) fun u s1 hh => ?_)⟩
  obtain ⟨x, H1, I1, rx, rfl, C, d, fs, v, hcl, hdi, ⟨vs, hda⟩, hd, ⟨tl, nw, T, _⟩, hno, hl, q⟩ := hh
  obtain rfl : u = Value.ref p.1 := rx
  obtain ⟨hpa, _⟩ := I1.pin p (List.mem_append_left _ hp)
  obtain ⟨mA, hns, hr⟩ : ∃ mA, s1.heap.Ns1 d mA ∧ ∀ f, RelO (fs.lookup f) (mA f) := I1.hok d _ hd
  obtain ⟨od, ho, hlk⟩ := lookIn_ns hns
  obtain ⟨u, hu, ru⟩ := RelO.some_of (v := v) (o := mA n) (by rw [← hl]; exact hr n)
  have J : PySem.W.InstAt s1.heap p.1 p.2 C (some od) := ⟨hpa, hcl, by unfold PySem.W.notCls; rw [hda] <;> rfl, by rw [hdi]; exact ho⟩
  exact HandSPX.exc_get I1.kIn J T.ga T.gt T.ex (PySem.W.findObj_own T.hd hno rfl (by rw [hlk, hu])) (handed_of ru) ⟨v, H1, I1.tok _, ru, q⟩
end
end Sp
namespace Sp
open PySem PySem.Spec PyProof.Rows L2 LamX
/-- a def of the top that makes lambdas: its code object is known -/
theorem FunD.okL {P : Program} {w : World} {K : PySem.W.Frag} {mg : Str → Option Value} {base : Heap} {x qual : Str} {params : Arguments} {body : List Stmt} {scope : Scope} {dvs : List V} {kws : List (Str × V)} {p : He.Defn} {fd : FuncData} {CX : CXT} {N ps : List Str} {k : Nat} {sp : L2.Sp}
    (F : FunD K x qual params body scope dvs kws (He.fAd K p) fd) (S : FnScope N ps scope) (len : ∀ vs H Q E, sp vs H Q E → vs.length = ps.length)
    (hbody : ∀ (cdv : Value) (A : Around) (outer : List Env) (s : Shared) (H : Hp) (vs : List V) (Q : VK) (E : XK), cdv = .ref (He.codeOf K p) → A.guards = some [] → Room k (A.deeper (envOfC qual scope s.heap.objs.size (He.fAd K p) cdv)) → sp vs H Q E →
      ∃ t, PSs (cxOf CX P w K mg base N qual scope (He.fAd K p) cdv A outer s H E) body t ∧ t { nx := fun _ H' => Q .non H', rt := Q } (L2.start N vs) H) : FnG P w K mg base CX (k + 1) (He.fAd K p) fd ps sp := by
  obtain ⟨oc, od, dV, kV, doc, pm, an, cdv, ct, osl, rfl, lk, hcd, _, _⟩ := F.ex
  obtain ⟨c, hc⟩ := He.codeIn_ref hcd
  have e : cdv = .ref (He.codeOf K p) := by rw [He.codeOf_eq lk (show (PySem.W.fnOf x qual params body scope dV kV doc pm an cdv ct).code = .ref c from hc), hc]
  exact fnG_of lk hcd S len fun A outer s H vs Q E hg hr hsp => hbody cdv A outer s H vs Q E e hg hr hsp
section
variable {X : Cx} {pins : List (Addr × Obj)} {σ : L2.St} {H HZ : Hp} {s s1 : Shared}
/-- the context of the def that got the lambda, within its try -/
abbrev gotCx (X : Cx) (CXg : CXT) (Eg : XK) (Ng : List Str) (qg : Str) (sg : Scope) (g : Addr) (cdg : Value) (s : Shared) (H : Hp) (pn : List (Addr × Obj)) (xe : Value → Shared → Prop) : Cx :=
  (cxOf CXg X.prog X.w X.K X.mg X.base Ng qg sg g cdg X.A X.stack s H Eg).tr pn xe
/-- act(): the lambda that was handed, read by tl; W: what the clauses around wish -/
def fAct (f c' : Addr) (q : Str) (tl : XK → Hp → VK → Prop) (W : WX) : TE := fun σ H Q => σ[0]? = some (some (.ref f)) ∧ H c' = some (CodeO c' q) ∧ tl (fun cls d H' => W cls d σ H') H Q
theorem e_act {CXg : CXT} {Eg : XK} {Ng : List Str} {qg : Str} {sg : Scope} {g f c' : Addr} {cdg pm ctv : Value} {params : Arguments} {body : Expr} {scope : Scope} {k : Nat} {a : Str} {pn : List (Addr × Obj)} {xe : Value → Shared → Prop} {W : WX} {t : XK → TE} {p1 p2 : Pos}
    (hgd : X.A.guards = some []) (I : Inv X pins σ H s) (L : LamS X.env.scope scope) (hf : s.heap.get? f = some (PySem.W.kla_obj "<lambda>" (X.env.qual ++ "<lambda>") params body scope (cloFrom X.env.cells scope.names []) pm c' ctv)) (hfn : H f = none) (hfr : f ∉ frs X.stack)
    (hbind : bindArgs (PySem.W.kla_fn "<lambda>" (X.env.qual ++ "<lambda>") params body scope (cloFrom X.env.cells scope.names []) pm (.ref c') ctv) ⟨[], []⟩ = pure []) (tk : Takes (gotCx X CXg Eg Ng qg sg g cdg s H pn xe) W)
    (hr : Room (k + 1) (X.A.deeper (envOfC qg sg s.heap.objs.size g cdg))) (hbody : ∀ (A : Around) (outer : List Env) (s : Shared) (H : Hp) (E : XK), A.guards = some [] → Room k (A.deeper (lamEnv X scope s.heap.objs.size f c')) → PE (lamCx X A outer s H E scope f c') body (t E))
    (hN : Ng[0]? = some a) (hv : Vis sg a) (hd : (a == ("__debug__" : Str)) = false) (hcd : (a == ("__classdict__" : Str)) = false) :
    PE (gotCx X CXg Eg Ng qg sg g cdg s H pn xe) (.Call (.Name a p1) [] [] p2) (fAct f c' (X.env.qual ++ "<lambda>") (fun E H' Q' => t E σ H' Q') W) := by
  refine ⟨fun pZ sZ σZ HZ Q IZ ⟨hs, hc, ht⟩ => ?_⟩
  have name := (pe_var (X := gotCx X CXg Eg Ng qg sg g cdg s H pn xe) (pos := p1) (i := 0) hN hv hd hcd).run pZ sZ σZ HZ (fun v H1 => v = .ref f ∧ H1 = HZ) IZ ⟨.ref f, hs, rfl, rfl⟩
  refine wpAny_Call_Name_kw (thn name fun u s1 hh => ?_)
  obtain ⟨v, H1, I1, r1, rfl, rfl⟩ := hh
  obtain rfl : u = Value.ref f := r1
  have of1 := I1.base.keep f _ hf hfn hfr (fun z => nomatch (show f ∈ ([] : List Addr) from z))
  refine PySem.W.callWith_F0 ⟨_, _, _, _, of1⟩ ?_
  obtain ⟨⟨oc, vs, tt, hoc, hdc, hvc⟩, _, _⟩ := I1.hok c' _ hc
  have run : codeAny (model X.prog X.w) (X.A.deeper (envOfC qg sg s.heap.objs.size g cdg)) (.call (.ref f) ⟨[], []⟩) (CR (L2.CX X.prog X.w) (envOfC qg sg s.heap.objs.size g cdg :: X.stack) X.prog X.w H1 s1 Q (fun cls d H' => W cls d σZ H')) s1 := by
    refine PySem.W.kla_callFunE hr.depth of1 rfl L.co L.gen rfl ⟨c', oc, vs, tt, rfl, hoc, hdc, hvc⟩ ?_
    rw [hbind]
    refine wpAny_pure (wpAny_newFunctionEnv (fun y hy => (L.own y hy).2) (fun y hy => absurd hy (by simp)) (fun h₁ hns hsb => ⟨I1.nolimit.fresh _ hsb, ?_⟩) L.kind)
    have kp : ∀ b o, s1.heap.get? b = some o → h₁.get? b = some o := fun b o e => hsb.extBut b o (Nat.ne_of_lt (Heap.lt_size e)) (Heap.get?_push_of_some _ e)
    have J : Inv (lamCx X (X.A.deeper (envOfC qg sg s.heap.objs.size g cdg)) (envOfC qg sg s.heap.objs.size g cdg :: X.stack) s1 H1 (fun cls d H' => W cls d σZ H') scope f c') [] σ H1 { s1 with heap := h₁, toks := s1.toks + ([] : List (Str × Value)).length } := lam_start2 I L I1.env0 hr.hd I1.base hns kp
    show codeAny _ _ (.expr body (lamEnv X scope s1.heap.objs.size f c')) _ _
    refine PySem.W.kla_codeExpr (wpAny_mono ((hbody (X.A.deeper (envOfC qg sg s.heap.objs.size g cdg)) _ s1 H1 _ hgd (hr.deeper _)).run [] _ _ H1 Q J ht) (fun v s' ⟨w', H', J', rv, q⟩ => ⟨w', H', J'.os, J'.bare, J'.base, J'.hok, rv, q⟩) fun e s' hq => hq)
  refine wpAny_call (codeAny_mono run fun r s' hq => ?_)
  match r, hq with
  | .error e, hq => exact passAt tk σZ pZ H1 s1 e s' I1 hq
  | .ok (.ret u), hq => exact I1.after hq
  | .ok .next, hq => exact False.elim hq
  | .ok .brk, hq => exact False.elim hq
  | .ok .cont, hq => exact False.elim hq
/-- a def that calls what it got: TT tells what it makes of the lambda's reading -/
def GivesL (X : Cx) (Ng : List Str) (x : Str) (sg : Scope) (g : Addr) (cdg : Value) (bg : List Stmt) (a q : Str) (TT : (XK → Hp → VK → Prop) → Hp → VK → Prop) : Prop :=
  ∀ (f c' : Addr) (s : Shared) (H : Hp) (Q : VK) (tl : XK → Hp → VK → Prop), (∀ (W : WX) (pn : List (Addr × Obj)) (xe : Value → Shared → Prop) (p1 p2 : Pos), Takes (gotCx X CX0 E0 Ng x sg g cdg s H pn xe) W → PE (gotCx X CX0 E0 Ng x sg g cdg s H pn xe) (.Call (.Name a p1) [] [] p2) (fAct f c' q tl W)) →
    Room 1 (X.A.deeper (envOfC x sg s.heap.objs.size g cdg)) → H c' = some (CodeO c' q) → TT tl H Q → ∃ t, PSs (cxOf CX0 X.prog X.w X.K X.mg X.base Ng x sg g cdg X.A X.stack s H E0).nox bg t ∧ t { nx := fun _ H' => Q .non H', rt := Q } (L2.start Ng [.ref f]) H
/-- x(lambda: body) -/
theorem e_lamcall {T : List (Addr × Str)} {TT : (XK → Hp → VK → Prop) → Hp → VK → Prop} {x a : Str} {g c P : Addr} {k : Nat} {pg : Arguments} {bg : List Stmt} {sg : Scope} {fd : FuncData} {Ng : List Str} {params : Arguments} {body : Expr} {scope : Scope} {t : XK → TE} {p lpos pos : Pos}
    (hgd : X.A.guards = some []) (hg : Gl X x) (hm : X.mg x = some (.ref g)) (F : FunD X.K x x pg bg sg [] [] g fd) (hb : L2.Binds X.K fd [a] []) (Sg : FnScope Ng [a] sg) (hNg : Ng[0]? = some a) (hva : Vis sg a)
    (hG : ∀ cdv, GivesL X Ng x sg g cdv bg a (X.env.qual ++ "<lambda>") TT) (TB : TabB X.base X.mg c P) (hcode : X.env.code = .ref c) (hmT : (P, X.env.qual ++ "<lambda>") ∈ T) (hu : ∀ p ∈ T, p.1 = P → p.2 = X.env.qual ++ "<lambda>") (hr : Room (k + 2) X.A) (L : LamS X.env.scope scope)
    (hbody : ∀ (A : Around) (outer : List Env) (s : Shared) (H : Hp) (f c' : Addr) (E : XK), A.guards = some [] → Room k (A.deeper (lamEnv X scope s.heap.objs.size f c')) → PE (lamCx X A outer s H E scope f c') body (t E))
    (hdef : defaultsOf params X.env = ([], []) := by rfl) (hbind : ∀ (q : Str) (cl : List (Str × Addr)) (pm cv ctv : Value), bindArgs (PySem.W.kla_fn "<lambda>" q params body scope cl pm cv ctv) ⟨[], []⟩ = pure [] := by intro _ _ _ _ _; rfl)
    (hdb : (x == ("__debug__" : Str)) = false := by decide) (hd : (a == ("__debug__" : Str)) = false := by decide) (hcd : (a == ("__classdict__" : Str)) = false := by decide) :
    PE X (.Call (.Name x p) [.Lambda params body scope lpos] [] pos) (tLam T TT t) := by
  obtain ⟨oc, od, dV, kV, doc, pm, an, cdv, ct, osl, rfl, lk, hcg, _, _⟩ := F.ex
  refine ⟨fun pins s σ H Q I ⟨hT, h⟩ => wpAny_Call_Name_kw (ld_glob I hg hm (PySem.W.callWith_K (h₀ := X.base) I.ok.mod.kin F.kp ?_ (by rfl) (by rfl)) hdb)⟩
  show wpAny _ _ (spliced ((false, eval (.Lambda params body scope lpos) X.env) :: backTo pos (starEach [] X.env))) _ _ s
  refine Calls.spliced_cons (lam_make2 I TB hcode hmT hu hT hdef (L.has I.ok) fun f c' pm' ctv H1 s' I1 eN T1 hf hfn hfr hco => Calls.spliced_nil ⟨I1.kIn, ?_⟩)
  have run : codeAny (model X.prog X.w) X.A (.call (.ref g) ⟨[.ref f], []⟩) (CR CX0 X.stack X.prog X.w H1 s' Q E0) s' := by
    refine run_ofS (N := Ng) (ps := [a]) (us := [.ref f]) (vs := [.ref f]) lk hcg Sg hr I1.env0 (hb s' [.ref f] I1.kIn rfl) (.cons rfl .nil) rfl fun hr' => ?_
    obtain ⟨t', ht', hq'⟩ := hG cdv f c' s' H1 Q (fun E H' Q' => t E σ H' Q') (fun W pn xe p1 p2 tk => e_act hgd I1 L hf hfn hfr (hbind _ _ _ _ _) tk hr' (fun A outer s H E hg2 hr2 => hbody A outer s H f c' E hg2 hr2) hNg hva hd hcd) (hr'.mono (by omega)) hco (h H1 eN T1)
    exact ⟨t', ht'.nox, hq'⟩
  refine wpAny_call (codeAny_mono run fun r s2 hq => ?_)
  match r, hq with
  | .error e, hq => exact (show False from hq).elim
  | .ok (.ret u), hq => exact I1.after hq
  | .ok .next, hq => exact False.elim hq
  | .ok .brk, hq => exact False.elim hq
  | .ok .cont, hq => exact False.elim hq
end
/-- all but the tables is as it was, but p -/
def KpN (p : Addr) (H H' : Hp) : Prop := ∀ b o, b ≠ p → (∀ ps, o ≠ .tbl ps) → H b = some o → H' b = some o
theorem KpN.trans {p : Addr} {H H1 H2 : Hp} (a : KpN p H H1) (b : KpN p H1 H2) : KpN p H H2 := fun c o n t h => b c o n t (a c o n t h)
theorem KpN.ext {p : Addr} {H H' : Hp} (a : ExtN H H') : KpN p H H' := fun c o _ t h => a c o h t
theorem extN_L {K : PySem.W.Frag} {H H' : Hp} {a : Addr} {xs : List V} (e : ExtN H H') (h : SqL K H a xs) : SqL K H' a xs := by
  rcases h with (h | ⟨o, h⟩) | h
  · exact .inl (.inl (e _ _ h fun _ z => nomatch z))
  · exact .inl (.inr ⟨o, e _ _ h fun _ z => nomatch z⟩)
  · exact .inr h
theorem extN_T {K : PySem.W.Frag} {H H' : Hp} {a : Addr} {xs : List V} (e : ExtN H H') (h : SqT K H a xs) : SqT K H' a xs := by
  rcases h with (h | ⟨o, h⟩) | h
  · exact .inl (.inl (e _ _ h fun _ z => nomatch z))
  · exact .inl (.inr ⟨o, e _ _ h fun _ z => nomatch z⟩)
  · exact .inr h
theorem Dt.extN {K : PySem.W.Frag} {H H' : Hp} {x : V} {d : PyData} (e : ExtN H H') (h : Dt K H x d) : Dt K H' x d := by
  refine Dt.rec (motive_1 := fun x d _ => Dt K H' x d) (motive_2 := fun xs ds _ => DtAll K H' xs ds) (fun h => .fl h) (fun h _ ih => .tup (extN_T e h) ih) (fun h h3 hs _ ih => .lst (e _ _ h fun _ z => nomatch z) h3 hs ih) (fun h => .d0 (e _ _ h fun _ z => nomatch z)) (fun h => .d1 (e _ _ h fun _ z => nomatch z)) .nil (fun _ _ a b => .cons a b) h
/-! ### the Hook with the tables of defs that make lambdas -/
def obsB (n : Nat) (fa : List He.Fa) (fn : List He.DefD) (tf : List He.Defn) (da : List DefA) (exs : List (PySem.W.Frag → Bool)) (g : Addr → Option Obj) : AlA :=
  (He.obsX n fa fn [] tf (allB da exs) g, da.map fun d => fnAt (He.frT g (He.asD g n)) (d.at_ (He.frT g (He.asD g n))))
structure SaysB (fa : List He.Fa) (fn : List He.DefD) (tf : List He.Defn) (da : List DefA) (exs : List (PySem.W.Frag → Bool)) (h : Heap) (K : PySem.W.Frag) : Prop where
  a : SaysA fa fn da exs K
  hd : ∀ p ∈ tf, PySem.W.codeHdIn K (He.cT K p).1 (He.cT K p).2 = true
  out : ∀ p ∈ tf, K.lookup (He.cT K p).2 = none
  empty : ∀ p ∈ tf, h.get? (He.cT K p).2 = some { cls := .none, data := .fields #[] }
def hookB (n : Nat) (fa : List He.Fa) (fn : List He.DefD) (tf : List He.Defn) (da : List DefA) (exs : List (PySem.W.Frag → Bool)) : PySem.W.Hook where
  α := AlA
  obs := fun s => obsB n fa fn tf da exs s.heap.get?
  val := fun w => valA fn da w
  says := fun w h => ∃ K : PySem.W.Frag, K.In h ∧ SaysB fa fn tf da exs h K
  of := fun _ _ e => by
    have e1 := congrArg Prod.fst e
    have e2 := congrArg Prod.snd e
    have q := He.saysX_of e1
    exact ⟨_, He.frT_in, ⟨q.t.d, q.more, e2⟩, q.hd, q.out, q.empty⟩
  keeps := fun _ _ _ ⟨K, hK, c⟩ k => ⟨K, PySem.W.Frag.In.keeps hK k, c.a, c.hd, c.out, fun p hp => k _ _ (c.empty p hp)⟩
theorem obsB_eq {n : Nat} {fa : List He.Fa} {fn : List He.DefD} {tf : List He.Defn} {da : List DefA} {exs : List (PySem.W.Frag → Bool)} {g : Addr → Option Obj} {s : Shared} (h : ∀ a, g a = s.heap.get? a) : obsB n fa fn tf da exs g = (hookB n fa fn tf da exs).obs s := by
  have e : g = s.heap.get? := funext h
  rw [e] <;> rfl
/-! ### the end -/
theorem lawL {P : Program} {w : World} {K : PySem.W.Frag} {mg mb : Str → Option Value} {CX : CXT} {k : Nat} {fa a : Addr} {cs : List (Addr × Addr)} {fd : FuncData} {x : Str} {sp : L2.Sp} {s : Shared} {vs : List Value} {ns : List Int}
    (KX : K.In s.heap) (hns : s.heap.Ns mainGlobals mg) (hb : s.heap.Ns builtinsNs mb) (hbb : ∀ x : Str, x ≠ "__name__" → mb x = bootBuiltins x) (hlim : s.heap.NoLimit) (hg : s.gens = #[])
    (hT : ∀ p ∈ cs, s.heap.get? p.2 = some { cls := .none, data := .fields #[] }) (nT : ∀ p ∈ cs, K.lookup p.2 = none) (C : ∀ p ∈ cs, PySem.W.CodeHd s.heap p.1 p.2)
    (hbm : ∃ (bm : Addr) (ob : Obj), mg "__builtins__" = some (.ref bm) ∧ bm ≠ builtinsNs ∧ s.heap.get? bm = some ob ∧ ob.cls = .type "module" ∧ ob.dict = some builtinsNs ∧ ob.data = .plain)
    (ha : s.heap.get? a = some { cls := .type "list", data := .seq vs.toArray }) (hi : IntsAre vs ns) (hl : ns.length ≤ sizeLine) (hr : Room k callerA)
    (F : ∀ base : Heap, (∀ p ∈ cs, TabB base mg p.1 p.2) → FnG P w K mg base CX k fa fd [x] sp) (hbind : ∀ (s : Shared) (u : Value), BindsTo s fd ⟨[u], []⟩ [(x, u)])
    (hsp : ∀ H : Hp, (∀ p ∈ cs, H p.2 = some (.tbl #[])) → SqL K H a (ns.map V.int) → sp [.ref a] H (fun v _ => v = .bl true) fun _ _ _ => False)
    (hCX : ∀ H e s', CX [] H s (fun _ _ _ => False) e s' → False) :
    codeAny (model P w) callerA (.call (.ref fa) ⟨[.ref a], []⟩) (fun r s' => r = .ok (.ret (.bool true)) ∧ OldK s.heap s'.heap ∧ s'.os = s.os ∧ AllBare s'.gens) s := by
  have rv := vals_ints hi
  have lenV := hi.length
  have tabs : ∀ b, (∃ p ∈ cs, p.2 = b) → s.heap.get? b = some { cls := .none, data := .fields #[] } := fun b ⟨p, hp, e⟩ => by rw [← e]; exact hT p hp
  have na : ¬ ∃ p ∈ cs, p.2 = a := fun z => by
    have q := tabs a z
    rw [ha] at q
    cases q
  -- what is tracked is the script, or a table
  have go : ∀ H : Hp, (∀ p ∈ cs, H p.2 = some (.tbl #[])) → SqL K H a (ns.map V.int) → HOk P w H s.heap → (∀ b u, H b = some u → (b = a ∧ K.lookup a = none ∧ ∃ o xs, u = .frz o (.lst xs)) ∨ ((∃ p ∈ cs, p.2 = b) ∧ u = .tbl #[])) →
      codeAny (model P w) callerA (.call (.ref fa) ⟨[.ref a], []⟩) (fun r s' => r = .ok (.ret (.bool true)) ∧ OldK s.heap s'.heap ∧ s'.os = s.os ∧ AllBare s'.gens) s := by
    intro H hH hS hok hA
    have none_of : ∀ {b : Addr} {o : Obj}, s.heap.get? b = some o → o ≠ { cls := .type "list", data := .seq vs.toArray } → o ≠ { cls := .none, data := .fields #[] } → H b = none := fun {b o} e h1 h2 => by
      cases q : H b with
      | none => rfl
      | some u =>
        rcases hA b u q with ⟨z, _⟩ | ⟨z, _⟩
        · rw [z, ha] at e
          exact absurd (Option.some.inj e).symm h1
        · rw [tabs b z] at e
          exact absurd (Option.some.inj e).symm h2
    have ns_of : ∀ {b : Addr} {m : Str → Option Value}, s.heap.Ns b m → (hidT s.heap H).Ns b m := fun {b m} ⟨o, es, ep, e, d, r⟩ => by
      refine ⟨o, es, ep, hidT_get e (none_of e (fun z => ?_) fun z => ?_), d, r⟩
      · rw [z] at d
        cases d
      · rw [z] at d
        cases d
    have hK : K.In (hidT s.heap H) := fun b o e => by
      refine hidT_get (KX b o e) ?_
      cases q : H b with
      | none => rfl
      | some u =>
        rcases hA b u q with ⟨z, l, _⟩ | ⟨⟨p, hp, z⟩, _⟩
        · rw [z, l] at e
          cases e
        · rw [← z, nT p hp] at e
          cases e
    have TB : ∀ p ∈ cs, TabB (hidT s.heap H) mg p.1 p.2 := fun p hp => by
      refine ⟨?_, ?_, fun z => ?_⟩
      · obtain ⟨o, us, file, tf, flags, tg, inF, text, tt, e1, r1, r2, r3, r4⟩ := C p hp
        refine ⟨o, us, file, tf, flags, tg, inF, text, tt, hidT_get e1 (none_of e1 (fun z => ?_) fun z => ?_), r1, r2, r3, r4⟩
        · rw [z] at r2
          cases r2
        · rw [z] at r1
          cases r1
      · obtain ⟨bm, ob, b1, b2, b3, b4, b5, b6⟩ := hbm
        refine ⟨bm, ob, b1, b2, fun q => ?_, fun q => ?_, hidT_get b3 (none_of b3 (fun z => ?_) fun z => ?_), b4, b5, b6⟩
        · obtain ⟨o, es, ep, e, hd, _⟩ := hns
          rw [q, e] at b3
          cases b3
          rw [hd] at b6
          cases b6
        · rw [q, hT p hp] at b3
          cases b3
          cases b6
        · rw [z] at b6
          cases b6
        · rw [z] at b6
          cases b6
      · obtain ⟨o, es, ep, e, hd, _⟩ := hns
        rw [z, hT p hp] at e
        cases e
        cases hd
    obtain ⟨mc, l1, l2⟩ := hlim
    have e0 : Env0 P w K mg (hidT s.heap H) callerA [] s H := ⟨rfl, ⟨hK, ns_of hns, ⟨mb, ns_of hb, hbb⟩, ⟨mc, ns_of l1, l2⟩⟩, fun b o e => of_hidT e, Nat.le_of_eq (hidT_size _ _), trivial, fun b hb => absurd (show b ∈ ([] : List Addr) from hb) (by simp), hok, .of_eq hg⟩
    refine codeAny_mono ((F _ TB).run callerA [] s H ⟨[.ref a], []⟩ [.ref a] [.ref a] _ _ rfl hr e0 (hbind s (.ref a)) (.cons rfl .nil) (hsp H hH hS)) fun r s' h => ?_
    match r, h with
    | .error e, h => exact (hCX H e s' h).elim
    | .ok .next, h => exact False.elim h
    | .ok .brk, h => exact False.elim h
    | .ok .cont, h => exact False.elim h
    | .ok (.ret u), h =>
      obtain ⟨v, H', os, bare, un, hok', r', q⟩ := h
      cases (show v = .bl true from q)
      obtain rfl : u = Value.bool true := r'
      have one : ∀ b o, s.heap.get? b = some o → (s'.heap.get? b = some o ∨ ((∃ p ∈ cs, p.2 = b) ∧ ∃ more : Array Value, s'.heap.get? b = some { cls := .none, data := .fields more })) := fun b o e => by
        cases q : H b with
        | none => exact .inl (un.keep b o e q (by intro z; exact absurd (show b ∈ ([] : List Addr) from z) (by simp)) (by simp))
        | some u =>
          rcases hA b u q with ⟨_, _, ob, xs, rfl⟩ | ⟨z, rfl⟩
          · have e1 := (hok b _ q).1
            have e2 := (hok' b _ (un.frzs b ob _ q)).1
            rw [e] at e1
            cases e1
            exact .inl e2
          · obtain ⟨more, z2⟩ := un.tbls b #[] q
            exact .inr ⟨z, _, hok' b _ z2⟩
      refine ⟨rfl, ⟨fun b o e => ?_, fun b o e => ?_⟩, os, bare⟩
      · rcases one b o e with z | ⟨⟨p, hp, z⟩, more, hm⟩
        · exact .inl z
        · have e' := hT p hp
          rw [z] at e'
          rw [e'] at e
          cases e
          refine .inr (.inl ⟨?_, rfl, #[], more, rfl, by rw [Array.empty_append]; exact hm⟩)
          have := ((C p hp).tab (hT p hp)).isCodeTable
          rw [z] at this
          exact this
      · rcases one b o e with z | ⟨_, more, hm⟩
        · exact ⟨_, z⟩
        · exact ⟨_, hm⟩
  have dec : ∀ b, Decidable (∃ p ∈ cs, p.2 = b) := fun b => Classical.propDecidable _
  cases hk : K.lookup a with
  | some o =>
    have e := KX a o hk
    rw [ha] at e
    cases e
    refine go (fun b => if (∃ p ∈ cs, p.2 = b) then some (.tbl #[]) else none) (fun p hp => if_pos ⟨p, hp, rfl⟩) (.inr ⟨_, vs.toArray, _, hk, rfl, rfl, rfl, by rw [List.size_toArray, lenV]; exact hl, by simpa using rv⟩) (fun b u z => ?_) (fun b u z => ?_)
    · by_cases hb : ∃ p ∈ cs, p.2 = b
      · cases (if_pos hb).symm.trans z
        exact tabs b hb
      · cases (if_neg hb).symm.trans z
    · by_cases hb : ∃ p ∈ cs, p.2 = b
      · cases (if_pos hb).symm.trans z
        exact .inr ⟨hb, rfl⟩
      · cases (if_neg hb).symm.trans z
  | none =>
    refine go (fun b => if b = a then some (.frz { cls := .type "list", data := .seq vs.toArray } (.lst (ns.map V.int))) else if (∃ p ∈ cs, p.2 = b) then some (.tbl #[]) else none)
      (fun p hp => (if_neg (fun z : p.2 = a => na ⟨p, hp, z⟩)).trans (if_pos ⟨p, hp, rfl⟩)) (.inl (.inr ⟨{ cls := .type "list", data := .seq vs.toArray }, if_pos rfl⟩)) (fun b u z => ?_) (fun b u z => ?_)
    · by_cases hb : b = a
      · cases (if_pos hb).symm.trans z
        rw [hb]
        exact ⟨ha, by rw [List.length_map]; exact hl, vs, _, rv, ha⟩
      · have z := (if_neg hb).symm.trans z
        by_cases hb : ∃ p ∈ cs, p.2 = b
        · cases (if_pos hb).symm.trans z
          exact tabs b hb
        · cases (if_neg hb).symm.trans z
    · by_cases hb : b = a
      · cases (if_pos hb).symm.trans z
        exact .inl ⟨hb, hk, _, _, rfl⟩
      · have z := (if_neg hb).symm.trans z
        by_cases hb : ∃ p ∈ cs, p.2 = b
        · cases (if_pos hb).symm.trans z
          exact .inr ⟨hb, rfl⟩
        · cases (if_neg hb).symm.trans z
theorem walkL {l : PySem.W.OpenLaw} {n k : Nat} {q : Program} {loose : List Str} {XP : (Str → Option Value) → Heap → Prop} {YP : World → Heap → Prop} {d : DefRec} {x : Str}
    (hn : l.most = some n) (hn2 : n ≤ sizeLine) (hdf : d.params.defaults = []) (hr : Room k callerA)
    (F : ∀ (w : World) (mg : Str → Option Value) (fa : Addr) (h : Heap), YP w h → h.Ns mainGlobals mg → mg d.name = some (.ref fa) → ∃ K : PySem.W.Frag, K.In h ∧ ∃ fd sp, ∃ cs : List (Addr × Addr),
      (∀ p ∈ cs, h.get? p.2 = some { cls := .none, data := .fields #[] }) ∧ (∀ p ∈ cs, K.lookup p.2 = none) ∧ (∀ p ∈ cs, PySem.W.CodeHd h p.1 p.2) ∧ (∀ (s : Shared) (u : Value), BindsTo s fd ⟨[u], []⟩ [(x, u)]) ∧
      (∀ (H : Hp) (a : Addr) (ns : List Int), ns.length ≤ n → (∀ p ∈ cs, H p.2 = some (.tbl #[])) → SqL K H a (ns.map V.int) → sp [.ref a] H (fun v _ => v = .bl true) fun _ _ _ => False) ∧ ∀ base : Heap, (∀ p ∈ cs, TabB base mg p.1 p.2) → FnG l.prog w K mg base CX0 k fa fd [x] sp) :
    PySem.W.WalkO q loose XP YP l.row.toRowW d [] (fun f vs => PySem.call f vs) := by
  refine Att.attach_callB hn hdf fun w s₀ s₁ mg mb fa o pm cd doc a vs ns G Y ho hd hcd hmg hobj hints hlen hbits hg => ?_
  obtain ⟨K, KX, fd, sp, cs, hT, nT, C, hb, hsp, hF⟩ := F w mg fa _ Y G.T.g hmg
  exact lawL KX G.T.g G.T.b G.T.builtins G.T.nolimit hg hT nT C G.T.bmain hobj hints (Nat.le_trans hlen hn2) hr hF hb (fun H hH hS => hsp H a ns hlen hH hS) fun _ _ _ z => z
end Sp
namespace K12
open PySem PySem.Spec PyProof.Rows L2 Sp
def wdN : List Str := ["InvalidRoom", "InvalidOption", "InvalidNumber", "InvalidIndex", "InvalidFlag", "InvalidText"]
def wdC (K : PySem.W.Frag) (j : Nat) : Addr := He.ga K (wdN.getD j "")
def wordsB (K : PySem.W.Frag) : Bool := (List.range 6).all fun k => (List.range 6).all fun j => decide (PySem.W.kitOne K (.ref (wdC K k)) (.ref (wdC K j)) = some (decide (j = k)))
def catchB (K : PySem.W.Frag) : Bool := (List.range 6).all fun k => decide (PySem.W.exmAny K (.ref (wdC K k)) ((List.range 6).map fun j => .ref (wdC K j)) = some true)
def pairB (K : PySem.W.Frag) : Bool := isoB "Best" "Maker" false K && (isoB "Maker" "Best" false K && (PySem.W.notFirst K (He.ga K "Best") (.ref (He.ga K "Maker")) && PySem.W.notFirst K (He.ga K "Maker") (.ref (He.ga K "Best"))))
def top (i : Nat) : Stmt := PySem.Challenge.pw_spillruns_k12_best_made.main.body.getD i (.Pass ⟨0, 0, 0, 0⟩)
abbrev s__wall : Stmt := top 0
def d__wall : He.DefD := ⟨("_wall", none), "_wall", "_wall", defArgs s__wall, defBody s__wall, defScope s__wall, [], []⟩
abbrev s_condition_of : Stmt := top 9
def d_condition_of : He.DefD := ⟨("condition_of", none), "condition_of", "condition_of", defArgs s_condition_of, defBody s_condition_of, defScope s_condition_of, [], []⟩
abbrev s_parsed : Stmt := top 10
def d_parsed : He.DefD := ⟨("parsed", none), "parsed", "parsed", defArgs s_parsed, defBody s_parsed, defScope s_parsed, [], []⟩
abbrev s_holds : Stmt := top 11
def d_holds : He.DefD := ⟨("holds", none), "holds", "holds", defArgs s_holds, defBody s_holds, defScope s_holds, [], []⟩
abbrev s_is_possible : Stmt := top 12
def d_is_possible : He.DefD := ⟨("is_possible", none), "is_possible", "is_possible", defArgs s_is_possible, defBody s_is_possible, defScope s_is_possible, [], []⟩
abbrev s_deed_of : Stmt := top 13
def d_deed_of : He.DefD := ⟨("deed_of", none), "deed_of", "deed_of", defArgs s_deed_of, defBody s_deed_of, defScope s_deed_of, [], []⟩
abbrev s_behind : Stmt := top 17
def d_behind : He.DefD := ⟨("behind", none), "behind", "behind", defArgs s_behind, defBody s_behind, defScope s_behind, [], []⟩
abbrev s_worked : Stmt := top 18
def d_worked : He.DefD := ⟨("worked", none), "worked", "worked", defArgs s_worked, defBody s_worked, defScope s_worked, [], []⟩
abbrev s_at_end : Stmt := top 19
def d_at_end : He.DefD := ⟨("at_end", none), "at_end", "at_end", defArgs s_at_end, defBody s_at_end, defScope s_at_end, [], []⟩
abbrev s_reads : Stmt := top 20
def d_reads : He.DefD := ⟨("reads", none), "reads", "reads", defArgs s_reads, defBody s_reads, defScope s_reads, [], []⟩
abbrev s_is_endless : Stmt := top 21
def d_is_endless : He.DefD := ⟨("is_endless", none), "is_endless", "is_endless", defArgs s_is_endless, defBody s_is_endless, defScope s_is_endless, [], []⟩
abbrev c_WrongValue : Stmt := top 23
abbrev c_InvalidRoom : Stmt := top 24
abbrev s_InvalidRoom_init : Stmt := inClass c_InvalidRoom 0
def d_InvalidRoom_init : He.DefD := ⟨("InvalidRoom", some "__init__"), "__init__", "InvalidRoom.__init__", defArgs s_InvalidRoom_init, defBody s_InvalidRoom_init, defScope s_InvalidRoom_init, [], []⟩
abbrev c_InvalidOption : Stmt := top 25
abbrev s_InvalidOption_init : Stmt := inClass c_InvalidOption 0
def d_InvalidOption_init : He.DefD := ⟨("InvalidOption", some "__init__"), "__init__", "InvalidOption.__init__", defArgs s_InvalidOption_init, defBody s_InvalidOption_init, defScope s_InvalidOption_init, [], []⟩
abbrev c_InvalidText : Stmt := top 26
abbrev s_InvalidText_init : Stmt := inClass c_InvalidText 0
def d_InvalidText_init : He.DefD := ⟨("InvalidText", some "__init__"), "__init__", "InvalidText.__init__", defArgs s_InvalidText_init, defBody s_InvalidText_init, defScope s_InvalidText_init, [], []⟩
abbrev c_InvalidNumber : Stmt := top 27
abbrev s_InvalidNumber_init : Stmt := inClass c_InvalidNumber 0
def d_InvalidNumber_init : He.DefD := ⟨("InvalidNumber", some "__init__"), "__init__", "InvalidNumber.__init__", defArgs s_InvalidNumber_init, defBody s_InvalidNumber_init, defScope s_InvalidNumber_init, [], []⟩
abbrev c_InvalidFlag : Stmt := top 28
abbrev s_InvalidFlag_init : Stmt := inClass c_InvalidFlag 0
def d_InvalidFlag_init : He.DefD := ⟨("InvalidFlag", some "__init__"), "__init__", "InvalidFlag.__init__", defArgs s_InvalidFlag_init, defBody s_InvalidFlag_init, defScope s_InvalidFlag_init, [], []⟩
abbrev c_InvalidIndex : Stmt := top 29
abbrev s_InvalidIndex_init : Stmt := inClass c_InvalidIndex 0
def d_InvalidIndex_init : He.DefD := ⟨("InvalidIndex", some "__init__"), "__init__", "InvalidIndex.__init__", defArgs s_InvalidIndex_init, defBody s_InvalidIndex_init, defScope s_InvalidIndex_init, [], []⟩
abbrev c_InvalidRules : Stmt := top 30
abbrev s_InvalidRules_init : Stmt := inClass c_InvalidRules 0
def d_InvalidRules_init : He.DefD := ⟨("InvalidRules", some "__init__"), "__init__", "InvalidRules.__init__", defArgs s_InvalidRules_init, defBody s_InvalidRules_init, defScope s_InvalidRules_init, [], []⟩
abbrev c_WrongName : Stmt := top 31
abbrev c_NoAnswer : Stmt := top 32
abbrev c_Endless : Stmt := top 33
abbrev s_is_integer : Stmt := top 35
def d_is_integer : He.DefD := ⟨("is_integer", none), "is_integer", "is_integer", defArgs s_is_integer, defBody s_is_integer, defScope s_is_integer, [], []⟩
abbrev s_check_room : Stmt := top 40
def d_check_room : He.DefD := ⟨("check_room", none), "check_room", "check_room", defArgs s_check_room, defBody s_check_room, defScope s_check_room, [], []⟩
abbrev s_check_rules : Stmt := top 41
def d_check_rules : He.DefD := ⟨("check_rules", none), "check_rules", "check_rules", defArgs s_check_rules, defBody s_check_rules, defScope s_check_rules, [], []⟩
abbrev s_check_option : Stmt := top 42
def d_check_option : He.DefD := ⟨("check_option", none), "check_option", "check_option", defArgs s_check_option, defBody s_check_option, defScope s_check_option, [], []⟩
abbrev s_spec_of : Stmt := top 43
def d_spec_of : He.DefD := ⟨("spec_of", none), "spec_of", "spec_of", defArgs s_spec_of, defBody s_spec_of, defScope s_spec_of, [], []⟩
abbrev c_Maker : Stmt := top 44
abbrev s_Maker_init : Stmt := inClass c_Maker 0
def d_Maker_init : He.DefD := ⟨("Maker", some "__init__"), "__init__", "Maker.__init__", defArgs s_Maker_init, defBody s_Maker_init, defScope s_Maker_init, [.adr (He.dflAt ("Maker", some "__init__") 0)], [("ties", .str "early"), ("equal", .str "fits"), ("doubles", .str "stay")]⟩
abbrev s_Maker_room : Stmt := inClass c_Maker 6
def d_Maker_room : DefA := ⟨recA "property" "Maker" "room", "room", "Maker.room", defArgs s_Maker_room, defBody s_Maker_room, defScope s_Maker_room, [], []⟩
abbrev s_Maker_rules : Stmt := inClass c_Maker 7
def d_Maker_rules : DefA := ⟨recA "property" "Maker" "rules", "rules", "Maker.rules", defArgs s_Maker_rules, defBody s_Maker_rules, defScope s_Maker_rules, [], []⟩
abbrev s_Maker_ties : Stmt := inClass c_Maker 8
def d_Maker_ties : DefA := ⟨recA "property" "Maker" "ties", "ties", "Maker.ties", defArgs s_Maker_ties, defBody s_Maker_ties, defScope s_Maker_ties, [], []⟩
abbrev s_Maker_equal : Stmt := inClass c_Maker 9
def d_Maker_equal : DefA := ⟨recA "property" "Maker" "equal", "equal", "Maker.equal", defArgs s_Maker_equal, defBody s_Maker_equal, defScope s_Maker_equal, [], []⟩
abbrev s_Maker_doubles : Stmt := inClass c_Maker 10
def d_Maker_doubles : DefA := ⟨recA "property" "Maker" "doubles", "doubles", "Maker.doubles", defArgs s_Maker_doubles, defBody s_Maker_doubles, defScope s_Maker_doubles, [], []⟩
abbrev s_Maker_with_room : Stmt := inClass c_Maker 11
def d_Maker_with_room : He.DefD := ⟨("Maker", some "with_room"), "with_room", "Maker.with_room", defArgs s_Maker_with_room, defBody s_Maker_with_room, defScope s_Maker_with_room, [], []⟩
abbrev s_Maker_with_rules : Stmt := inClass c_Maker 12
def d_Maker_with_rules : He.DefD := ⟨("Maker", some "with_rules"), "with_rules", "Maker.with_rules", defArgs s_Maker_with_rules, defBody s_Maker_with_rules, defScope s_Maker_with_rules, [], []⟩
abbrev s_Maker_with_options : Stmt := inClass c_Maker 13
def d_Maker_with_options : He.DefD := ⟨("Maker", some "with_options"), "with_options", "Maker.with_options", defArgs s_Maker_with_options, defBody s_Maker_with_options, defScope s_Maker_with_options, [], []⟩
abbrev s_Maker_without : Stmt := inClass c_Maker 14
def d_Maker_without : He.DefD := ⟨("Maker", some "without"), "without", "Maker.without", defArgs s_Maker_without, defBody s_Maker_without, defScope s_Maker_without, [], []⟩
abbrev s_Maker_fits_equal : Stmt := inClass c_Maker 15
def d_Maker_fits_equal : He.DefD := ⟨("Maker", some "fits_equal"), "fits_equal", "Maker.fits_equal", defArgs s_Maker_fits_equal, defBody s_Maker_fits_equal, defScope s_Maker_fits_equal, [], []⟩
abbrev s_Maker_takes_late : Stmt := inClass c_Maker 16
def d_Maker_takes_late : He.DefD := ⟨("Maker", some "takes_late"), "takes_late", "Maker.takes_late", defArgs s_Maker_takes_late, defBody s_Maker_takes_late, defScope s_Maker_takes_late, [], []⟩
abbrev s_Maker_eq : Stmt := inClass c_Maker 17
def d_Maker_eq : He.DefD := ⟨("Maker", some "__eq__"), "__eq__", "Maker.__eq__", defArgs s_Maker_eq, defBody s_Maker_eq, defScope s_Maker_eq, [], []⟩
abbrev s_Maker_len : Stmt := inClass c_Maker 18
def d_Maker_len : He.DefD := ⟨("Maker", some "__len__"), "__len__", "Maker.__len__", defArgs s_Maker_len, defBody s_Maker_len, defScope s_Maker_len, [], []⟩
abbrev s_Maker_bool : Stmt := inClass c_Maker 19
def d_Maker_bool : He.DefD := ⟨("Maker", some "__bool__"), "__bool__", "Maker.__bool__", defArgs s_Maker_bool, defBody s_Maker_bool, defScope s_Maker_bool, [], []⟩
abbrev s_Maker_str : Stmt := inClass c_Maker 20
def d_Maker_str : He.DefD := ⟨("Maker", some "__str__"), "__str__", "Maker.__str__", defArgs s_Maker_str, defBody s_Maker_str, defScope s_Maker_str, [], []⟩
abbrev s_Maker_repr : Stmt := inClass c_Maker 21
def d_Maker_repr : He.DefD := ⟨("Maker", some "__repr__"), "__repr__", "Maker.__repr__", defArgs s_Maker_repr, defBody s_Maker_repr, defScope s_Maker_repr, [], []⟩
abbrev c_Best : Stmt := top 45
abbrev s_Best_init : Stmt := inClass c_Best 0
def d_Best_init : He.DefD := ⟨("Best", some "__init__"), "__init__", "Best.__init__", defArgs s_Best_init, defBody s_Best_init, defScope s_Best_init, [], [("down", .bl false)]⟩
abbrev s_Best_room : Stmt := inClass c_Best 1
def d_Best_room : DefA := ⟨recA "property" "Best" "room", "room", "Best.room", defArgs s_Best_room, defBody s_Best_room, defScope s_Best_room, [], []⟩
abbrev s_Best_down : Stmt := inClass c_Best 2
def d_Best_down : DefA := ⟨recA "property" "Best" "down", "down", "Best.down", defArgs s_Best_down, defBody s_Best_down, defScope s_Best_down, [], []⟩
abbrev s_Best_eq : Stmt := inClass c_Best 3
def d_Best_eq : He.DefD := ⟨("Best", some "__eq__"), "__eq__", "Best.__eq__", defArgs s_Best_eq, defBody s_Best_eq, defScope s_Best_eq, [], []⟩
abbrev s_Best_str : Stmt := inClass c_Best 4
def d_Best_str : He.DefD := ⟨("Best", some "__str__"), "__str__", "Best.__str__", defArgs s_Best_str, defBody s_Best_str, defScope s_Best_str, [], []⟩
abbrev s__law_source : Stmt := top 47
def d__law_source : He.DefD := ⟨("_law_source", none), "_law_source", "_law_source", defArgs s__law_source, defBody s__law_source, defScope s__law_source, [], []⟩
abbrev s__law_draw : Stmt := top 48
def d__law_draw : He.DefD := ⟨("_law_draw", none), "_law_draw", "_law_draw", defArgs s__law_draw, defBody s__law_draw, defScope s__law_draw, [], []⟩
abbrev s__law_pick : Stmt := top 49
def d__law_pick : He.DefD := ⟨("_law_pick", none), "_law_pick", "_law_pick", defArgs s__law_pick, defBody s__law_pick, defScope s__law_pick, [], []⟩
abbrev s__law_caught : Stmt := top 50
def d__law_caught : He.DefD := ⟨("_law_caught", none), "_law_caught", "_law_caught", defArgs s__law_caught, defBody s__law_caught, defScope s__law_caught, [], []⟩
abbrev s__law_word : Stmt := top 51
def d__law_word : He.DefD := ⟨("_law_word", none), "_law_word", "_law_word", defArgs s__law_word, defBody s__law_word, defScope s__law_word, [], []⟩
abbrev s__law_shown : Stmt := top 52
def d__law_shown : He.DefD := ⟨("_law_shown", none), "_law_shown", "_law_shown", defArgs s__law_shown, defBody s__law_shown, defScope s__law_shown, [], []⟩
abbrev s__law_due : Stmt := top 53
def d__law_due : He.DefD := ⟨("_law_due", none), "_law_due", "_law_due", defArgs s__law_due, defBody s__law_due, defScope s__law_due, [], []⟩
abbrev s__law_pair_right : Stmt := top 54
def d__law_pair_right : He.DefD := ⟨("_law_pair_right", none), "_law_pair_right", "_law_pair_right", defArgs s__law_pair_right, defBody s__law_pair_right, defScope s__law_pair_right, [], []⟩
abbrev s__law_right : Stmt := top 55
def d__law_right : He.DefD := ⟨("_law_right", none), "_law_right", "_law_right", defArgs s__law_right, defBody s__law_right, defScope s__law_right, [], []⟩
abbrev s_law : Stmt := top 56
def d_law : He.DefD := ⟨("law", none), "law", "law", defArgs s_law, defBody s_law, defScope s_law, [], []⟩
def tf : List He.Defn := [("_law_right", none)]
def lamT (K : PySem.W.Frag) : List (Addr × Str) := [((He.cT K ("_law_right", none)).2, (("_law_right" : Str) ++ ".<locals>.") ++ "<lambda>")]
def lamB (K : PySem.W.Frag) : Bool := (lamT K).all fun p => (lamT K).all fun q => !decide (p.1 = q.1) || decide (p.2 = q.2)
abbrev LamTB (K : PySem.W.Frag) (mg : Str → Option Value) (base : Heap) : Prop := ∀ p ∈ tf, LamX.TabB base mg (He.cT K p).1 (He.cT K p).2
def fn : List He.DefD := [d__wall, d_condition_of, d_parsed, d_holds, d_is_possible, d_deed_of, d_behind, d_worked, d_at_end, d_reads, d_is_endless, d_InvalidRoom_init, d_InvalidOption_init, d_InvalidText_init, d_InvalidNumber_init, d_InvalidFlag_init, d_InvalidIndex_init, d_InvalidRules_init, d_is_integer, d_check_room, d_check_rules, d_check_option, d_spec_of, d_Maker_init, d_Maker_with_room, d_Maker_with_rules, d_Maker_with_options, d_Maker_without, d_Maker_fits_equal, d_Maker_takes_late, d_Maker_eq, d_Maker_len, d_Maker_bool, d_Maker_str, d_Maker_repr, d_Best_init, d_Best_eq, d_Best_str, d__law_source, d__law_draw, d__law_pick, d__law_caught, d__law_word, d__law_shown, d__law_due, d__law_pair_right, d__law_right, d_law]
def fa : List He.Fa := [.glo "_wall", .int "MOST_ROOM" 4, .int "MOST_BEST" 3, .int "MOST_RULES" 12, .int "MOST_CONDITIONS" 5, .glo "DEEDS", .glo "TRUTHS", .glo "COUNTS", .glo "condition_of", .glo "parsed", .glo "holds", .glo "is_possible", .glo "deed_of", .glo "FIRST", .int "MOST_IDLE" 6, .glo "behind", .glo "worked", .glo "at_end", .glo "reads", .glo "is_endless", .glo "WrongValue", .glo "InvalidRoom", .glo "InvalidOption", .glo "InvalidText", .glo "InvalidNumber", .glo "InvalidFlag", .glo "InvalidIndex", .glo "InvalidRules", .glo "WrongName", .glo "NoAnswer", .glo "Endless", .glo "is_integer", .glo "TIES", .glo "EQUALS", .glo "DOUBLES", .glo "check_room", .glo "check_rules", .glo "check_option", .glo "spec_of", .glo "Maker", .cls "Maker", .mkr "Maker", .noat "Maker" "drops", .noat "Maker" "parts", .noat "Maker" "spec", .meth "Maker" "with_room", .meth "Maker" "with_rules", .meth "Maker" "with_options", .meth "Maker" "without", .meth "Maker" "fits_equal", .meth "Maker" "takes_late", .meth "Maker" "__eq__", .meth "Maker" "__len__", .meth "Maker" "__bool__", .meth "Maker" "__str__", .meth "Maker" "__repr__", .glo "Best", .cls "Best", .mkr "Best", .noat "Best" "spec", .noat "Best" "__bool__", .noat "Best" "__len__", .meth "Best" "__eq__", .meth "Best" "__str__", .glo "_law_source", .glo "_law_draw", .glo "_law_pick", .glo "_law_caught", .glo "_law_word", .glo "_law_shown", .glo "_law_due", .glo "_law_pair_right", .glo "_law_right", .glo "law", .free "ArithmeticError", .free "LookupError", .free "ValueError", .free "abs", .free "all", .free "bool", .free "classmethod", .free "divmod", .free "enumerate", .free "int", .free "isinstance", .free "len", .free "max", .free "min", .free "property", .free "range", .free "repr", .free "str", .free "tuple"]
def fdA (K : PySem.W.Frag) (f : Addr) : FuncData := match K.lookup f with
  | some ⟨_, _, .func fd, _⟩ => fd
  | _ => default
theorem funD_fd {K : PySem.W.Frag} {x qual : Str} {params : Arguments} {body : List Stmt} {scope : Scope} {dvs : List V} {kws : List (Str × V)} {f : Addr} (h : ∃ fd, FunD K x qual params body scope dvs kws f fd) : FunD K x qual params body scope dvs kws f (fdA K f) := by
  obtain ⟨fd, F⟩ := h
  obtain ⟨oc, od, dV, kV, doc, pm, an, cdv, ct, osl, e, lk, r⟩ := F.ex
  have e2 : fdA K f = fd := by
    unfold fdA
    rw [lk]
  rw [e2]
  exact F
/-- what the text says -/
structure Tx (K : PySem.W.Frag) (mg : Str → Option Value) : Prop where
  g__wall : mg "_wall" = some (.ref (He.ga K "_wall"))
  F__wall : FunD K "_wall" "_wall" (defArgs s__wall) (defBody s__wall) (defScope s__wall) [] [] (He.fAd K d__wall.at_) (fdA K (He.fAd K d__wall.at_))
  i_MOST_ROOM : ∃ t, mg "MOST_ROOM" = some (.int 4 t)
  i_MOST_BEST : ∃ t, mg "MOST_BEST" = some (.int 3 t)
  i_MOST_RULES : ∃ t, mg "MOST_RULES" = some (.int 12 t)
  i_MOST_CONDITIONS : ∃ t, mg "MOST_CONDITIONS" = some (.int 5 t)
  g_DEEDS : mg "DEEDS" = some (.ref (He.ga K "DEEDS"))
  t_DEEDS : ∀ H : Hp, SqT K H (He.ga K "DEEDS") [.str "read", .str "write", .str "close", .str "turn", .str "mode 0", .str "mode 1", .str "mode 2"]
  g_TRUTHS : mg "TRUTHS" = some (.ref (He.ga K "TRUTHS"))
  t_TRUTHS : ∀ H : Hp, SqT K H (He.ga K "TRUTHS") [.str "fresh", .str "ended", .str "up"]
  g_COUNTS : mg "COUNTS" = some (.ref (He.ga K "COUNTS"))
  t_COUNTS : ∀ H : Hp, SqT K H (He.ga K "COUNTS") [.str "now", .str "next", .str "free"]
  g_condition_of : mg "condition_of" = some (.ref (He.ga K "condition_of"))
  F_condition_of : FunD K "condition_of" "condition_of" (defArgs s_condition_of) (defBody s_condition_of) (defScope s_condition_of) [] [] (He.fAd K d_condition_of.at_) (fdA K (He.fAd K d_condition_of.at_))
  g_parsed : mg "parsed" = some (.ref (He.ga K "parsed"))
  F_parsed : FunD K "parsed" "parsed" (defArgs s_parsed) (defBody s_parsed) (defScope s_parsed) [] [] (He.fAd K d_parsed.at_) (fdA K (He.fAd K d_parsed.at_))
  g_holds : mg "holds" = some (.ref (He.ga K "holds"))
  F_holds : FunD K "holds" "holds" (defArgs s_holds) (defBody s_holds) (defScope s_holds) [] [] (He.fAd K d_holds.at_) (fdA K (He.fAd K d_holds.at_))
  g_is_possible : mg "is_possible" = some (.ref (He.ga K "is_possible"))
  F_is_possible : FunD K "is_possible" "is_possible" (defArgs s_is_possible) (defBody s_is_possible) (defScope s_is_possible) [] [] (He.fAd K d_is_possible.at_) (fdA K (He.fAd K d_is_possible.at_))
  g_deed_of : mg "deed_of" = some (.ref (He.ga K "deed_of"))
  F_deed_of : FunD K "deed_of" "deed_of" (defArgs s_deed_of) (defBody s_deed_of) (defScope s_deed_of) [] [] (He.fAd K d_deed_of.at_) (fdA K (He.fAd K d_deed_of.at_))
  g_FIRST : mg "FIRST" = some (.ref (He.ga K "FIRST"))
  t_FIRST : ∀ H : Hp, SqT K H (He.ga K "FIRST") [.int 0, .int 0, .bl true, .bl false, .bl true, .int 0]
  i_MOST_IDLE : ∃ t, mg "MOST_IDLE" = some (.int 6 t)
  g_behind : mg "behind" = some (.ref (He.ga K "behind"))
  F_behind : FunD K "behind" "behind" (defArgs s_behind) (defBody s_behind) (defScope s_behind) [] [] (He.fAd K d_behind.at_) (fdA K (He.fAd K d_behind.at_))
  g_worked : mg "worked" = some (.ref (He.ga K "worked"))
  F_worked : FunD K "worked" "worked" (defArgs s_worked) (defBody s_worked) (defScope s_worked) [] [] (He.fAd K d_worked.at_) (fdA K (He.fAd K d_worked.at_))
  g_at_end : mg "at_end" = some (.ref (He.ga K "at_end"))
  F_at_end : FunD K "at_end" "at_end" (defArgs s_at_end) (defBody s_at_end) (defScope s_at_end) [] [] (He.fAd K d_at_end.at_) (fdA K (He.fAd K d_at_end.at_))
  g_reads : mg "reads" = some (.ref (He.ga K "reads"))
  F_reads : FunD K "reads" "reads" (defArgs s_reads) (defBody s_reads) (defScope s_reads) [] [] (He.fAd K d_reads.at_) (fdA K (He.fAd K d_reads.at_))
  g_is_endless : mg "is_endless" = some (.ref (He.ga K "is_endless"))
  F_is_endless : FunD K "is_endless" "is_endless" (defArgs s_is_endless) (defBody s_is_endless) (defScope s_is_endless) [] [] (He.fAd K d_is_endless.at_) (fdA K (He.fAd K d_is_endless.at_))
  g_WrongValue : mg "WrongValue" = some (.ref (He.ga K "WrongValue"))
  x_WrongValue : XCl K (He.ga K "WrongValue") (tlOf "ValueError") "ValueError.__new__"
  xz_WrongValue : PySem.W.findIn K (.ref (He.ga K "WrongValue")) "__init__" = some (some (.builtin "ValueError.__init__"))
  g_InvalidRoom : mg "InvalidRoom" = some (.ref (He.ga K "InvalidRoom"))
  x_InvalidRoom : XCl K (He.ga K "InvalidRoom") (tlOf "ValueError") "ValueError.__new__"
  xi_InvalidRoom : XM K (He.ga K "InvalidRoom") (He.ma K (He.ga K "InvalidRoom") "__init__")
  xn_InvalidRoom_given : PySem.W.takerIn K (He.ga K "InvalidRoom") "given" = some none ∧ PySem.W.findIn K (.ref (He.ga K "InvalidRoom")) "given" = some none
  F_InvalidRoom_init : FunD K "__init__" "InvalidRoom.__init__" (defArgs s_InvalidRoom_init) (defBody s_InvalidRoom_init) (defScope s_InvalidRoom_init) [] [] (He.fAd K d_InvalidRoom_init.at_) (fdA K (He.fAd K d_InvalidRoom_init.at_))
  g_InvalidOption : mg "InvalidOption" = some (.ref (He.ga K "InvalidOption"))
  x_InvalidOption : XCl K (He.ga K "InvalidOption") (tlOf "ValueError") "ValueError.__new__"
  xi_InvalidOption : XM K (He.ga K "InvalidOption") (He.ma K (He.ga K "InvalidOption") "__init__")
  xn_InvalidOption_given : PySem.W.takerIn K (He.ga K "InvalidOption") "given" = some none ∧ PySem.W.findIn K (.ref (He.ga K "InvalidOption")) "given" = some none
  F_InvalidOption_init : FunD K "__init__" "InvalidOption.__init__" (defArgs s_InvalidOption_init) (defBody s_InvalidOption_init) (defScope s_InvalidOption_init) [] [] (He.fAd K d_InvalidOption_init.at_) (fdA K (He.fAd K d_InvalidOption_init.at_))
  g_InvalidText : mg "InvalidText" = some (.ref (He.ga K "InvalidText"))
  x_InvalidText : XCl K (He.ga K "InvalidText") (tlOf "ValueError") "ValueError.__new__"
  xi_InvalidText : XM K (He.ga K "InvalidText") (He.ma K (He.ga K "InvalidText") "__init__")
  xn_InvalidText_given : PySem.W.takerIn K (He.ga K "InvalidText") "given" = some none ∧ PySem.W.findIn K (.ref (He.ga K "InvalidText")) "given" = some none
  F_InvalidText_init : FunD K "__init__" "InvalidText.__init__" (defArgs s_InvalidText_init) (defBody s_InvalidText_init) (defScope s_InvalidText_init) [] [] (He.fAd K d_InvalidText_init.at_) (fdA K (He.fAd K d_InvalidText_init.at_))
  g_InvalidNumber : mg "InvalidNumber" = some (.ref (He.ga K "InvalidNumber"))
  x_InvalidNumber : XCl K (He.ga K "InvalidNumber") (tlOf "ValueError") "ValueError.__new__"
  xi_InvalidNumber : XM K (He.ga K "InvalidNumber") (He.ma K (He.ga K "InvalidNumber") "__init__")
  xn_InvalidNumber_given : PySem.W.takerIn K (He.ga K "InvalidNumber") "given" = some none ∧ PySem.W.findIn K (.ref (He.ga K "InvalidNumber")) "given" = some none
  F_InvalidNumber_init : FunD K "__init__" "InvalidNumber.__init__" (defArgs s_InvalidNumber_init) (defBody s_InvalidNumber_init) (defScope s_InvalidNumber_init) [] [] (He.fAd K d_InvalidNumber_init.at_) (fdA K (He.fAd K d_InvalidNumber_init.at_))
  g_InvalidFlag : mg "InvalidFlag" = some (.ref (He.ga K "InvalidFlag"))
  x_InvalidFlag : XCl K (He.ga K "InvalidFlag") (tlOf "ValueError") "ValueError.__new__"
  xi_InvalidFlag : XM K (He.ga K "InvalidFlag") (He.ma K (He.ga K "InvalidFlag") "__init__")
  xn_InvalidFlag_given : PySem.W.takerIn K (He.ga K "InvalidFlag") "given" = some none ∧ PySem.W.findIn K (.ref (He.ga K "InvalidFlag")) "given" = some none
  F_InvalidFlag_init : FunD K "__init__" "InvalidFlag.__init__" (defArgs s_InvalidFlag_init) (defBody s_InvalidFlag_init) (defScope s_InvalidFlag_init) [] [] (He.fAd K d_InvalidFlag_init.at_) (fdA K (He.fAd K d_InvalidFlag_init.at_))
  g_InvalidIndex : mg "InvalidIndex" = some (.ref (He.ga K "InvalidIndex"))
  x_InvalidIndex : XCl K (He.ga K "InvalidIndex") (tlOf "ValueError") "ValueError.__new__"
  xi_InvalidIndex : XM K (He.ga K "InvalidIndex") (He.ma K (He.ga K "InvalidIndex") "__init__")
  xn_InvalidIndex_given : PySem.W.takerIn K (He.ga K "InvalidIndex") "given" = some none ∧ PySem.W.findIn K (.ref (He.ga K "InvalidIndex")) "given" = some none
  F_InvalidIndex_init : FunD K "__init__" "InvalidIndex.__init__" (defArgs s_InvalidIndex_init) (defBody s_InvalidIndex_init) (defScope s_InvalidIndex_init) [] [] (He.fAd K d_InvalidIndex_init.at_) (fdA K (He.fAd K d_InvalidIndex_init.at_))
  g_InvalidRules : mg "InvalidRules" = some (.ref (He.ga K "InvalidRules"))
  x_InvalidRules : XCl K (He.ga K "InvalidRules") (tlOf "ValueError") "ValueError.__new__"
  xi_InvalidRules : XM K (He.ga K "InvalidRules") (He.ma K (He.ga K "InvalidRules") "__init__")
  xn_InvalidRules_index : PySem.W.takerIn K (He.ga K "InvalidRules") "index" = some none ∧ PySem.W.findIn K (.ref (He.ga K "InvalidRules")) "index" = some none
  F_InvalidRules_init : FunD K "__init__" "InvalidRules.__init__" (defArgs s_InvalidRules_init) (defBody s_InvalidRules_init) (defScope s_InvalidRules_init) [] [] (He.fAd K d_InvalidRules_init.at_) (fdA K (He.fAd K d_InvalidRules_init.at_))
  g_WrongName : mg "WrongName" = some (.ref (He.ga K "WrongName"))
  x_WrongName : XCl K (He.ga K "WrongName") (tlOf "LookupError") "LookupError.__new__"
  xz_WrongName : PySem.W.findIn K (.ref (He.ga K "WrongName")) "__init__" = some (some (.builtin "LookupError.__init__"))
  g_NoAnswer : mg "NoAnswer" = some (.ref (He.ga K "NoAnswer"))
  x_NoAnswer : XCl K (He.ga K "NoAnswer") (tlOf "ArithmeticError") "ArithmeticError.__new__"
  xz_NoAnswer : PySem.W.findIn K (.ref (He.ga K "NoAnswer")) "__init__" = some (some (.builtin "ArithmeticError.__init__"))
  g_Endless : mg "Endless" = some (.ref (He.ga K "Endless"))
  x_Endless : XCl K (He.ga K "Endless") (tlOf "ArithmeticError") "ArithmeticError.__new__"
  xz_Endless : PySem.W.findIn K (.ref (He.ga K "Endless")) "__init__" = some (some (.builtin "ArithmeticError.__init__"))
  g_is_integer : mg "is_integer" = some (.ref (He.ga K "is_integer"))
  F_is_integer : FunD K "is_integer" "is_integer" (defArgs s_is_integer) (defBody s_is_integer) (defScope s_is_integer) [] [] (He.fAd K d_is_integer.at_) (fdA K (He.fAd K d_is_integer.at_))
  g_TIES : mg "TIES" = some (.ref (He.ga K "TIES"))
  t_TIES : ∀ H : Hp, SqT K H (He.ga K "TIES") [.str "early", .str "late", .str "kept"]
  g_EQUALS : mg "EQUALS" = some (.ref (He.ga K "EQUALS"))
  t_EQUALS : ∀ H : Hp, SqT K H (He.ga K "EQUALS") [.str "fits", .str "waits", .str "kept"]
  g_DOUBLES : mg "DOUBLES" = some (.ref (He.ga K "DOUBLES"))
  t_DOUBLES : ∀ H : Hp, SqT K H (He.ga K "DOUBLES") [.str "stay", .str "drop"]
  g_check_room : mg "check_room" = some (.ref (He.ga K "check_room"))
  F_check_room : FunD K "check_room" "check_room" (defArgs s_check_room) (defBody s_check_room) (defScope s_check_room) [] [] (He.fAd K d_check_room.at_) (fdA K (He.fAd K d_check_room.at_))
  g_check_rules : mg "check_rules" = some (.ref (He.ga K "check_rules"))
  F_check_rules : FunD K "check_rules" "check_rules" (defArgs s_check_rules) (defBody s_check_rules) (defScope s_check_rules) [] [] (He.fAd K d_check_rules.at_) (fdA K (He.fAd K d_check_rules.at_))
  g_check_option : mg "check_option" = some (.ref (He.ga K "check_option"))
  F_check_option : FunD K "check_option" "check_option" (defArgs s_check_option) (defBody s_check_option) (defScope s_check_option) [] [] (He.fAd K d_check_option.at_) (fdA K (He.fAd K d_check_option.at_))
  g_spec_of : mg "spec_of" = some (.ref (He.ga K "spec_of"))
  F_spec_of : FunD K "spec_of" "spec_of" (defArgs s_spec_of) (defBody s_spec_of) (defScope s_spec_of) [] [] (He.fAd K d_spec_of.at_) (fdA K (He.fAd K d_spec_of.at_))
  g_Maker : mg "Maker" = some (.ref (He.ga K "Maker"))
  cl_Maker : Cls K (He.ga K "Maker")
  mk_Maker : Mk K (He.ga K "Maker") (He.ma K (He.ga K "Maker") "__init__")
  no_Maker_drops : NoAttr K (He.ga K "Maker") "drops"
  no_Maker_parts : NoAttr K (He.ga K "Maker") "parts"
  no_Maker_spec : NoAttr K (He.ga K "Maker") "spec"
  I_Maker : InsF K (He.ga K "Maker")
  O_Maker : OwnF K (He.ga K "Maker")
  sf_Maker : PySem.W.selfFirst K (He.ga K "Maker") = true
  ne_Maker : PySem.W.findIn K (.ref (He.ga K "Maker")) "__ne__" = some (some (.builtin "object.__ne__"))
  dt_Maker_init_0 : ∀ H : Hp, SqT K H (He.dflAt ("Maker", some "__init__") 0 K) [.str "read"]
  F_Maker_init : FunD K "__init__" "Maker.__init__" (defArgs s_Maker_init) (defBody s_Maker_init) (defScope s_Maker_init) [V.ref (He.dflAt ("Maker", some "__init__") 0 K)] [("ties", V.str "early"), ("equal", V.str "fits"), ("doubles", V.str "stay")] (He.fAd K d_Maker_init.at_) (fdA K (He.fAd K d_Maker_init.at_))
  p_Maker_room : PropOf K (He.ga K "Maker") "room" (pA "Maker" "room" K) (d_Maker_room.at_ K)
  F_Maker_room : FunD K "room" "Maker.room" (defArgs s_Maker_room) (defBody s_Maker_room) (defScope s_Maker_room) [] [] (d_Maker_room.at_ K) (fdA K (d_Maker_room.at_ K))
  p_Maker_rules : PropOf K (He.ga K "Maker") "rules" (pA "Maker" "rules" K) (d_Maker_rules.at_ K)
  F_Maker_rules : FunD K "rules" "Maker.rules" (defArgs s_Maker_rules) (defBody s_Maker_rules) (defScope s_Maker_rules) [] [] (d_Maker_rules.at_ K) (fdA K (d_Maker_rules.at_ K))
  p_Maker_ties : PropOf K (He.ga K "Maker") "ties" (pA "Maker" "ties" K) (d_Maker_ties.at_ K)
  F_Maker_ties : FunD K "ties" "Maker.ties" (defArgs s_Maker_ties) (defBody s_Maker_ties) (defScope s_Maker_ties) [] [] (d_Maker_ties.at_ K) (fdA K (d_Maker_ties.at_ K))
  p_Maker_equal : PropOf K (He.ga K "Maker") "equal" (pA "Maker" "equal" K) (d_Maker_equal.at_ K)
  F_Maker_equal : FunD K "equal" "Maker.equal" (defArgs s_Maker_equal) (defBody s_Maker_equal) (defScope s_Maker_equal) [] [] (d_Maker_equal.at_ K) (fdA K (d_Maker_equal.at_ K))
  p_Maker_doubles : PropOf K (He.ga K "Maker") "doubles" (pA "Maker" "doubles" K) (d_Maker_doubles.at_ K)
  F_Maker_doubles : FunD K "doubles" "Maker.doubles" (defArgs s_Maker_doubles) (defBody s_Maker_doubles) (defScope s_Maker_doubles) [] [] (d_Maker_doubles.at_ K) (fdA K (d_Maker_doubles.at_ K))
  m_Maker_with_room : Meth K (He.ga K "Maker") "with_room" (He.ma K (He.ga K "Maker") "with_room")
  F_Maker_with_room : FunD K "with_room" "Maker.with_room" (defArgs s_Maker_with_room) (defBody s_Maker_with_room) (defScope s_Maker_with_room) [] [] (He.fAd K d_Maker_with_room.at_) (fdA K (He.fAd K d_Maker_with_room.at_))
  m_Maker_with_rules : Meth K (He.ga K "Maker") "with_rules" (He.ma K (He.ga K "Maker") "with_rules")
  F_Maker_with_rules : FunD K "with_rules" "Maker.with_rules" (defArgs s_Maker_with_rules) (defBody s_Maker_with_rules) (defScope s_Maker_with_rules) [] [] (He.fAd K d_Maker_with_rules.at_) (fdA K (He.fAd K d_Maker_with_rules.at_))
  m_Maker_with_options : Meth K (He.ga K "Maker") "with_options" (He.ma K (He.ga K "Maker") "with_options")
  F_Maker_with_options : FunD K "with_options" "Maker.with_options" (defArgs s_Maker_with_options) (defBody s_Maker_with_options) (defScope s_Maker_with_options) [] [] (He.fAd K d_Maker_with_options.at_) (fdA K (He.fAd K d_Maker_with_options.at_))
  m_Maker_without : Meth K (He.ga K "Maker") "without" (He.ma K (He.ga K "Maker") "without")
  F_Maker_without : FunD K "without" "Maker.without" (defArgs s_Maker_without) (defBody s_Maker_without) (defScope s_Maker_without) [] [] (He.fAd K d_Maker_without.at_) (fdA K (He.fAd K d_Maker_without.at_))
  m_Maker_fits_equal : Meth K (He.ga K "Maker") "fits_equal" (He.ma K (He.ga K "Maker") "fits_equal")
  F_Maker_fits_equal : FunD K "fits_equal" "Maker.fits_equal" (defArgs s_Maker_fits_equal) (defBody s_Maker_fits_equal) (defScope s_Maker_fits_equal) [] [] (He.fAd K d_Maker_fits_equal.at_) (fdA K (He.fAd K d_Maker_fits_equal.at_))
  m_Maker_takes_late : Meth K (He.ga K "Maker") "takes_late" (He.ma K (He.ga K "Maker") "takes_late")
  F_Maker_takes_late : FunD K "takes_late" "Maker.takes_late" (defArgs s_Maker_takes_late) (defBody s_Maker_takes_late) (defScope s_Maker_takes_late) [] [] (He.fAd K d_Maker_takes_late.at_) (fdA K (He.fAd K d_Maker_takes_late.at_))
  m_Maker_eq : Meth K (He.ga K "Maker") "__eq__" (He.ma K (He.ga K "Maker") "__eq__")
  F_Maker_eq : FunD K "__eq__" "Maker.__eq__" (defArgs s_Maker_eq) (defBody s_Maker_eq) (defScope s_Maker_eq) [] [] (He.fAd K d_Maker_eq.at_) (fdA K (He.fAd K d_Maker_eq.at_))
  m_Maker_len : Meth K (He.ga K "Maker") "__len__" (He.ma K (He.ga K "Maker") "__len__")
  F_Maker_len : FunD K "__len__" "Maker.__len__" (defArgs s_Maker_len) (defBody s_Maker_len) (defScope s_Maker_len) [] [] (He.fAd K d_Maker_len.at_) (fdA K (He.fAd K d_Maker_len.at_))
  m_Maker_bool : Meth K (He.ga K "Maker") "__bool__" (He.ma K (He.ga K "Maker") "__bool__")
  F_Maker_bool : FunD K "__bool__" "Maker.__bool__" (defArgs s_Maker_bool) (defBody s_Maker_bool) (defScope s_Maker_bool) [] [] (He.fAd K d_Maker_bool.at_) (fdA K (He.fAd K d_Maker_bool.at_))
  m_Maker_str : Meth K (He.ga K "Maker") "__str__" (He.ma K (He.ga K "Maker") "__str__")
  F_Maker_str : FunD K "__str__" "Maker.__str__" (defArgs s_Maker_str) (defBody s_Maker_str) (defScope s_Maker_str) [] [] (He.fAd K d_Maker_str.at_) (fdA K (He.fAd K d_Maker_str.at_))
  m_Maker_repr : Meth K (He.ga K "Maker") "__repr__" (He.ma K (He.ga K "Maker") "__repr__")
  F_Maker_repr : FunD K "__repr__" "Maker.__repr__" (defArgs s_Maker_repr) (defBody s_Maker_repr) (defScope s_Maker_repr) [] [] (He.fAd K d_Maker_repr.at_) (fdA K (He.fAd K d_Maker_repr.at_))
  g_Best : mg "Best" = some (.ref (He.ga K "Best"))
  cl_Best : Cls K (He.ga K "Best")
  mk_Best : Mk K (He.ga K "Best") (He.ma K (He.ga K "Best") "__init__")
  no_Best_spec : NoAttr K (He.ga K "Best") "spec"
  I_Best : InsF K (He.ga K "Best")
  O_Best : OwnF K (He.ga K "Best")
  sf_Best : PySem.W.selfFirst K (He.ga K "Best") = true
  ne_Best : PySem.W.findIn K (.ref (He.ga K "Best")) "__ne__" = some (some (.builtin "object.__ne__"))
  no_Best___bool__ : NoAttr K (He.ga K "Best") "__bool__"
  no_Best___len__ : NoAttr K (He.ga K "Best") "__len__"
  F_Best_init : FunD K "__init__" "Best.__init__" (defArgs s_Best_init) (defBody s_Best_init) (defScope s_Best_init) [] [("down", V.bl false)] (He.fAd K d_Best_init.at_) (fdA K (He.fAd K d_Best_init.at_))
  p_Best_room : PropOf K (He.ga K "Best") "room" (pA "Best" "room" K) (d_Best_room.at_ K)
  F_Best_room : FunD K "room" "Best.room" (defArgs s_Best_room) (defBody s_Best_room) (defScope s_Best_room) [] [] (d_Best_room.at_ K) (fdA K (d_Best_room.at_ K))
  p_Best_down : PropOf K (He.ga K "Best") "down" (pA "Best" "down" K) (d_Best_down.at_ K)
  F_Best_down : FunD K "down" "Best.down" (defArgs s_Best_down) (defBody s_Best_down) (defScope s_Best_down) [] [] (d_Best_down.at_ K) (fdA K (d_Best_down.at_ K))
  m_Best_eq : Meth K (He.ga K "Best") "__eq__" (He.ma K (He.ga K "Best") "__eq__")
  F_Best_eq : FunD K "__eq__" "Best.__eq__" (defArgs s_Best_eq) (defBody s_Best_eq) (defScope s_Best_eq) [] [] (He.fAd K d_Best_eq.at_) (fdA K (He.fAd K d_Best_eq.at_))
  m_Best_str : Meth K (He.ga K "Best") "__str__" (He.ma K (He.ga K "Best") "__str__")
  F_Best_str : FunD K "__str__" "Best.__str__" (defArgs s_Best_str) (defBody s_Best_str) (defScope s_Best_str) [] [] (He.fAd K d_Best_str.at_) (fdA K (He.fAd K d_Best_str.at_))
  g__law_source : mg "_law_source" = some (.ref (He.ga K "_law_source"))
  F__law_source : FunD K "_law_source" "_law_source" (defArgs s__law_source) (defBody s__law_source) (defScope s__law_source) [] [] (He.fAd K d__law_source.at_) (fdA K (He.fAd K d__law_source.at_))
  g__law_draw : mg "_law_draw" = some (.ref (He.ga K "_law_draw"))
  F__law_draw : FunD K "_law_draw" "_law_draw" (defArgs s__law_draw) (defBody s__law_draw) (defScope s__law_draw) [] [] (He.fAd K d__law_draw.at_) (fdA K (He.fAd K d__law_draw.at_))
  g__law_pick : mg "_law_pick" = some (.ref (He.ga K "_law_pick"))
  F__law_pick : FunD K "_law_pick" "_law_pick" (defArgs s__law_pick) (defBody s__law_pick) (defScope s__law_pick) [] [] (He.fAd K d__law_pick.at_) (fdA K (He.fAd K d__law_pick.at_))
  g__law_caught : mg "_law_caught" = some (.ref (He.ga K "_law_caught"))
  F__law_caught : FunD K "_law_caught" "_law_caught" (defArgs s__law_caught) (defBody s__law_caught) (defScope s__law_caught) [] [] (He.fAd K d__law_caught.at_) (fdA K (He.fAd K d__law_caught.at_))
  g__law_word : mg "_law_word" = some (.ref (He.ga K "_law_word"))
  F__law_word : FunD K "_law_word" "_law_word" (defArgs s__law_word) (defBody s__law_word) (defScope s__law_word) [] [] (He.fAd K d__law_word.at_) (fdA K (He.fAd K d__law_word.at_))
  g__law_shown : mg "_law_shown" = some (.ref (He.ga K "_law_shown"))
  F__law_shown : FunD K "_law_shown" "_law_shown" (defArgs s__law_shown) (defBody s__law_shown) (defScope s__law_shown) [] [] (He.fAd K d__law_shown.at_) (fdA K (He.fAd K d__law_shown.at_))
  g__law_due : mg "_law_due" = some (.ref (He.ga K "_law_due"))
  F__law_due : FunD K "_law_due" "_law_due" (defArgs s__law_due) (defBody s__law_due) (defScope s__law_due) [] [] (He.fAd K d__law_due.at_) (fdA K (He.fAd K d__law_due.at_))
  g__law_pair_right : mg "_law_pair_right" = some (.ref (He.ga K "_law_pair_right"))
  F__law_pair_right : FunD K "_law_pair_right" "_law_pair_right" (defArgs s__law_pair_right) (defBody s__law_pair_right) (defScope s__law_pair_right) [] [] (He.fAd K d__law_pair_right.at_) (fdA K (He.fAd K d__law_pair_right.at_))
  g__law_right : mg "_law_right" = some (.ref (He.ga K "_law_right"))
  F__law_right : FunD K "_law_right" "_law_right" (defArgs s__law_right) (defBody s__law_right) (defScope s__law_right) [] [] (He.fAd K d__law_right.at_) (fdA K (He.fAd K d__law_right.at_))
  g_law : mg "law" = some (.ref (He.ga K "law"))
  F_law : FunD K "law" "law" (defArgs s_law) (defBody s_law) (defScope s_law) [] [] (He.fAd K d_law.at_) (fdA K (He.fAd K d_law.at_))
  lamx : lamB K = true
  xw : wordsB K = true
  xk : catchB K = true
  xp : pairB K = true
  b_ArithmeticError : mg "ArithmeticError" = none
  b_LookupError : mg "LookupError" = none
  b_ValueError : mg "ValueError" = none
  b_abs : mg "abs" = none
  b_all : mg "all" = none
  b_bool : mg "bool" = none
  b_classmethod : mg "classmethod" = none
  b_divmod : mg "divmod" = none
  b_enumerate : mg "enumerate" = none
  b_int : mg "int" = none
  b_isinstance : mg "isinstance" = none
  b_len : mg "len" = none
  b_max : mg "max" = none
  b_min : mg "min" = none
  b_property : mg "property" = none
  b_range : mg "range" = none
  b_repr : mg "repr" = none
  b_str : mg "str" = none
  b_tuple : mg "tuple" = none
def loose : List Str := (["_wall", "MOST_ROOM", "MOST_BEST", "MOST_RULES", "MOST_CONDITIONS", "DEEDS", "TRUTHS", "COUNTS", "condition_of", "parsed", "holds", "is_possible", "deed_of", "FIRST", "MOST_IDLE", "behind", "worked", "at_end", "reads", "is_endless", "WrongValue", "InvalidRoom", "InvalidOption", "InvalidText", "InvalidNumber", "InvalidFlag", "InvalidIndex", "InvalidRules", "WrongName", "NoAnswer"] : List Str) ++ (["Endless", "is_integer", "TIES", "EQUALS", "DOUBLES", "check_room", "check_rules", "check_option", "spec_of", "Maker", "Best", "_law_source", "_law_draw", "_law_pick", "_law_caught", "_law_word", "_law_shown", "_law_due", "_law_pair_right", "_law_right"] : List Str)
abbrev R : PySem.W.OpenRow := PySem.W.OpenLaw.row PySem.Challenge.rw_spillruns_k12_best_made
def da : List DefA := [d_Maker_room, d_Maker_rules, d_Maker_ties, d_Maker_equal, d_Maker_doubles, d_Best_room, d_Best_down]
def exs : List (PySem.W.Frag → Bool) := [tupB (fun K => He.ga K "DEEDS") [.str "read", .str "write", .str "close", .str "turn", .str "mode 0", .str "mode 1", .str "mode 2"], tupB (fun K => He.ga K "TRUTHS") [.str "fresh", .str "ended", .str "up"], tupB (fun K => He.ga K "COUNTS") [.str "now", .str "next", .str "free"], tupB (fun K => He.ga K "FIRST") [.int 0, .int 0, .bl true, .bl false, .bl true, .int 0], (fun K => xclB (tlOf "ValueError") "ValueError.__new__" K (He.ga K "WrongValue")), blB "WrongValue" "__init__" "ValueError.__init__", (fun K => xclB (tlOf "ValueError") "ValueError.__new__" K (He.ga K "InvalidRoom")), xiB "InvalidRoom", xnB "InvalidRoom" "given", (fun K => xclB (tlOf "ValueError") "ValueError.__new__" K (He.ga K "InvalidOption")), xiB "InvalidOption", xnB "InvalidOption" "given", (fun K => xclB (tlOf "ValueError") "ValueError.__new__" K (He.ga K "InvalidText")), xiB "InvalidText", xnB "InvalidText" "given", (fun K => xclB (tlOf "ValueError") "ValueError.__new__" K (He.ga K "InvalidNumber")), xiB "InvalidNumber", xnB "InvalidNumber" "given", (fun K => xclB (tlOf "ValueError") "ValueError.__new__" K (He.ga K "InvalidFlag")), xiB "InvalidFlag", xnB "InvalidFlag" "given", (fun K => xclB (tlOf "ValueError") "ValueError.__new__" K (He.ga K "InvalidIndex")), xiB "InvalidIndex", xnB "InvalidIndex" "given", (fun K => xclB (tlOf "ValueError") "ValueError.__new__" K (He.ga K "InvalidRules")), xiB "InvalidRules", xnB "InvalidRules" "index", (fun K => xclB (tlOf "LookupError") "LookupError.__new__" K (He.ga K "WrongName")), blB "WrongName" "__init__" "LookupError.__init__", (fun K => xclB (tlOf "ArithmeticError") "ArithmeticError.__new__" K (He.ga K "NoAnswer")), blB "NoAnswer" "__init__" "ArithmeticError.__init__", (fun K => xclB (tlOf "ArithmeticError") "ArithmeticError.__new__" K (He.ga K "Endless")), blB "Endless" "__init__" "ArithmeticError.__init__", tupB (fun K => He.ga K "TIES") [.str "early", .str "late", .str "kept"], tupB (fun K => He.ga K "EQUALS") [.str "fits", .str "waits", .str "kept"], tupB (fun K => He.ga K "DOUBLES") [.str "stay", .str "drop"], insB "Maker", ownB "Maker", sfB "Maker", blB "Maker" "__ne__" "object.__ne__", tupB (He.dflAt ("Maker", some "__init__") 0) [.str "read"], propB "Maker" "room", propB "Maker" "rules", propB "Maker" "ties", propB "Maker" "equal", propB "Maker" "doubles", insB "Best", ownB "Best", sfB "Best", blB "Best" "__ne__" "object.__ne__", propB "Best" "room", propB "Best" "down", lamB, wordsB, catchB, pairB]
abbrev hk : PySem.W.Hook := hookB 6 fa fn tf da exs
def ob (s : PySem.W.SharedT) : AlA := obsB 6 fa fn tf da exs (HandSHeadRun.getT s)
theorem ob_eq (s : PySem.W.SharedT) : ob s = hk.obs s.abs := obsB_eq (HandSHeadRun.getT_eq s)
theorem run (w : World) : HandSHeadRun.RunEq R (PySem.W.view R.prog [56]) hk ob 20000 loose w := by
  intro os
  kernel_rfl
theorem tx_of {K : PySem.W.Frag} {h : Heap} {mg : Str → Option Value} (X : K.In h) (G : h.Ns mainGlobals mg) (c : SaysA fa fn da exs K) : Tx K mg :=
  ⟨He.glo_ok X G (c.d.fact 0),
   funD_fd (c.d.def_ 0 (d := d__wall) rfl),
   He.int_ok X G (c.d.fact 1),
   He.int_ok X G (c.d.fact 2),
   He.int_ok X G (c.d.fact 3),
   He.int_ok X G (c.d.fact 4),
   He.glo_ok X G (c.d.fact 5),
   tupB_ok (c.ex 0),
   He.glo_ok X G (c.d.fact 6),
   tupB_ok (c.ex 1),
   He.glo_ok X G (c.d.fact 7),
   tupB_ok (c.ex 2),
   He.glo_ok X G (c.d.fact 8),
   funD_fd (c.d.def_ 1 (d := d_condition_of) rfl),
   He.glo_ok X G (c.d.fact 9),
   funD_fd (c.d.def_ 2 (d := d_parsed) rfl),
   He.glo_ok X G (c.d.fact 10),
   funD_fd (c.d.def_ 3 (d := d_holds) rfl),
   He.glo_ok X G (c.d.fact 11),
   funD_fd (c.d.def_ 4 (d := d_is_possible) rfl),
   He.glo_ok X G (c.d.fact 12),
   funD_fd (c.d.def_ 5 (d := d_deed_of) rfl),
   He.glo_ok X G (c.d.fact 13),
   tupB_ok (c.ex 3),
   He.int_ok X G (c.d.fact 14),
   He.glo_ok X G (c.d.fact 15),
   funD_fd (c.d.def_ 6 (d := d_behind) rfl),
   He.glo_ok X G (c.d.fact 16),
   funD_fd (c.d.def_ 7 (d := d_worked) rfl),
   He.glo_ok X G (c.d.fact 17),
   funD_fd (c.d.def_ 8 (d := d_at_end) rfl),
   He.glo_ok X G (c.d.fact 18),
   funD_fd (c.d.def_ 9 (d := d_reads) rfl),
   He.glo_ok X G (c.d.fact 19),
   funD_fd (c.d.def_ 10 (d := d_is_endless) rfl),
   He.glo_ok X G (c.d.fact 20),
   xclB_ok (c.ex 4),
   blB_ok (c.ex 5),
   He.glo_ok X G (c.d.fact 21),
   xclB_ok (c.ex 6),
   xiB_ok xb_V (xclB_ok (c.ex 6)) (c.ex 7),
   xnB_ok (c.ex 8),
   funD_fd (c.d.def_ 11 (d := d_InvalidRoom_init) rfl),
   He.glo_ok X G (c.d.fact 22),
   xclB_ok (c.ex 9),
   xiB_ok xb_V (xclB_ok (c.ex 9)) (c.ex 10),
   xnB_ok (c.ex 11),
   funD_fd (c.d.def_ 12 (d := d_InvalidOption_init) rfl),
   He.glo_ok X G (c.d.fact 23),
   xclB_ok (c.ex 12),
   xiB_ok xb_V (xclB_ok (c.ex 12)) (c.ex 13),
   xnB_ok (c.ex 14),
   funD_fd (c.d.def_ 13 (d := d_InvalidText_init) rfl),
   He.glo_ok X G (c.d.fact 24),
   xclB_ok (c.ex 15),
   xiB_ok xb_V (xclB_ok (c.ex 15)) (c.ex 16),
   xnB_ok (c.ex 17),
   funD_fd (c.d.def_ 14 (d := d_InvalidNumber_init) rfl),
   He.glo_ok X G (c.d.fact 25),
   xclB_ok (c.ex 18),
   xiB_ok xb_V (xclB_ok (c.ex 18)) (c.ex 19),
   xnB_ok (c.ex 20),
   funD_fd (c.d.def_ 15 (d := d_InvalidFlag_init) rfl),
   He.glo_ok X G (c.d.fact 26),
   xclB_ok (c.ex 21),
   xiB_ok xb_V (xclB_ok (c.ex 21)) (c.ex 22),
   xnB_ok (c.ex 23),
   funD_fd (c.d.def_ 16 (d := d_InvalidIndex_init) rfl),
   He.glo_ok X G (c.d.fact 27),
   xclB_ok (c.ex 24),
   xiB_ok xb_V (xclB_ok (c.ex 24)) (c.ex 25),
   xnB_ok (c.ex 26),
   funD_fd (c.d.def_ 17 (d := d_InvalidRules_init) rfl),
   He.glo_ok X G (c.d.fact 28),
   xclB_ok (c.ex 27),
   blB_ok (c.ex 28),
   He.glo_ok X G (c.d.fact 29),
   xclB_ok (c.ex 29),
   blB_ok (c.ex 30),
   He.glo_ok X G (c.d.fact 30),
   xclB_ok (c.ex 31),
   blB_ok (c.ex 32),
   He.glo_ok X G (c.d.fact 31),
   funD_fd (c.d.def_ 18 (d := d_is_integer) rfl),
   He.glo_ok X G (c.d.fact 32),
   tupB_ok (c.ex 33),
   He.glo_ok X G (c.d.fact 33),
   tupB_ok (c.ex 34),
   He.glo_ok X G (c.d.fact 34),
   tupB_ok (c.ex 35),
   He.glo_ok X G (c.d.fact 35),
   funD_fd (c.d.def_ 19 (d := d_check_room) rfl),
   He.glo_ok X G (c.d.fact 36),
   funD_fd (c.d.def_ 20 (d := d_check_rules) rfl),
   He.glo_ok X G (c.d.fact 37),
   funD_fd (c.d.def_ 21 (d := d_check_option) rfl),
   He.glo_ok X G (c.d.fact 38),
   funD_fd (c.d.def_ 22 (d := d_spec_of) rfl),
   He.glo_ok X G (c.d.fact 39),
   He.cls_ok (c.d.fact 40),
   He.mkr_ok (c.d.fact 41),
   He.noat_ok (c.d.fact 42),
   He.noat_ok (c.d.fact 43),
   He.noat_ok (c.d.fact 44),
   insB_ok (c.ex 36),
   ownB_ok (c.ex 37),
   c.ex 38,
   blB_ok (c.ex 39),
   tupB_ok (c.ex 40),
   funD_fd (c.d.def_ 23 (d := d_Maker_init) rfl),
   propB_ok (c.ex 41),
   funD_fd (c.def_ 0 (d := d_Maker_room) rfl),
   propB_ok (c.ex 42),
   funD_fd (c.def_ 1 (d := d_Maker_rules) rfl),
   propB_ok (c.ex 43),
   funD_fd (c.def_ 2 (d := d_Maker_ties) rfl),
   propB_ok (c.ex 44),
   funD_fd (c.def_ 3 (d := d_Maker_equal) rfl),
   propB_ok (c.ex 45),
   funD_fd (c.def_ 4 (d := d_Maker_doubles) rfl),
   He.meth_ok (c.d.fact 45),
   funD_fd (c.d.def_ 24 (d := d_Maker_with_room) rfl),
   He.meth_ok (c.d.fact 46),
   funD_fd (c.d.def_ 25 (d := d_Maker_with_rules) rfl),
   He.meth_ok (c.d.fact 47),
   funD_fd (c.d.def_ 26 (d := d_Maker_with_options) rfl),
   He.meth_ok (c.d.fact 48),
   funD_fd (c.d.def_ 27 (d := d_Maker_without) rfl),
   He.meth_ok (c.d.fact 49),
   funD_fd (c.d.def_ 28 (d := d_Maker_fits_equal) rfl),
   He.meth_ok (c.d.fact 50),
   funD_fd (c.d.def_ 29 (d := d_Maker_takes_late) rfl),
   He.meth_ok (c.d.fact 51),
   funD_fd (c.d.def_ 30 (d := d_Maker_eq) rfl),
   He.meth_ok (c.d.fact 52),
   funD_fd (c.d.def_ 31 (d := d_Maker_len) rfl),
   He.meth_ok (c.d.fact 53),
   funD_fd (c.d.def_ 32 (d := d_Maker_bool) rfl),
   He.meth_ok (c.d.fact 54),
   funD_fd (c.d.def_ 33 (d := d_Maker_str) rfl),
   He.meth_ok (c.d.fact 55),
   funD_fd (c.d.def_ 34 (d := d_Maker_repr) rfl),
   He.glo_ok X G (c.d.fact 56),
   He.cls_ok (c.d.fact 57),
   He.mkr_ok (c.d.fact 58),
   He.noat_ok (c.d.fact 59),
   insB_ok (c.ex 46),
   ownB_ok (c.ex 47),
   c.ex 48,
   blB_ok (c.ex 49),
   He.noat_ok (c.d.fact 60),
   He.noat_ok (c.d.fact 61),
   funD_fd (c.d.def_ 35 (d := d_Best_init) rfl),
   propB_ok (c.ex 50),
   funD_fd (c.def_ 5 (d := d_Best_room) rfl),
   propB_ok (c.ex 51),
   funD_fd (c.def_ 6 (d := d_Best_down) rfl),
   He.meth_ok (c.d.fact 62),
   funD_fd (c.d.def_ 36 (d := d_Best_eq) rfl),
   He.meth_ok (c.d.fact 63),
   funD_fd (c.d.def_ 37 (d := d_Best_str) rfl),
   He.glo_ok X G (c.d.fact 64),
   funD_fd (c.d.def_ 38 (d := d__law_source) rfl),
   He.glo_ok X G (c.d.fact 65),
   funD_fd (c.d.def_ 39 (d := d__law_draw) rfl),
   He.glo_ok X G (c.d.fact 66),
   funD_fd (c.d.def_ 40 (d := d__law_pick) rfl),
   He.glo_ok X G (c.d.fact 67),
   funD_fd (c.d.def_ 41 (d := d__law_caught) rfl),
   He.glo_ok X G (c.d.fact 68),
   funD_fd (c.d.def_ 42 (d := d__law_word) rfl),
   He.glo_ok X G (c.d.fact 69),
   funD_fd (c.d.def_ 43 (d := d__law_shown) rfl),
   He.glo_ok X G (c.d.fact 70),
   funD_fd (c.d.def_ 44 (d := d__law_due) rfl),
   He.glo_ok X G (c.d.fact 71),
   funD_fd (c.d.def_ 45 (d := d__law_pair_right) rfl),
   He.glo_ok X G (c.d.fact 72),
   funD_fd (c.d.def_ 46 (d := d__law_right) rfl),
   He.glo_ok X G (c.d.fact 73),
   funD_fd (c.d.def_ 47 (d := d_law) rfl),
   c.ex 52,
   c.ex 53,
   c.ex 54,
   c.ex 55,
   He.free_ok X G (c.d.fact 74),
   He.free_ok X G (c.d.fact 75),
   He.free_ok X G (c.d.fact 76),
   He.free_ok X G (c.d.fact 77),
   He.free_ok X G (c.d.fact 78),
   He.free_ok X G (c.d.fact 79),
   He.free_ok X G (c.d.fact 80),
   He.free_ok X G (c.d.fact 81),
   He.free_ok X G (c.d.fact 82),
   He.free_ok X G (c.d.fact 83),
   He.free_ok X G (c.d.fact 84),
   He.free_ok X G (c.d.fact 85),
   He.free_ok X G (c.d.fact 86),
   He.free_ok X G (c.d.fact 87),
   He.free_ok X G (c.d.fact 88),
   He.free_ok X G (c.d.fact 89),
   He.free_ok X G (c.d.fact 90),
   He.free_ok X G (c.d.fact 91),
   He.free_ok X G (c.d.fact 92)⟩
theorem lamU {K : PySem.W.Frag} {mg : Str → Option Value} (T : Tx K mg) {P : Addr} {q : Str} (h : (P, q) ∈ lamT K) : ∀ p ∈ lamT K, p.1 = P → p.2 = q := fun p hp e => by
  have h1 := List.all_eq_true.mp (List.all_eq_true.mp T.lamx p hp) (P, q) h
  rw [show decide (p.1 = (P, q).1) = true from decide_eq_true e] at h1
  exact of_decide_eq_true h1
end K12
namespace K12
open PySem PySem.Spec PyProof.Rows L2 Sp
variable {P : Program} {w : World} {K : PySem.W.Frag} {mg : Str → Option Value} {base : Heap}
theorem atI_ints {ns : List Int} {z : Int} {j : Nat} (e : z = (j : Int)) (h : j < ns.length) : atI (ns.map V.int) z = some (.int (ns.getD j 0)) := by
  rw [e]
  refine atI_nat ?_
  rw [List.getElem?_map, List.getElem?_eq_getElem h]
  simp [List.getD, List.getElem?_eq_getElem h]

/-! ### draws -/
def Pool (H : Hp) (p : Addr) : Prop := ∃ a b c : Int, H p = some (.lst [.int a, .int b, .int c]) ∧ 0 ≤ a ∧ a < 2147483629 ∧ 0 ≤ c
/-- all but p is as it was -/
def Kp (p : Addr) (H H' : Hp) : Prop := ∀ b o, b ≠ p → H b = some o → H' b = some o
theorem Kp.refl {p : Addr} {H : Hp} : Kp p H H := fun _ _ _ h => h
theorem Kp.trans {p : Addr} {H H1 H2 : Hp} (a : Kp p H H1) (b : Kp p H1 H2) : Kp p H H2 := fun c o n h => b c o n (a c o n h)
theorem Kp.new {p q : Addr} {H : Hp} {o : HO} (hq : H q = none) : Kp p H (upd H q o) := fun b u _ h => by rw [upd_ne (ne_of_none h hq)]; exact h
theorem Kp.put {p : Addr} {H : Hp} {o : HO} : Kp p H (upd H p o) := fun b u n h => by rw [upd_ne n]; exact h
theorem Kp.same {p : Addr} {H H' : Hp} (e : Same H H') : Kp p H H' := fun b u _ h => e b u h
def sp__law_draw (K : PySem.W.Frag) : L2.Sp := fun vs H Q _ => on2 vs fun x y => onRef x fun p => onInt y fun m => Pool H p ∧ 0 < m ∧ m < 2 ^ 200 ∧
  ∀ (r : Int) (H' : Hp), 0 ≤ r → r < m → Pool H' p → Kp p H H' → Q (.int r) H'
abbrev N__law_draw : List Str := ["_law_pool", "_law_many", "_law_seed", "_law_figure"]
theorem sc__law_draw : FnScope N__law_draw ["_law_pool", "_law_many"] (defScope s__law_draw) := ⟨rfl, rfl, rfl, by decide +kernel, rfl, by decide +kernel, by decide +kernel⟩
def t__law_draw (K : PySem.W.Frag) : TS :=
    tSeq (tAsg (tOp fAdd (tOp (fIxL K) (fV 0) (tC (.int 1))) (tC (.int 1))) (gSub (fV 0) (tC (.int 1)) fSetL))
    (tSeq (tAsg (tCB fInt1 (tCons (tOp (fIxL K) (fV 0) (tC (.int 0))) tNil)) (gName 2))
    (tSeq (tAsg (tOp fMod (tCB fInt1 (tCons (tOp fAdd (tOp fAdd (tOp fAdd (tOp fMulW (fV 2) (fV 2)) (tOp fMul (tC (.int 69621)) (fV 2))) (tOp fMul (tC (.int 48611)) (tOp (fIxL K) (fV 0) (tC (.int 1))))) (tC (.int 11))) tNil)) (tC (.int 2147483629))) (gSub (fV 0) (tC (.int 0)) fSetL))
    (tSeq (tIfS (fT (tOp fGt (tOp (fIxL K) (fV 0) (tC (.int 2))) (tC (.int 0))))
    (tSeq (tAsg (tCB fDivmod (tCons (tOp (fIxL K) (fV 0) (tC (.int 2))) (tCons (fV 1) tNil))) (gTup K 2 (gCons (gSub (fV 0) (tC (.int 2)) fSetL) (gCons (gName 3) gNil))))
    (tRet (fV 3))) tNext)
    (tRet (tOp fMod (tCB fInt1 (tCons (tOp fDiv (tOp (fIxL K) (fV 0) (tC (.int 0))) (tC (.int 97))) tNil)) (fV 1))))))
abbrev Pure__law_draw (K : PySem.W.Frag) : Prop := ∀ (vs : List V) (H : Hp) (Q : VK) (E : XK), sp__law_draw K vs H Q E → t__law_draw K { nx := fun _ H' => Q .non H', rt := Q } (L2.start N__law_draw vs) H
theorem mW {m : Int} (h0 : 0 < m) (h1 : m < 2 ^ 200) (x : Int) : CDivW x m := wide_div (b := 200) h0 (by omega) (by decide) (by decide)
theorem pure__law_draw (T : Tx K mg) : Pure__law_draw K := by
  intro vs H Q E h
  obtain ⟨x, y, rfl, h⟩ := on2_ex h
  obtain ⟨p, rfl, h⟩ := onRef_ex h
  obtain ⟨m, rfl, ⟨a, b, c, hp, ha0, ha1, hc⟩, hm0, hm1, hQ⟩ := onInt_ex h
  refine ⟨_, SqL.of hp, _, rfl, _, hp, _, rfl, ?_⟩
  refine ⟨_, SqL.of upd_same, _, rfl, ?_⟩
  refine ⟨wide_mul (a := 31) (b := 31) (by omega) (by omega) (by decide) (by decide) (by decide), .inl ⟨by decide, by decide⟩, ?_⟩
  refine ⟨_, SqL.of upd_same, _, rfl, .inl ⟨by decide, by decide⟩, by show (0 : Int) < _; decide, _, upd_same, _, rfl, ?_⟩
  refine ⟨_, SqL.of upd_same, _, rfl, ?_⟩
  have hb0 : ∀ z : Int, 0 ≤ z % 2147483629 ∧ z % 2147483629 < 2147483629 := fun z => by omega
  refine ite2 (fun h => ?_) (fun h => ?_)
  · have h : (0 : Int) < c := of_decide_eq_true h
    refine ⟨_, SqL.of upd_same, _, rfl, mW hm0 hm1 _, fun q hq => ?_⟩
    have hqp : p ≠ q := ne_of_none upd_same hq
    refine ⟨q, _, rfl, SqT.of upd_same, rfl, _, _, rfl, ?_⟩
    refine ⟨_, (by rw [upd_ne hqp]; exact upd_same), _, rfl, _, _, rfl, rfl, ?_⟩
    refine hQ (c % m) _ (Int.emod_nonneg _ (by omega)) (Int.emod_lt_of_pos _ hm0) ⟨_, _, _, upd_same, (hb0 _).1, (hb0 _).2, Int.ediv_nonneg hc (by omega)⟩ ?_
    exact ((Kp.put.trans Kp.put).trans (Kp.new hq)).trans Kp.put
  · refine ⟨_, SqL.of upd_same, _, rfl, wide_div (b := 7) (by decide) (by decide) (by decide) (by decide), hm0, ?_⟩
    exact hQ _ _ (Int.emod_nonneg _ (by omega)) (Int.emod_lt_of_pos _ hm0) ⟨_, _, _, upd_same, (hb0 _).1, (hb0 _).2, hc⟩ (Kp.put.trans Kp.put)
theorem b__law_draw (T : Tx K mg) : Binds K (fdA K (He.fAd K d__law_draw.at_)) ["_law_pool", "_law_many"] [] := T.F__law_draw.bindsN fun _ _ _ _ _ _ us hl => match us, hl with | [_, _], _ => rfl
theorem ok__law_draw (T : Tx K mg) : FnOk P w K mg base CX0 1 (He.fAd K d__law_draw.at_) (fdA K (He.fAd K d__law_draw.at_)) ["_law_pool", "_law_many"] (sp__law_draw K) :=
  T.F__law_draw.ok sc__law_draw (fun _ _ _ _ h => on2_len h) (fun cdv A outer s H vs Q E hr h => ⟨t__law_draw K, PSs.nox ((pss_cons (ps_asg (pe_op o_add (pe_ix x_list (vv 0) pe_int (fun _ _ => rfl)) pe_int) (pg_sub (vv 0) pe_int s_list))
      (pss_cons (ps_set (i := 2) sc__law_draw.nd rfl (.inl rfl) (pe_callTy c_int1 (by rfl) T.b_int boot_int (pa_cons (pe_ix x_list (vv 0) pe_int (fun _ _ => rfl)) pa_nil)))
      (pss_cons (ps_asg (pe_op o_mod (pe_callTy c_int1 (by rfl) T.b_int boot_int (pa_cons (pe_op o_add (pe_op o_add (pe_op o_add (pe_op o_mulW (vv 2) (vv 2)) (pe_op o_mul pe_int (vv 2))) (pe_op o_mul pe_int (pe_ix x_list (vv 0) pe_int (fun _ _ => rfl)))) pe_int) pa_nil)) pe_int) (pg_sub (vv 0) pe_int s_list))
      (pss_cons (ps_if (t_cmp o_gt (pe_ix x_list (vv 0) pe_int (fun _ _ => rfl)) pe_int (nomark _))
      (pss_cons (ps_asg (pe_callB c_divmod (by rfl) T.b_divmod boot_divmod (pa_cons (pe_ix x_list (vv 0) pe_int (fun _ _ => rfl)) (pa_cons (vv 1) pa_nil))) (pg_tup rfl (pgs_cons (pg_sub (vv 0) pe_int s_list) (pgs_cons (pg_name (i := 3) sc__law_draw.nd rfl (.inl rfl)) pgs_nil))))
      (pss_one (ps_ret (vv 3)))) pss_nil)
      (pss_one (ps_ret (pe_op o_mod (pe_callTy c_int1 (by rfl) T.b_int boot_int (pa_cons (pe_op o_div (pe_ix x_list (vv 0) pe_int (fun _ _ => rfl)) pe_int) pa_nil)) (vv 1))))))))), pure__law_draw T vs H Q E h⟩)
/-- one of the things in a list -/
def sp__law_pick (K : PySem.W.Frag) : L2.Sp := fun vs H Q _ => on2 vs fun x y => onRef x fun p => onRef y fun m => Pool H p ∧ ∃ xs, SqL K H m xs ∧ m ≠ p ∧ xs ≠ [] ∧ xs.length < 1000 ∧
  ∀ (i : Nat) (v : V) (H' : Hp), xs[i]? = some v → Pool H' p → Kp p H H' → Q v H'
abbrev N__law_pick : List Str := ["_law_pool", "_law_menu"]
theorem sc__law_pick : FnScope N__law_pick ["_law_pool", "_law_menu"] (defScope s__law_pick) := ⟨rfl, rfl, rfl, by decide +kernel, rfl, by decide +kernel, by decide +kernel⟩
def t__law_pick (K : PySem.W.Frag) : TS :=
    tRet (tOp (fIxL K) (fV 1) (tCall (sp__law_draw K) [] E0 (tCons (fV 0) (tCons (tCB (fLen K) (tCons (fV 1) tNil)) tNil))))
abbrev Pure__law_pick (K : PySem.W.Frag) : Prop := ∀ (vs : List V) (H : Hp) (Q : VK) (E : XK), sp__law_pick K vs H Q E → t__law_pick K { nx := fun _ H' => Q .non H', rt := Q } (L2.start N__law_pick vs) H
theorem kpL {p : Addr} {H H' : Hp} {m : Addr} {xs : List V} (e : Kp p H H') (n : m ≠ p) (h : SqL K H m xs) : SqL K H' m xs := by
  rcases h with (h | ⟨o, h⟩) | h
  · exact .inl (.inl (e _ _ n h))
  · exact .inl (.inr ⟨o, e _ _ n h⟩)
  · exact .inr h
theorem kpT {p : Addr} {H H' : Hp} {m : Addr} {xs : List V} (e : Kp p H H') (n : m ≠ p) (h : SqT K H m xs) : SqT K H' m xs := by
  rcases h with (h | ⟨o, h⟩) | h
  · exact .inl (.inl (e _ _ n h))
  · exact .inl (.inr ⟨o, e _ _ n h⟩)
  · exact .inr h
theorem pure__law_pick (T : Tx K mg) : Pure__law_pick K := by
  intro vs H Q E h
  obtain ⟨x, y, rfl, h⟩ := on2_ex h
  obtain ⟨p, rfl, h⟩ := onRef_ex h
  obtain ⟨m, rfl, hp, xs, hx, hmp, hne, hl, hQ⟩ := onRef_ex h
  have hpos : 0 < xs.length := List.length_pos_iff.mpr hne
  refine ⟨_, .inl hx, hp, by omega, by omega, fun r H' h0 h1 hp' hk => ?_⟩
  have hr : r.toNat < xs.length := by omega
  exact ⟨_, kpL hk hmp hx, xs[r.toNat], at_of (j := r.toNat) (by omega) (by simp [hr]), hQ r.toNat _ H' (by simp [hr]) hp' hk⟩
theorem b__law_pick (T : Tx K mg) : Binds K (fdA K (He.fAd K d__law_pick.at_)) ["_law_pool", "_law_menu"] [] := T.F__law_pick.bindsN fun _ _ _ _ _ _ us hl => match us, hl with | [_, _], _ => rfl
theorem ok__law_pick (T : Tx K mg) : FnOk P w K mg base CX0 2 (He.fAd K d__law_pick.at_) (fdA K (He.fAd K d__law_pick.at_)) ["_law_pool", "_law_menu"] (sp__law_pick K) :=
  T.F__law_pick.ok sc__law_pick (fun _ _ _ _ h => on2_len h) (fun cdv A outer s H vs Q E hr h => ⟨t__law_pick K, PSs.nox ((pss_one (ps_ret (pe_ix x_list (vv 1) (pe_call (ok__law_draw T) (hr.mono (by decide)) (by rfl) T.g__law_draw T.F__law_draw.kp (b__law_draw T) .nil pass0 (pa_cons (vv 0) (pa_cons (pe_callB c_len (by rfl) T.b_len boot_len (pa_cons (vv 1) pa_nil)) pa_nil))) (fun _ _ => rfl))))), pure__law_pick T vs H Q E h⟩)
/-- a new pool -/
def sp__law_source (K : PySem.W.Frag) : L2.Sp := fun vs H Q _ => on2 vs fun x y => onRef x fun c => onInt y fun k => ∃ ns : List Int, SqL K H c (ns.map V.int) ∧ ns.length ≤ 1000 ∧ 0 ≤ k ∧ k ≤ 100 ∧
  ∀ (p : Addr) (H' : Hp), H p = none → Pool H' p → Same H H' → Q (.ref p) H'
abbrev N__law_source : List Str := ["_law_cells", "_law_k", "_law_figures", "_law_seed", "_law_cell"]
theorem sc__law_source : FnScope N__law_source ["_law_cells", "_law_k"] (defScope s__law_source) := ⟨rfl, rfl, rfl, by decide +kernel, rfl, by decide +kernel, by decide +kernel⟩
def t__law_source (K : PySem.W.Frag) : TS :=
    tSeq (tIfS (fT (tOp fLt (fV 1) (tCB (fLen K) (tCons (fV 0) tNil))))
    (tSeq (tAsg (tIf (tOr (fT (tOp fLt (tOp (fIxL K) (fV 0) (fV 1)) (tC (.int 0)))) (fT (tOp fGe (tOp (fIxL K) (fV 0) (fV 1)) (tOp fPow (tC (.int 10)) (tC (.int 18)))))) (tCB fAbs (tCons (tOp (fIxL K) (fV 0) (fV 1)) tNil)) (tC (.int 0))) (gName 2))
    (tRet (tLst (tCons (tOp fMod (tCB fInt1 (tCons (tOp fAdd (tOp fAdd (tOp fMul (tOp (fIxL K) (fV 0) (fV 1)) (tC (.int 40507))) (tOp fMul (tC (.int 977)) (fV 1))) (tC (.int 1))) tNil)) (tC (.int 2147483629))) (tCons (tC (.int 0)) (tCons (fV 2) tNil)))))) tNext)
    (tSeq (tAsg (tOp fAdd (tOp fMul (tC (.int 31)) (fV 1)) (tC (.int 7))) (gName 3))
    (tSeq (tFor (iList K (tSl (rSlL K) (fV 0) tNoPart (tPart (tC (.int 4))))) (gName 4)
    (tAsg (tOp fMod (tCB fInt1 (tCons (tOp fAdd (tOp fMul (fV 3) (tC (.int 48271))) (fV 4)) tNil)) (tC (.int 2147483587))) (gName 3)))
    (tRet (tLst (tCons (fV 3) (tCons (tC (.int 0)) (tCons (tC (.int 0)) tNil)))))))
abbrev Pure__law_source (K : PySem.W.Frag) : Prop := ∀ (vs : List V) (H : Hp) (Q : VK) (E : XK), sp__law_source K vs H Q E → t__law_source K { nx := fun _ H' => Q .non H', rt := Q } (L2.start N__law_source vs) H
theorem pure__law_source (T : Tx K mg) : Pure__law_source K := by
  intro vs H Q E h
  obtain ⟨x, y, rfl, h⟩ := on2_ex h
  obtain ⟨c, rfl, h⟩ := onRef_ex h
  obtain ⟨k, rfl, ns, hS, hl, hk0, hk1, hQ⟩ := onInt_ex h
  refine ⟨_, .inl hS, ?_⟩
  have hb0 : ∀ z : Int, 0 ≤ z % 2147483629 ∧ z % 2147483629 < 2147483629 := fun z => by omega
  refine ite2 (fun h => ?_) (fun h => ?_)
  · have h : k < ((ns.map V.int).length : Int) := of_decide_eq_true h
    rw [List.length_map] at h
    have ek : k = (k.toNat : Int) := by omega
    have hkl : k.toNat < ns.length := by omega
    have hat := atI_ints (ns := ns) (z := k) (j := k.toNat) ek hkl
    generalize ns.getD k.toNat 0 = z at hat
    have fin : ∀ f : Int, 0 ≤ f → tRet (tLst (tCons (tOp fMod (tCB fInt1 (tCons (tOp fAdd (tOp fAdd (tOp fMul (tOp (fIxL K) (fV 0) (fV 1)) (tC (.int 40507))) (tOp fMul (tC (.int 977)) (fV 1))) (tC (.int 1))) tNil)) (tC (.int 2147483629))) (tCons (tC (.int 0)) (tCons (fV 2) tNil)))) { nx := fun _ H' => Q .non H', rt := Q } [some (.ref c), some (.int k), some (.int f), none, none] H := fun f hf => by
      refine ⟨_, hS, _, hat, .inr ⟨by decide, by decide⟩, .inl ⟨by decide, by decide⟩, by show (0 : Int) < _; decide, by show 3 ≤ sizeLine; decide, fun p hp => ?_⟩
      exact hQ p _ hp ⟨_, _, _, upd_same, (hb0 _).1, (hb0 _).2, hf⟩ (Same.upd hp)
    refine ⟨_, hS, _, hat, ite2 (fun h1 => ?_) (fun h1 => ?_)⟩
    · refine iteT ⟨_, hS, _, hat, ?_⟩
      refine fin _ ?_
      split <;> omega
    · refine ⟨_, hS, _, hat, ⟨by decide, by decide, by decide⟩, ?_⟩
      refine ite2 (fun h2 => ?_) (fun h2 => ?_)
      · refine ⟨_, hS, _, hat, ?_⟩
        refine fin _ ?_
        split <;> omega
      · exact fin 0 (by omega)
  · refine ⟨.inl ⟨by decide, by decide⟩, _, rfl, _, _, rfl, hS, fun q hq => ?_⟩
    refine ⟨_, rfl, ⟨_, SqL.of upd_same⟩, ?_⟩
    refine for_list (K := K) (a := q) (xs := cutV (ns.map V.int) none (some 4)) (fun i σ H1 => Same (upd H q (.lst (cutV (ns.map V.int) none (some 4)))) H1 ∧ ∃ (s : Int) (o : Option V), 0 ≤ s ∧ s < 2147483629 ∧ σ = [some (.ref c), some (.int k), none, some (.int s), o]) ⟨Same.refl _, 31 * k + 7, none, by omega, by omega, rfl⟩ (fun i σ H1 _ hp => hp.1.seq (SqL.of upd_same)) (fun i x σ H1 hx hp => ?_) (fun σ H1 hp => ?_)
    · obtain ⟨e1, s, o, h0, h1, rfl⟩ := hp
      have : ∃ z : Int, x = .int z := by
        have hm := List.mem_of_getElem? hx
        have hm2 : x ∈ ns.map V.int := List.mem_of_mem_drop (List.mem_of_mem_take hm)
        obtain ⟨z, _, rfl⟩ := List.mem_map.mp hm2
        exact ⟨z, rfl⟩
      obtain ⟨z, rfl⟩ := this
      refine ⟨.inr ⟨by decide, by decide⟩, by show (0 : Int) < _; decide, e1, _, some (.int z), ?_, ?_, rfl⟩
      · exact Int.emod_nonneg _ (by decide)
      · exact Int.lt_trans (Int.emod_lt_of_pos _ (by decide)) (by decide)
    · obtain ⟨e1, s, o, h0, h1, rfl⟩ := hp
      refine ⟨by show 3 ≤ sizeLine; decide, fun p hp => ?_⟩
      refine hQ p _ ((Same.upd hq).free (e1.free hp)) ⟨_, _, _, upd_same, h0, h1, by omega⟩ (((Same.upd hq).trans e1).trans (Same.upd hp))
theorem b__law_source (T : Tx K mg) : Binds K (fdA K (He.fAd K d__law_source.at_)) ["_law_cells", "_law_k"] [] := T.F__law_source.bindsN fun _ _ _ _ _ _ us hl => match us, hl with | [_, _], _ => rfl
theorem ok__law_source (T : Tx K mg) : FnOk P w K mg base CX0 1 (He.fAd K d__law_source.at_) (fdA K (He.fAd K d__law_source.at_)) ["_law_cells", "_law_k"] (sp__law_source K) :=
  T.F__law_source.ok sc__law_source (fun _ _ _ _ h => on2_len h) (fun cdv A outer s H vs Q E hr h => ⟨t__law_source K, PSs.nox ((pss_cons (ps_if (t_cmp o_lt (vv 1) (pe_callB c_len (by rfl) T.b_len boot_len (pa_cons (vv 0) pa_nil)) (nomark _))
      (pss_cons (ps_set (i := 2) sc__law_source.nd rfl (.inl rfl) (pe_ifExp (PW.pt (pw_or (t_cmp o_lt (pe_ix x_list (vv 0) (vv 1) (fun _ _ => rfl)) pe_int (nomark _)) (pw_or1 (t_cmp o_ge (pe_ix x_list (vv 0) (vv 1) (fun _ _ => rfl)) (pe_op o_pow pe_int pe_int) (nomark _))))) (pe_callB c_abs (by rfl) T.b_abs boot_abs (pa_cons (pe_ix x_list (vv 0) (vv 1) (fun _ _ => rfl)) pa_nil)) pe_int))
      (pss_one (ps_ret (pe_lst (pa_cons (pe_op o_mod (pe_callTy c_int1 (by rfl) T.b_int boot_int (pa_cons (pe_op o_add (pe_op o_add (pe_op o_mul (pe_ix x_list (vv 0) (vv 1) (fun _ _ => rfl)) pe_int) (pe_op o_mul pe_int (vv 1))) pe_int) pa_nil)) pe_int) (pa_cons pe_int (pa_cons (vv 2) pa_nil))))))) pss_nil)
      (pss_cons (ps_set (i := 3) sc__law_source.nd rfl (.inl rfl) (pe_op o_add (pe_op o_mul pe_int (vv 1)) pe_int))
      (pss_cons (ps_for PassesOwn.never (by rfl) (pi_list (pe_slice sl_list (vv 0) po_none (po_some pe_int))) (pg_name (i := 4) sc__law_source.nd rfl (.inl rfl))
      (pss_one (ps_set (i := 3) sc__law_source.nd rfl (.inl rfl) (pe_op o_mod (pe_callTy c_int1 (by rfl) T.b_int boot_int (pa_cons (pe_op o_add (pe_op o_mul (vv 3) pe_int) (vv 4)) pa_nil)) pe_int))))
      (pss_one (ps_ret (pe_lst (pa_cons (vv 3) (pa_cons pe_int (pa_cons pe_int pa_nil)))))))))), pure__law_source T vs H Q E h⟩)

end K12
namespace K12
open PySem PySem.Spec PyProof.Rows L2 Sp
variable {P : Program} {w : World} {K : PySem.W.Frag} {mg : Str → Option Value} {base : Heap}
/-! ### errors that are raised: the dict of the error is new -/
def spI (C : Addr) (f : Str) (x y : V) (H : Hp) (Q : VK) : Prop := onRef x fun a => H a = some (exo a C none) ∧ ∀ dx, H dx = none → dx ≠ a → Q .non (upd (upd H dx (exd dx [(f, y)])) a (exo a C (some dx)))
theorem let_go {H : Hp} {a d C : Addr} {fs : List (Str × V)} (ha : H a = none) (hne : d ≠ a) : upd (del (upd (upd (upd H a (exo a C none)) d (exd d fs)) a (exo a C (some d))) a) d (.xd fs) = upd H d (.xd fs) := by
  funext b
  by_cases h1 : b = d
  · rw [h1, upd_same, upd_same]
  · rw [upd_ne h1, upd_ne h1]
    by_cases h2 : b = a
    · rw [h2, del_same, ha]
    · rw [del_ne h2, upd_ne h2, upd_ne h1, upd_ne h2]
def sp_InvalidRoom_init (K : PySem.W.Frag) : L2.Sp := fun vs H Q _ => on2 vs fun x y => spI (He.ga K "InvalidRoom") "given" x y H Q
abbrev N_InvalidRoom_init : List Str := ["self", "given"]
theorem sc_InvalidRoom_init : FnScope N_InvalidRoom_init ["self", "given"] (defScope s_InvalidRoom_init) := ⟨rfl, rfl, rfl, by decide +kernel, rfl, by decide +kernel, by decide +kernel⟩
def t_InvalidRoom_init (K : PySem.W.Frag) : TS :=
    tXst K "given" (fV 0) (fV 1)
abbrev Pure_InvalidRoom_init (K : PySem.W.Frag) : Prop := ∀ (vs : List V) (H : Hp) (Q : VK) (E : XK), sp_InvalidRoom_init K vs H Q E → t_InvalidRoom_init K { nx := fun _ H' => Q .non H', rt := Q } (L2.start N_InvalidRoom_init vs) H
theorem pure_InvalidRoom_init (T : Tx K mg) : Pure_InvalidRoom_init K := by
  intro vs H Q E h
  obtain ⟨x, y, rfl, h⟩ := on2_ex h
  obtain ⟨a, rfl, ha, hQ⟩ := onRef_ex h
  exact ⟨_, T.xi_InvalidRoom.xc, T.xn_InvalidRoom_given.1, .inl ⟨ha, fun dx h1 h2 => hQ dx h1 h2⟩⟩
theorem b_InvalidRoom_init (T : Tx K mg) : Binds K (fdA K (He.fAd K d_InvalidRoom_init.at_)) ["self", "given"] [] := T.F_InvalidRoom_init.bindsN fun _ _ _ _ _ _ us hl => match us, hl with | [_, _], _ => rfl
theorem ok_InvalidRoom_init (T : Tx K mg) : FnOk P w K mg base CX0 1 (He.fAd K d_InvalidRoom_init.at_) (fdA K (He.fAd K d_InvalidRoom_init.at_)) ["self", "given"] (sp_InvalidRoom_init K) :=
  T.F_InvalidRoom_init.ok sc_InvalidRoom_init (fun _ _ _ _ h => on2_len h) (fun cdv A outer s H vs Q E hr h => ⟨t_InvalidRoom_init K, PSs.nox ((pss_one (s_xst (vv 0) (vv 1)))), pure_InvalidRoom_init T vs H Q E h⟩)
/-- raise InvalidRoom(y) -/
theorem mk_InvalidRoom {y : V} {H : Hp} {Q : XK} (h : ∀ d, H d = none → Q (.ref (He.ga K "InvalidRoom")) (some d) (upd H d (.xd [("given", y)]))) : [y].length ≤ 1000 ∧ ∀ a, H a = none → sp_InvalidRoom_init K (.ref a :: ([y] ++ [])) (upd H a (exo a (He.ga K "InvalidRoom") none))
    (fun v H2 => v = .non ∧ ∃ (d : Addr) (fs : List (Str × V)), H2 a = some (exo a (He.ga K "InvalidRoom") (some d)) ∧ H2 d = some (exd d fs) ∧ H d = none ∧ Q (.ref (He.ga K "InvalidRoom")) (some d) (upd (del H2 a) d (.xd fs))) (fun _ _ _ => False) := by
  refine ⟨by show 1 ≤ 1000; decide, fun a ha => ⟨upd_same, fun d hd hne => ⟨rfl, d, _, upd_same, by rw [upd_ne hne, upd_same], ?_, ?_⟩⟩⟩
  · rw [upd_ne hne] at hd
    exact hd
  · rw [let_go ha hne]
    rw [upd_ne hne] at hd
    exact h d hd
def sp_InvalidFlag_init (K : PySem.W.Frag) : L2.Sp := fun vs H Q _ => on2 vs fun x y => spI (He.ga K "InvalidFlag") "given" x y H Q
abbrev N_InvalidFlag_init : List Str := ["self", "given"]
theorem sc_InvalidFlag_init : FnScope N_InvalidFlag_init ["self", "given"] (defScope s_InvalidFlag_init) := ⟨rfl, rfl, rfl, by decide +kernel, rfl, by decide +kernel, by decide +kernel⟩
def t_InvalidFlag_init (K : PySem.W.Frag) : TS :=
    tXst K "given" (fV 0) (fV 1)
abbrev Pure_InvalidFlag_init (K : PySem.W.Frag) : Prop := ∀ (vs : List V) (H : Hp) (Q : VK) (E : XK), sp_InvalidFlag_init K vs H Q E → t_InvalidFlag_init K { nx := fun _ H' => Q .non H', rt := Q } (L2.start N_InvalidFlag_init vs) H
theorem pure_InvalidFlag_init (T : Tx K mg) : Pure_InvalidFlag_init K := by
  intro vs H Q E h
  obtain ⟨x, y, rfl, h⟩ := on2_ex h
  obtain ⟨a, rfl, ha, hQ⟩ := onRef_ex h
  exact ⟨_, T.xi_InvalidFlag.xc, T.xn_InvalidFlag_given.1, .inl ⟨ha, fun dx h1 h2 => hQ dx h1 h2⟩⟩
theorem b_InvalidFlag_init (T : Tx K mg) : Binds K (fdA K (He.fAd K d_InvalidFlag_init.at_)) ["self", "given"] [] := T.F_InvalidFlag_init.bindsN fun _ _ _ _ _ _ us hl => match us, hl with | [_, _], _ => rfl
theorem ok_InvalidFlag_init (T : Tx K mg) : FnOk P w K mg base CX0 1 (He.fAd K d_InvalidFlag_init.at_) (fdA K (He.fAd K d_InvalidFlag_init.at_)) ["self", "given"] (sp_InvalidFlag_init K) :=
  T.F_InvalidFlag_init.ok sc_InvalidFlag_init (fun _ _ _ _ h => on2_len h) (fun cdv A outer s H vs Q E hr h => ⟨t_InvalidFlag_init K, PSs.nox ((pss_one (s_xst (vv 0) (vv 1)))), pure_InvalidFlag_init T vs H Q E h⟩)
/-- raise InvalidFlag(y) -/
theorem mk_InvalidFlag {y : V} {H : Hp} {Q : XK} (h : ∀ d, H d = none → Q (.ref (He.ga K "InvalidFlag")) (some d) (upd H d (.xd [("given", y)]))) : [y].length ≤ 1000 ∧ ∀ a, H a = none → sp_InvalidFlag_init K (.ref a :: ([y] ++ [])) (upd H a (exo a (He.ga K "InvalidFlag") none))
    (fun v H2 => v = .non ∧ ∃ (d : Addr) (fs : List (Str × V)), H2 a = some (exo a (He.ga K "InvalidFlag") (some d)) ∧ H2 d = some (exd d fs) ∧ H d = none ∧ Q (.ref (He.ga K "InvalidFlag")) (some d) (upd (del H2 a) d (.xd fs))) (fun _ _ _ => False) := by
  refine ⟨by show 1 ≤ 1000; decide, fun a ha => ⟨upd_same, fun d hd hne => ⟨rfl, d, _, upd_same, by rw [upd_ne hne, upd_same], ?_, ?_⟩⟩⟩
  · rw [upd_ne hne] at hd
    exact hd
  · rw [let_go ha hne]
    rw [upd_ne hne] at hd
    exact h d hd
/-! ### values of any kind -/
theorem tyx_any {H : Hp} {l : Addr} {xs : List V} (h : SqT K H l xs) : TyX K H (.ref l) (.type "tuple") := by
  rcases h with (h | ⟨o, h⟩) | ⟨o, its, n, h, c, _⟩
  · exact .base (.tup h)
  · exact .fTuple h
  · exact .kTuple h c
def intD : PyData → Bool
  | .int _ => true
  | _ => false
/-- its class by its data -/
theorem dt_ty {H : Hp} {x : V} {d : PyData} (h : Dt K H x d) : ∃ T : String, TyX K H x (.type T) ∧ PySem.W.kitOne K (.type T) (.type "int") = some (T == "int" || T == "bool") ∧ PySem.W.kitOne K (.type T) (.type "bool") = some (T == "bool") ∧ (intD d = ((T == "int" || T == "bool") && !(T == "bool"))) := by
  cases h with
  | fl h =>
    cases x with
    | non => cases h; exact ⟨_, .base .non, kit_ty (by decide +kernel), kit_ty (by decide +kernel), by simp [intD]⟩
    | bl b => cases h; exact ⟨_, .base (.bl b), kit_ty (by decide +kernel), kit_ty (by decide +kernel), by simp [intD]⟩
    | int i => cases h; exact ⟨_, .base (.int i), kit_ty (by decide +kernel), kit_ty (by decide +kernel), by simp [intD]⟩
    | str x => cases h; exact ⟨_, .base (.str x), kit_ty (by decide +kernel), kit_ty (by decide +kernel), by simp [intD]⟩
    | _ => cases h
  | tup h _ => exact ⟨_, tyx_any h, kit_ty (by decide +kernel), kit_ty (by decide +kernel), by simp [intD]⟩
  | lst h _ _ _ => exact ⟨_, .base (.lst h), kit_ty (by decide +kernel), kit_ty (by decide +kernel), by simp [intD]⟩
  | d0 h => exact ⟨_, .base (.dK h), kit_ty (by decide +kernel), kit_ty (by decide +kernel), by simp [intD]⟩
  | d1 h => exact ⟨_, .base (.dK h), kit_ty (by decide +kernel), kit_ty (by decide +kernel), by simp [intD]⟩
def sp_is_integer (K : PySem.W.Frag) : L2.Sp := fun vs H Q _ => on1 vs fun x => ∃ d, Dt K H x d ∧ Q (.bl (intD d)) H
abbrev N_is_integer : List Str := ["value"]
theorem sc_is_integer : FnScope N_is_integer ["value"] (defScope s_is_integer) := ⟨rfl, rfl, rfl, by decide +kernel, rfl, by decide +kernel, by decide +kernel⟩
def t_is_integer (K : PySem.W.Frag) : TS :=
    tRet (fAndV (tCB (fIsi K) (tCons (fV 0) (tCons (tC (.ty "int")) tNil))) (fNotV (tCB (fIsi K) (tCons (fV 0) (tCons (tC (.ty "bool")) tNil)))))
abbrev Pure_is_integer (K : PySem.W.Frag) : Prop := ∀ (vs : List V) (H : Hp) (Q : VK) (E : XK), sp_is_integer K vs H Q E → t_is_integer K { nx := fun _ H' => Q .non H', rt := Q } (L2.start N_is_integer vs) H
theorem pure_is_integer (T : Tx K mg) : Pure_is_integer K := by
  intro vs H Q E h
  obtain ⟨x, rfl, d, hd, hQ⟩ := on1_ex h
  obtain ⟨T, h1, h2, h3, h4⟩ := dt_ty hd
  refine ⟨_, _, _, .ty "int", h1, h2, ?_⟩
  rw [h4] at hQ
  cases hb : (T == "int" || T == "bool") with
  | false =>
    rw [hb] at hQ
    exact hQ
  | true =>
    rw [hb] at hQ
    exact ⟨_, _, _, .ty "bool", h1, h3, hQ⟩
theorem b_is_integer (T : Tx K mg) : Binds K (fdA K (He.fAd K d_is_integer.at_)) ["value"] [] := T.F_is_integer.bindsN fun _ _ _ _ _ _ us hl => match us, hl with | [_], _ => rfl
theorem ok_is_integer (T : Tx K mg) : FnOk P w K mg base CX0 1 (He.fAd K d_is_integer.at_) (fdA K (He.fAd K d_is_integer.at_)) ["value"] (sp_is_integer K) :=
  T.F_is_integer.ok sc_is_integer (fun _ _ _ _ h => on1_len h) (fun cdv A outer s H vs Q E hr h => ⟨t_is_integer K, PSs.nox ((pss_one (ps_ret (e_and (pe_callB c_isi (by rfl) T.b_isinstance boot_isinstance (pa_cons (vv 0) (pa_cons (pe_bltn (by rfl) T.b_int boot_int rfl) pa_nil))) (pe_one (e_not (pe_callB c_isi (by rfl) T.b_isinstance boot_isinstance (pa_cons (vv 0) (pa_cons (pe_bltn (by rfl) T.b_bool boot_bool rfl) pa_nil))))))))), pure_is_integer T vs H Q E h⟩)
/-- rooms that are right -/
def roomOk (m : Int) : PyData → Bool
  | .int n => decide (1 ≤ n) && decide (n ≤ m)
  | _ => false
theorem dt_int {H : Hp} {x : V} {d : PyData} (h : Dt K H x d) (hi : intD d = true) : ∃ n, x = .int n ∧ d = .int n := by
  cases h with
  | fl h =>
    cases x with
    | int i => cases h; exact ⟨i, rfl, rfl⟩
    | non => cases h; cases hi
    | bl b => cases h; cases hi
    | str x => cases h; cases hi
    | _ => cases h
  | _ => cases hi
def sp_check_room (K : PySem.W.Frag) : L2.Sp := fun vs H Q E => on2 vs fun x y => onInt y fun m => ∃ d, Dt K H x d ∧ (roomOk m d = true → Q .non H) ∧ (roomOk m d = false → ∀ dd, H dd = none → E (.ref (He.ga K "InvalidRoom")) (some dd) (upd H dd (.xd [("given", x)])))
abbrev N_check_room : List Str := ["room", "most"]
theorem sc_check_room : FnScope N_check_room ["room", "most"] (defScope s_check_room) := ⟨rfl, rfl, rfl, by decide +kernel, rfl, by decide +kernel, by decide +kernel⟩
def t_check_room (K : PySem.W.Frag) (E : XK) : TS :=
    tIfS (tOr (tNot (fT (tCall (sp_is_integer K) [] E0 (tCons (fV 0) tNil)))) (tNot (fT (fChain fLe fLe (tC (.int 1)) (fV 0) (fV 1)))))
    (tRaiseX (He.ga K "InvalidRoom") (sp_InvalidRoom_init K) E (tCons (fV 0) tNil)) tNext
abbrev Pure_check_room (K : PySem.W.Frag) : Prop := ∀ (vs : List V) (H : Hp) (Q : VK) (E : XK), sp_check_room K vs H Q E → t_check_room K E { nx := fun _ H' => Q .non H', rt := Q } (L2.start N_check_room vs) H
theorem pure_check_room (T : Tx K mg) : Pure_check_room K := by
  intro vs H Q E h
  obtain ⟨x, y, rfl, h⟩ := on2_ex h
  obtain ⟨m, rfl, d, hd, hok, hno⟩ := onInt_ex h
  refine ⟨d, hd, ?_⟩
  cases hi : intD d with
  | false =>
    refine mk_InvalidRoom (hno ?_)
    cases d <;> first | rfl | cases hi
  | true =>
    obtain ⟨n, rfl, rfl⟩ := dt_int hd hi
    refine ite2 (fun h1 => ?_) (fun h1 => ?_)
    · refine ite2 (fun h2 => ?_) (fun h2 => ?_)
      · refine mk_InvalidRoom (hno ?_)
        show (decide (1 ≤ n) && decide (n ≤ m)) = false
        have h2 : (!decide (n ≤ m)) = true := h2
        have h3 : decide (n ≤ m) = false := by
          cases hq : decide (n ≤ m) with
          | false => rfl
          | true => rw [hq] at h2; cases h2
        rw [h3, Bool.and_false]
      · refine hok ?_
        show (decide (1 ≤ n) && decide (n ≤ m)) = true
        have h1 : decide (1 ≤ n) = true := h1
        have h2 : ¬ (!decide (n ≤ m)) = true := h2
        rw [h1, Bool.true_and]
        cases hq : decide (n ≤ m) with
        | true => rfl
        | false => rw [hq] at h2; exact absurd rfl h2
    · refine mk_InvalidRoom (hno ?_)
      show (decide (1 ≤ n) && decide (n ≤ m)) = false
      have h1 : ¬ decide (1 ≤ n) = true := h1
      rw [Bool.not_eq_true] at h1
      rw [h1, Bool.false_and]
theorem b_check_room (T : Tx K mg) : Binds K (fdA K (He.fAd K d_check_room.at_)) ["room", "most"] [] := T.F_check_room.bindsN fun _ _ _ _ _ _ us hl => match us, hl with | [_, _], _ => rfl
theorem ok_check_room (T : Tx K mg) : FnOk P w K mg base (L2.CX P w) 3 (He.fAd K d_check_room.at_) (fdA K (He.fAd K d_check_room.at_)) ["room", "most"] (sp_check_room K) :=
  T.F_check_room.ok sc_check_room (fun _ _ _ _ h => on2_len h) (fun cdv A outer s H vs Q E hr h => ⟨t_check_room K E, (pss_one (ps_if (PW.pt (pw_or (pt_not (t_val (pe_call (ok_is_integer T) (hr.mono (by decide)) (by rfl) T.g_is_integer T.F_is_integer.kp (b_is_integer T) .nil pass0 (pa_cons (vv 0) pa_nil)))) (pw_or1 (pt_not (t_chain o_le o_le pe_int (vv 0) (vv 1))))))
      (pss_one (s_raiseX rfl (takes_of rfl rfl rfl rfl) (pmk_x T.xi_InvalidRoom (ok_InvalidRoom_init T) (hr.mono (by decide)) (by rfl) T.g_InvalidRoom (b_InvalidRoom_init T) pass0 (pa_cons (vv 0) pa_nil)))) pss_nil)), pure_check_room T vs H Q E h⟩)
/-- flags that are right -/
def flagOk : PyData → Bool
  | .bool _ => true
  | _ => false
def BestAt (K : PySem.W.Frag) (H : Hp) (b : Addr) (room : Nat) (down : Bool) : Prop := ∃ dx u, H b = some (.ins (He.ga K "Best") dx [("spec", .ref u)]) ∧ SqT K H u [.int room, .bl down]
def sp_Best_init (K : PySem.W.Frag) : L2.Sp := fun vs H Q E => on3 vs fun x n f => onRef x fun x => ∃ (dn df : PyData) (dx : Addr), Dt K H n dn ∧ Dt K H f df ∧ H x = some (.ins (He.ga K "Best") dx []) ∧
  (roomOk 3 dn = false → ∀ dd, H dd = none → E (.ref (He.ga K "InvalidRoom")) (some dd) (upd H dd (.xd [("given", n)]))) ∧
  (roomOk 3 dn = true → flagOk df = false → ∀ dd, H dd = none → E (.ref (He.ga K "InvalidFlag")) (some dd) (upd H dd (.xd [("given", f)]))) ∧
  (∀ (room : Nat) (down : Bool) (H' : Hp), n = .int room → f = .bl down → 1 ≤ room → room ≤ 3 → KpX x H H' → BestAt K H' x room down → Q .non H')
abbrev N_Best_init : List Str := ["self", "room", "down"]
theorem sc_Best_init : FnScope N_Best_init ["self", "room", "down"] (defScope s_Best_init) := ⟨rfl, rfl, rfl, by decide +kernel, rfl, by decide +kernel, by decide +kernel⟩
def t_Best_init (K : PySem.W.Frag) (E : XK) : TS :=
    tSeq (tDrop (tCallS (sp_check_room K) (WE fun cls d _ H => E cls d H) (tCons (fV 1) (tCons (tC (.int 3)) tNil))))
    (tSeq (tIfS (tAnd (fT (tOp fNotBX (fV 2) (tC (.bl true)))) (fT (tOp fNotBX (fV 2) (tC (.bl false)))))
    (tRaiseX (He.ga K "InvalidFlag") (sp_InvalidFlag_init K) E (tCons (fV 2) tNil)) tNext)
    (sFld K (fV 0) (tTup (tCons (fV 1) (tCons (fV 2) tNil))) "spec"))
abbrev Pure_Best_init (K : PySem.W.Frag) : Prop := ∀ (vs : List V) (H : Hp) (Q : VK) (E : XK), sp_Best_init K vs H Q E → t_Best_init K E { nx := fun _ H' => Q .non H', rt := Q } (L2.start N_Best_init vs) H
theorem pure_Best_init (T : Tx K mg) : Pure_Best_init K := by
  intro vs H Q E h
  obtain ⟨x1, n, f, rfl, h⟩ := on3_ex h
  obtain ⟨x, rfl, dn, df, dx, hn, hf, hx, h1, h2, h3⟩ := onRef_ex h
  refine ⟨dn, hn, fun hr => ?_, fun hr => ?_⟩
  · obtain ⟨n, rfl, rfl⟩ := dt_int hn (by cases dn <;> first | rfl | cases hr)
    have hr' : (decide (1 ≤ n) && decide (n ≤ 3)) = true := hr
    rw [Bool.and_eq_true, decide_eq_true_iff, decide_eq_true_iff] at hr'
    obtain ⟨room, hroom⟩ : ∃ room : Nat, n = room := ⟨n.toNat, by omega⟩
    cases hfl : flagOk df with
    | false =>
      have hnb : ∀ b, f ≠ .bl b := fun b z => by
        rw [z] at hf
        cases hf with
        | fl h => cases h; cases hfl
      have t1 : (!decide (f = V.bl true)) = true := by rw [decide_eq_false (hnb true)]; rfl
      have t2 : (!decide (f = V.bl false)) = true := by rw [decide_eq_false (hnb false)]; rfl
      refine ite2 (fun _ => ?_) (fun z => absurd t1 z)
      refine ite2 (fun _ => ?_) (fun z => absurd t2 z)
      exact mk_InvalidFlag (h2 hr hfl)
    | true =>
      obtain ⟨down, rfl⟩ : ∃ down, f = .bl down := by
        cases hf with
        | fl h =>
          cases f with
          | bl b => exact ⟨b, rfl⟩
          | non => cases h; cases hfl
          | int i => cases h; cases hfl
          | str i => cases h; cases hfl
          | _ => cases h
        | _ => cases hfl
      subst hroom
      have go : ∀ u, H u = none → BestAt K (upd (upd H u (.tup [.int room, .bl down])) x (.ins (He.ga K "Best") dx [("spec", .ref u)])) x room down ∧ KpX x H (upd (upd H u (.tup [.int room, .bl down])) x (.ins (He.ga K "Best") dx [("spec", .ref u)])) := fun u hu => by
        have e2 := Same.upd (o := .tup [.int room, .bl down]) hu
        exact ⟨⟨dx, u, upd_same, KpX.upd.T (e2 _ _ hx) (SqT.of upd_same)⟩, (KpX.of e2).trans .upd⟩
      cases down
      · refine ⟨by show 2 ≤ sizeLine; decide, fun u hu => ?_⟩
        obtain ⟨g1, g2⟩ := go u hu
        exact ⟨x, _, dx, _, rfl, (Same.upd hu) _ _ hx, T.cl_Best, T.no_Best_spec, by show 0 < 1000; decide, h3 room false _ rfl rfl (by omega) (by omega) g2 g1⟩
      · refine ⟨by show 2 ≤ sizeLine; decide, fun u hu => ?_⟩
        obtain ⟨g1, g2⟩ := go u hu
        exact ⟨x, _, dx, _, rfl, (Same.upd hu) _ _ hx, T.cl_Best, T.no_Best_spec, by show 0 < 1000; decide, h3 room true _ rfl rfl (by omega) (by omega) g2 g1⟩
  · exact h1 hr
theorem ok_Best_init (T : Tx K mg) : FnOk P w K mg base (L2.CX P w) 4 (He.fAd K d_Best_init.at_) (fdA K (He.fAd K d_Best_init.at_)) ["self", "room", "down"] (sp_Best_init K) :=
  T.F_Best_init.ok sc_Best_init (fun _ _ _ _ h => on3_len h) (fun cdv A outer s H vs Q E hr h => ⟨t_Best_init K E, (pss_cons (ps_expr (pe_callS (ok_check_room T) (hr.mono (by decide)) (by rfl) T.g_check_room T.F_check_room.kp (b_check_room T) (fun σ => passAt (takes_of rfl rfl rfl rfl) σ) (pa_cons (vv 1) (pa_cons (pe_glob (by rfl) (T.i_MOST_BEST).choose_spec ⟨_, rfl⟩) pa_nil))))
      (pss_cons (ps_if (PW.pt (pw_and (t_cmp o_notBX (vv 2) pe_bl (nomark _)) (pw_and1 (t_cmp o_notBX (vv 2) pe_bl (nomark _)))))
      (pss_one (s_raiseX rfl (takes_of rfl rfl rfl rfl) (pmk_x T.xi_InvalidFlag (ok_InvalidFlag_init T) (hr.mono (by decide)) (by rfl) T.g_InvalidFlag (b_InvalidFlag_init T) pass0 (pa_cons (vv 2) pa_nil)))) pss_nil)
      (pss_one (ps_fld (vv 0) (pe_tup (pa_cons (vv 1) (pa_cons (vv 2) pa_nil))) rfl)))), pure_Best_init T vs H Q E h⟩)

end K12
namespace K12
open PySem PySem.Spec PyProof.Rows L2 Sp
variable {P : Program} {w : World} {K : PySem.W.Frag} {mg : Str → Option Value} {base : Heap}
theorem xcW (T : Tx K mg) : ∀ {k : Nat}, k < 6 → XC K (wdC K k)
  | 0, _ => ⟨_, _, T.x_InvalidRoom, xb_V⟩
  | 1, _ => ⟨_, _, T.x_InvalidOption, xb_V⟩
  | 2, _ => ⟨_, _, T.x_InvalidNumber, xb_V⟩
  | 3, _ => ⟨_, _, T.x_InvalidIndex, xb_V⟩
  | 4, _ => ⟨_, _, T.x_InvalidFlag, xb_V⟩
  | 5, _ => ⟨_, _, T.x_InvalidText, xb_V⟩
  | k + 6, h => absurd h (by omega)
theorem srtW (T : Tx K mg) {k j : Nat} (hk : k < 6) (hj : j < 6) : PySem.W.kitOne K (.ref (wdC K k)) (.ref (wdC K j)) = some (decide (j = k)) :=
  of_decide_eq_true (List.all_eq_true.mp (List.all_eq_true.mp T.xw k (List.mem_range.mpr hk)) j (List.mem_range.mpr hj))
theorem six_at (k : Nat) : ∀ {m : Nat}, m < 6 → [V.bl (decide (0 = k)), V.bl (decide (1 = k)), V.bl (decide (2 = k)), V.bl (decide (3 = k)), V.bl (decide (4 = k)), V.bl (decide (5 = k))][m]? = some (V.bl (decide (m = k)))
  | 0, _ => rfl
  | 1, _ => rfl
  | 2, _ => rfl
  | 3, _ => rfl
  | 4, _ => rfl
  | 5, _ => rfl
  | m + 6, h => absurd h (by omega)
def sp__law_word (K : PySem.W.Frag) (p : Addr × Obj) : L2.Sp := fun vs H Q _ => on1 vs fun x => ∃ (k : Nat) (d : Addr) (fs : List (Str × V)), k < 6 ∧ x = .ref p.1 ∧ p.2.cls = .ref (wdC K k) ∧ p.2.dict = some d ∧ (∃ vs, p.2.data = .fields vs) ∧ H d = some (.xd fs) ∧ ∀ H', Same H H' → Q (.str (wdN.getD k "")) H'
abbrev N__law_word : List Str := ["_law_e", "_law_sorts", "_law_words_here"]
theorem sc__law_word : FnScope N__law_word ["_law_e"] (defScope s__law_word) := ⟨rfl, rfl, rfl, by decide +kernel, rfl, by decide +kernel, by decide +kernel⟩
def t__law_word (K : PySem.W.Frag) (p : Addr × Obj) : TS :=
    tSeq (tAsg (tLst (tCons (tCB (fIsP K p) (tCons (fV 0) (tCons (tC (.ref (He.ga K "InvalidRoom"))) tNil))) (tCons (tCB (fIsP K p) (tCons (fV 0) (tCons (tC (.ref (He.ga K "InvalidOption"))) tNil))) (tCons (tCB (fIsP K p) (tCons (fV 0) (tCons (tC (.ref (He.ga K "InvalidNumber"))) tNil))) tNil)))) (gName 1))
    (tSeq (tAsg (tOp fCatL (fV 1) (tLst (tCons (tCB (fIsP K p) (tCons (fV 0) (tCons (tC (.ref (He.ga K "InvalidIndex"))) tNil))) (tCons (tCB (fIsP K p) (tCons (fV 0) (tCons (tC (.ref (He.ga K "InvalidFlag"))) tNil))) (tCons (tCB (fIsP K p) (tCons (fV 0) (tCons (tC (.ref (He.ga K "InvalidText"))) tNil))) tNil))))) (gName 1))
    (tSeq (tAsg (tLst (tCons (tC (.str "InvalidRoom")) (tCons (tC (.str "InvalidOption")) (tCons (tC (.str "InvalidNumber")) (tCons (tC (.str "InvalidIndex")) (tCons (tC (.str "InvalidFlag")) (tCons (tC (.str "InvalidText")) tNil))))))) (gName 2))
    (tRet (tOp (fIxL K) (fV 2) (tBM K "list" (rIndex K) (fV 1) (tCons (tC (.bl true)) tNil))))))
abbrev Pure__law_word (K : PySem.W.Frag) : Prop := ∀ (p : Addr × Obj) (vs : List V) (H : Hp) (Q : VK) (E : XK), sp__law_word K p vs H Q E → t__law_word K p { nx := fun _ H' => Q .non H', rt := Q } (L2.start N__law_word vs) H
theorem pure__law_word (T : Tx K mg) : Pure__law_word K := by
  intro p vs H Q E h
  obtain ⟨x, rfl, k, d, fs, hk, rfl, hc, hd, hv, h0, hQ⟩ := on1_ex h
  have xc := xcW T hk
  refine ⟨_, d, fs, _, decide (0 = k), rfl, hc, hd, hv, h0, xc, rfl, srtW T hk (j := 0) (by decide), ?_⟩
  refine ⟨_, d, fs, _, decide (1 = k), rfl, hc, hd, hv, h0, xc, rfl, srtW T hk (j := 1) (by decide), ?_⟩
  refine ⟨_, d, fs, _, decide (2 = k), rfl, hc, hd, hv, h0, xc, rfl, srtW T hk (j := 2) (by decide), ?_⟩
  refine ⟨by show 3 ≤ sizeLine; decide, fun M hM => ?_⟩
  have e1 := Same.upd (o := .lst [V.bl (decide (0 = k)), V.bl (decide (1 = k)), V.bl (decide (2 = k))]) hM
  refine ⟨_, d, fs, _, decide (3 = k), rfl, hc, hd, hv, e1 _ _ h0, xc, rfl, srtW T hk (j := 3) (by decide), ?_⟩
  refine ⟨_, d, fs, _, decide (4 = k), rfl, hc, hd, hv, e1 _ _ h0, xc, rfl, srtW T hk (j := 4) (by decide), ?_⟩
  refine ⟨_, d, fs, _, decide (5 = k), rfl, hc, hd, hv, e1 _ _ h0, xc, rfl, srtW T hk (j := 5) (by decide), ?_⟩
  refine ⟨by show 3 ≤ sizeLine; decide, fun M2 hM2 => ?_⟩
  have e2 := Same.upd (o := .lst [V.bl (decide (3 = k)), V.bl (decide (4 = k)), V.bl (decide (5 = k))]) hM2
  refine ⟨_, _, e2 _ _ upd_same, upd_same, by show 6 ≤ sizeLine; decide, fun L hL => ?_⟩
  have e3 := Same.upd (o := .lst ([V.bl (decide (0 = k)), V.bl (decide (1 = k)), V.bl (decide (2 = k))] ++ [V.bl (decide (3 = k)), V.bl (decide (4 = k)), V.bl (decide (5 = k))])) hL
  refine ⟨by show 6 ≤ sizeLine; decide, fun W hW => ?_⟩
  have e4 := Same.upd (o := .lst [V.str "InvalidRoom", .str "InvalidOption", .str "InvalidNumber", .str "InvalidIndex", .str "InvalidFlag", .str "InvalidText"]) hW
  have hL4 := e4 _ _ (upd_same (H := upd (upd H M (.lst [V.bl (decide (0 = k)), V.bl (decide (1 = k)), V.bl (decide (2 = k))])) M2 (.lst [V.bl (decide (3 = k)), V.bl (decide (4 = k)), V.bl (decide (5 = k))])) (a := L) (o := .lst ([V.bl (decide (0 = k)), V.bl (decide (1 = k)), V.bl (decide (2 = k))] ++ [V.bl (decide (3 = k)), V.bl (decide (4 = k)), V.bl (decide (5 = k))])))
  refine ⟨.inl ⟨rfl, _, SqL.of hL4⟩, L, _, .bl true, k, .bl (decide (k = k)), rfl, rfl, SqL.of hL4, rfl, rfl, six_at k hk, by rw [decide_eq_true rfl]; rfl, fun m z hm hz => ?_, ?_⟩
  · have hz2 := (six_at k (m := m) (by omega)).symm.trans hz
    cases hz2
    rw [decide_eq_false (by omega)]
    rfl
  · refine ⟨_, SqL.of upd_same, .str (wdN.getD k ""), ?_, hQ _ (((e1.trans e2).trans e3).trans e4)⟩
    refine atI_nat ?_
    match k, hk with
    | 0, _ => rfl
    | 1, _ => rfl
    | 2, _ => rfl
    | 3, _ => rfl
    | 4, _ => rfl
    | 5, _ => rfl
    | k + 6, h => exact absurd h (by omega)
theorem b__law_word (T : Tx K mg) : Binds K (fdA K (He.fAd K d__law_word.at_)) ["_law_e"] [] := T.F__law_word.bindsN fun _ _ _ _ _ _ us hl => match us, hl with | [_], _ => rfl
theorem ok__law_word (T : Tx K mg) : FnP P w K mg base CX0 1 (He.fAd K d__law_word.at_) (fdA K (He.fAd K d__law_word.at_)) ["_law_e"] (sp__law_word K) :=
  okP T.F__law_word sc__law_word (fun _ _ _ _ _ h => on1_len h) (fun cdv A outer s H vs Q E p hr h => ⟨t__law_word K p, (pss_cons (ps_set (i := 1) sc__law_word.nd rfl (.inl rfl) (pe_lst (pa_cons (pe_callB (c_isP (p := p) (List.mem_cons_self ..)) (by rfl) T.b_isinstance boot_isinstance (pa_cons (vv 0) (pa_cons (pe_glob (by rfl) T.g_InvalidRoom rfl) pa_nil))) (pa_cons (pe_callB (c_isP (p := p) (List.mem_cons_self ..)) (by rfl) T.b_isinstance boot_isinstance (pa_cons (vv 0) (pa_cons (pe_glob (by rfl) T.g_InvalidOption rfl) pa_nil))) (pa_cons (pe_callB (c_isP (p := p) (List.mem_cons_self ..)) (by rfl) T.b_isinstance boot_isinstance (pa_cons (vv 0) (pa_cons (pe_glob (by rfl) T.g_InvalidNumber rfl) pa_nil))) pa_nil)))))
      (pss_cons (ps_set (i := 1) sc__law_word.nd rfl (.inl rfl) (pe_op o_catL (vv 1) (pe_lst (pa_cons (pe_callB (c_isP (p := p) (List.mem_cons_self ..)) (by rfl) T.b_isinstance boot_isinstance (pa_cons (vv 0) (pa_cons (pe_glob (by rfl) T.g_InvalidIndex rfl) pa_nil))) (pa_cons (pe_callB (c_isP (p := p) (List.mem_cons_self ..)) (by rfl) T.b_isinstance boot_isinstance (pa_cons (vv 0) (pa_cons (pe_glob (by rfl) T.g_InvalidFlag rfl) pa_nil))) (pa_cons (pe_callB (c_isP (p := p) (List.mem_cons_self ..)) (by rfl) T.b_isinstance boot_isinstance (pa_cons (vv 0) (pa_cons (pe_glob (by rfl) T.g_InvalidText rfl) pa_nil))) pa_nil))))))
      (pss_cons (ps_set (i := 2) sc__law_word.nd rfl (.inl rfl) (pe_lst (pa_cons pe_str (pa_cons pe_str (pa_cons pe_str (pa_cons pe_str (pa_cons pe_str (pa_cons pe_str pa_nil))))))))
      (pss_one (ps_ret (pe_ix x_list (vv 2) (pe_bm PySem.F.plainAttrs_list PySem.F.slot_list_index PySem.F.type_list_index mt_index (vv 1) (pa_cons pe_bl pa_nil)) (fun _ _ => rfl))))))), pure__law_word T p vs H Q E h⟩)

end K12
namespace K12
open PySem PySem.Spec PyProof.Rows L2 Sp
variable {P : Program} {w : World} {K : PySem.W.Frag} {mg : Str → Option Value} {base : Heap}
def sp_Best_down (K : PySem.W.Frag) : L2.Sp := fun vs H Q _ => on1 vs fun x => onRef x fun b => ∃ room down, BestAt K H b room down ∧ Q (.bl down) H
abbrev N_Best_down : List Str := ["self"]
theorem sc_Best_down : FnScope N_Best_down ["self"] (defScope s_Best_down) := ⟨rfl, rfl, rfl, by decide +kernel, rfl, by decide +kernel, by decide +kernel⟩
def t_Best_down (K : PySem.W.Frag) : TS :=
    tRet (tOp (fIxT K) (tFld K (fV 0) "spec") (tC (.int 1)))
abbrev Pure_Best_down (K : PySem.W.Frag) : Prop := ∀ (vs : List V) (H : Hp) (Q : VK) (E : XK), sp_Best_down K vs H Q E → t_Best_down K { nx := fun _ H' => Q .non H', rt := Q } (L2.start N_Best_down vs) H
theorem pure_Best_down (T : Tx K mg) : Pure_Best_down K := by
  intro vs H Q E h
  obtain ⟨x, rfl, h⟩ := on1_ex h
  obtain ⟨b, rfl, room, down, ⟨dx, t, h1, h2⟩, hQ⟩ := onRef_ex h
  exact ⟨b, _, dx, _, _, rfl, h1, T.cl_Best, T.no_Best_spec, rfl, _, h2, _, rfl, hQ⟩
theorem b_Best_down (T : Tx K mg) : Binds K (fdA K (d_Best_down.at_ K)) ["self"] [] := T.F_Best_down.bindsN fun _ _ _ _ _ _ us hl => match us, hl with | [_], _ => rfl
theorem ok_Best_down (T : Tx K mg) : FnOk P w K mg base CX0 1 (d_Best_down.at_ K) (fdA K (d_Best_down.at_ K)) ["self"] (sp_Best_down K) :=
  T.F_Best_down.ok sc_Best_down (fun _ _ _ _ h => on1_len h) (fun cdv A outer s H vs Q E hr h => ⟨t_Best_down K, PSs.nox ((pss_one (ps_ret (pe_ix x_tup (pe_fld (vv 0) rfl) pe_int (fun _ _ => rfl))))), pure_Best_down T vs H Q E h⟩)
def sp_Best_room (K : PySem.W.Frag) : L2.Sp := fun vs H Q _ => on1 vs fun x => onRef x fun b => ∃ room down, BestAt K H b room down ∧ Q (.int room) H
abbrev N_Best_room : List Str := ["self"]
theorem sc_Best_room : FnScope N_Best_room ["self"] (defScope s_Best_room) := ⟨rfl, rfl, rfl, by decide +kernel, rfl, by decide +kernel, by decide +kernel⟩
def t_Best_room (K : PySem.W.Frag) : TS :=
    tRet (tOp (fIxT K) (tFld K (fV 0) "spec") (tC (.int 0)))
abbrev Pure_Best_room (K : PySem.W.Frag) : Prop := ∀ (vs : List V) (H : Hp) (Q : VK) (E : XK), sp_Best_room K vs H Q E → t_Best_room K { nx := fun _ H' => Q .non H', rt := Q } (L2.start N_Best_room vs) H
theorem pure_Best_room (T : Tx K mg) : Pure_Best_room K := by
  intro vs H Q E h
  obtain ⟨x, rfl, h⟩ := on1_ex h
  obtain ⟨b, rfl, room, down, ⟨dx, t, h1, h2⟩, hQ⟩ := onRef_ex h
  exact ⟨b, _, dx, _, _, rfl, h1, T.cl_Best, T.no_Best_spec, rfl, _, h2, _, rfl, hQ⟩
theorem b_Best_room (T : Tx K mg) : Binds K (fdA K (d_Best_room.at_ K)) ["self"] [] := T.F_Best_room.bindsN fun _ _ _ _ _ _ us hl => match us, hl with | [_], _ => rfl
theorem ok_Best_room (T : Tx K mg) : FnOk P w K mg base CX0 1 (d_Best_room.at_ K) (fdA K (d_Best_room.at_ K)) ["self"] (sp_Best_room K) :=
  T.F_Best_room.ok sc_Best_room (fun _ _ _ _ h => on1_len h) (fun cdv A outer s H vs Q E hr h => ⟨t_Best_room K, PSs.nox ((pss_one (ps_ret (pe_ix x_tup (pe_fld (vv 0) rfl) pe_int (fun _ _ => rfl))))), pure_Best_room T vs H Q E h⟩)
/-- the text of a Best -/
def bestT (room : Nat) (down : Bool) : Str := if down = true then Str.ofString "best " ++ Str.ofString (toString (room : Int)) ++ Str.ofString ", down" else Str.ofString "best " ++ Str.ofString (toString (room : Int))
def sp_Best_str (K : PySem.W.Frag) : L2.Sp := fun vs H Q _ => on1 vs fun x => onRef x fun b => ∃ room down, BestAt K H b room down ∧ room ≤ 3 ∧ Q (.str (bestT room down)) H
abbrev N_Best_str : List Str := ["self"]
theorem sc_Best_str : FnScope N_Best_str ["self"] (defScope s_Best_str) := ⟨rfl, rfl, rfl, by decide +kernel, rfl, by decide +kernel, by decide +kernel⟩
def t_Best_str (K : PySem.W.Frag) : TS :=
    tSeq (tIfS (fT (tOp (fIxT K) (tFld K (fV 0) "spec") (tC (.int 1))))
    (tRet (tJn ((tC (.str "best ")) :: (tFmtV (tOp (fIxT K) (tFld K (fV 0) "spec") (tC (.int 0)))) :: (tC (.str ", down")) :: []))) tNext)
    (tRet (tJn ((tC (.str "best ")) :: (tFmtV (tOp (fIxT K) (tFld K (fV 0) "spec") (tC (.int 0)))) :: [])))
abbrev Pure_Best_str (K : PySem.W.Frag) : Prop := ∀ (vs : List V) (H : Hp) (Q : VK) (E : XK), sp_Best_str K vs H Q E → t_Best_str K { nx := fun _ H' => Q .non H', rt := Q } (L2.start N_Best_str vs) H
theorem pure_Best_str (T : Tx K mg) : Pure_Best_str K := by
  intro vs H Q E h
  obtain ⟨x, rfl, h⟩ := on1_ex h
  obtain ⟨b, rfl, room, down, ⟨dx, t, h1, h2⟩, hr, hQ⟩ := onRef_ex h
  refine ⟨b, _, dx, _, _, rfl, h1, T.cl_Best, T.no_Best_spec, rfl, _, h2, _, rfl, ?_⟩
  have hlog : ((room : Int)).natAbs.log2 < 1920 := log_of (Nat.le_trans (show ((room : Int)).natAbs ≤ 3 by omega) (by decide +kernel))
  have htl : (Str.ofString (toString (room : Int))).length ≤ 1921 := by rw [PySem.ofString_length]; exact int_text_length_le (k := 1920) (by decide) hlog
  have e0 : Str.empty ++ Str.ofString "best " = Str.ofString "best " := PySem.Str.empty_append _
  have e1 : (Str.empty ++ Str.ofString "best " ++ Str.ofString (toString (room : Int))).length ≤ 1926 := by
    rw [e0, PySem.Str.length_append, show (Str.ofString "best ").length = 5 from rfl]
    omega
  cases down
  · refine ⟨by decide, b, _, dx, _, _, rfl, h1, T.cl_Best, T.no_Best_spec, rfl, _, h2, _, rfl, hlog, by rw [sizeLine_eq]; omega, ?_⟩
    have fin := hQ
    unfold bestT at fin
    rw [if_neg Bool.false_ne_true, ← e0] at fin
    exact fin
  · refine ⟨by decide, b, _, dx, _, _, rfl, h1, T.cl_Best, T.no_Best_spec, rfl, _, h2, _, rfl, hlog, by rw [sizeLine_eq]; omega, ?_, ?_⟩
    · rw [PySem.Str.length_append, show (Str.ofString ", down").length = 6 from rfl, sizeLine_eq]
      omega
    · have fin := hQ
      unfold bestT at fin
      rw [if_pos rfl, ← e0] at fin
      exact fin
theorem b_Best_str (T : Tx K mg) : Binds K (fdA K (He.fAd K d_Best_str.at_)) ["self"] [] := T.F_Best_str.bindsN fun _ _ _ _ _ _ us hl => match us, hl with | [_], _ => rfl
theorem ok_Best_str (T : Tx K mg) : FnOk P w K mg base CX0 1 (He.fAd K d_Best_str.at_) (fdA K (He.fAd K d_Best_str.at_)) ["self"] (sp_Best_str K) :=
  T.F_Best_str.ok sc_Best_str (fun _ _ _ _ h => on1_len h) (fun cdv A outer s H vs Q E hr h => ⟨t_Best_str K, PSs.nox ((pss_cons (ps_if (t_val (pe_ix x_tup (pe_fld (vv 0) rfl) pe_int (fun _ _ => rfl)))
      (pss_one (ps_ret (e_joined (.cons pe_str (.cons (e_fmtV (pe_ix x_tup (pe_fld (vv 0) rfl) pe_int (fun _ _ => rfl))) (.cons pe_str .nil)))))) pss_nil)
      (pss_one (ps_ret (e_joined (.cons pe_str (.cons (e_fmtV (pe_ix x_tup (pe_fld (vv 0) rfl) pe_int (fun _ _ => rfl))) .nil))))))), pure_Best_str T vs H Q E h⟩)
theorem cps_any (s : String) : ∀ c ∈ (Str.ofString s).cps.toList, c < 16 ^ 8 := fun c hc => by
  rw [Str.ofString_eq_toList] at hc
  simp only [List.mem_map] at hc
  obtain ⟨x, _, rfl⟩ := hc
  exact x.val.toNat_lt
theorem cps_cat {x y : Str} (hx : ∀ c ∈ x.cps.toList, c < 16 ^ 8) (hy : ∀ c ∈ y.cps.toList, c < 16 ^ 8) : ∀ c ∈ (x ++ y).cps.toList, c < 16 ^ 8 := fun c hc => by
  have hc : c ∈ (x.cps ++ y.cps).toList := hc
  rw [Array.toList_append] at hc
  exact (List.mem_append.mp hc).elim (hx c) (hy c)
theorem log_2 {n : Nat} (h : n ≤ 3) : ((n : Int)).natAbs.log2 < 2 := by
  rw [Int.natAbs_natCast]
  match n, h with
  | 0, _ => decide
  | 1, _ => decide
  | 2, _ => decide
  | 3, _ => decide
  | n + 4, h => omega
theorem bestT_sml {room : Nat} {down : Bool} (h : room ≤ 3) : Sml (.str (bestT room down)) := by
  have e1 : (Str.ofString (toString (room : Int))).length ≤ 3 := by rw [PySem.ofString_length]; exact int_text_length_le (k := 2) (by decide) (log_2 h)
  refine ⟨rfl, by show 0 ≤ 5; decide, ?_⟩
  show (reprText (bestT room down)).length ≤ 10000
  cases down with
  | false =>
    have := StrLaws.reprText_len (Str.ofString "best " ++ Str.ofString (toString (room : Int))) (cps_cat (cps_any _) (cps_any _))
    rw [PySem.Str.length_append, show (Str.ofString "best ").length = 5 from rfl] at this
    show (reprText (Str.ofString "best " ++ Str.ofString (toString (room : Int)))).length ≤ 10000
    omega
  | true =>
    have := StrLaws.reprText_len (Str.ofString "best " ++ Str.ofString (toString (room : Int)) ++ Str.ofString ", down") (cps_cat (cps_cat (cps_any _) (cps_any _)) (cps_any _))
    rw [PySem.Str.length_append, PySem.Str.length_append, show (Str.ofString "best ").length = 5 from rfl, show (Str.ofString ", down").length = 6 from rfl] at this
    show (reprText (Str.ofString "best " ++ Str.ofString (toString (room : Int)) ++ Str.ofString ", down")).length ≤ 10000
    omega
/-- all that is seen of a Best -/
def bestD (room : Nat) (down : Bool) : List PyData := [.int room, .bool down, .str (bestT room down), .bool true]
theorem bestD_sml {room : Nat} {down : Bool} (h : room ≤ 3) : ∀ d ∈ bestD room down, Sml d := fun d hd => by
  have hn : ((room : Int)).natAbs ≤ 10 ^ 100 := Nat.le_trans (show ((room : Int)).natAbs ≤ 3 by omega) (by decide +kernel)
  have hi : (PyData.int (room : Int)).showable = true := decide_eq_true (log_of hn)
  simp only [bestD, List.mem_cons, List.not_mem_nil, or_false] at hd
  rcases hd with rfl | rfl | rfl | rfl
  · exact ⟨hi, by show 0 ≤ 5; decide, Nat.le_trans (shown_le _ hi rfl) (by show 2000 * 1 ≤ 10000; decide)⟩
  · exact ⟨rfl, by show 0 ≤ 5; decide, Nat.le_trans (shown_le _ rfl rfl) (by show 2000 * 1 ≤ 10000; decide)⟩
  · exact bestT_sml h
  · exact ⟨rfl, by show 0 ≤ 5; decide, Nat.le_trans (shown_le _ rfl rfl) (by show 2000 * 1 ≤ 10000; decide)⟩
def sp__law_shown (K : PySem.W.Frag) : L2.Sp := fun vs H Q _ => on1 vs fun x => onRef x fun b => ∃ room down, BestAt K H b room down ∧ room ≤ 3 ∧ ∀ H', Same H H' → Q (.str (PyData.shown (.list (bestD room down)))) H'
abbrev N__law_shown : List Str := ["_law_mine"]
theorem sc__law_shown : FnScope N__law_shown ["_law_mine"] (defScope s__law_shown) := ⟨rfl, rfl, rfl, by decide +kernel, rfl, by decide +kernel, by decide +kernel⟩
def t__law_shown (K : PySem.W.Frag) : TS :=
    tRet (tCB (fReprX K) (tCons (tLstN (tCons (tPropV (He.ga K "Best") (sp_Best_room K) E0 (fV 0)) (tCons (tPropV (He.ga K "Best") (sp_Best_down K) E0 (fV 0)) (tCons (tCB (fReprI (He.ga K "Best") (sp_Best_str K) E0) (tCons (fV 0) tNil)) (tCons (tCB (fBoolI (He.ga K "Best")) (tCons (fV 0) tNil)) tNil))))) tNil))
abbrev Pure__law_shown (K : PySem.W.Frag) : Prop := ∀ (vs : List V) (H : Hp) (Q : VK) (E : XK), sp__law_shown K vs H Q E → t__law_shown K { nx := fun _ H' => Q .non H', rt := Q } (L2.start N__law_shown vs) H
theorem pure__law_shown (T : Tx K mg) : Pure__law_shown K := by
  intro vs H Q E h
  obtain ⟨x, rfl, h⟩ := on1_ex h
  obtain ⟨b, rfl, room, down, hb, hr, hQ⟩ := onRef_ex h
  have hi : InsV (He.ga K "Best") H b := by
    obtain ⟨dx, u, h1, _⟩ := hb
    exact ⟨dx, _, h1⟩
  refine ⟨hi, room, down, hb, hi, room, down, hb, ?_⟩
  refine ⟨hi, ⟨room, down, hb, hr, ?_⟩⟩
  refine ⟨hi, ?_⟩
  refine ⟨by show 4 ≤ sizeLine; decide, fun L hL hLs => ?_⟩
  refine ⟨_, bestD room down, upd_same, hLs, by show 4 ≠ 3; decide, .cons (.fl rfl) (.cons (.fl rfl) (.cons (.fl rfl) (.cons (.fl rfl) .nil))), bestD_sml hr, by show 4 ≤ 20; decide, hQ _ (Same.upd hL)⟩
theorem b__law_shown (T : Tx K mg) : Binds K (fdA K (He.fAd K d__law_shown.at_)) ["_law_mine"] [] := T.F__law_shown.bindsN fun _ _ _ _ _ _ us hl => match us, hl with | [_], _ => rfl
theorem ok__law_shown (T : Tx K mg) : FnG P w K mg base CX0 4 (He.fAd K d__law_shown.at_) (fdA K (He.fAd K d__law_shown.at_)) ["_law_mine"] (sp__law_shown K) :=
  Sp.FunD.okG T.F__law_shown sc__law_shown (fun _ _ _ _ h => on1_len h) (fun cdv A outer s H vs Q E hgd hr h => ⟨t__law_shown K, PSs.nox ((pss_one (ps_ret (pe_callB (c_reprX hgd hr.units) (by rfl) T.b_repr boot_repr (pa_cons (e_lstN (pa_cons (e_prop (vv 0) T.cl_Best T.p_Best_room (ck0 (ok_Best_room T) (b_Best_room T) pass0) (hr.mono (by decide))) (pa_cons (e_prop (vv 0) T.cl_Best T.p_Best_down (ck0 (ok_Best_down T) (b_Best_down T) pass0) (hr.mono (by decide))) (pa_cons (pe_callTy (c_strO T.m_Best_str (ck0 (ok_Best_str T) (b_Best_str T) pass0) (hr.mono (by decide))) (by rfl) T.b_str boot_str (pa_cons (vv 0) pa_nil)) (pa_cons (pe_callTy (c_boolI T.no_Best___bool__ T.no_Best___len__) (by rfl) T.b_bool boot_bool (pa_cons (vv 0) pa_nil)) pa_nil))))) pa_nil))))), pure__law_shown T vs H Q E h⟩)
/-- the text that is due -/
def lineT (s : Str) (down : Bool) : Str := if down = true then Str.ofString "best " ++ s ++ Str.ofString ", down" else Str.ofString "best " ++ s
theorem lineT_sml {s : Str} {down : Bool} (h : s.length ≤ 100) (hc : ∀ c ∈ s.cps.toList, c < 16 ^ 8) : Sml (.str (lineT s down)) := by
  refine ⟨rfl, by show 0 ≤ 5; decide, ?_⟩
  show (reprText (lineT s down)).length ≤ 10000
  cases down with
  | false =>
    have := StrLaws.reprText_len (Str.ofString "best " ++ s) (cps_cat (cps_any _) hc)
    rw [PySem.Str.length_append, show (Str.ofString "best ").length = 5 from rfl] at this
    show (reprText (Str.ofString "best " ++ s)).length ≤ 10000
    omega
  | true =>
    have := StrLaws.reprText_len (Str.ofString "best " ++ s ++ Str.ofString ", down") (cps_cat (cps_cat (cps_any _) hc) (cps_any _))
    rw [PySem.Str.length_append, PySem.Str.length_append, show (Str.ofString "best ").length = 5 from rfl, show (Str.ofString ", down").length = 6 from rfl] at this
    show (reprText (Str.ofString "best " ++ s ++ Str.ofString ", down")).length ≤ 10000
    omega
def sp__law_due (K : PySem.W.Frag) : L2.Sp := fun vs H Q _ => on2 vs fun x y => onBl y fun b => ∃ d, Dt K H x d ∧ Sml d ∧ (strD d).length ≤ 100 ∧ (∀ c ∈ (strD d).cps.toList, c < 16 ^ 8) ∧ ∀ H', Same H H' → Q (.str (PyData.shown (.list [d, .bool b, .str (lineT (strD d) b), .bool true]))) H'
abbrev N__law_due : List Str := ["_law_width", "_law_flag", "_law_line"]
theorem sc__law_due : FnScope N__law_due ["_law_width", "_law_flag"] (defScope s__law_due) := ⟨rfl, rfl, rfl, by decide +kernel, rfl, by decide +kernel, by decide +kernel⟩
def t__law_due (K : PySem.W.Frag) : TS :=
    tSeq (tAsg (tIf (fT (fV 1)) (tOp fAddS (tOp fAddS (tC (.str "best ")) (tCB (fStrT K) (tCons (fV 0) tNil))) (tC (.str ", down"))) (tOp fAddS (tC (.str "best ")) (tCB (fStrT K) (tCons (fV 0) tNil)))) (gName 2))
    (tRet (tCB (fReprX K) (tCons (tLstN (tCons (fV 0) (tCons (fV 1) (tCons (fV 2) (tCons (tC (.bl true)) tNil))))) tNil)))
abbrev Pure__law_due (K : PySem.W.Frag) : Prop := ∀ (vs : List V) (H : Hp) (Q : VK) (E : XK), sp__law_due K vs H Q E → t__law_due K { nx := fun _ H' => Q .non H', rt := Q } (L2.start N__law_due vs) H
theorem pure__law_due (T : Tx K mg) : Pure__law_due K := by
  intro vs H Q E h
  obtain ⟨x, y, rfl, h⟩ := on2_ex h
  obtain ⟨b, rfl, d, hd, hs, hl, hc, hQ⟩ := onBl_ex h
  have sml : ∀ z ∈ [d, .bool b, .str (lineT (strD d) b), .bool true], Sml z := fun z hz => by
    simp only [List.mem_cons, List.not_mem_nil, or_false] at hz
    rcases hz with rfl | rfl | rfl | rfl
    · exact hs
    · exact ⟨rfl, by show 0 ≤ 5; decide, Nat.le_trans (shown_le _ rfl rfl) (by show 2000 * 1 ≤ 10000; decide)⟩
    · exact lineT_sml hl hc
    · exact ⟨rfl, by show 0 ≤ 5; decide, Nat.le_trans (shown_le _ rfl rfl) (by show 2000 * 1 ≤ 10000; decide)⟩
  cases b
  · refine ⟨d, hd, hs, ?_, by show 4 ≤ sizeLine; decide, fun L hL hLs => ?_⟩
    · rw [show (Str.ofString "best ").length = 5 from rfl, sizeLine_eq]
      omega
    · exact ⟨_, _, upd_same, hLs, by show 4 ≠ 3; decide, .cons (hd.same (Same.upd hL)) (.cons (.fl rfl) (.cons (.fl rfl) (.cons (.fl rfl) .nil))), sml, by show 4 ≤ 20; decide, hQ _ (Same.upd hL)⟩
  · refine ⟨d, hd, hs, ?_, ?_, by show 4 ≤ sizeLine; decide, fun L hL hLs => ?_⟩
    · rw [show (Str.ofString "best ").length = 5 from rfl, sizeLine_eq]
      omega
    · rw [PySem.Str.length_append, show (Str.ofString "best ").length = 5 from rfl, show (Str.ofString ", down").length = 6 from rfl, sizeLine_eq]
      omega
    · exact ⟨_, _, upd_same, hLs, by show 4 ≠ 3; decide, .cons (hd.same (Same.upd hL)) (.cons (.fl rfl) (.cons (.fl rfl) (.cons (.fl rfl) .nil))), sml, by show 4 ≤ 20; decide, hQ _ (Same.upd hL)⟩
theorem b__law_due (T : Tx K mg) : Binds K (fdA K (He.fAd K d__law_due.at_)) ["_law_width", "_law_flag"] [] := T.F__law_due.bindsN fun _ _ _ _ _ _ us hl => match us, hl with | [_, _], _ => rfl
theorem ok__law_due (T : Tx K mg) : FnG P w K mg base CX0 2 (He.fAd K d__law_due.at_) (fdA K (He.fAd K d__law_due.at_)) ["_law_width", "_law_flag"] (sp__law_due K) :=
  Sp.FunD.okG T.F__law_due sc__law_due (fun _ _ _ _ h => on2_len h) (fun cdv A outer s H vs Q E hgd hr h => ⟨t__law_due K, PSs.nox ((pss_cons (ps_set (i := 2) sc__law_due.nd rfl (.inl rfl) (pe_ifExp (t_val (vv 1)) (pe_op o_addS (pe_op o_addS pe_str (pe_callTy (c_strT hgd hr.units) (by rfl) T.b_str boot_str (pa_cons (vv 0) pa_nil))) pe_str) (pe_op o_addS pe_str (pe_callTy (c_strT hgd hr.units) (by rfl) T.b_str boot_str (pa_cons (vv 0) pa_nil)))))
      (pss_one (ps_ret (pe_callB (c_reprX hgd hr.units) (by rfl) T.b_repr boot_repr (pa_cons (e_lstN (pa_cons (vv 0) (pa_cons (vv 1) (pa_cons (vv 2) (pa_cons pe_bl pa_nil))))) pa_nil)))))), pure__law_due T vs H Q E h⟩)

end K12
namespace K12
open PySem PySem.Spec PyProof.Rows L2 Sp
variable {P : Program} {w : World} {K : PySem.W.Frag} {mg : Str → Option Value} {base : Heap}
/-! ### rules, plain -/
inductive Wd where
  | now | nxt | free | fresh | ended | up | mode
  deriving DecidableEq
structure Cnd where
  neg : Bool
  w : Wd
  k : Nat
  deriving DecidableEq
inductive Dd where
  | read | write | close | turn | mode (k : Nat)
  deriving DecidableEq
structure Rl where
  cs : List Cnd
  d : Dd
def Wd.t : Wd → Str
  | .now => "now" | .nxt => "next" | .free => "free" | .fresh => "fresh" | .ended => "ended" | .up => "up" | .mode => "mode"
def Wd.truth : Wd → Bool
  | .fresh | .ended | .up => true
  | _ => false
def digT : Nat → Str
  | 0 => "0" | 1 => "1" | 2 => "2" | 3 => "3" | _ => "4"
def Cnd.t (c : Cnd) : Str := (if c.neg then ("not " : Str) else "") ++ (if c.w.truth then c.w.t else c.w.t ++ " " ++ digT c.k)
def Dd.t : Dd → Str
  | .read => "read" | .write => "write" | .close => "close" | .turn => "turn" | .mode 0 => "mode 0" | .mode 1 => "mode 1" | .mode _ => "mode 2"
def Rl.t (r : Rl) : Str := if r.cs = [] then r.d.t else Str.join ", " (r.cs.map Cnd.t) ++ ": " ++ r.d.t
def allW : List (Wd × Nat) := [(.now, 1), (.now, 2), (.now, 3), (.now, 4), (.nxt, 1), (.nxt, 2), (.nxt, 3), (.nxt, 4), (.free, 1), (.free, 2), (.free, 3), (.free, 4), (.fresh, 0), (.ended, 0), (.up, 0), (.mode, 0), (.mode, 1), (.mode, 2)]
def allC : List Cnd := allW.map (fun p => ⟨false, p.1, p.2⟩) ++ allW.map (fun p => ⟨true, p.1, p.2⟩)
def allD : List Dd := [.read, .write, .close, .turn, .mode 0, .mode 1, .mode 2]
/-- a rule that can be written -/
structure Rl.Ok (r : Rl) : Prop where
  cs : ∀ c ∈ r.cs, c ∈ allC
  len : r.cs.length ≤ 5
  d : r.d ∈ allD
/-! controls -/
structure Ctl where
  now : Nat
  nxt : Nat
  fresh : Bool
  ended : Bool
  up : Bool
  mode : Nat
  deriving DecidableEq
def Cnd.bas (c : Cnd) (room : Nat) (k : Ctl) : Bool := match c.w with
  | .now => decide (c.k ≤ k.now)
  | .nxt => decide (c.k ≤ k.nxt)
  | .free => decide ((c.k : Int) ≤ (room : Int) - k.now - k.nxt)
  | .fresh => k.fresh
  | .ended => k.ended
  | .up => k.up
  | .mode => decide (k.mode = c.k)
def Cnd.holds (c : Cnd) (room : Nat) (k : Ctl) : Bool := c.bas room k != c.neg
def Dd.can (d : Dd) (room : Nat) (k : Ctl) : Bool := match d with
  | .read => decide (k.now + k.nxt < room) && !k.ended
  | .write => decide (0 < k.now)
  | .close => !k.fresh
  | .turn => k.fresh
  | .mode m => decide (k.mode ≠ m)
def Rl.fits (r : Rl) (room : Nat) (k : Ctl) : Bool := r.d.can room k && r.cs.all fun c => c.holds room k
def firstCan (room : Nat) (k : Ctl) : List Dd → Option Dd
  | [] => none
  | d :: r => if d.can room k = true then some d else firstCan room k r
def deedOf : List Rl → Nat → Ctl → Option Dd
  | [], room, k => firstCan room k [.write, .close, .read]
  | r :: rs, room, k => if r.fits room k = true then some r.d else deedOf rs room k
def behindK (k : Ctl) : Dd → Ctl
  | .write => { k with now := k.now - 1, fresh := false }
  | .close => { k with now := k.now + k.nxt, nxt := 0, fresh := true }
  | .turn => { k with up := !k.up }
  | .mode m => { k with mode := m }
  | .read => k
/-! what the heap holds -/
def ctlV (k : Ctl) : List V := [.int k.now, .int k.nxt, .bl k.fresh, .bl k.ended, .bl k.up, .int k.mode]
def CtlAt (K : PySem.W.Frag) (H : Hp) (a : Addr) (k : Ctl) : Prop := SqT K H a (ctlV k)
theorem CtlAt.same {H H' : Hp} {a : Addr} {k : Ctl} (e : Same H H') (h : CtlAt K H a k) : CtlAt K H' a k := sameT e h
def CndAt (K : PySem.W.Frag) (H : Hp) (a : Addr) (c : Cnd) : Prop := SqT K H a [.bl c.neg, .str c.w.t, .int c.k]
/-- things at places, one by one -/
inductive Each {α : Type} (R : Addr → α → Prop) : List Addr → List α → Prop where
  | nil : Each R [] []
  | cons {a : Addr} {x : α} {as : List Addr} {xs : List α} (h : R a x) (t : Each R as xs) : Each R (a :: as) (x :: xs)
theorem Each.imp {α : Type} {R S : Addr → α → Prop} (f : ∀ a x, R a x → S a x) : ∀ {as : List Addr} {xs : List α}, Each R as xs → Each S as xs
  | _, _, .nil => .nil
  | _, _, .cons h t => .cons (f _ _ h) (t.imp f)
theorem Each.length {α : Type} {R : Addr → α → Prop} : ∀ {as : List Addr} {xs : List α}, Each R as xs → as.length = xs.length
  | _, _, .nil => rfl
  | _, _, .cons _ t => by simp [t.length]
theorem Each.get {α : Type} {R : Addr → α → Prop} : ∀ {as : List Addr} {xs : List α} {i : Nat} {a : Addr}, Each R as xs → as[i]? = some a → ∃ x, xs[i]? = some x ∧ R a x
  | _, _, _, _, .nil, h => by simp at h
  | _, _, 0, _, .cons h _, e => by
    simp at e
    subst e
    exact ⟨_, rfl, h⟩
  | _, _, i + 1, a, .cons _ t, e => by
    obtain ⟨x, h1, h2⟩ := t.get (i := i) (a := a) (by simpa using e)
    exact ⟨x, by simpa using h1, h2⟩
theorem Each.snoc {α : Type} {R : Addr → α → Prop} {a : Addr} {x : α} (h : R a x) : ∀ {as : List Addr} {xs : List α}, Each R as xs → Each R (as ++ [a]) (xs ++ [x])
  | _, _, .nil => .cons h .nil
  | _, _, .cons h' t => .cons h' (t.snoc h)
theorem Each.snoc_inv {α : Type} {R : Addr → α → Prop} : ∀ {l : List Addr} {p : List α} {r : α}, Each R l (p ++ [r]) → ∃ as b, l = as ++ [b] ∧ Each R as p ∧ R b r
  | [], p, r, h => by
    cases p <;> cases h
  | a :: l, [], r, h => by
    cases h with
    | cons h t =>
      cases t
      exact ⟨[], a, rfl, .nil, h⟩
  | a :: l, x :: p, r, h => by
    cases h with
    | cons h t =>
      obtain ⟨as, b, e, h1, h2⟩ := Each.snoc_inv (p := p) (r := r) t
      exact ⟨a :: as, b, by rw [e]; rfl, .cons h h1, h2⟩
theorem Each.append {α : Type} {R : Addr → α → Prop} : ∀ {as bs : List Addr} {xs ys : List α}, Each R as xs → Each R bs ys → Each R (as ++ bs) (xs ++ ys)
  | _, _, _, _, .nil, h => h
  | _, _, _, _, .cons h t, h2 => .cons h (t.append h2)

def RlAt (K : PySem.W.Frag) (H : Hp) (a : Addr) (r : Rl) : Prop := ∃ l cs, SqT K H a [.ref l, .str r.d.t] ∧ SqT K H l (cs.map V.ref) ∧ Each (CndAt K H) cs r.cs
theorem RlAt.same {H H' : Hp} {a : Addr} {r : Rl} (e : Same H H') (h : RlAt K H a r) : RlAt K H' a r := by
  obtain ⟨l, cs, h1, h2, h3⟩ := h
  exact ⟨l, cs, sameT e h1, sameT e h2, h3.imp fun _ _ z => sameT e z⟩
def PartsAt (K : PySem.W.Frag) (H : Hp) (a : Addr) (rs : List Rl) : Prop := ∃ as, SqT K H a (as.map V.ref) ∧ Each (RlAt K H) as rs
theorem PartsAt.same {H H' : Hp} {a : Addr} {rs : List Rl} (e : Same H H') (h : PartsAt K H a rs) : PartsAt K H' a rs := by
  obtain ⟨as, h1, h2⟩ := h
  exact ⟨as, sameT e h1, h2.imp fun _ _ z => z.same e⟩

end K12
namespace K12
open PySem PySem.Spec PyProof.Rows L2 Sp
variable {P : Program} {w : World} {K : PySem.W.Frag} {mg : Str → Option Value} {base : Heap}
theorem digT_int : ∀ p ∈ allW, p.1.truth = false → PySem.intText? (digT p.2) = some (p.2 : Int) := by decide +kernel
theorem cnd_neg : ∀ c ∈ allC, Txt.startswith c.t "not " = c.neg := by decide +kernel
theorem cnd_rest : ∀ c ∈ allC, (if c.neg = true then cutS c.t (some 4) none else c.t) = (if c.w.truth then c.w.t else c.w.t ++ " " ++ digT c.k) := by decide +kernel
theorem cnd_part : ∀ c ∈ allC, Txt.partition (if c.w.truth then c.w.t else c.w.t ++ " " ++ digT c.k) " " = (if c.w.truth then (c.w.t, ("" : Str), ("" : Str)) else (c.w.t, (" " : Str), digT c.k)) := by decide +kernel
theorem cnd_len : ∀ c ∈ allC, c.t.length ≤ 100 := by decide +kernel
def sp_condition_of (K : PySem.W.Frag) : L2.Sp := fun vs H Q _ => on1 vs fun x => onStr x fun t => ∃ c, c ∈ allC ∧ t = c.t ∧ ∀ a H', Same H H' → H' a = some (.tup [.bl c.neg, .str c.w.t, .int c.k]) → Q (.ref a) H'
abbrev N_condition_of : List Str := ["text", "is_not", "word", "space", "digit"]
theorem sc_condition_of : FnScope N_condition_of ["text"] (defScope s_condition_of) := ⟨rfl, rfl, rfl, by decide +kernel, rfl, by decide +kernel, by decide +kernel⟩
def t_condition_of (K : PySem.W.Frag) : TS :=
    tSeq (tAsg (tM1 rStarts (fV 0) (tC (.str "not "))) (gName 1))
    (tCut (tAsg (tM1 rPart (tIf (fT (fV 1)) (tSl rSlS (fV 0) (tPart (tC (.int 4))) tNoPart) (fV 0)) (tC (.str " "))) (gTup K 3 (gCons (gName 2) (gCons (gName 3) (gCons (gName 4) gNil)))))
    (tSeq (tIfS (tAnd (fT (tOp (fIn K false) (fV 2) (tC (.ref (He.ga K "TRUTHS"))))) (fT (tOp fEq (fV 3) (tC (.str "")))))
    (tRet (tTup (tCons (fV 1) (tCons (fV 2) (tCons (tC (.int 0)) tNil))))) tNext)
    (tSeq (tIfS (tOr (tAnd (fT (tOp (fIn K false) (fV 2) (tC (.ref (He.ga K "COUNTS"))))) (fT (tOp (fIn K false) (fV 4) (tTup (tCons (tC (.str "1")) (tCons (tC (.str "2")) (tCons (tC (.str "3")) (tCons (tC (.str "4")) tNil)))))))) (tAnd (fT (tOp fEq (fV 2) (tC (.str "mode")))) (fT (tOp (fIn K false) (fV 4) (tTup (tCons (tC (.str "0")) (tCons (tC (.str "1")) (tCons (tC (.str "2")) tNil))))))))
    (tRet (tTup (tCons (fV 1) (tCons (fV 2) (tCons (tCB fIntS (tCons (fV 4) tNil)) tNil))))) tNext)
    (tRet (tC .non)))))
abbrev Pure_condition_of (K : PySem.W.Frag) : Prop := ∀ (vs : List V) (H : Hp) (Q : VK) (E : XK), sp_condition_of K vs H Q E → t_condition_of K { nx := fun _ H' => Q .non H', rt := Q } (L2.start N_condition_of vs) H
theorem cnd_in : ∀ c ∈ allC, (c.w.truth = true → inV (.str c.w.t) [.str "fresh", .str "ended", .str "up"] = true ∧ c.k = 0) ∧ (c.w.truth = false → inV (.str c.w.t) [.str "fresh", .str "ended", .str "up"] = false) := by decide +kernel
theorem cnd_cnt : ∀ c ∈ allC, c.w.truth = false → (inV (.str c.w.t) [.str "now", .str "next", .str "free"] = true ∧ inV (.str (digT c.k)) [.str "1", .str "2", .str "3", .str "4"] = true) ∨
    (inV (.str c.w.t) [.str "now", .str "next", .str "free"] = false ∧ (V.str c.w.t = V.str "mode") ∧ inV (.str (digT c.k)) [.str "0", .str "1", .str "2"] = true) := by decide +kernel
theorem cnd_int : ∀ c ∈ allC, c.w.truth = false → PySem.intText? (digT c.k) = some (c.k : Int) ∧ (digT c.k).length ≤ 640 := by decide +kernel
def cRest (c : Cnd) : Str := if c.w.truth then c.w.t else c.w.t ++ " " ++ digT c.k
theorem pure_condition_of (T : Tx K mg) : Pure_condition_of K := by
  intro vs H Q E h
  obtain ⟨x, rfl, h⟩ := on1_ex h
  obtain ⟨t, rfl, c, hc, rfl, hQ⟩ := onStr_ex h
  have hl := cnd_len c hc
  refine ⟨⟨_, rfl⟩, _, _, rfl, rfl, ?_⟩
  rw [cnd_neg c hc]
  have hrl : (cRest c).length ≤ 100 := by
    have : ∀ c ∈ allC, (cRest c).length ≤ 100 := by decide +kernel
    exact this c hc
  refine ⟨fun σ' H' => Same H H' ∧ σ' = [some (.str c.t), some (.bl c.neg), some (.str (Txt.partition (cRest c) " ").1), some (.str (Txt.partition (cRest c) " ").2.1), some (.str (Txt.partition (cRest c) " ").2.2)], ?_, ?_⟩
  · have e := cnd_rest c hc
    have fin : ∀ (H1 : Hp) (z : Str), z = cRest c → Same H H1 → (∃ a, V.str z = V.str a) ∧ rPart (.str z) [.str " "] H1 (fun x H2 => gTup K 3 (gCons (gName 2) (gCons (gName 3) (gCons (gName 4) gNil))) x [some (.str c.t), some (.bl c.neg), none, none, none] H2 fun σ' H' => Same H H' ∧ σ' = [some (.str c.t), some (.bl c.neg), some (.str (Txt.partition (cRest c) " ").1), some (.str (Txt.partition (cRest c) " ").2.1), some (.str (Txt.partition (cRest c) " ").2.2)]) := by
      rintro H1 z rfl e1
      refine ⟨⟨_, rfl⟩, _, _, rfl, rfl, rfl, by rw [sizeLine_eq]; omega, fun p hp => ?_⟩
      exact ⟨p, _, rfl, SqT.of upd_same, rfl, _, _, rfl, _, _, rfl, _, _, rfl, rfl, e1.trans (Same.upd hp), rfl⟩
    refine ite2 (fun hn => ?_) (fun hn => ?_)
    · rw [hn] at e
      exact ⟨_, rfl, _, rfl, by rw [sizeLine_eq]; omega, fin H _ e (Same.refl _)⟩
    · rw [show c.neg = false by simpa using hn] at e
      exact fin H _ e (Same.refl _)
  rintro σ' H1 ⟨e1, rfl⟩
  have e := cnd_part c hc
  have e2 : Txt.partition (cRest c) " " = (if c.w.truth then (c.w.t, ("" : Str), ("" : Str)) else (c.w.t, (" " : Str), digT c.k)) := e
  rw [e2]
  cases ht : c.w.truth with
  | true =>
    obtain ⟨i1, i2⟩ := (cnd_in c hc).1 ht
    refine ⟨_, .inr (T.t_TRUTHS H1), rfl, rfl, true, i1, ?_⟩
    refine ⟨by show 3 ≤ sizeLine; decide, fun q hq => ?_⟩
    refine hQ q _ (e1.trans (Same.upd hq)) ?_
    rw [upd_same, i2]
    rfl
  | false =>
    have i1 := (cnd_in c hc).2 ht
    obtain ⟨i5, i6⟩ := cnd_int c hc ht
    have fin : ∀ (H2 : Hp), Same H H2 → tRet (tTup (tCons (fV 1) (tCons (fV 2) (tCons (tCB fIntS (tCons (fV 4) tNil)) tNil)))) { nx := fun _ H' => Q .non H', rt := Q } [some (.str c.t), some (.bl c.neg), some (.str c.w.t), some (.str " "), some (.str (digT c.k))] H2 := fun H2 e3 => by
      refine ⟨_, _, rfl, i5, i6, by show 3 ≤ sizeLine; decide, fun q hq => ?_⟩
      exact hQ q _ (e3.trans (Same.upd hq)) upd_same
    refine ⟨_, .inr (T.t_TRUTHS H1), rfl, rfl, false, i1, ?_⟩
    rcases cnd_cnt c hc ht with ⟨i3, i4⟩ | ⟨i3, i4, i7⟩
    · refine ⟨_, .inr (T.t_COUNTS H1), rfl, rfl, true, i3, ?_⟩
      refine ⟨by show 4 ≤ sizeLine; decide, fun q hq => ?_⟩
      refine ⟨_, .inr (SqT.of upd_same), rfl, rfl, true, i4, ?_⟩
      exact fin _ (e1.trans (Same.upd hq))
    · refine ⟨_, .inr (T.t_COUNTS H1), rfl, rfl, false, i3, ?_⟩
      refine ite2 (fun _ => ?_) (fun hz => absurd (decide_eq_true i4) hz)
      refine ⟨by show 3 ≤ sizeLine; decide, fun q hq => ?_⟩
      refine ⟨_, .inr (SqT.of upd_same), rfl, rfl, true, i7, ?_⟩
      exact fin _ (e1.trans (Same.upd hq))
theorem b_condition_of (T : Tx K mg) : Binds K (fdA K (He.fAd K d_condition_of.at_)) ["text"] [] := T.F_condition_of.bindsN fun _ _ _ _ _ _ us hl => match us, hl with | [_], _ => rfl
theorem ok_condition_of (T : Tx K mg) : FnOk P w K mg base CX0 1 (He.fAd K d_condition_of.at_) (fdA K (He.fAd K d_condition_of.at_)) ["text"] (sp_condition_of K) :=
  T.F_condition_of.ok sc_condition_of (fun _ _ _ _ h => on1_len h) (fun cdv A outer s H vs Q E hr h => ⟨t_condition_of K, PSs.nox ((pss_cons (ps_set (i := 1) sc_condition_of.nd rfl (.inl rfl) (pe_m1 PySem.F.slot_str_startswith PySem.F.type_str_startswith mt_startswith (vv 0) pe_str))
      (pss_cut (ps_asg (pe_m1 PySem.F.slot_str_partition PySem.F.type_str_partition mt_partition (pe_ifExp (t_val (vv 1)) (pe_slice sl_str (vv 0) (po_some pe_int) po_none) (vv 0)) pe_str) (pg_tup rfl (pgs_cons (pg_name (i := 2) sc_condition_of.nd rfl (.inl rfl)) (pgs_cons (pg_name (i := 3) sc_condition_of.nd rfl (.inl rfl)) (pgs_cons (pg_name (i := 4) sc_condition_of.nd rfl (.inl rfl)) pgs_nil)))))
      (pss_cons (ps_if (PW.pt (pw_and (t_cmp o_inS (vv 2) (pe_glob (by rfl) T.g_TRUTHS rfl) (by rfl)) (pw_and1 (t_cmp o_eq (vv 3) pe_str (nomark _)))))
      (pss_one (ps_ret (pe_tup (pa_cons (vv 1) (pa_cons (vv 2) (pa_cons pe_int pa_nil)))))) pss_nil)
      (pss_cons (ps_if (PW.pt (pw_or (PW.pt (pw_and (t_cmp o_inS (vv 2) (pe_glob (by rfl) T.g_COUNTS rfl) (by rfl)) (pw_and1 (t_cmp o_inS (vv 4) (pe_tup (pa_cons pe_str (pa_cons pe_str (pa_cons pe_str (pa_cons pe_str pa_nil))))) (by rfl))))) (pw_or1 (PW.pt (pw_and (t_cmp o_eq (vv 2) pe_str (nomark _)) (pw_and1 (t_cmp o_inS (vv 4) (pe_tup (pa_cons pe_str (pa_cons pe_str (pa_cons pe_str pa_nil)))) (by rfl))))))))
      (pss_one (ps_ret (pe_tup (pa_cons (vv 1) (pa_cons (vv 2) (pa_cons (pe_callTy call_int_str (by rfl) T.b_int boot_int (pa_cons (vv 4) pa_nil)) pa_nil)))))) pss_nil)
      (pss_one (ps_ret pe_non))))))), pure_condition_of T vs H Q E h⟩)
/-! ### parsed -/
theorem cnd_free : ∀ c ∈ allC, (44 : Nat) ∉ cl c.t ∧ (58 : Nat) ∉ cl c.t := by decide +kernel
theorem dd_free : ∀ d ∈ allD, (58 : Nat) ∉ cl d.t := by decide +kernel
theorem dd_in : ∀ d ∈ allD, inV (.str d.t) [.str "read", .str "write", .str "close", .str "turn", .str "mode 0", .str "mode 1", .str "mode 2"] = true := by decide +kernel
theorem dd_len : ∀ d ∈ allD, d.t.length ≤ 100 := by decide +kernel
theorem join_len {sep : Str} (hs : sep.length ≤ 10) : ∀ {cs : List Str}, (∀ p ∈ cs, p.length ≤ 100) → (Str.join sep cs).length ≤ 110 * cs.length
  | [], _ => Nat.zero_le _
  | [p], h => by
    have := h p (List.mem_singleton.mpr rfl)
    show p.length ≤ 110 * 1
    omega
  | p :: q :: r, h => by
    have a := h p (List.mem_cons_self ..)
    have b := join_len hs (cs := q :: r) fun z hz => h z (List.mem_cons_of_mem _ hz)
    rw [join_cons2, strLen_append, strLen_append]
    simp only [List.length_cons] at b ⊢
    omega
theorem join_free {c : Nat} {sep : Str} (hs : c ∉ cl sep) : ∀ {cs : List Str}, (∀ p ∈ cs, c ∉ cl p) → c ∉ cl (Str.join sep cs)
  | [], _ => by
    intro z
    exact absurd z (by simp [Str.join, cl, Str.empty])
  | [p], h => h p (List.mem_singleton.mpr rfl)
  | p :: q :: r, h => by
    have b := join_free hs (cs := q :: r) fun z hz => h z (List.mem_cons_of_mem _ hz)
    rw [join_cons2, cl_app, cl_app]
    intro z
    rcases List.mem_append.mp z with z | z
    · rcases List.mem_append.mp z with z | z
      · exact h p (List.mem_cons_self ..) z
      · exact hs z
    · exact b z
theorem kind_one (x : Str) : ¬ PySem.Builtin.Str.strKind x < PySem.Builtin.Str.strKind ", " := by
  have e : PySem.Builtin.Str.strKind (", " : Str) = 1 := by decide +kernel
  rw [e]
  unfold PySem.Builtin.Str.strKind
  split
  · omega
  · split <;> omega
/-- what a rule's text is cut into -/
theorem rl_cut {r : Rl} (h : r.Ok) : (r.cs = [] → Txt.rpartition r.t ": " = (Str.empty, Str.empty, r.d.t)) ∧ (r.cs ≠ [] → Txt.rpartition r.t ": " = (Str.join ", " (r.cs.map Cnd.t), (": " : Str), r.d.t) ∧ Txt.split (Str.join ", " (r.cs.map Cnd.t)) ", " = r.cs.map Cnd.t) := by
  have hy : cl (": " : Str) = [58, 32] := by decide +kernel
  have hz : cl (", " : Str) = [44, 32] := by decide +kernel
  have hd := dd_free r.d h.d
  refine ⟨fun hc => ?_, fun hc => ⟨?_, ?_⟩⟩
  · unfold Rl.t
    rw [if_pos hc]
    exact rpart_none hy hd
  · unfold Rl.t
    rw [if_neg hc]
    exact rpart_found hy (by decide) hd
  · refine split_join hz (fun z => hc (List.map_eq_nil_iff.mp z)) (fun p hp => ?_) (kind_one _)
    obtain ⟨c, hcm, rfl⟩ := List.mem_map.mp hp
    exact (cnd_free c (h.cs c hcm)).1
theorem rl_len {r : Rl} (h : r.Ok) : r.t.length ≤ 1000 ∧ (Str.join ", " (r.cs.map Cnd.t)).length ≤ 800 := by
  have a := join_len (sep := ", ") (by decide +kernel) (cs := r.cs.map Cnd.t) fun p hp => by
    obtain ⟨c, hcm, rfl⟩ := List.mem_map.mp hp
    exact cnd_len c (h.cs c hcm)
  rw [List.length_map] at a
  have b := h.len
  have c := dd_len r.d h.d
  have l2 : (": " : Str).length = 2 := by decide +kernel
  unfold Rl.t
  split
  · omega
  · rw [strLen_append, strLen_append, l2]
    omega
theorem eqv_none {K : PySem.W.Frag} {cs : List Cnd} : (cs.map fun c => PyData.tuple [.bool c.neg, .str c.w.t, .int c.k]).any (fun z => PyData.eqv z .none) = false := by
  rw [List.any_eq_false]
  intro z hz
  obtain ⟨c, _, rfl⟩ := List.mem_map.mp hz
  simp [PyData.eqv]
theorem wd_ok (w : Wd) : PyData.strOk w.t = true := by cases w <;> decide +kernel
theorem shapedC {cs : List Cnd} : SeqAt.shaped (.tuple (cs.map fun c => PyData.tuple [.bool c.neg, .str c.w.t, .int c.k])) = true := by
  have h1 : ∀ l : List Cnd, PyData.canLayAll0 (l.map fun c => PyData.tuple [.bool c.neg, .str c.w.t, .int c.k]) = true := fun l => by
    induction l with
    | nil => rfl
    | cons m r ih => simp [PyData.canLayAll0, PyData.canLay0, ih, wd_ok]
  have h2 : ∀ l : List Cnd, PyData.depthAll (l.map fun c => PyData.tuple [.bool c.neg, .str c.w.t, .int c.k]) ≤ 2 := fun l => by
    induction l with
    | nil => simp [PyData.depthAll]
    | cons m r ih =>
      simp only [List.map_cons, PyData.depthAll, PyData.depth] at ih ⊢
      omega
  unfold SeqAt.shaped
  rw [Bool.and_eq_true]
  refine ⟨by simpa [PyData.canLay0] using h1 cs, decide_eq_true ?_⟩
  have := h2 cs
  simp only [PyData.depth]
  omega
theorem dpC {H : Hp} : ∀ {as : List Addr} {cs : List Cnd}, Each (CndAt K H) as cs → DpAll K H (as.map V.ref) (cs.map fun c => PyData.tuple [.bool c.neg, .str c.w.t, .int c.k])
  | _, _, .nil => .nil
  | _, _, .cons h t => .cons (.tup h (.cons (.bl _) (.cons (.str _) (.cons (.int _) .nil)))) (dpC t)
def sp_parsed (K : PySem.W.Frag) : L2.Sp := fun vs H Q _ => on1 vs fun x => onStr x fun t => ∃ r : Rl, r.Ok ∧ t = r.t ∧ ∀ a H', Same H H' → RlAt K H' a r → Q (.ref a) H'
abbrev N_parsed : List Str := ["text", "head", "colon", "deed", "texts", "conditions", "part"]
theorem sc_parsed : FnScope N_parsed ["text"] (defScope s_parsed) := ⟨rfl, rfl, rfl, by decide +kernel, rfl, by decide +kernel, by decide +kernel⟩
def t_parsed (K : PySem.W.Frag) : TS :=
    tSeq (tIfS (tNot (fT (tCB (fIsi K) (tCons (fV 0) (tCons (tC (.ty "str")) tNil)))))
    (tRet (tC .non)) tNext)
    (tSeq (tAsg (tM1 rRPart (fV 0) (tC (.str ": "))) (gTup K 3 (gCons (gName 1) (gCons (gName 2) (gCons (gName 3) gNil)))))
    (tCut (tAsg (tIf (fT (tOp fNe (fV 2) (tC (.str "")))) (tM1 rSplit (fV 1) (tC (.str ", "))) (tLst tNil)) (gName 4))
    (tSeq (tAsg (tCB (fTupOfL K) (tCons (tLc (iList K (fV 4)) (gName 6) tYes (tCall (sp_condition_of K) [] E0 (tCons (fV 6) tNil)) [6]) tNil)) (gName 5))
    (tSeq (tIfS (tOr (fT (tOp (fIn K true) (fV 3) (tC (.ref (He.ga K "DEEDS"))))) (tOr (fT (tOp fGt (tCB (fLen K) (tCons (fV 5) tNil)) (tC (.int 5)))) (fT (tOp (fInT K) (tC .non) (fV 5)))))
    (tRet (tC .non)) tNext)
    (tRet (tTup (tCons (fV 5) (tCons (fV 3) tNil))))))))
abbrev Pure_parsed (K : PySem.W.Frag) : Prop := ∀ (vs : List V) (H : Hp) (Q : VK) (E : XK), sp_parsed K vs H Q E → t_parsed K { nx := fun _ H' => Q .non H', rt := Q } (L2.start N_parsed vs) H
theorem pure_parsed (T : Tx K mg) : Pure_parsed K := by
  intro vs H Q E h
  obtain ⟨x, rfl, h⟩ := on1_ex h
  obtain ⟨t, rfl, r, hr, rfl, hQ⟩ := onStr_ex h
  obtain ⟨c1, c2⟩ := rl_cut hr
  obtain ⟨l1, l2⟩ := rl_len hr
  refine ⟨_, _, true, .ty "str", .base (.str _), kit_ty (by decide +kernel), ?_⟩
  refine ⟨⟨_, rfl⟩, _, _, rfl, rfl, by decide +kernel, by rw [sizeLine_eq]; omega, fun p hp => ?_⟩
  refine ⟨p, _, rfl, SqT.of upd_same, rfl, _, _, rfl, _, _, rfl, _, _, rfl, rfl, ?_⟩
  have e1 := Same.upd (o := .tup [.str (Txt.rpartition r.t ": ").1, .str (Txt.rpartition r.t ": ").2.1, .str (Txt.rpartition r.t ": ").2.2]) hp
  refine ⟨fun σ' H' => Same H H' ∧ ∃ (h : Str) (cc : Str) (l : Addr), H' l = some (.lst ((r.cs.map Cnd.t).map V.str)) ∧ σ' = [some (.str r.t), some (.str h), some (.str cc), some (.str r.d.t), some (.ref l), none, none], ?_, ?_⟩
  · by_cases hc : r.cs = []
    · rw [c1 hc] at e1 ⊢
      refine ⟨by show 0 ≤ sizeLine; decide, fun l hl => ?_⟩
      refine ⟨e1.trans (Same.upd hl), _, _, l, ?_, rfl⟩
      rw [upd_same, hc]
      rfl
    · obtain ⟨d1, d2⟩ := c2 hc
      rw [d1] at e1 ⊢
      refine ⟨⟨_, rfl⟩, _, _, rfl, rfl, by decide +kernel, by rw [sizeLine_eq]; dsimp only; omega, fun l hl => ?_⟩
      refine ⟨e1.trans (Same.upd hl), _, _, l, ?_, rfl⟩
      rw [upd_same, d2]
  rintro σ' H1 ⟨e2, hh, cc, l, hl, rfl⟩
  refine ⟨l, rfl, ⟨_, SqL.of hl⟩, fun D hD => ?_⟩
  have hlen := hr.len
  refine lc_listI (xs := (r.cs.map Cnd.t).map V.str) (by rw [List.length_map, List.length_map]; omega) (fun i acc H2 => Same H1 H2 ∧ ∃ as, acc = as.map V.ref ∧ Each (CndAt K H2) as (r.cs.take i)) ⟨Same.upd hD, [], rfl, by rw [List.take_zero]; exact .nil⟩ (fun i acc H2 _ _ hJ => hJ.1.seq (SqL.of hl)) (fun i x acc H2 hx hac hD2 hJ R hR => ?_) (fun acc H2 hac hD2 hJ => ?_)
  · obtain ⟨e3, as, rfl, hE⟩ := hJ
    rw [List.getElem?_map, List.getElem?_map] at hx
    obtain ⟨c, hc, rfl⟩ : ∃ c, r.cs[i]? = some c ∧ x = .str c.t := by
      cases q : r.cs[i]? with
      | none => rw [q] at hx; cases hx
      | some c => rw [q] at hx; cases hx; exact ⟨c, rfl, rfl⟩
    refine ⟨rfl, c, hr.cs c (List.mem_of_getElem? hc), rfl, fun a H3 e4 ha => ?_⟩
    have hD3 := e4 _ _ hD2
    refine hR _ H3 hD3 ⟨newL hD (e3.trans e4), as ++ [a], by rw [List.map_append]; rfl, ?_⟩
    rw [List.take_add_one, hc]
    have sq : ∀ {b : Addr} {ys : List V}, SqT K H3 b ys → SqT K (upd H3 D (.lst (as.map V.ref ++ [V.ref a]))) b ys := fun {b ys} hb => by
      rcases hb with (hb | ⟨ob, hb⟩) | hb
      · exact .inl (.inl (by rw [upd_ne (ne_of hb hD3 (fun z => by cases z))]; exact hb))
      · exact .inl (.inr ⟨ob, by rw [upd_ne (ne_of hb hD3 (fun z => by cases z))]; exact hb⟩)
      · exact .inr hb
    exact Each.snoc (R := CndAt K (upd H3 D (.lst (as.map V.ref ++ [V.ref a])))) (sq (SqT.of ha)) (hE.imp fun _ _ z => sq (sameT e4 z))
  obtain ⟨e3, as, rfl, hE⟩ := hJ
  rw [List.length_map, List.length_map, List.take_length] at hE
  refine ⟨_, SqL.of hD2, fun q hq => ?_⟩
  have e4 := Same.upd (o := .tup (as.map V.ref)) hq
  have hE4 := hE.imp (S := CndAt K (upd H2 q (.tup (as.map V.ref)))) fun _ _ z => sameT e4 z
  have e14 := (e2.trans e3).trans e4
  refine ⟨_, .inr (T.t_DEEDS _), rfl, rfl, true, dd_in r.d hr.d, ?_⟩
  refine ⟨_, .inr (SqT.of upd_same), ?_⟩
  have hal : (as.map V.ref).length = r.cs.length := by rw [List.length_map]; exact hE.length
  refine ite2 (fun hz => ?_) (fun _ => ?_)
  · have := of_decide_eq_true hz
    rw [hal] at this
    omega
  refine ⟨_, _, .non, .tup (SqT.of upd_same) (dpC hE4), rfl, shapedC, ?_⟩
  rw [eqv_none (K := K)]
  refine ⟨by show 2 ≤ sizeLine; decide, fun u hu => ?_⟩
  have e5 := Same.upd (o := .tup [V.ref q, V.str r.d.t]) hu
  exact hQ u _ (e14.trans e5) ⟨q, as, SqT.of upd_same, sameT e5 (SqT.of upd_same), hE4.imp fun _ _ z => sameT e5 z⟩
theorem b_parsed (T : Tx K mg) : Binds K (fdA K (He.fAd K d_parsed.at_)) ["text"] [] := T.F_parsed.bindsN fun _ _ _ _ _ _ us hl => match us, hl with | [_], _ => rfl
theorem ok_parsed (T : Tx K mg) : FnOk P w K mg base CX0 2 (He.fAd K d_parsed.at_) (fdA K (He.fAd K d_parsed.at_)) ["text"] (sp_parsed K) :=
  T.F_parsed.ok sc_parsed (fun _ _ _ _ h => on1_len h) (fun cdv A outer s H vs Q E hr h => ⟨t_parsed K, PSs.nox ((pss_cons (ps_if (pt_not (t_val (pe_callB c_isi (by rfl) T.b_isinstance boot_isinstance (pa_cons (vv 0) (pa_cons (pe_bltn (by rfl) T.b_str boot_str rfl) pa_nil)))))
      (pss_one (ps_ret pe_non)) pss_nil)
      (pss_cons (ps_asg (pe_m1 PySem.F.slot_str_rpartition PySem.F.type_str_rpartition mt_rpartition (vv 0) pe_str) (pg_tup rfl (pgs_cons (pg_name (i := 1) sc_parsed.nd rfl (.inl rfl)) (pgs_cons (pg_name (i := 2) sc_parsed.nd rfl (.inl rfl)) (pgs_cons (pg_name (i := 3) sc_parsed.nd rfl (.inl rfl)) pgs_nil)))))
      (pss_cut (ps_set (i := 4) sc_parsed.nd rfl (.inl rfl) (pe_ifExp (t_cmp o_ne (vv 2) pe_str (nomark _)) (pe_m1 PySem.F.slot_str_split PySem.F.type_str_split mt_split (vv 1) pe_str) (pe_lst pa_nil)))
      (pss_cons (ps_set (i := 5) sc_parsed.nd rfl (.inl rfl) (pe_callTy c_tupL (by rfl) T.b_tuple boot_tuple (pa_cons (pe_lc (own := [("part", 6)]) (g := gName 6) (by rfl) sc_parsed.nd (pi_list (vv 4)) (blkOk_by (own := [("part", 6)]) (N := N_parsed) (sc := defScope s_parsed) (by decide +kernel)) (fun _ _ _ _ _ => (pg_name (i := 6) sc_parsed.nd rfl (.inl rfl))) (fun _ _ _ _ _ => pts_nil) (fun _ _ _ _ _ => (pe_call (ok_condition_of T) (hr.mono (by decide)) (by rfl) T.g_condition_of T.F_condition_of.kp (b_condition_of T) .nil pass0 (pa_cons (vv 6) pa_nil)))) pa_nil)))
      (pss_cons (ps_if (PW.pt (pw_or (t_cmp o_notInS (vv 3) (pe_glob (by rfl) T.g_DEEDS rfl) (by rfl)) (pw_or (t_cmp o_gt (pe_callB c_len (by rfl) T.b_len boot_len (pa_cons (vv 5) pa_nil)) (pe_glob (by rfl) (T.i_MOST_CONDITIONS).choose_spec ⟨_, rfl⟩) (nomark _)) (pw_or1 (t_cmp (o_inT (room65 hr)) pe_non (vv 5) (by rfl))))))
      (pss_one (ps_ret pe_non)) pss_nil)
      (pss_one (ps_ret (pe_tup (pa_cons (vv 5) (pa_cons (vv 3) pa_nil))))))))))), pure_parsed T vs H Q E h⟩)
/-! ### holds, is_possible -/
def sp_holds (K : PySem.W.Frag) : L2.Sp := fun vs H Q _ => on3 vs fun x y z => onRef x fun a => onInt y fun n => onRef z fun b => ∃ (c : Cnd) (r : Nat) (k : Ctl), c ∈ allC ∧ CndAt K H a c ∧ n = r ∧ CtlAt K H b k ∧ ∀ H', Same H H' → Q (.bl (c.holds r k)) H'
abbrev N_holds : List Str := ["condition", "room", "control", "is_not", "word", "number", "now", "nexts", "fresh", "ended", "up", "mode", "many"]
theorem sc_holds : FnScope N_holds ["condition", "room", "control"] (defScope s_holds) := ⟨rfl, rfl, rfl, by decide +kernel, rfl, by decide +kernel, by decide +kernel⟩
def t_holds (K : PySem.W.Frag) : TS :=
    tSeq (tAsg (fV 0) (gTup K 3 (gCons (gName 3) (gCons (gName 4) (gCons (gName 5) gNil)))))
    (tSeq (tAsg (fV 2) (gTup K 6 (gCons (gName 6) (gCons (gName 7) (gCons (gName 8) (gCons (gName 9) (gCons (gName 10) (gCons (gName 11) gNil))))))))
    (tSeq (tIfS (fT (tOp (fIn K false) (fV 4) (tC (.ref (He.ga K "COUNTS")))))
    (tSeq (tAsg (tDGet (tDisp ((tC (.str "now"), fV 6) :: (tC (.str "next"), fV 7) :: (tC (.str "free"), tOp fSub (tOp fSub (fV 1) (fV 6)) (fV 7)) :: [])) (fV 4)) (gName 12))
    (tRet (tOp fNe (tOp fGe (fV 12) (fV 5)) (fV 3)))) tNext)
    (tSeq (tIfS (fT (tOp fEq (fV 4) (tC (.str "mode"))))
    (tRet (tOp fNe (tOp fEq (fV 11) (fV 5)) (fV 3))) tNext)
    (tRet (tOp fNe (tDGet (tDisp ((tC (.str "fresh"), fV 8) :: (tC (.str "ended"), fV 9) :: (tC (.str "up"), fV 10) :: [])) (fV 4)) (fV 3))))))
abbrev Pure_holds (K : PySem.W.Frag) : Prop := ∀ (vs : List V) (H : Hp) (Q : VK) (E : XK), sp_holds K vs H Q E → t_holds K { nx := fun _ H' => Q .non H', rt := Q } (L2.start N_holds vs) H
def sp_is_possible (K : PySem.W.Frag) : L2.Sp := fun vs H Q _ => on3 vs fun x y z => onStr x fun t => onInt y fun n => onRef z fun b => ∃ (d : Dd) (r : Nat) (k : Ctl), d ∈ allD ∧ t = d.t ∧ n = r ∧ CtlAt K H b k ∧ Q (.bl (d.can r k)) H
abbrev N_is_possible : List Str := ["deed", "room", "control", "now", "nexts", "fresh", "ended", "up", "mode"]
theorem sc_is_possible : FnScope N_is_possible ["deed", "room", "control"] (defScope s_is_possible) := ⟨rfl, rfl, rfl, by decide +kernel, rfl, by decide +kernel, by decide +kernel⟩
def t_is_possible (K : PySem.W.Frag) : TS :=
    tSeq (tAsg (fV 2) (gTup K 6 (gCons (gName 3) (gCons (gName 4) (gCons (gName 5) (gCons (gName 6) (gCons (gName 7) (gCons (gName 8) gNil))))))))
    (tSeq (tIfS (fT (tOp fEq (fV 0) (tC (.str "read"))))
    (tRet (fAndV (tOp fLt (tOp fAdd (fV 3) (fV 4)) (fV 1)) (fNotV (fV 6)))) tNext)
    (tSeq (tIfS (fT (tOp fEq (fV 0) (tC (.str "write"))))
    (tRet (tOp fGt (fV 3) (tC (.int 0)))) tNext)
    (tSeq (tIfS (fT (tOp fEq (fV 0) (tC (.str "close"))))
    (tRet (fNotV (fV 5))) tNext)
    (tSeq (tIfS (fT (tOp fEq (fV 0) (tC (.str "turn"))))
    (tRet (fV 5)) tNext)
    (tRet (tOp fNe (fV 8) (tCB fIntS (tCons (tSl rSlS (fV 0) (tPart (tC (.int 5))) tNoPart) tNil))))))))
abbrev Pure_is_possible (K : PySem.W.Frag) : Prop := ∀ (vs : List V) (H : Hp) (Q : VK) (E : XK), sp_is_possible K vs H Q E → t_is_possible K { nx := fun _ H' => Q .non H', rt := Q } (L2.start N_is_possible vs) H
theorem merge3 {a b c : Str} (h1 : a ≠ b) (h2 : a ≠ c) (h3 : b ≠ c) (x y z : V) : mergeK [] [(.inr a, x), (.inr b, y), (.inr c, z)] = [(.inr a, x), (.inr b, y), (.inr c, z)] := by
  simp [mergeK, putK, h1, h2, h3]
theorem val3 {a b c : Str} (h1 : a ≠ b) (h2 : a ≠ c) (h3 : b ≠ c) (x y z : V) : some x = valV (mergeK [] [(.inr a, x), (.inr b, y), (.inr c, z)]) (.inr a) ∧ some y = valV (mergeK [] [(.inr a, x), (.inr b, y), (.inr c, z)]) (.inr b) ∧ some z = valV (mergeK [] [(.inr a, x), (.inr b, y), (.inr c, z)]) (.inr c) := by
  rw [merge3 h1 h2 h3]
  simp [valV, h1, h2, h3]
abbrev valC (x y z : V) := val3 (a := "now") (b := "next") (c := "free") (by decide +kernel) (by decide +kernel) (by decide +kernel) x y z
abbrev valT (x y z : V) := val3 (a := "fresh") (b := "ended") (c := "up") (by decide +kernel) (by decide +kernel) (by decide +kernel) x y z
theorem wd_cnt (w : Wd) : inV (.str w.t) [.str "now", .str "next", .str "free"] = (match w with | .now | .nxt | .free => true | _ => false) := by cases w <;> decide +kernel
theorem wd_mode (w : Wd) : (decide (V.str w.t = V.str "mode")) = (match w with | .mode => true | _ => false) := by cases w <;> decide +kernel
theorem newD {H1 H4 : Hp} {D : Addr} {o : HO} (hn : H1 D = none) (e : Same H1 H4) : Same H1 (upd H4 D o) := fun b o h => by
  rw [upd_ne (ne_of_none h hn)]
  exact e _ _ h
theorem ne_bl (a b : Bool) : (!decide (V.bl a = V.bl b)) = (a != b) := by cases a <;> cases b <;> rfl
theorem pure_holds (T : Tx K mg) : Pure_holds K := by
  intro vs H Q E h
  obtain ⟨x, y, z, rfl, h⟩ := on3_ex h
  obtain ⟨a, rfl, h⟩ := onRef_ex h
  obtain ⟨n, rfl, h⟩ := onInt_ex h
  obtain ⟨b, rfl, c, r, k, hc, ha, rfl, hb, hQ⟩ := onRef_ex h
  refine ⟨a, _, rfl, ha, rfl, _, _, rfl, _, _, rfl, _, _, rfl, rfl, ?_⟩
  refine ⟨b, _, rfl, hb, rfl, _, _, rfl, _, _, rfl, _, _, rfl, _, _, rfl, _, _, rfl, _, _, rfl, rfl, ?_⟩
  show tSeq _ _ _ [some (.ref a), some (.int r), some (.ref b), some (.bl c.neg), some (.str c.w.t), some (.int c.k), some (.int k.now), some (.int k.nxt), some (.bl k.fresh), some (.bl k.ended), some (.bl k.up), some (.int k.mode), none] H
  obtain ⟨neg, w, m⟩ := c
  have cnt := wd_cnt w
  have md := wd_mode w
  have fin : ∀ (b1 : Bool) (H' : Hp), Same H H' → b1 = Cnd.bas ⟨neg, w, m⟩ r k → Q (.bl (!decide (V.bl b1 = V.bl neg))) H' := fun b1 H' e z => by
    rw [ne_bl, z]
    exact hQ _ e
  have tri : (∃ x : Int, some (V.int x) = valV (mergeK [] [(.inr ("now" : Str), .int k.now), (.inr ("next" : Str), .int k.nxt), (.inr ("free" : Str), .int (r - k.now - k.nxt))]) (.inr w.t) ∧ decide ((m : Int) ≤ x) = Cnd.bas ⟨neg, w, m⟩ r k ∧ inV (.str w.t) [.str "now", .str "next", .str "free"] = true) ∨
      (inV (.str w.t) [.str "now", .str "next", .str "free"] = false ∧ decide (V.str w.t = V.str "mode") = true ∧ decide (V.int k.mode = V.int m) = Cnd.bas ⟨neg, w, m⟩ r k) ∨
      (inV (.str w.t) [.str "now", .str "next", .str "free"] = false ∧ decide (V.str w.t = V.str "mode") = false ∧ ∃ x, some (V.bl x) = valV (mergeK [] [(.inr ("fresh" : Str), .bl k.fresh), (.inr ("ended" : Str), .bl k.ended), (.inr ("up" : Str), .bl k.up)]) (.inr w.t) ∧ x = Cnd.bas ⟨neg, w, m⟩ r k) := by
    cases w
    · exact .inl ⟨k.now, (valC _ _ _).1, by simp [Cnd.bas], cnt⟩
    · exact .inl ⟨k.nxt, (valC _ _ _).2.1, by simp [Cnd.bas], cnt⟩
    · exact .inl ⟨r - k.now - k.nxt, (valC _ _ _).2.2, by simp [Cnd.bas], cnt⟩
    · exact .inr (.inr ⟨cnt, md, k.fresh, (valT _ _ _).1, rfl⟩)
    · exact .inr (.inr ⟨cnt, md, k.ended, (valT _ _ _).2.1, rfl⟩)
    · exact .inr (.inr ⟨cnt, md, k.up, (valT _ _ _).2.2, rfl⟩)
    · exact .inr (.inl ⟨cnt, md, by simp [Cnd.bas]; omega⟩)
  rcases tri with ⟨x, hv, hb, hw⟩ | ⟨hw, hm, hb⟩ | ⟨hw, hm, x, hv, hb⟩
  · refine ⟨_, .inr (T.t_COUNTS H), rfl, rfl, true, hw, fun p hp => ?_⟩
    have e1 := Same.upd (o := .dK []) hp
    refine ⟨upd_same, [(.inr ("now" : Str), .int k.now), (.inr ("next" : Str), .int k.nxt), (.inr ("free" : Str), .int (r - k.now - k.nxt))], rfl, Nat.le_of_ble_eq_true rfl, p, _, rfl, .inl ⟨_, .inr w.t, .inl upd_same, rfl, hv⟩, ?_⟩
    exact fin _ _ (newD hp e1) hb
  · refine ⟨_, .inr (T.t_COUNTS H), rfl, rfl, false, hw, ?_⟩
    refine ite2 (fun _ => ?_) (fun hz => absurd hm hz)
    exact fin _ _ (Same.refl _) hb
  · refine ⟨_, .inr (T.t_COUNTS H), rfl, rfl, false, hw, ?_⟩
    refine ite2 (fun hz => absurd (hz.symm.trans hm) (by simp)) (fun _ p hp => ?_)
    have e1 := Same.upd (o := .dK []) hp
    refine ⟨upd_same, [(.inr ("fresh" : Str), .bl k.fresh), (.inr ("ended" : Str), .bl k.ended), (.inr ("up" : Str), .bl k.up)], rfl, Nat.le_of_ble_eq_true rfl, p, _, rfl, .inl ⟨_, .inr w.t, .inl upd_same, rfl, hv⟩, ?_⟩
    exact fin _ _ (newD hp e1) hb
theorem b_holds (T : Tx K mg) : Binds K (fdA K (He.fAd K d_holds.at_)) ["condition", "room", "control"] [] := T.F_holds.bindsN fun _ _ _ _ _ _ us hl => match us, hl with | [_, _, _], _ => rfl
theorem ok_holds (T : Tx K mg) : FnOk P w K mg base CX0 1 (He.fAd K d_holds.at_) (fdA K (He.fAd K d_holds.at_)) ["condition", "room", "control"] (sp_holds K) :=
  T.F_holds.ok sc_holds (fun _ _ _ _ h => on3_len h) (fun cdv A outer s H vs Q E hr h => ⟨t_holds K, PSs.nox ((pss_cons (ps_asg (vv 0) (pg_tup rfl (pgs_cons (pg_name (i := 3) sc_holds.nd rfl (.inl rfl)) (pgs_cons (pg_name (i := 4) sc_holds.nd rfl (.inl rfl)) (pgs_cons (pg_name (i := 5) sc_holds.nd rfl (.inl rfl)) pgs_nil)))))
      (pss_cons (ps_asg (vv 2) (pg_tup rfl (pgs_cons (pg_name (i := 6) sc_holds.nd rfl (.inl rfl)) (pgs_cons (pg_name (i := 7) sc_holds.nd rfl (.inl rfl)) (pgs_cons (pg_name (i := 8) sc_holds.nd rfl (.inl rfl)) (pgs_cons (pg_name (i := 9) sc_holds.nd rfl (.inl rfl)) (pgs_cons (pg_name (i := 10) sc_holds.nd rfl (.inl rfl)) (pgs_cons (pg_name (i := 11) sc_holds.nd rfl (.inl rfl)) pgs_nil))))))))
      (pss_cons (ps_if (t_cmp o_inS (vv 4) (pe_glob (by rfl) T.g_COUNTS rfl) (by rfl))
      (pss_cons (ps_set (i := 12) sc_holds.nd rfl (.inl rfl) (pe_dget (hu_of hr) (pe_disp (pps_cons pe_str (vv 6) (pps_cons pe_str (vv 7) (pps_cons pe_str (pe_op o_sub (pe_op o_sub (vv 1) (vv 6)) (vv 7)) pps_nil))) (by rfl) (by rfl) (fun z => by cases z) (by decide)) (vv 4) (fun _ _ => rfl)))
      (pss_one (ps_ret (pe_cmpR o_ne (pe_cmpR o_ge (vv 12) (vv 5) (nomark _)) (vv 3) (nomark _))))) pss_nil)
      (pss_cons (ps_if (t_cmp o_eq (vv 4) pe_str (nomark _))
      (pss_one (ps_ret (pe_cmpR o_ne (pe_cmpR o_eq (vv 11) (vv 5) (nomark _)) (vv 3) (nomark _)))) pss_nil)
      (pss_one (ps_ret (pe_cmpR o_ne (pe_dget (hu_of hr) (pe_disp (pps_cons pe_str (vv 8) (pps_cons pe_str (vv 9) (pps_cons pe_str (vv 10) pps_nil))) (by rfl) (by rfl) (fun z => by cases z) (by decide)) (vv 4) (fun _ _ => rfl)) (vv 3) (nomark _))))))))), pure_holds T vs H Q E h⟩)
theorem dd_word : ∀ d ∈ allD, (decide (V.str d.t = V.str "read") = decide (d = .read)) ∧ (decide (V.str d.t = V.str "write") = decide (d = .write)) ∧ (decide (V.str d.t = V.str "close") = decide (d = .close)) ∧ (decide (V.str d.t = V.str "turn") = decide (d = .turn)) := by decide +kernel
def modeText (d : Dd) (i : Nat) : Bool := match d with
  | .mode m => decide (PySem.intText? (cutS d.t (some i) none) = some (m : Int)) && decide ((cutS d.t (some i) none).length ≤ 640)
  | _ => true
theorem dd_mode : ∀ d ∈ allD, modeText d 5 = true := by decide +kernel
theorem dd_mode' {m : Nat} (h : Dd.mode m ∈ allD) : PySem.intText? (cutS (Dd.mode m).t (some 5) none) = some (m : Int) ∧ (cutS (Dd.mode m).t (some 5) none).length ≤ 640 := by
  have := He.ba (dd_mode _ h)
  exact ⟨of_decide_eq_true this.1, of_decide_eq_true this.2⟩
theorem pure_is_possible (T : Tx K mg) : Pure_is_possible K := by
  intro vs H Q E h
  obtain ⟨x, y, z, rfl, h⟩ := on3_ex h
  obtain ⟨t, rfl, h⟩ := onStr_ex h
  obtain ⟨n, rfl, h⟩ := onInt_ex h
  obtain ⟨b, rfl, d, r, k, hd, rfl, rfl, hb, hQ⟩ := onRef_ex h
  obtain ⟨w1, w2, w3, w4⟩ := dd_word d hd
  have hl := dd_len d hd
  refine ⟨b, _, rfl, hb, rfl, _, _, rfl, _, _, rfl, _, _, rfl, _, _, rfl, _, _, rfl, _, _, rfl, rfl, ?_⟩
  show tSeq _ _ _ [some (.str d.t), some (.int r), some (.ref b), some (.int k.now), some (.int k.nxt), some (.bl k.fresh), some (.bl k.ended), some (.bl k.up), some (.int k.mode)] H
  refine ite2 (fun z => ?_) (fun z1 => ?_)
  · rw [w1] at z
    obtain rfl := of_decide_eq_true z
    have e : Dd.can .read r k = (decide ((k.now : Int) + k.nxt < r) && !k.ended) := by
      show (decide (k.now + k.nxt < r) && !k.ended) = _
      congr 1
      exact decide_eq_decide.mpr (by omega)
    refine ite2 (fun z => ?_) (fun z => ?_)
    · rw [e, z] at hQ
      exact hQ
    · rw [e, show decide ((k.now : Int) + k.nxt < r) = false by simpa using z] at hQ
      exact hQ
  rw [w1] at z1
  refine ite2 (fun z => ?_) (fun z2 => ?_)
  · rw [w2] at z
    obtain rfl := of_decide_eq_true z
    have e : decide ((0 : Int) < k.now) = Dd.can .write r k := by simp [Dd.can]
    rw [← e] at hQ
    exact hQ
  rw [w2] at z2
  refine ite2 (fun z => ?_) (fun z3 => ?_)
  · rw [w3] at z
    obtain rfl := of_decide_eq_true z
    exact hQ
  rw [w3] at z3
  refine ite2 (fun z => ?_) (fun z4 => ?_)
  · rw [w4] at z
    obtain rfl := of_decide_eq_true z
    exact hQ
  rw [w4] at z4
  cases d with
  | mode m =>
    obtain ⟨i1, i2⟩ := dd_mode' hd
    have e : Dd.can (.mode m) r k = !decide (V.int k.mode = V.int m) := by
      by_cases q : k.mode = m
      · subst q; simp [Dd.can]
      · have : ¬ (k.mode : Int) = m := by omega
        simp [Dd.can, q, this]
    rw [e] at hQ
    exact ⟨_, rfl, _, rfl, by rw [sizeLine_eq]; omega, _, _, rfl, i1, i2, hQ⟩
  | _ => simp at z1 z2 z3 z4
theorem b_is_possible (T : Tx K mg) : Binds K (fdA K (He.fAd K d_is_possible.at_)) ["deed", "room", "control"] [] := T.F_is_possible.bindsN fun _ _ _ _ _ _ us hl => match us, hl with | [_, _, _], _ => rfl
theorem ok_is_possible (T : Tx K mg) : FnOk P w K mg base CX0 1 (He.fAd K d_is_possible.at_) (fdA K (He.fAd K d_is_possible.at_)) ["deed", "room", "control"] (sp_is_possible K) :=
  T.F_is_possible.ok sc_is_possible (fun _ _ _ _ h => on3_len h) (fun cdv A outer s H vs Q E hr h => ⟨t_is_possible K, PSs.nox ((pss_cons (ps_asg (vv 2) (pg_tup rfl (pgs_cons (pg_name (i := 3) sc_is_possible.nd rfl (.inl rfl)) (pgs_cons (pg_name (i := 4) sc_is_possible.nd rfl (.inl rfl)) (pgs_cons (pg_name (i := 5) sc_is_possible.nd rfl (.inl rfl)) (pgs_cons (pg_name (i := 6) sc_is_possible.nd rfl (.inl rfl)) (pgs_cons (pg_name (i := 7) sc_is_possible.nd rfl (.inl rfl)) (pgs_cons (pg_name (i := 8) sc_is_possible.nd rfl (.inl rfl)) pgs_nil))))))))
      (pss_cons (ps_if (t_cmp o_eq (vv 0) pe_str (nomark _))
      (pss_one (ps_ret (e_and (pe_cmpR o_lt (pe_op o_add (vv 3) (vv 4)) (vv 1) (nomark _)) (pe_one (e_not (vv 6)))))) pss_nil)
      (pss_cons (ps_if (t_cmp o_eq (vv 0) pe_str (nomark _))
      (pss_one (ps_ret (pe_cmpR o_gt (vv 3) pe_int (nomark _)))) pss_nil)
      (pss_cons (ps_if (t_cmp o_eq (vv 0) pe_str (nomark _))
      (pss_one (ps_ret (e_not (vv 5)))) pss_nil)
      (pss_cons (ps_if (t_cmp o_eq (vv 0) pe_str (nomark _))
      (pss_one (ps_ret (vv 5))) pss_nil)
      (pss_one (ps_ret (pe_cmpR o_ne (vv 8) (pe_callTy call_int_str (by rfl) T.b_int boot_int (pa_cons (pe_slice sl_str (vv 0) (po_some pe_int) po_none) pa_nil)) (nomark _)))))))))), pure_is_possible T vs H Q E h⟩)
def ddV : Option Dd → V
  | none => .non
  | some d => .str d.t
def sp_deed_of (K : PySem.W.Frag) : L2.Sp := fun vs H Q _ => on3 vs fun x y z => onRef x fun a => onInt y fun n => onRef z fun b => ∃ (rs : List Rl) (r : Nat) (k : Ctl), (∀ q ∈ rs, q.Ok) ∧ rs.length ≤ 12 ∧ PartsAt K H a rs ∧ n = r ∧ CtlAt K H b k ∧ ∀ H', Same H H' → Q (ddV (deedOf rs r k)) H'
abbrev N_deed_of : List Str := ["rules", "room", "control", "conditions", "deed", "part"]
theorem sc_deed_of : FnScope N_deed_of ["rules", "room", "control"] (defScope s_deed_of) := ⟨rfl, rfl, rfl, by decide +kernel, rfl, by decide +kernel, by decide +kernel⟩
def t_deed_of (K : PySem.W.Frag) : TS :=
    tSeq (tFor (iTup K (fV 0)) (gTup K 2 (gCons (gName 3) (gCons (gName 4) gNil)))
    (tIfS (tAnd (fT (tCall (sp_is_possible K) [] E0 (tCons (fV 4) (tCons (fV 1) (tCons (fV 2) tNil))))) (fT (tCB (fAll K) (tCons (tLc (iTup K (fV 3)) (gName 5) tYes (tCall (sp_holds K) [] E0 (tCons (fV 5) (tCons (fV 1) (tCons (fV 2) tNil)))) [5]) tNil))))
    (tRet (fV 4)) tNext))
    (tSeq (tFor (iTup K (tTup (tCons (tC (.str "write")) (tCons (tC (.str "close")) (tCons (tC (.str "read")) tNil))))) (gName 4)
    (tIfS (fT (tCall (sp_is_possible K) [] E0 (tCons (fV 4) (tCons (fV 1) (tCons (fV 2) tNil)))))
    (tRet (fV 4)) tNext))
    (tRet (tC .non)))
abbrev Pure_deed_of (K : PySem.W.Frag) : Prop := ∀ (vs : List V) (H : Hp) (Q : VK) (E : XK), sp_deed_of K vs H Q E → t_deed_of K { nx := fun _ H' => Q .non H', rt := Q } (L2.start N_deed_of vs) H
theorem firstCan_eq (r : Nat) (k : Ctl) : firstCan r k [.write, .close, .read] = if Dd.can .write r k then some .write else if Dd.can .close r k then some .close else if Dd.can .read r k then some .read else none := by
  simp only [firstCan]
theorem allMap {α : Type} (f : α → Bool) (l : List α) (d : α) : ((List.range l.length).map fun i => (f ((l[i]?).getD d))).all id = l.all f := by
  rw [List.all_map]
  induction l with
  | nil => rfl
  | cons x t ih =>
    rw [List.length_cons, List.range_succ_eq_map, List.all_cons, List.all_cons, List.all_map, ← ih]
    rfl
theorem pure_deed_of (T : Tx K mg) : Pure_deed_of K := by
  intro vs H Q E h
  obtain ⟨x, y, z, rfl, h⟩ := on3_ex h
  obtain ⟨a, rfl, h⟩ := onRef_ex h
  obtain ⟨n, rfl, h⟩ := onInt_ex h
  obtain ⟨b, rfl, rs, r, k, hok, hlen, ⟨as, hpa, hE⟩, rfl, hb, hQ⟩ := onRef_ex h
  have hal := hE.length
  refine ⟨a, rfl, ⟨_, hpa⟩, ?_⟩
  refine for_tup (K := K) (a := a) (xs := as.map V.ref) (fun i σ H1 => Same H H1 ∧ deedOf rs r k = deedOf (rs.drop i) r k ∧ ∃ o3 o4, σ = [some (.ref a), some (.int r), some (.ref b), o3, o4, none]) ⟨Same.refl _, rfl, _, _, rfl⟩ (fun i σ H1 _ hp => sameT hp.1 hpa) (fun i x σ H1 hx hp => ?_) (fun σ H1 hp => ?_)
  · obtain ⟨e1, hd1, o3, o4, rfl⟩ := hp
    rw [List.getElem?_map] at hx
    obtain ⟨x', hx', rfl⟩ := Option.map_eq_some_iff.mp hx
    obtain ⟨q, hq, l, cs, r1, r2, r3⟩ := hE.get hx'
    have hqo := hok q (List.mem_of_getElem? hq)
    have hdrop : rs.drop i = q :: rs.drop (i + 1) := by
      obtain ⟨hi, e⟩ := List.getElem?_eq_some_iff.mp hq
      rw [List.drop_eq_getElem_cons hi, e]
    have nextI : q.fits r k = false → deedOf rs r k = deedOf (rs.drop (i + 1)) r k := fun z => by
      rw [hd1, hdrop]
      simp [deedOf, z]
    refine ⟨x', _, rfl, sameT e1 r1, rfl, _, _, rfl, _, _, rfl, rfl, ?_⟩
    show tIfS _ _ _ _ [some (.ref a), some (.int r), some (.ref b), some (.ref l), some (.str q.d.t), none] H1
    refine ⟨q.d, r, k, hqo.d, rfl, rfl, hb.same e1, ?_⟩
    cases hcan : q.d.can r k with
    | false =>
      refine ⟨e1, nextI (by simp [Rl.fits, hcan]), _, _, rfl⟩
    | true =>
      refine ⟨l, rfl, ⟨_, sameT e1 r2⟩, fun D hD => ?_⟩
      refine lc_tupN (xs := cs.map V.ref) (fun i => .bl (((q.cs[i]?).map fun c => c.holds r k).getD true)) hD (by rw [List.length_map, r3.length]; have := hqo.len; omega) (sameT e1 r2) (fun j y H2 hy e2 R hR => ?_) (fun H2 e2 hDl => ?_)
      · rw [List.getElem?_map] at hy
        obtain ⟨y', hy', rfl⟩ := Option.map_eq_some_iff.mp hy
        obtain ⟨c, hc, c1⟩ := r3.get hy'
        refine ⟨rfl, c, r, k, hqo.cs c (List.mem_of_getElem? hc), sameT (e1.trans e2) c1, rfl, hb.same (e1.trans e2), fun H3 e3 => ?_⟩
        have := hR H3 e3
        rw [hc] at this
        exact this
      · rw [List.length_map, r3.length] at hDl
        refine ⟨(List.range q.cs.length).map fun i => ((q.cs[i]?).map fun c => c.holds r k).getD true, SqL.of (by rw [hDl, List.map_map]; rfl), ?_⟩
        have ea : ((List.range q.cs.length).map fun i => ((q.cs[i]?).map fun c => c.holds r k).getD true).all id = q.cs.all fun c => c.holds r k := by
          rw [List.all_map]
          rw [Bool.eq_iff_iff, List.all_eq_true, List.all_eq_true]
          constructor
          · intro h c hc
            obtain ⟨i, hi, e⟩ := List.getElem_of_mem hc
            have := h i (List.mem_range.mpr hi)
            simpa [List.getElem?_eq_getElem hi, e] using this
          · intro h i hi
            have hi := List.mem_range.mp hi
            have := h q.cs[i] (List.getElem_mem hi)
            simpa [List.getElem?_eq_getElem hi] using this
        rw [ea]
        cases hall : (q.cs.all fun c => c.holds r k) with
        | false => exact ⟨e1.trans e2, nextI (by simp [Rl.fits, hcan, hall]), _, _, rfl⟩
        | true =>
          have e5 : deedOf rs r k = some q.d := by
            rw [hd1, hdrop]
            simp [deedOf, Rl.fits, hcan, hall]
          have := hQ _ (e1.trans e2)
          rw [e5] at this
          exact this
  obtain ⟨e1, hd1, o3, o4, rfl⟩ := hp
  rw [List.length_map, hal, List.drop_length] at hd1
  refine ⟨by show 3 ≤ sizeLine; decide, fun p hp => ?_⟩
  have e2 := e1.trans (Same.upd (o := .tup [.str "write", .str "close", .str "read"]) hp)
  refine ⟨p, rfl, ⟨_, SqT.of upd_same⟩, ?_⟩
  refine for_tup (K := K) (a := p) (xs := [.str "write", .str "close", .str "read"]) (fun i σ H2 => Same (upd H1 p (.tup [.str "write", .str "close", .str "read"])) H2 ∧ deedOf rs r k = firstCan r k (([.write, .close, .read] : List Dd).drop i) ∧ ∃ o4, σ = [some (.ref a), some (.int r), some (.ref b), o3, o4, none]) ⟨Same.refl _, hd1, _, rfl⟩ (fun i σ H2 _ hp => sameT hp.1 (SqT.of upd_same)) (fun i x σ H2 hx hp => ?_) (fun σ H2 hp => ?_)
  · obtain ⟨e3, hd2, o4, rfl⟩ := hp
    obtain ⟨d, hdi, rfl⟩ : ∃ d, ([.write, .close, .read] : List Dd)[i]? = some d ∧ x = .str d.t := by
      have hx2 : (([.write, .close, .read] : List Dd).map fun d => V.str d.t)[i]? = some x := hx
      rw [List.getElem?_map] at hx2
      obtain ⟨d, h1, h2⟩ := Option.map_eq_some_iff.mp hx2
      exact ⟨d, h1, h2.symm⟩
    have hdrop : ([.write, .close, .read] : List Dd).drop i = d :: ([.write, .close, .read] : List Dd).drop (i + 1) := by
      obtain ⟨hi, e⟩ := List.getElem?_eq_some_iff.mp hdi
      rw [List.drop_eq_getElem_cons hi, e]
    have hda : d ∈ allD := by
      have := List.mem_of_getElem? hdi
      simp at this
      rcases this with rfl | rfl | rfl <;> decide +kernel
    rw [hdrop] at hd2
    refine ⟨d, r, k, hda, rfl, rfl, hb.same (e2.trans e3), ?_⟩
    cases hcan : d.can r k with
    | false => exact ⟨e3, by rw [hd2]; simp [firstCan, hcan], _, rfl⟩
    | true =>
      have := hQ _ (e2.trans e3)
      rw [hd2, show firstCan r k (d :: ([.write, .close, .read] : List Dd).drop (i + 1)) = some d by simp [firstCan, hcan]] at this
      exact this
  · obtain ⟨e3, hd2, o4, rfl⟩ := hp
    have := hQ _ (e2.trans e3)
    rw [hd2] at this
    exact this
theorem b_deed_of (T : Tx K mg) : Binds K (fdA K (He.fAd K d_deed_of.at_)) ["rules", "room", "control"] [] := T.F_deed_of.bindsN fun _ _ _ _ _ _ us hl => match us, hl with | [_, _, _], _ => rfl
theorem ok_deed_of (T : Tx K mg) : FnOk P w K mg base CX0 2 (He.fAd K d_deed_of.at_) (fdA K (He.fAd K d_deed_of.at_)) ["rules", "room", "control"] (sp_deed_of K) :=
  T.F_deed_of.ok sc_deed_of (fun _ _ _ _ h => on3_len h) (fun cdv A outer s H vs Q E hr h => ⟨t_deed_of K, PSs.nox ((pss_cons (ps_for PassesOwn.never (by rfl) (pi_tup (vv 0)) (pg_tup rfl (pgs_cons (pg_name (i := 3) sc_deed_of.nd rfl (.inl rfl)) (pgs_cons (pg_name (i := 4) sc_deed_of.nd rfl (.inl rfl)) pgs_nil)))
      (pss_one (ps_if (PW.pt (pw_and (t_val (pe_call (ok_is_possible T) (hr.mono (by decide)) (by rfl) T.g_is_possible T.F_is_possible.kp (b_is_possible T) .nil pass0 (pa_cons (vv 4) (pa_cons (vv 1) (pa_cons (vv 2) pa_nil))))) (pw_and1 (t_val (pe_callB (c_all rfl) (by rfl) T.b_all boot_all (pa_cons (pe_lc (own := [("part", 5)]) (g := gName 5) (by rfl) sc_deed_of.nd (pi_tup (vv 3)) (blkOk_by (own := [("part", 5)]) (N := N_deed_of) (sc := defScope s_deed_of) (by decide +kernel)) (fun _ _ _ _ _ => (pg_name (i := 5) sc_deed_of.nd rfl (.inl rfl))) (fun _ _ _ _ _ => pts_nil) (fun _ _ _ _ _ => (pe_call (ok_holds T) (hr.mono (by decide)) (by rfl) T.g_holds T.F_holds.kp (b_holds T) .nil pass0 (pa_cons (vv 5) (pa_cons (vv 1) (pa_cons (vv 2) pa_nil)))))) pa_nil))))))
      (pss_one (ps_ret (vv 4))) pss_nil)))
      (pss_cons (ps_for PassesOwn.never (by rfl) (pi_tup (pe_tup (pa_cons pe_str (pa_cons pe_str (pa_cons pe_str pa_nil))))) (pg_name (i := 4) sc_deed_of.nd rfl (.inl rfl))
      (pss_one (ps_if (t_val (pe_call (ok_is_possible T) (hr.mono (by decide)) (by rfl) T.g_is_possible T.F_is_possible.kp (b_is_possible T) .nil pass0 (pa_cons (vv 4) (pa_cons (vv 1) (pa_cons (vv 2) pa_nil)))))
      (pss_one (ps_ret (vv 4))) pss_nil)))
      (pss_one (ps_ret pe_non))))), pure_deed_of T vs H Q E h⟩)

end K12
namespace K12
open PySem PySem.Spec PyProof.Rows L2 Sp
variable {P : Program} {w : World} {K : PySem.W.Frag} {mg : Str → Option Value} {base : Heap}
/-! ### controls.py -/
def sp_behind (K : PySem.W.Frag) : L2.Sp := fun vs H Q _ => on2 vs fun x y => onRef x fun b => onStr y fun t => ∃ (d : Dd) (k : Ctl), d ∈ allD ∧ t = d.t ∧ d ≠ .read ∧ (d = .write → 0 < k.now) ∧ CtlAt K H b k ∧ ∀ a H', Same H H' → CtlAt K H' a (behindK k d) → Q (.ref a) H'
abbrev N_behind : List Str := ["control", "deed", "now", "nexts", "fresh", "ended", "up", "mode"]
theorem sc_behind : FnScope N_behind ["control", "deed"] (defScope s_behind) := ⟨rfl, rfl, rfl, by decide +kernel, rfl, by decide +kernel, by decide +kernel⟩
def t_behind (K : PySem.W.Frag) : TS :=
    tSeq (tAsg (fV 0) (gTup K 6 (gCons (gName 2) (gCons (gName 3) (gCons (gName 4) (gCons (gName 5) (gCons (gName 6) (gCons (gName 7) gNil))))))))
    (tSeq (tIfS (fT (tOp fEq (fV 1) (tC (.str "write"))))
    (tRet (tTup (tCons (tOp fSub (fV 2) (tC (.int 1))) (tCons (fV 3) (tCons (tC (.bl false)) (tCons (fV 5) (tCons (fV 6) (tCons (fV 7) tNil)))))))) tNext)
    (tSeq (tIfS (fT (tOp fEq (fV 1) (tC (.str "close"))))
    (tRet (tTup (tCons (tOp fAdd (fV 2) (fV 3)) (tCons (tC (.int 0)) (tCons (tC (.bl true)) (tCons (fV 5) (tCons (fV 6) (tCons (fV 7) tNil)))))))) tNext)
    (tSeq (tIfS (fT (tOp fEq (fV 1) (tC (.str "turn"))))
    (tRet (tTup (tCons (fV 2) (tCons (fV 3) (tCons (fV 4) (tCons (fV 5) (tCons (fNotV (fV 6)) (tCons (fV 7) tNil)))))))) tNext)
    (tRet (tTup (tCons (fV 2) (tCons (fV 3) (tCons (fV 4) (tCons (fV 5) (tCons (fV 6) (tCons (tCB fIntS (tCons (tSl rSlS (fV 1) (tPart (tC (.int 5))) tNoPart) tNil)) tNil)))))))))))
abbrev Pure_behind (K : PySem.W.Frag) : Prop := ∀ (vs : List V) (H : Hp) (Q : VK) (E : XK), sp_behind K vs H Q E → t_behind K { nx := fun _ H' => Q .non H', rt := Q } (L2.start N_behind vs) H
theorem pure_behind (T : Tx K mg) : Pure_behind K := by
  intro vs H Q E h
  obtain ⟨x, y, rfl, h⟩ := on2_ex h
  obtain ⟨b, rfl, h⟩ := onRef_ex h
  obtain ⟨t, rfl, d, k, hd, rfl, hr, hw, hb, hQ⟩ := onStr_ex h
  obtain ⟨w1, w2, w3, w4⟩ := dd_word d hd
  have hl := dd_len d hd
  refine ⟨b, _, rfl, hb, rfl, _, _, rfl, _, _, rfl, _, _, rfl, _, _, rfl, _, _, rfl, _, _, rfl, rfl, ?_⟩
  show tSeq _ _ _ [some (.ref b), some (.str d.t), some (.int k.now), some (.int k.nxt), some (.bl k.fresh), some (.bl k.ended), some (.bl k.up), some (.int k.mode)] H
  have fin : ∀ (p : Addr) (vs : List V), H p = none → vs = ctlV (behindK k d) → Q (.ref p) (upd H p (.tup vs)) := fun p vs hp e => by
    subst e
    exact hQ p _ (Same.upd hp) (SqT.of upd_same)
  refine ite2 (fun z => ?_) (fun z2 => ?_)
  · rw [w2] at z
    obtain rfl := of_decide_eq_true z
    have h0 := hw rfl
    refine ⟨by show 6 ≤ sizeLine; decide, fun p hp => fin p _ hp ?_⟩
    have e : ((k.now - 1 : Nat) : Int) = (k.now : Int) - 1 := by omega
    show _ = [V.int ((k.now - 1 : Nat) : Int), _, _, _, _, _]
    rw [e]
    rfl
  rw [w2] at z2
  refine ite2 (fun z => ?_) (fun z3 => ?_)
  · rw [w3] at z
    obtain rfl := of_decide_eq_true z
    refine ⟨by show 6 ≤ sizeLine; decide, fun p hp => fin p _ hp ?_⟩
    have e : ((k.now + k.nxt : Nat) : Int) = (k.now : Int) + k.nxt := by omega
    show _ = [V.int ((k.now + k.nxt : Nat) : Int), _, _, _, _, _]
    rw [e]
    rfl
  rw [w3] at z3
  refine ite2 (fun z => ?_) (fun z4 => ?_)
  · rw [w4] at z
    obtain rfl := of_decide_eq_true z
    exact ⟨by show 6 ≤ sizeLine; decide, fun p hp => fin p _ hp rfl⟩
  rw [w4] at z4
  cases d with
  | mode m =>
    obtain ⟨i1, i2⟩ := dd_mode' hd
    exact ⟨_, rfl, _, rfl, by rw [sizeLine_eq]; omega, _, _, rfl, i1, i2, by show 6 ≤ sizeLine; decide, fun p hp => fin p _ hp rfl⟩
  | read => exact absurd rfl hr
  | _ => simp at z2 z3 z4
theorem b_behind (T : Tx K mg) : Binds K (fdA K (He.fAd K d_behind.at_)) ["control", "deed"] [] := T.F_behind.bindsN fun _ _ _ _ _ _ us hl => match us, hl with | [_, _], _ => rfl
theorem ok_behind (T : Tx K mg) : FnOk P w K mg base CX0 1 (He.fAd K d_behind.at_) (fdA K (He.fAd K d_behind.at_)) ["control", "deed"] (sp_behind K) :=
  T.F_behind.ok sc_behind (fun _ _ _ _ h => on2_len h) (fun cdv A outer s H vs Q E hr h => ⟨t_behind K, PSs.nox ((pss_cons (ps_asg (vv 0) (pg_tup rfl (pgs_cons (pg_name (i := 2) sc_behind.nd rfl (.inl rfl)) (pgs_cons (pg_name (i := 3) sc_behind.nd rfl (.inl rfl)) (pgs_cons (pg_name (i := 4) sc_behind.nd rfl (.inl rfl)) (pgs_cons (pg_name (i := 5) sc_behind.nd rfl (.inl rfl)) (pgs_cons (pg_name (i := 6) sc_behind.nd rfl (.inl rfl)) (pgs_cons (pg_name (i := 7) sc_behind.nd rfl (.inl rfl)) pgs_nil))))))))
      (pss_cons (ps_if (t_cmp o_eq (vv 1) pe_str (nomark _))
      (pss_one (ps_ret (pe_tup (pa_cons (pe_op o_sub (vv 2) pe_int) (pa_cons (vv 3) (pa_cons pe_bl (pa_cons (vv 5) (pa_cons (vv 6) (pa_cons (vv 7) pa_nil))))))))) pss_nil)
      (pss_cons (ps_if (t_cmp o_eq (vv 1) pe_str (nomark _))
      (pss_one (ps_ret (pe_tup (pa_cons (pe_op o_add (vv 2) (vv 3)) (pa_cons pe_int (pa_cons pe_bl (pa_cons (vv 5) (pa_cons (vv 6) (pa_cons (vv 7) pa_nil))))))))) pss_nil)
      (pss_cons (ps_if (t_cmp o_eq (vv 1) pe_str (nomark _))
      (pss_one (ps_ret (pe_tup (pa_cons (vv 2) (pa_cons (vv 3) (pa_cons (vv 4) (pa_cons (vv 5) (pa_cons (e_not (vv 6)) (pa_cons (vv 7) pa_nil))))))))) pss_nil)
      (pss_one (ps_ret (pe_tup (pa_cons (vv 2) (pa_cons (vv 3) (pa_cons (vv 4) (pa_cons (vv 5) (pa_cons (vv 6) (pa_cons (pe_callTy call_int_str (by rfl) T.b_int boot_int (pa_cons (pe_slice sl_str (vv 1) (po_some pe_int) po_none) pa_nil)) pa_nil)))))))))))))), pure_behind T vs H Q E h⟩)
def atEndK (k : Ctl) : Ctl := { k with ended := true }
def sp_at_end (K : PySem.W.Frag) : L2.Sp := fun vs H Q _ => on1 vs fun x => onRef x fun b => ∃ (k : Ctl), CtlAt K H b k ∧ ∀ a H', Same H H' → CtlAt K H' a (atEndK k) → Q (.ref a) H'
abbrev N_at_end : List Str := ["control", "now", "nexts", "fresh", "ended", "up", "mode"]
theorem sc_at_end : FnScope N_at_end ["control"] (defScope s_at_end) := ⟨rfl, rfl, rfl, by decide +kernel, rfl, by decide +kernel, by decide +kernel⟩
def t_at_end (K : PySem.W.Frag) : TS :=
    tSeq (tAsg (fV 0) (gTup K 6 (gCons (gName 1) (gCons (gName 2) (gCons (gName 3) (gCons (gName 4) (gCons (gName 5) (gCons (gName 6) gNil))))))))
    (tRet (tTup (tCons (fV 1) (tCons (fV 2) (tCons (fV 3) (tCons (tC (.bl true)) (tCons (fV 5) (tCons (fV 6) tNil))))))))
abbrev Pure_at_end (K : PySem.W.Frag) : Prop := ∀ (vs : List V) (H : Hp) (Q : VK) (E : XK), sp_at_end K vs H Q E → t_at_end K { nx := fun _ H' => Q .non H', rt := Q } (L2.start N_at_end vs) H
theorem pure_at_end (T : Tx K mg) : Pure_at_end K := by
  intro vs H Q E h
  obtain ⟨x, rfl, h⟩ := on1_ex h
  obtain ⟨b, rfl, k, hb, hQ⟩ := onRef_ex h
  refine ⟨b, _, rfl, hb, rfl, _, _, rfl, _, _, rfl, _, _, rfl, _, _, rfl, _, _, rfl, _, _, rfl, rfl, ?_⟩
  exact ⟨by show 6 ≤ sizeLine; decide, fun p hp => hQ p _ (Same.upd hp) (SqT.of upd_same)⟩
theorem b_at_end (T : Tx K mg) : Binds K (fdA K (He.fAd K d_at_end.at_)) ["control"] [] := T.F_at_end.bindsN fun _ _ _ _ _ _ us hl => match us, hl with | [_], _ => rfl
theorem ok_at_end (T : Tx K mg) : FnOk P w K mg base CX0 1 (He.fAd K d_at_end.at_) (fdA K (He.fAd K d_at_end.at_)) ["control"] (sp_at_end K) :=
  T.F_at_end.ok sc_at_end (fun _ _ _ _ h => on1_len h) (fun cdv A outer s H vs Q E hr h => ⟨t_at_end K, PSs.nox ((pss_cons (ps_asg (vv 0) (pg_tup rfl (pgs_cons (pg_name (i := 1) sc_at_end.nd rfl (.inl rfl)) (pgs_cons (pg_name (i := 2) sc_at_end.nd rfl (.inl rfl)) (pgs_cons (pg_name (i := 3) sc_at_end.nd rfl (.inl rfl)) (pgs_cons (pg_name (i := 4) sc_at_end.nd rfl (.inl rfl)) (pgs_cons (pg_name (i := 5) sc_at_end.nd rfl (.inl rfl)) (pgs_cons (pg_name (i := 6) sc_at_end.nd rfl (.inl rfl)) pgs_nil))))))))
      (pss_one (ps_ret (pe_tup (pa_cons (vv 1) (pa_cons (vv 2) (pa_cons (vv 3) (pa_cons pe_bl (pa_cons (vv 5) (pa_cons (vv 6) pa_nil))))))))))), pure_at_end T vs H Q E h⟩)
/-- what a record can lead to -/
def readsK (k : Ctl) (drops : Bool) : List (Str × Ctl) :=
  ("now", { k with now := k.now + 1 }) :: ((if k.fresh = true then [] else [(("next" : Str), { k with nxt := k.nxt + 1 })]) ++ (if drops = true ∧ (k.fresh = false ∨ 0 < k.now + k.nxt) then [(("dropped" : Str), k)] else []))
def PairAt (K : PySem.W.Frag) (H : Hp) (a : Addr) (p : Str × Ctl) : Prop := ∃ c, SqT K H a [.str p.1, .ref c] ∧ CtlAt K H c p.2
theorem PairAt.same {H H' : Hp} {a : Addr} {p : Str × Ctl} (e : Same H H') (h : PairAt K H a p) : PairAt K H' a p := by
  obtain ⟨c, h1, h2⟩ := h
  exact ⟨c, sameT e h1, sameT e h2⟩
def sp_reads (K : PySem.W.Frag) : L2.Sp := fun vs H Q _ => on2 vs fun x y => onRef x fun b => ∃ (k : Ctl) (dr : Bool), y = .bl dr ∧ CtlAt K H b k ∧ ∀ l as H', Same H H' → H l = none → H' l = some (.lst (as.map V.ref)) → Each (PairAt K H') as (readsK k dr) → Q (.ref l) H'
abbrev N_reads : List Str := ["control", "drops", "now", "nexts", "fresh", "ended", "up", "mode", "found"]
theorem sc_reads : FnScope N_reads ["control", "drops"] (defScope s_reads) := ⟨rfl, rfl, rfl, by decide +kernel, rfl, by decide +kernel, by decide +kernel⟩
def t_reads (K : PySem.W.Frag) : TS :=
    tSeq (tAsg (fV 0) (gTup K 6 (gCons (gName 2) (gCons (gName 3) (gCons (gName 4) (gCons (gName 5) (gCons (gName 6) (gCons (gName 7) gNil))))))))
    (tSeq (tAsg (tLst (tCons (tTup (tCons (tC (.str "now")) (tCons (tTup (tCons (tOp fAdd (fV 2) (tC (.int 1))) (tCons (fV 3) (tCons (fV 4) (tCons (fV 5) (tCons (fV 6) (tCons (fV 7) tNil))))))) tNil))) tNil)) (gName 8))
    (tCut (tIfS (tNot (fT (fV 4)))
    (tDrop (tBM K "list" rAppend (fV 8) (tCons (tTup (tCons (tC (.str "next")) (tCons (tTup (tCons (fV 2) (tCons (tOp fAdd (fV 3) (tC (.int 1))) (tCons (fV 4) (tCons (fV 5) (tCons (fV 6) (tCons (fV 7) tNil))))))) tNil))) tNil))) tNext)
    (tSeq (tIfS (tAnd (fT (fV 1)) (tOr (tNot (fT (fV 4))) (fT (tOp fGt (tOp fAdd (fV 2) (fV 3)) (tC (.int 0))))))
    (tDrop (tBM K "list" rAppend (fV 8) (tCons (tTup (tCons (tC (.str "dropped")) (tCons (fV 0) tNil))) tNil))) tNext)
    (tRet (fV 8)))))
abbrev Pure_reads (K : PySem.W.Frag) : Prop := ∀ (vs : List V) (H : Hp) (Q : VK) (E : XK), sp_reads K vs H Q E → t_reads K { nx := fun _ H' => Q .non H', rt := Q } (L2.start N_reads vs) H
theorem pure_reads (T : Tx K mg) : Pure_reads K := by
  intro vs H Q E h
  obtain ⟨x, y, rfl, h⟩ := on2_ex h
  obtain ⟨b, rfl, k, dr, rfl, hb, hQ⟩ := onRef_ex h
  refine ⟨b, _, rfl, hb, rfl, _, _, rfl, _, _, rfl, _, _, rfl, _, _, rfl, _, _, rfl, _, _, rfl, rfl, ?_⟩
  show tSeq _ _ _ [some (.ref b), some (.bl dr), some (.int k.now), some (.int k.nxt), some (.bl k.fresh), some (.bl k.ended), some (.bl k.up), some (.int k.mode), none] H
  refine ⟨by show 6 ≤ sizeLine; decide, fun p hp => ?_⟩
  have e1 := Same.upd (o := .tup [V.int ((k.now : Int) + 1), V.int k.nxt, V.bl k.fresh, V.bl k.ended, V.bl k.up, V.int k.mode]) hp
  refine ⟨by show 2 ≤ sizeLine; decide, fun q hq => ?_⟩
  have e2 := Same.upd (o := .tup [.str "now", .ref p]) hq
  refine ⟨by show 1 ≤ sizeLine; decide, fun l hl => ?_⟩
  have e3 := Same.upd (o := .lst [.ref q]) hl
  have hl0 : H l = none := Same.free (e1.trans e2) hl
  have p1 : PairAt K (upd (upd (upd H p (.tup [V.int ((k.now : Int) + 1), V.int k.nxt, V.bl k.fresh, V.bl k.ended, V.bl k.up, V.int k.mode])) q (.tup [.str "now", .ref p])) l (.lst [.ref q])) q ("now", { k with now := k.now + 1 }) :=
    ⟨p, sameT e3 (SqT.of upd_same), sameT (e2.trans e3) (SqT.of upd_same)⟩
  refine ⟨fun σ' H' => Same H H' ∧ σ' = [some (.ref b), some (.bl dr), some (.int k.now), some (.int k.nxt), some (.bl k.fresh), some (.bl k.ended), some (.bl k.up), some (.int k.mode), some (.ref l)] ∧ ∃ as, as.length ≤ 2 ∧ H' l = some (.lst (as.map V.ref)) ∧ Each (PairAt K H') as (("now", { k with now := k.now + 1 }) :: (if k.fresh = true then [] else [(("next" : Str), { k with nxt := k.nxt + 1 })])), ?_, ?_⟩
  · have e13 := (e1.trans e2).trans e3
    refine ite2 (fun hf => ?_) (fun hf => ?_)
    · have hf : k.fresh = false := by simpa using hf
      refine ⟨.inl ⟨rfl, _, SqL.of upd_same⟩, by show 6 ≤ sizeLine; decide, fun p2 hp2 => ?_⟩
      have e4 := Same.upd (o := .tup [V.int k.now, V.int ((k.nxt : Int) + 1), V.bl k.fresh, V.bl k.ended, V.bl k.up, V.int k.mode]) hp2
      refine ⟨by show 2 ≤ sizeLine; decide, fun q2 hq2 => ?_⟩
      have e5 := Same.upd (o := .tup [.str "next", .ref p2]) hq2
      have hl5 := (e4.trans e5) _ _ upd_same
      refine ⟨l, _, _, rfl, rfl, hl5, by show 1 < sizeLine; decide, ?_⟩
      refine ⟨newO hl0 (e13.trans (e4.trans e5)), rfl, [q, q2], Nat.le_refl _, upd_same, ?_⟩
      rw [if_neg (by rw [hf]; simp)]
      obtain ⟨c, c1, c2⟩ := p1.same (e4.trans e5)
      exact .cons ⟨c, setL_T hl5 c1, setL_T hl5 c2⟩ (.cons ⟨p2, setL_T hl5 (SqT.of upd_same), setL_T hl5 (sameT e5 (SqT.of upd_same))⟩ .nil)
    · have hf : k.fresh = true := by simpa using hf
      refine ⟨e13, rfl, [q], by simp, upd_same, ?_⟩
      rw [if_pos hf]
      exact .cons p1 .nil
  · rintro σ' H1 ⟨f1, rfl, as, hlen, hl1, hE⟩
    have yes : (dr = true ∧ (k.fresh = false ∨ 0 < k.now + k.nxt)) → tDrop (tBM K "list" rAppend (fV 8) (tCons (tTup (tCons (tC (.str "dropped")) (tCons (fV 0) tNil))) tNil)) { nx := fun σ H' => Q (.ref l) H', rt := Q } [some (.ref b), some (.bl dr), some (.int k.now), some (.int k.nxt), some (.bl k.fresh), some (.bl k.ended), some (.bl k.up), some (.int k.mode), some (.ref l)] H1 := fun hz => by
      refine ⟨.inl ⟨rfl, _, SqL.of hl1⟩, by show 2 ≤ sizeLine; decide, fun q3 hq3 => ?_⟩
      have e5 := Same.upd (o := .tup [.str "dropped", .ref b]) hq3
      have hl5 := e5 _ _ hl1
      refine ⟨l, _, _, rfl, rfl, hl5, by rw [List.length_map, sizeLine_eq]; omega, ?_⟩
      refine hQ l (as ++ [q3]) _ (newO hl0 (f1.trans e5)) hl0 (by rw [List.map_append]; exact upd_same) ?_
      unfold readsK
      rw [if_pos hz, ← List.cons_append]
      refine Each.snoc ⟨b, setL_T hl5 (SqT.of upd_same), setL_T hl5 (hb.same (f1.trans e5))⟩ (hE.imp fun _ _ z => ?_)
      obtain ⟨c, c1, c2⟩ := z.same e5
      exact ⟨c, setL_T hl5 c1, setL_T hl5 c2⟩
    have no : ¬ (dr = true ∧ (k.fresh = false ∨ 0 < k.now + k.nxt)) → Q (.ref l) H1 := fun hz => by
      refine hQ l as _ f1 hl0 hl1 ?_
      unfold readsK
      rw [if_neg hz, List.append_nil]
      exact hE
    refine ite2 (fun hd => ?_) (fun hd => no fun z => hd z.1)
    refine ite2 (fun hf => ?_) (fun hf => ?_)
    · exact yes ⟨hd, .inl (by simpa using hf)⟩
    · refine ite2 (fun hg => ?_) (fun hg => ?_)
      · have := of_decide_eq_true hg
        exact yes ⟨hd, .inr (by omega)⟩
      · refine no fun z => ?_
        rcases z.2 with z | z
        · exact hf (by simp [z])
        · exact hg (decide_eq_true (by omega))
theorem b_reads (T : Tx K mg) : Binds K (fdA K (He.fAd K d_reads.at_)) ["control", "drops"] [] := T.F_reads.bindsN fun _ _ _ _ _ _ us hl => match us, hl with | [_, _], _ => rfl
theorem ok_reads (T : Tx K mg) : FnOk P w K mg base CX0 1 (He.fAd K d_reads.at_) (fdA K (He.fAd K d_reads.at_)) ["control", "drops"] (sp_reads K) :=
  T.F_reads.ok sc_reads (fun _ _ _ _ h => on2_len h) (fun cdv A outer s H vs Q E hr h => ⟨t_reads K, PSs.nox ((pss_cons (ps_asg (vv 0) (pg_tup rfl (pgs_cons (pg_name (i := 2) sc_reads.nd rfl (.inl rfl)) (pgs_cons (pg_name (i := 3) sc_reads.nd rfl (.inl rfl)) (pgs_cons (pg_name (i := 4) sc_reads.nd rfl (.inl rfl)) (pgs_cons (pg_name (i := 5) sc_reads.nd rfl (.inl rfl)) (pgs_cons (pg_name (i := 6) sc_reads.nd rfl (.inl rfl)) (pgs_cons (pg_name (i := 7) sc_reads.nd rfl (.inl rfl)) pgs_nil))))))))
      (pss_cons (ps_set (i := 8) sc_reads.nd rfl (.inl rfl) (pe_lst (pa_cons (pe_tup (pa_cons pe_str (pa_cons (pe_tup (pa_cons (pe_op o_add (vv 2) pe_int) (pa_cons (vv 3) (pa_cons (vv 4) (pa_cons (vv 5) (pa_cons (vv 6) (pa_cons (vv 7) pa_nil))))))) pa_nil))) pa_nil)))
      (pss_cut (ps_if (pt_not (t_val (vv 4)))
      (pss_one (ps_expr (pe_bm PySem.F.plainAttrs_list PySem.F.slot_list_append PySem.F.type_list_append mt_append (vv 8) (pa_cons (pe_tup (pa_cons pe_str (pa_cons (pe_tup (pa_cons (vv 2) (pa_cons (pe_op o_add (vv 3) pe_int) (pa_cons (vv 4) (pa_cons (vv 5) (pa_cons (vv 6) (pa_cons (vv 7) pa_nil))))))) pa_nil))) pa_nil)))) pss_nil)
      (pss_cons (ps_if (PW.pt (pw_and (t_val (vv 1)) (pw_and1 (PW.pt (pw_or (pt_not (t_val (vv 4))) (pw_or1 (t_cmp o_gt (pe_op o_add (vv 2) (vv 3)) pe_int (nomark _))))))))
      (pss_one (ps_expr (pe_bm PySem.F.plainAttrs_list PySem.F.slot_list_append PySem.F.type_list_append mt_append (vv 8) (pa_cons (pe_tup (pa_cons pe_str (pa_cons (vv 0) pa_nil))) pa_nil)))) pss_nil)
      (pss_one (ps_ret (vv 8)))))))), pure_reads T vs H Q E h⟩)
/-- the deeds of a maker up to its next read -/
def idleB (d : Dd) (i : Nat) : Nat := match d with
  | .write | .close => 0
  | _ => i + 1
def work (rs : List Rl) (room : Nat) : Nat → Nat → Ctl → List Dd → Option (Ctl × List Dd)
  | 0, _, _, _ => none
  | f + 1, i, k, ds => match deedOf rs room k with
    | none => some (k, ds)
    | some .read => some (k, ds)
    | some d => if 6 < idleB d i then none else work rs room f (idleB d i) (behindK k d) (ds ++ [d])
def fuelK (k : Ctl) (i : Nat) : Nat := ((k.now + k.nxt) * 2 + (if k.fresh = true then 0 else 1)) * 8 + (7 - i) + 1
def worked (rs : List Rl) (room : Nat) (k : Ctl) : Option (Ctl × List Dd) := work rs room (fuelK k 0) 0 k []
def sp_worked (K : PySem.W.Frag) : L2.Sp := fun vs H Q _ => on3 vs fun x y z => onRef x fun a => onInt y fun n => onRef z fun b => ∃ (rs : List Rl) (r : Nat) (k : Ctl), (∀ q ∈ rs, q.Ok) ∧ rs.length ≤ 12 ∧ PartsAt K H a rs ∧ n = r ∧ CtlAt K H b k ∧ k.now + k.nxt ≤ 100 ∧
  (worked rs r k = none → ∀ H', Same H H' → Q .non H') ∧ (∀ k' ds, worked rs r k = some (k', ds) → ∀ p c t H', Same H H' → SqT K H' p [.ref c, .ref t] → CtlAt K H' c k' → SqT K H' t (ds.map fun d => .str d.t) → Q (.ref p) H')
abbrev N_worked : List Str := ["parts", "room", "control", "deeds", "idle", "deed"]
theorem sc_worked : FnScope N_worked ["parts", "room", "control"] (defScope s_worked) := ⟨rfl, rfl, rfl, by decide +kernel, rfl, by decide +kernel, by decide +kernel⟩
def t_worked (K : PySem.W.Frag) : TS :=
    tSeq (tPar 3 4 (tCons (tLst tNil) (tCons (tC (.int 0)) tNil)))
    (tSeq (tAsg (tCall (sp_deed_of K) [] E0 (tCons (fV 0) (tCons (fV 1) (tCons (fV 2) tNil)))) (gName 5))
    (tSeq (tWhile (tAnd (fT (tOp fNotN (fV 5) (tC .non))) (fT (tOp fNe (fV 5) (tC (.str "read")))))
    (tSeq (tDrop (tBM K "list" rAppend (fV 3) (tCons (fV 5) tNil)))
    (tSeq (tAsg (tIf (fT (tOp (fIn K false) (fV 5) (tTup (tCons (tC (.str "write")) (tCons (tC (.str "close")) tNil))))) (tC (.int 0)) (tOp fAdd (fV 4) (tC (.int 1)))) (gName 4))
    (tSeq (tIfS (fT (tOp fGt (fV 4) (tC (.int 6))))
    (tRet (tC .non)) tNext)
    (tSeq (tAsg (tCall (sp_behind K) [] E0 (tCons (fV 2) (tCons (fV 5) tNil))) (gName 2))
    (tAsg (tCall (sp_deed_of K) [] E0 (tCons (fV 0) (tCons (fV 1) (tCons (fV 2) tNil)))) (gName 5)))))))
    (tRet (tTup (tCons (fV 2) (tCons (tCB (fTupOfL K) (tCons (fV 3) tNil)) tNil))))))
abbrev Pure_worked (K : PySem.W.Frag) : Prop := ∀ (vs : List V) (H : Hp) (Q : VK) (E : XK), sp_worked K vs H Q E → t_worked K { nx := fun _ H' => Q .non H', rt := Q } (L2.start N_worked vs) H
theorem firstCan_can {r : Nat} {k : Ctl} {d : Dd} : ∀ {l : List Dd}, firstCan r k l = some d → d ∈ l ∧ d.can r k = true
  | [], h => by cases h
  | e :: l, h => by
    unfold firstCan at h
    split at h
    · cases h
      exact ⟨List.mem_cons_self .., by assumption⟩
    · obtain ⟨a, b⟩ := firstCan_can h
      exact ⟨List.mem_cons_of_mem _ a, b⟩
theorem deedOf_can {r : Nat} {k : Ctl} {d : Dd} : ∀ {rs : List Rl}, (∀ q ∈ rs, q.Ok) → deedOf rs r k = some d → d ∈ allD ∧ d.can r k = true
  | [], _, h => by
    obtain ⟨a, b⟩ := firstCan_can h
    refine ⟨?_, b⟩
    simp at a
    rcases a with rfl | rfl | rfl <;> decide +kernel
  | q :: rs, ho, h => by
    unfold deedOf at h
    split at h
    · cases h
      rename_i z
      exact ⟨(ho q (List.mem_cons_self ..)).d, (He.ba z).1⟩
    · exact deedOf_can (fun z hz => ho z (List.mem_cons_of_mem _ hz)) h
theorem behind_sum {k : Ctl} {d : Dd} : (behindK k d).now + (behindK k d).nxt ≤ k.now + k.nxt := by
  cases d <;> simp [behindK] <;> omega
theorem fuel_step {r : Nat} {k : Ctl} {d : Dd} {i : Nat} (hc : d.can r k = true) (hr : d ≠ .read) (hi : i ≤ 6) : fuelK (behindK k d) (idleB d i) + 1 ≤ fuelK k i := by
  cases d with
  | read => exact absurd rfl hr
  | write =>
    have : 0 < k.now := by simpa [Dd.can] using hc
    cases hf : k.fresh <;> simp [fuelK, behindK, idleB, hf] <;> omega
  | close =>
    have : k.fresh = false := by simpa [Dd.can] using hc
    simp only [fuelK, behindK, idleB, this]
    simp
    omega
  | turn => cases hf : k.fresh <;> simp [fuelK, behindK, idleB, hf] <;> omega
  | mode m => cases hf : k.fresh <;> simp [fuelK, behindK, idleB, hf] <;> omega
theorem fuel_bound {k : Ctl} (h : k.now + k.nxt ≤ 100) : fuelK k 0 ≤ 2000 := by
  unfold fuelK
  split <;> omega
theorem idle_in : ∀ d ∈ allD, inV (.str d.t) [.str "write", .str "close"] = (match d with | .write | .close => true | _ => false) := by decide +kernel
theorem pure_worked (T : Tx K mg) : Pure_worked K := by
  intro vs H Q E h
  obtain ⟨x, y, z, rfl, h⟩ := on3_ex h
  obtain ⟨a, rfl, h⟩ := onRef_ex h
  obtain ⟨n, rfl, h⟩ := onInt_ex h
  obtain ⟨b, rfl, rs, r, k, hok, hlen, hpa, rfl, hb, hsum, hQn, hQs⟩ := onRef_ex h
  refine ⟨by show 0 ≤ sizeLine; decide, fun l hl => ?_⟩
  have e1 := Same.upd (o := .lst []) hl
  refine ⟨_, _, rfl, ?_⟩
  show tSeq _ _ _ [some (.ref a), some (.int r), some (.ref b), some (.ref l), some (.int 0), none] (upd H l (.lst []))
  refine ⟨rs, r, k, hok, hlen, hpa.same e1, rfl, hb.same e1, fun H1 e2 => ?_⟩
  refine ⟨fun m σ H1 => ∃ (i : Nat) (k' : Ctl) (ds : List Dd) (c : Addr), fuelK k' i ≤ m ∧ i ≤ 6 ∧ ds.length + m = fuelK k 0 ∧ worked rs r k = work rs r m i k' ds ∧ Same H H1 ∧ H1 l = some (.lst (ds.map fun d => .str d.t)) ∧ CtlAt K H1 c k' ∧ k'.now + k'.nxt ≤ 100 ∧ σ = [some (.ref a), some (.int r), some (.ref c), some (.ref l), some (.int i), some (ddV (deedOf rs r k'))], ⟨_, 0, k, [], b, Nat.le_refl _, by decide, Nat.zero_add _, rfl, e1.trans e2, e2 _ _ upd_same, hb.same (e1.trans e2), hsum, rfl⟩, ?_⟩
  rintro m σ H2 ⟨i, k', ds, c, hm, hi, hlm, hwk, e3, hl2, hc, hs', rfl⟩
  have hb0 := fuel_bound hsum
  obtain ⟨f, rfl⟩ : ∃ f, m = f + 1 := ⟨m - 1, by unfold fuelK at hm; omega⟩
  have fin : worked rs r k = some (k', ds) → tRet (tTup (tCons (fV 2) (tCons (tCB (fTupOfL K) (tCons (fV 3) tNil)) tNil))) { nx := fun _ H' => Q .non H', rt := Q } [some (.ref a), some (.int r), some (.ref c), some (.ref l), some (.int i), some (ddV (deedOf rs r k'))] H2 := fun hz => by
    refine ⟨_, SqL.of hl2, fun q hq => ?_⟩
    have e4 := Same.upd (o := .tup (ds.map fun d => V.str d.t)) hq
    refine ⟨by show 2 ≤ sizeLine; decide, fun u hu => ?_⟩
    have e5 := Same.upd (o := .tup [.ref c, .ref q]) hu
    exact hQs _ _ hz u c q _ ((e3.trans e4).trans e5) (SqT.of upd_same) (hc.same (e4.trans e5)) (sameT e5 (SqT.of upd_same))
  cases hde : deedOf rs r k' with
  | none =>
    rw [hde] at fin
    refine fin ?_
    rw [hwk]
    simp [work, hde]
  | some d =>
    obtain ⟨hda, hcan⟩ := deedOf_can hok hde
    obtain ⟨w1, _⟩ := dd_word d hda
    rw [hde] at fin
    refine ite2 (fun hz => ?_) (fun hz => ?_)
    · have hz : (!decide (V.str d.t = V.str "read")) = true := hz
      have hrd : d ≠ .read := fun q => by
        rw [w1] at hz
        simp [q] at hz
      have hfs := fuel_step hcan hrd hi
      have hstep : worked rs r k = if 6 < idleB d i then none else work rs r f (idleB d i) (behindK k' d) (ds ++ [d]) := by
        rw [hwk]
        cases d <;> first | exact absurd rfl hrd | simp [work, hde]
      have hcs : (inV (.str d.t) [.str "write", .str "close"] = true ∧ idleB d i = 0) ∨ (inV (.str d.t) [.str "write", .str "close"] = false ∧ idleB d i = i + 1) := by
        have := idle_in d hda
        cases d <;> first | exact absurd rfl hrd | exact .inl ⟨this, rfl⟩ | exact .inr ⟨this, rfl⟩
      have hn : d = .write → 0 < k'.now := fun q => by
        subst q
        simpa [Dd.can] using hcan
      have hl0 : H l = none := hl
      refine ⟨_, fun σ' H' hN => ⟨f, Nat.lt_succ_self _, hN⟩, ?_⟩
      refine ⟨.inl ⟨rfl, _, SqL.of hl2⟩, l, _, _, rfl, rfl, hl2, by rw [List.length_map, sizeLine_eq]; omega, ?_⟩
      have e4 : Same H (upd H2 l (.lst (ds.map (fun d => V.str d.t) ++ [V.str d.t]))) := newO hl0 e3
      have hc4 : CtlAt K (upd H2 l (.lst (ds.map (fun d => V.str d.t) ++ [V.str d.t]))) c k' := setL_T hl2 hc
      refine ⟨by show 2 ≤ sizeLine; decide, fun p hp => ?_⟩
      have e5 := Same.upd (o := .tup [.str "write", .str "close"]) hp
      rcases hcs with ⟨hb, hid⟩ | ⟨hb, hid⟩
      · refine ⟨_, .inr (SqT.of upd_same), rfl, rfl, _, hb, ?_⟩
        have hg : ¬ 6 < idleB d i := by omega
        rw [if_neg hg] at hstep
        refine ⟨d, k', hda, rfl, hrd, hn, hc4.same e5, fun c' H6 e6 hc6 => ?_⟩
        have e06 := (e4.trans e5).trans e6
        refine ⟨rs, r, behindK k' d, hok, hlen, hpa.same e06, rfl, hc6, fun H7 e7 => ?_⟩
        refine ⟨idleB d i, behindK k' d, ds ++ [d], c', by omega, by omega, by rw [List.length_append, List.length_singleton]; omega, hstep, e06.trans e7, ?_, hc6.same e7, Nat.le_trans behind_sum hs', ?_⟩
        · rw [List.map_append]
          exact ((e5.trans e6).trans e7) _ _ upd_same
        · rw [hid]
          rfl
      · refine ⟨_, .inr (SqT.of upd_same), rfl, rfl, _, hb, ?_⟩
        refine ite2 (fun hg => ?_) (fun hg => ?_)
        · have hg := of_decide_eq_true hg
          refine hQn ?_ _ (e4.trans e5)
          rw [hstep, if_pos (by omega)]
        · have hg : ¬ 6 < idleB d i := fun z => hg (decide_eq_true (by omega))
          rw [if_neg hg] at hstep
          refine ⟨d, k', hda, rfl, hrd, hn, hc4.same e5, fun c' H6 e6 hc6 => ?_⟩
          have e06 := (e4.trans e5).trans e6
          refine ⟨rs, r, behindK k' d, hok, hlen, hpa.same e06, rfl, hc6, fun H7 e7 => ?_⟩
          refine ⟨idleB d i, behindK k' d, ds ++ [d], c', by omega, by omega, by rw [List.length_append, List.length_singleton]; omega, hstep, e06.trans e7, ?_, hc6.same e7, Nat.le_trans behind_sum hs', ?_⟩
          · rw [List.map_append]
            exact ((e5.trans e6).trans e7) _ _ upd_same
          · rw [hid]
            rfl
    · have hz : ¬ (!decide (V.str d.t = V.str "read")) = true := hz
      have hrd : d = .read := by
        rw [w1] at hz
        simpa using hz
      refine fin ?_
      rw [hwk]
      subst hrd
      simp [work, hde]
theorem b_worked (T : Tx K mg) : Binds K (fdA K (He.fAd K d_worked.at_)) ["parts", "room", "control"] [] := T.F_worked.bindsN fun _ _ _ _ _ _ us hl => match us, hl with | [_, _, _], _ => rfl
theorem ok_worked (T : Tx K mg) : FnOk P w K mg base CX0 3 (He.fAd K d_worked.at_) (fdA K (He.fAd K d_worked.at_)) ["parts", "room", "control"] (sp_worked K) :=
  T.F_worked.ok sc_worked (fun _ _ _ _ h => on3_len h) (fun cdv A outer s H vs Q E hr h => ⟨t_worked K, PSs.nox ((pss_cons (ps_par (by rfl) sc_worked.nd rfl rfl (by decide) rfl rfl (pa_cons (pe_lst pa_nil) (pa_cons pe_int pa_nil)) (by rfl))
      (pss_cons (ps_set (i := 5) sc_worked.nd rfl (.inl rfl) (pe_call (ok_deed_of T) (hr.mono (by decide)) (by rfl) T.g_deed_of T.F_deed_of.kp (b_deed_of T) .nil pass0 (pa_cons (vv 0) (pa_cons (vv 1) (pa_cons (vv 2) pa_nil)))))
      (pss_cons (ps_while PassesOwn.never (PW.pt (pw_and (t_cmp o_notN (vv 5) pe_non (nomark _)) (pw_and1 (t_cmp o_ne (vv 5) pe_str (nomark _)))))
      (pss_cons (ps_expr (pe_bm PySem.F.plainAttrs_list PySem.F.slot_list_append PySem.F.type_list_append mt_append (vv 3) (pa_cons (vv 5) pa_nil)))
      (pss_cons (ps_set (i := 4) sc_worked.nd rfl (.inl rfl) (pe_ifExp (t_cmp o_inS (vv 5) (pe_tup (pa_cons pe_str (pa_cons pe_str pa_nil))) (by rfl)) pe_int (pe_op o_add (vv 4) pe_int)))
      (pss_cons (ps_if (t_cmp o_gt (vv 4) (pe_glob (by rfl) (T.i_MOST_IDLE).choose_spec ⟨_, rfl⟩) (nomark _))
      (pss_one (ps_ret pe_non)) pss_nil)
      (pss_cons (ps_set (i := 2) sc_worked.nd rfl (.inl rfl) (pe_call (ok_behind T) (hr.mono (by decide)) (by rfl) T.g_behind T.F_behind.kp (b_behind T) .nil pass0 (pa_cons (vv 2) (pa_cons (vv 5) pa_nil))))
      (pss_one (ps_set (i := 5) sc_worked.nd rfl (.inl rfl) (pe_call (ok_deed_of T) (hr.mono (by decide)) (by rfl) T.g_deed_of T.F_deed_of.kp (b_deed_of T) .nil pass0 (pa_cons (vv 0) (pa_cons (vv 1) (pa_cons (vv 2) pa_nil)))))))))))
      (pss_one (ps_ret (pe_tup (pa_cons (vv 2) (pa_cons (pe_callTy c_tupL (by rfl) T.b_tuple boot_tuple (pa_cons (vv 3) pa_nil)) pa_nil))))))))), pure_worked T vs H Q E h⟩)
/-! ### endless: plain -/
def firstK : Ctl := ⟨0, 0, true, false, true, 0⟩
inductive Rch (rs : List Rl) (r : Nat) (dr : Bool) : Ctl → Prop where
  | first : Rch rs r dr firstK
  | step {k k' : Ctl} {ds : List Dd} {p : Str × Ctl} (h : Rch rs r dr k) (hw : worked rs r k = some (k', ds)) (hp : p ∈ readsK k' dr) : Rch rs r dr p.2
def Bad (rs : List Rl) (r : Nat) (k : Ctl) : Prop := worked rs r k = none ∨ ∃ k' ds, worked rs r k = some (k', ds) ∧ worked rs r (atEndK k') = none
def Endless (rs : List Rl) (r : Nat) (dr : Bool) : Prop := ∃ k, Rch rs r dr k ∧ Bad rs r k
/-- what holds of all controls that come up -/
structure Fine (r : Nat) (k : Ctl) : Prop where
  fr : k.fresh = true → k.nxt = 0
  en : k.ended = false
  sm : k.now + k.nxt ≤ r
  md : k.mode ≤ 2
theorem fine_first {r : Nat} : Fine r firstK := ⟨fun _ => rfl, rfl, Nat.zero_le _, by decide⟩
theorem mode_le : ∀ d ∈ allD, (match d with | .mode m => m | _ => 0) ≤ 2 := by decide +kernel
theorem fine_behind {r : Nat} {k : Ctl} {d : Dd} (h : Fine r k) (hd : d ∈ allD) : Fine r (behindK k d) := by
  obtain ⟨a, b, c, e⟩ := h
  have hm := mode_le d hd
  cases d with
  | read => exact ⟨a, b, c, e⟩
  | write => exact ⟨fun z => by simp [behindK] at z, b, by simp [behindK]; omega, e⟩
  | close => exact ⟨fun z => rfl, b, by simp [behindK]; omega, e⟩
  | turn => exact ⟨a, b, c, e⟩
  | mode m => exact ⟨a, b, c, hm⟩
theorem work_ends {rs : List Rl} {r : Nat} (ho : ∀ q ∈ rs, q.Ok) {R : Ctl → Prop} (hR : ∀ k d, R k → d ∈ allD → d.can r k = true → d ≠ .read → R (behindK k d)) : ∀ {f i : Nat} {k k' : Ctl} {ds ds' : List Dd}, R k → work rs r f i k ds = some (k', ds') → R k' ∧ (deedOf rs r k' = none ∨ deedOf rs r k' = some .read)
  | 0, _, _, _, _, _, _, h => by cases h
  | f + 1, i, k, k', ds, ds', hf, h => by
    unfold work at h
    cases hd : deedOf rs r k with
    | none =>
      rw [hd] at h
      cases h
      exact ⟨hf, .inl hd⟩
    | some d =>
      rw [hd] at h
      by_cases hrd : d = .read
      · subst hrd
        cases h
        exact ⟨hf, .inr hd⟩
      obtain ⟨hda, hc⟩ := deedOf_can ho hd
      have h2 : (if 6 < idleB d i then none else work rs r f (idleB d i) (behindK k d) (ds ++ [d])) = some (k', ds') := by
        cases d <;> first | exact absurd rfl hrd | exact h
      split at h2
      · cases h2
      · exact work_ends ho hR (hR k d hf hda hc hrd) h2
theorem deedOf_none {r : Nat} {k : Ctl} : ∀ {rs : List Rl}, deedOf rs r k = none → firstCan r k [.write, .close, .read] = none
  | [], h => h
  | q :: rs, h => by
    unfold deedOf at h
    split at h
    · cases h
    · exact deedOf_none h
theorem fine_worked {rs : List Rl} {r : Nat} {k k' : Ctl} {ds : List Dd} (ho : ∀ q ∈ rs, q.Ok) (hr : 1 ≤ r) (hf : Fine r k) (hw : worked rs r k = some (k', ds)) : Fine r k' ∧ k'.now + k'.nxt < r ∧ deedOf rs r k' = some .read := by
  obtain ⟨h1, h2⟩ := work_ends ho (R := Fine r) (fun k d a b _ _ => fine_behind a b) hf hw
  rcases h2 with h2 | h2
  · have h3 := deedOf_none h2
    simp only [firstCan] at h3
    split at h3
    · cases h3
    rename_i n1
    split at h3
    · cases h3
    rename_i n2
    split at h3
    · cases h3
    rename_i n3
    have hfr : k'.fresh = true := by simpa [Dd.can] using n2
    have hx := h1.fr hfr
    have he := h1.en
    simp [Dd.can, he, hx] at n1 n3
    omega
  · refine ⟨h1, ?_, h2⟩
    have := (deedOf_can ho h2).2
    simp [Dd.can] at this
    exact this.1
theorem fine_reads {r : Nat} {k : Ctl} {dr : Bool} {p : Str × Ctl} (h : Fine r k) (hl : k.now + k.nxt < r) (hp : p ∈ readsK k dr) : Fine r p.2 := by
  obtain ⟨a, b, c, e⟩ := h
  unfold readsK at hp
  rcases List.mem_cons.mp hp with rfl | hp
  · exact ⟨a, b, by show k.now + 1 + k.nxt ≤ r; omega, e⟩
  rcases List.mem_append.mp hp with hp | hp
  · split at hp
    · cases hp
    · rename_i hf
      cases List.mem_singleton.mp hp
      exact ⟨fun z => absurd z hf, b, by show k.now + (k.nxt + 1) ≤ r; omega, e⟩
  · split at hp
    · cases List.mem_singleton.mp hp
      exact ⟨a, b, c, e⟩
    · cases hp
theorem fine_rch {rs : List Rl} {r : Nat} {dr : Bool} (ho : ∀ q ∈ rs, q.Ok) (hr : 1 ≤ r) {k : Ctl} (h : Rch rs r dr k) : Fine r k := by
  induction h with
  | first => exact fine_first
  | step _ hw hp ih =>
    obtain ⟨a, b, _⟩ := fine_worked ho hr ih hw
    exact fine_reads a b hp
def allK (r : Nat) : List Ctl := (List.range (r + 1)).flatMap fun a => (List.range (r + 1)).flatMap fun b => [true, false].flatMap fun f => [true, false].flatMap fun u => (List.range 3).map fun m => ⟨a, b, f, false, u, m⟩
theorem allK_len {r : Nat} (h : r ≤ 4) : (allK r).length ≤ 300 := by
  have : r = 0 ∨ r = 1 ∨ r = 2 ∨ r = 3 ∨ r = 4 := by omega
  rcases this with rfl | rfl | rfl | rfl | rfl <;> decide +kernel
theorem fine_mem {r : Nat} {k : Ctl} (h : Fine r k) : k ∈ allK r := by
  obtain ⟨a, b, f, e, u, m⟩ := k
  obtain ⟨h1, h2, h3, h4⟩ := h
  simp at h1 h2 h3 h4
  unfold allK
  simp only [List.mem_flatMap, List.mem_map, List.mem_range]
  exact ⟨a, by omega, b, by omega, f, by cases f <;> simp, u, by cases u <;> simp, m, by omega, by rw [h2]⟩
def unseen (r : Nat) (seen : List Ctl) : Nat := ((allK r).filter fun k => decide (k ∉ seen)).length
theorem unseen_mono {seen : List Ctl} {k : Ctl} : ∀ l : List Ctl, (l.filter fun x => decide (x ∉ seen ++ [k])).length ≤ (l.filter fun x => decide (x ∉ seen)).length
  | [] => Nat.le_refl _
  | x :: t => by
    have ih := unseen_mono (seen := seen) (k := k) t
    by_cases h1 : x ∈ seen
    · simp [List.filter_cons, h1] at ih ⊢
      exact ih
    · by_cases h2 : x = k
      · simp [List.filter_cons, h1, h2] at ih ⊢
        subst h2
        simp [h1]
        omega
      · simp [List.filter_cons, h1, h2] at ih ⊢
        omega
theorem unseen_step {seen : List Ctl} {k : Ctl} (hn : k ∉ seen) : ∀ {l : List Ctl}, k ∈ l → (l.filter fun x => decide (x ∉ seen ++ [k])).length + 1 ≤ (l.filter fun x => decide (x ∉ seen)).length
  | [], h => by cases h
  | x :: t, h => by
    by_cases h2 : x = k
    · subst h2
      have := unseen_mono (seen := seen) (k := x) t
      simp [List.filter_cons, hn] at this ⊢
      omega
    · have ht : k ∈ t := by
        rcases List.mem_cons.mp h with h | h
        · exact absurd h.symm h2
        · exact h
      have ih := unseen_step hn ht
      by_cases h1 : x ∈ seen
      · simp [List.filter_cons, h1] at ih ⊢
        exact ih
      · simp [List.filter_cons, h1, h2] at ih ⊢
        omega
def b2i (b : Bool) : Int := if b = true then 1 else 0
def ctlKey (k : Ctl) : List Int := [k.now, k.nxt, b2i k.fresh, b2i k.ended, b2i k.up, k.mode]
theorem b2i_inj {a b : Bool} (h : b2i a = b2i b) : a = b := by cases a <;> cases b <;> first | rfl | exact absurd h (by decide)
theorem ctlKey_inj {a b : Ctl} (h : ctlKey a = ctlKey b) : a = b := by
  obtain ⟨a1, a2, a3, a4, a5, a6⟩ := a
  obtain ⟨b1, b2, b3, b4, b5, b6⟩ := b
  simp [ctlKey] at h
  obtain ⟨h1, h2, h3, h4, h5, h6⟩ := h
  rw [Int.ofNat.inj h1, Int.ofNat.inj h2, Int.ofNat.inj h6, b2i_inj h3, b2i_inj h4, b2i_inj h5]
theorem ctlKey_mem {k : Ctl} {l : List Ctl} : ctlKey k ∈ l.map ctlKey ↔ k ∈ l := by
  constructor
  · intro h
    obtain ⟨x, hx, e⟩ := List.mem_map.mp h
    rw [← ctlKey_inj e]
    exact hx
  · exact List.mem_map_of_mem
theorem CtlAt.key {H : Hp} {a : Addr} {k : Ctl} (h : CtlAt K H a k) : KeyT K H (ctlKey k) a := by
  refine ⟨_, h, ?_⟩
  obtain ⟨k1, k2, k3, k4, k5, k6⟩ := k
  cases k3 <;> cases k4 <;> cases k5 <;> rfl
/-- what the walk keeps -/
structure Walk (rs : List Rl) (r : Nat) (dr : Bool) (seen wk : List Ctl) : Prop where
  rch : ∀ k ∈ seen, Rch rs r dr k
  fst : firstK ∈ seen
  sub : ∀ k ∈ wk, k ∈ seen
  cl : ∀ k ∈ seen, k ∉ wk → ¬ Bad rs r k ∧ ∀ k' ds, worked rs r k = some (k', ds) → ∀ p ∈ readsK k' dr, p.2 ∈ seen
theorem Walk.ends {rs : List Rl} {r : Nat} {dr : Bool} {seen : List Ctl} (h : Walk rs r dr seen []) : ¬ Endless rs r dr := by
  rintro ⟨k, hk, hb⟩
  have : ∀ k, Rch rs r dr k → k ∈ seen := fun k hk => by
    induction hk with
    | first => exact h.fst
    | step _ hw hp ih => exact (h.cl _ ih (by simp)).2 _ _ hw _ hp
  exact (h.cl k (this k hk) (by simp)).1 hb
def sp_is_endless (K : PySem.W.Frag) : L2.Sp := fun vs H Q _ => on3 vs fun y x z => onInt y fun n => onRef x fun a => ∃ (rs : List Rl) (r : Nat) (dr : Bool), z = .bl dr ∧ (∀ q ∈ rs, q.Ok) ∧ rs.length ≤ 12 ∧ PartsAt K H a rs ∧ n = r ∧ 1 ≤ r ∧ r ≤ 4 ∧ ∀ b : Bool, (b = true ↔ Endless rs r dr) → ∀ H', Same H H' → Q (.bl b) H'
abbrev N_is_endless : List Str := ["room", "parts", "drops", "seen", "waiting", "found", "word", "control"]
theorem sc_is_endless : FnScope N_is_endless ["room", "parts", "drops"] (defScope s_is_endless) := ⟨rfl, rfl, rfl, by decide +kernel, rfl, by decide +kernel, by decide +kernel⟩
def t_is_endless (K : PySem.W.Frag) : TS :=
    tSeq (tPar 3 4 (tCons (tDispC K (tC (.ref (He.ga K "FIRST"))) (tC (.bl true))) (tCons (tLst (tCons (tC (.ref (He.ga K "FIRST"))) tNil)) tNil)))
    (tSeq (tWhile (fT (tOp fGt (tCB (fLen K) (tCons (fV 4) tNil)) (tC (.int 0))))
    (tSeq (tAsg (tCall (sp_worked K) [] E0 (tCons (fV 1) (tCons (fV 0) (tCons (tBM0 K "list" rPop (fV 4)) tNil)))) (gName 5))
    (tSeq (tIfS (tOr (fT (tOp fIsN (fV 5) (tC .non))) (fT (tOp fIsN (tCall (sp_worked K) [] E0 (tCons (fV 1) (tCons (fV 0) (tCons (tCall (sp_at_end K) [] E0 (tCons (tOp (fIxT K) (fV 5) (tC (.int 0))) tNil)) tNil)))) (tC .non))))
    (tRet (tC (.bl true))) tNext)
    (tFor (iList K (tCall (sp_reads K) [] E0 (tCons (tOp (fIxT K) (fV 5) (tC (.int 0))) (tCons (fV 2) tNil)))) (gTup K 2 (gCons (gName 6) (gCons (gName 7) gNil)))
    (tIfS (fT (tOp (fInC K true) (fV 7) (fV 3)))
    (tSeq (tAsg (tC (.bl true)) (gSub (fV 3) (fV 7) (fSetC K)))
    (tDrop (tBM K "list" rAppend (fV 4) (tCons (fV 7) tNil)))) tNext)))))
    (tRet (tC (.bl false))))
abbrev Pure_is_endless (K : PySem.W.Frag) : Prop := ∀ (vs : List V) (H : Hp) (Q : VK) (E : XK), sp_is_endless K vs H Q E → t_is_endless K { nx := fun _ H' => Q .non H', rt := Q } (L2.start N_is_endless vs) H
theorem setL_CD {H : Hp} {l S : Addr} {xs zs : List V} {ks : List (List Int)} (hl : H l = some (.lst xs)) (h : CDict K H S ks) : CDict K (upd H l (.lst zs)) S ks := by
  obtain ⟨ys, h1, h2, h3, h4, h5⟩ := h
  refine ⟨ys, ?_, fun x hx => ?_, h3, h4, h5⟩
  · rw [upd_ne (ne_of h1 hl (fun z => by cases z))]
    exact h1
  · obtain ⟨vs, a, b⟩ := h2 x hx
    exact ⟨vs, setL_T hl a, b⟩
theorem setC_T {H H' : Hp} {S b : Addr} {ks : List (List Int)} {ys : List V} (h : CDict K H S ks) (e : ∀ b u, b ≠ S → H b = some u → H' b = some u) (hb : SqT K H b ys) : SqT K H' b ys := by
  obtain ⟨xs, h1, _⟩ := h
  rcases hb with (hb | ⟨ob, hb⟩) | hb
  · exact .inl (.inl (e _ _ (ne_of hb h1 (fun z => by cases z)) hb))
  · exact .inl (.inr ⟨ob, e _ _ (ne_of hb h1 (fun z => by cases z)) hb⟩)
  · exact .inr hb
theorem Each.last {α : Type} {R : Addr → α → Prop} : ∀ {as : List Addr} {xs : List α}, Each R as xs → as ≠ [] → ∃ as' a xs' x, as = as' ++ [a] ∧ xs = xs' ++ [x] ∧ Each R as' xs' ∧ R a x
  | _, _, .nil, h => absurd rfl h
  | [a], _, .cons h .nil, _ => ⟨[], a, [], _, rfl, rfl, .nil, h⟩
  | a :: b :: as, _, .cons h (.cons h' t), _ => by
    obtain ⟨as', c, xs', x, e1, e2, e3, e4⟩ := (Each.cons h' t).last (by simp)
    exact ⟨a :: as', c, _ :: xs', x, by rw [e1]; rfl, by rw [e2]; rfl, .cons h e3, e4⟩
theorem pure_is_endless (T : Tx K mg) : Pure_is_endless K := by
  intro vs H Q E h
  obtain ⟨y, x, z, rfl, h⟩ := on3_ex h
  obtain ⟨n, rfl, h⟩ := onInt_ex h
  obtain ⟨a, rfl, rs, r, dr, rfl, hok, hlen, hpa, rfl, hr1, hr4, hQ⟩ := onRef_ex h
  have hF : ∀ H : Hp, CtlAt K H (He.ga K "FIRST") firstK := fun H => T.t_FIRST H
  intro S hS
  refine ⟨upd_same, ctlKey firstK, (hF _).key, fun H1 e1 _ hC1 => ?_⟩
  have s1 : Same H H1 := fun b o hb => by
    have hne : b ≠ S := ne_of_none hb hS
    exact e1 b o hne (by rw [upd_ne hne]; exact hb)
  refine ⟨by show 1 ≤ sizeLine; decide, fun L hL => ?_⟩
  have hL0 : H L = none := Same.free s1 hL
  have s2 := Same.upd (o := .lst [V.ref (He.ga K "FIRST")]) hL
  refine ⟨_, _, rfl, ?_⟩
  show tSeq _ _ _ [some (.int r), some (.ref a), some (.bl dr), some (.ref S), some (.ref L), none, none, none] (upd H1 L (.lst [V.ref (He.ga K "FIRST")]))
  have hall := allK_len hr4
  have hun0 : 1 + unseen r [firstK] ≤ 301 := by
    have : unseen r [firstK] ≤ (allK r).length := List.length_filter_le _ _
    omega
  refine ⟨fun m σ H1 => ∃ (seen wk : List Ctl) (ws : List Addr) (o5 o6 o7 : Option V), Walk rs r dr seen wk ∧ m = 2 * unseen r seen + wk.length ∧ 2 * unseen r seen + wk.length ≤ 1000 ∧ seen.length + unseen r seen ≤ 301 ∧ Same H H1 ∧ CDict K H1 S (seen.map ctlKey) ∧ H1 L = some (.lst (ws.map V.ref)) ∧ Each (CtlAt K H1) ws wk ∧ σ = [some (.int r), some (.ref a), some (.bl dr), some (.ref S), some (.ref L), o5, o6, o7],
    ⟨_, [firstK], [firstK], [He.ga K "FIRST"], none, none, none, ⟨fun k hk => by rw [List.mem_singleton.mp hk]; exact .first, List.mem_singleton.mpr rfl, fun k hk => hk, fun k hk hn => absurd hk hn⟩, rfl, by rw [List.length_singleton]; omega, hun0, s1.trans s2, hC1.same s2, upd_same, .cons (hF _) .nil, rfl⟩, ?_⟩
  rintro m σ H2 ⟨seen, wk, ws, o5, o6, o7, hW, rfl, hmb, hsz, e2, hC2, hL2, hE2, rfl⟩
  refine ⟨_, .inl (SqL.of hL2), ?_⟩
  refine ite2 (fun hg => ?_) (fun hg => ?_)
  · have hg := of_decide_eq_true hg
    rw [List.length_map] at hg
    obtain ⟨ws', c0, wk', k0, rfl, rfl, hE', hc0⟩ := hE2.last (fun z => by rw [z] at hg; simp at hg)
    have hk0 : k0 ∈ seen := hW.sub k0 (by simp)
    rw [List.length_append, List.length_singleton] at hmb
    have hf0 := fine_rch hok hr1 (hW.rch k0 hk0)
    refine ⟨_, fun σ' H' hN => hN, ?_⟩
    refine ⟨.inl ⟨rfl, _, SqL.of hL2⟩, L, _, .ref c0, rfl, rfl, hL2, by simp, ?_⟩
    have ed : ((ws' ++ [c0]).map V.ref).dropLast = ws'.map V.ref := by simp
    rw [ed]
    have e3 : Same H (upd H2 L (.lst (ws'.map V.ref))) := newO hL0 e2
    have hC3 := setL_CD (zs := ws'.map V.ref) hL2 hC2
    have hE3 := hE'.imp (S := CtlAt K (upd H2 L (.lst (ws'.map V.ref)))) fun _ _ z => setL_T hL2 z
    have hc3 : CtlAt K (upd H2 L (.lst (ws'.map V.ref))) c0 k0 := setL_T hL2 hc0
    have hL3 : (upd H2 L (.lst (ws'.map V.ref))) L = some (.lst (ws'.map V.ref)) := upd_same
    generalize upd H2 L (.lst (ws'.map V.ref)) = H3 at e3 hC3 hE3 hc3 hL3 ⊢
    refine ⟨rs, r, k0, hok, hlen, hpa.same e3, rfl, hc3, by have := hf0.sm; omega, fun hw H4 e4 => ?_, fun k1 ds hw p c1 t H4 e4 hp4 hc4 ht4 => ?_⟩
    · exact hQ true ⟨fun _ => ⟨k0, hW.rch k0 hk0, .inl hw⟩, fun _ => rfl⟩ _ (e3.trans e4)
    obtain ⟨hf1, hlt1, _⟩ := fine_worked hok hr1 hf0 hw
    have e34 := e3.trans e4
    refine ⟨_, hp4, _, rfl, ?_⟩
    refine ⟨k1, hc4, fun a2 H5 e5 ha2 => ?_⟩
    have e35 := e34.trans e5
    refine ⟨rs, r, atEndK k1, hok, hlen, hpa.same e35, rfl, ha2, by have := hf1.sm; show k1.now + k1.nxt ≤ 100; omega, fun hw2 H6 e6 => ?_, fun k2 ds2 hw2 p2 c2 t2 H6 e6 hp6 hc6 ht6 => ?_⟩
    · exact hQ true ⟨fun _ => ⟨k0, hW.rch k0 hk0, .inr ⟨k1, ds, hw, hw2⟩⟩, fun _ => rfl⟩ _ (e35.trans e6)
    have e46 : Same H4 H6 := e5.trans e6
    have e06 : Same H H6 := e34.trans e46
    refine ⟨_, sameT e46 hp4, _, rfl, ?_⟩
    refine ⟨k1, dr, rfl, hc4.same e46, fun l as H7 e7 hl hl7 hE7 => ?_⟩
    have e37 : Same H3 H7 := (e4.trans e46).trans e7
    have hlL : l ≠ L := fun z => by
      rw [z, (e4.trans e46) _ _ hL3] at hl
      cases hl
    refine ⟨l, rfl, ⟨_, SqL.of hl7⟩, ?_⟩
    have hnb : ¬ Bad rs r k0 := by
      rintro (z | ⟨k', ds', z1, z2⟩)
      · rw [z] at hw
        cases hw
      · rw [hw] at z1
        cases z1
        rw [hw2] at z2
        cases z2
    refine for_list (K := K) (a := l) (xs := as.map V.ref) (fun i σ H8 => ∃ (seen2 wk2 : List Ctl) (ws2 : List Addr) (o6 o7 : Option V), (∀ k ∈ seen, k ∈ seen2) ∧ (∀ k ∈ seen2, Rch rs r dr k) ∧ (∀ k ∈ wk2, k ∈ seen2) ∧ (∀ k ∈ wk', k ∈ wk2) ∧ (∀ k ∈ seen2, k ∉ wk2 → k ∈ seen) ∧ (∀ p ∈ (readsK k1 dr).take i, p.2 ∈ seen2) ∧
        2 * unseen r seen2 + wk2.length ≤ 2 * unseen r seen + wk'.length ∧ seen2.length + unseen r seen2 ≤ 301 ∧ Same H H8 ∧ H8 l = some (.lst (as.map V.ref)) ∧ Each (PairAt K H8) as (readsK k1 dr) ∧ CDict K H8 S (seen2.map ctlKey) ∧ H8 L = some (.lst (ws2.map V.ref)) ∧ Each (CtlAt K H8) ws2 wk2 ∧
        σ = [some (.int r), some (.ref a), some (.bl dr), some (.ref S), some (.ref L), some (.ref p), o6, o7])
      ⟨seen, wk', ws', _, _, fun k h => h, hW.rch, fun k h => hW.sub k (List.mem_append_left _ h), fun k h => h, fun k h _ => h, fun p h => by simp at h, Nat.le_refl _, hsz, e06.trans e7, hl7, hE7, hC3.same e37, e37 _ _ hL3, hE3.imp fun _ _ z => z.same e37, rfl⟩
      (fun i σ H8 _ hp => by obtain ⟨_, _, _, _, _, _, _, _, _, _, _, _, _, _, h, _⟩ := hp; exact SqL.of h) (fun i x σ H8 hx hp => ?_) (fun σ H8 hp => ?_)
    · obtain ⟨seen2, wk2, ws2, o6, o7, q1, q2, q3, q4, q5, q6, q7, q8, q9, q10, q11, q12, q13, q14, rfl⟩ := hp
      rw [List.getElem?_map] at hx
      obtain ⟨x', hx', rfl⟩ := Option.map_eq_some_iff.mp hx
      obtain ⟨q, hq, c7, hs7, hc7⟩ := q11.get hx'
      have hqm : q ∈ readsK k1 dr := List.mem_of_getElem? hq
      have hrq : Rch rs r dr q.2 := .step (hW.rch k0 hk0) hw hqm
      have htake : (readsK k1 dr).take (i + 1) = (readsK k1 dr).take i ++ [q] := by rw [List.take_add_one, hq]; rfl
      refine ⟨x', _, rfl, hs7, rfl, _, _, rfl, _, _, rfl, rfl, ?_⟩
      show tIfS _ _ _ _ [some (.int r), some (.ref a), some (.bl dr), some (.ref S), some (.ref L), some (.ref p), some (.str q.1), some (.ref c7)] H8
      refine ⟨ctlKey q.2, _, hc7.key, q12, fun b hb => ?_⟩
      rw [ctlKey_mem] at hb
      cases b with
      | true =>
        refine ⟨seen2, wk2, ws2, _, _, q1, q2, q3, q4, q5, fun z hz => ?_, q7, q8, q9, q10, q11, q12, q13, q14, rfl⟩
        rw [htake] at hz
        rcases List.mem_append.mp hz with hz | hz
        · exact q6 z hz
        · rw [List.mem_singleton.mp hz]
          exact hb.mp rfl
      | false =>
        have hni : q.2 ∉ seen2 := fun z => by cases hb.mpr z
        refine ⟨ctlKey q.2, _, hc7.key, q12, fun z => hni (ctlKey_mem.mp z), by rw [List.length_map]; omega, fun H9 e9 n9 hC9 => ?_⟩
        have hLS : L ≠ S := by
          obtain ⟨xs, z, _⟩ := q12
          exact ne_of q13 z (fun z => by cases z)
        have hlS : l ≠ S := by
          obtain ⟨xs, z, _⟩ := q12
          exact ne_of q10 z (fun z => by cases z)
        have hL9 := e9 L _ hLS q13
        refine ⟨.inl ⟨rfl, _, SqL.of hL9⟩, L, _, _, rfl, rfl, hL9, ?_, ?_⟩
        · rw [List.length_map, q14.length, sizeLine_eq]
          omega
        have f9 : Same H H9 := fun b o hb => e9 b o (ne_of_none hb hS) (q9 b o hb)
        have tT : ∀ {b : Addr} {ys : List V}, SqT K H8 b ys → SqT K (upd H9 L (.lst (ws2.map V.ref ++ [V.ref c7]))) b ys := fun hb => setL_T hL9 (setC_T q12 e9 hb)
        have tP : ∀ {b : Addr} {q : Str × Ctl}, PairAt K H8 b q → PairAt K (upd H9 L (.lst (ws2.map V.ref ++ [V.ref c7]))) b q := fun ⟨c, z1, z2⟩ => ⟨c, tT z1, tT z2⟩
        have hus := unseen_step hni (fine_mem (fine_rch hok hr1 hrq))
        have hus : unseen r (seen2 ++ [q.2]) + 1 ≤ unseen r seen2 := hus
        refine ⟨seen2 ++ [q.2], wk2 ++ [q.2], ws2 ++ [c7], _, _, fun k h => List.mem_append_left _ (q1 k h), fun k h => ?_, fun k h => ?_, fun k h => List.mem_append_left _ (q4 k h), fun k h hn => ?_, fun z hz => ?_, ?_, ?_, newO hL0 f9, ?_, q11.imp fun _ _ z => tP z, ?_, ?_, ?_, rfl⟩
        · rcases List.mem_append.mp h with h | h
          · exact q2 k h
          · rw [List.mem_singleton.mp h]
            exact hrq
        · rcases List.mem_append.mp h with h | h
          · exact List.mem_append_left _ (q3 k h)
          · exact List.mem_append_right _ h
        · rcases List.mem_append.mp h with h | h
          · exact q5 k h fun z => hn (List.mem_append_left _ z)
          · exact absurd (List.mem_append_right _ h) hn
        · rw [htake] at hz
          rcases List.mem_append.mp hz with hz | hz
          · exact List.mem_append_left _ (q6 z hz)
          · rw [List.mem_singleton.mp hz]
            exact List.mem_append_right _ (List.mem_singleton.mpr rfl)
        · rw [List.length_append, List.length_singleton]
          omega
        · rw [List.length_append, List.length_singleton]
          omega
        · rw [upd_ne hlL]
          exact e9 l _ hlS q10
        · rw [List.map_append]
          exact setL_CD hL9 hC9
        · rw [List.map_append]
          exact upd_same
        · exact Each.snoc (R := CtlAt K _) (tT hc7) (q14.imp fun _ _ z => tT z)
    · obtain ⟨seen2, wk2, ws2, o6, o7, q1, q2, q3, q4, q5, q6, q7, q8, q9, q10, q11, q12, q13, q14, rfl⟩ := hp
      rw [List.length_map, q11.length, List.take_length] at q6
      refine ⟨_, ?_, seen2, wk2, ws2, _, _, _, ⟨q2, q1 _ hW.fst, q3, fun k h hn => ?_⟩, rfl, by omega, q8, q9, q12, q13, q14, rfl⟩
      · rw [List.length_append, List.length_singleton]
        omega
      · have hks := q5 k h hn
        by_cases hk : k = k0
        · subst hk
          refine ⟨hnb, fun k' ds' hw' p hp => ?_⟩
          rw [hw] at hw'
          cases hw'
          exact q6 p hp
        · have hn' : k ∉ wk' ++ [k0] := fun z => by
            rcases List.mem_append.mp z with z | z
            · exact hn (q4 k z)
            · exact hk (List.mem_singleton.mp z)
          obtain ⟨z1, z2⟩ := hW.cl k hks hn'
          exact ⟨z1, fun k' ds' hw' p hp => q1 _ (z2 k' ds' hw' p hp)⟩
  · have hg : ¬ 0 < ws.length := fun z => hg (decide_eq_true (by rw [List.length_map]; omega))
    have hwk : wk = [] := by
      have := hE2.length
      cases wk with
      | nil => rfl
      | cons _ _ => simp at this; omega
    subst hwk
    exact hQ false ⟨fun z => (by cases z), fun z => absurd z hW.ends⟩ _ e2
theorem b_is_endless (T : Tx K mg) : Binds K (fdA K (He.fAd K d_is_endless.at_)) ["room", "parts", "drops"] [] := T.F_is_endless.bindsN fun _ _ _ _ _ _ us hl => match us, hl with | [_, _, _], _ => rfl
theorem ok_is_endless (T : Tx K mg) : FnOk P w K mg base CX0 4 (He.fAd K d_is_endless.at_) (fdA K (He.fAd K d_is_endless.at_)) ["room", "parts", "drops"] (sp_is_endless K) :=
  T.F_is_endless.ok sc_is_endless (fun _ _ _ _ h => on3_len h) (fun cdv A outer s H vs Q E hr h => ⟨t_is_endless K, PSs.nox ((pss_cons (ps_par (by rfl) sc_is_endless.nd rfl rfl (by decide) rfl rfl (pa_cons (e_dispC (pe_glob (by rfl) T.g_FIRST rfl) pe_bl hr.units) (pa_cons (pe_lst (pa_cons (pe_glob (by rfl) T.g_FIRST rfl) pa_nil)) pa_nil)) (by rfl))
      (pss_cons (ps_while PassesOwn.never (t_cmp o_gt (pe_callB c_len (by rfl) T.b_len boot_len (pa_cons (vv 4) pa_nil)) pe_int (nomark _))
      (pss_cons (ps_set (i := 5) sc_is_endless.nd rfl (.inl rfl) (pe_call (ok_worked T) (hr.mono (by decide)) (by rfl) T.g_worked T.F_worked.kp (b_worked T) .nil pass0 (pa_cons (vv 1) (pa_cons (vv 0) (pa_cons (pe_bm0 PySem.F.plainAttrs_list PySem.F.slot_list_pop PySem.F.type_list_pop mt_pop (vv 4)) pa_nil)))))
      (pss_cons (ps_if (PW.pt (pw_or (t_cmp o_isN (vv 5) pe_non (nomark _)) (pw_or1 (t_cmp o_isN (pe_call (ok_worked T) (hr.mono (by decide)) (by rfl) T.g_worked T.F_worked.kp (b_worked T) .nil pass0 (pa_cons (vv 1) (pa_cons (vv 0) (pa_cons (pe_call (ok_at_end T) (hr.mono (by decide)) (by rfl) T.g_at_end T.F_at_end.kp (b_at_end T) .nil pass0 (pa_cons (pe_ix x_tup (vv 5) pe_int (fun _ _ => rfl)) pa_nil)) pa_nil)))) pe_non (nomark _)))))
      (pss_one (ps_ret pe_bl)) pss_nil)
      (pss_one (ps_for PassesOwn.never (by rfl) (pi_list (pe_call (ok_reads T) (hr.mono (by decide)) (by rfl) T.g_reads T.F_reads.kp (b_reads T) .nil pass0 (pa_cons (pe_ix x_tup (vv 5) pe_int (fun _ _ => rfl)) (pa_cons (vv 2) pa_nil)))) (pg_tup rfl (pgs_cons (pg_name (i := 6) sc_is_endless.nd rfl (.inl rfl)) (pgs_cons (pg_name (i := 7) sc_is_endless.nd rfl (.inl rfl)) pgs_nil)))
      (pss_one (ps_if (t_cmp (o_notInC hr.units) (vv 7) (vv 3) (by rfl))
      (pss_cons (ps_asg pe_bl (pg_sub (vv 3) (vv 7) (s_cd hr.units)))
      (pss_one (ps_expr (pe_bm PySem.F.plainAttrs_list PySem.F.slot_list_append PySem.F.type_list_append mt_append (vv 4) (pa_cons (vv 7) pa_nil))))) pss_nil)))))))
      (pss_one (ps_ret pe_bl))))), pure_is_endless T vs H Q E h⟩)

end K12
namespace K12
open PySem PySem.Spec PyProof.Rows L2 Sp
variable {P : Program} {w : World} {K : PySem.W.Frag} {mg : Str → Option Value} {base : Heap}
/-! ### makers.py -/
theorem tyx_tup {H : Hp} {l : Addr} {xs : List V} (h : SqT K H l xs) : TyX K H (.ref l) (.type "tuple") := tyx_any h
theorem eqV_str (a b : Str) : eqV (.str a) (.str b) = decide (a = b) := by
  show (a == b) = decide (a = b)
  by_cases h : a = b
  · subst h; simp
  · simp [h]
theorem inV_str {t : Str} {ts : List Str} : inV (.str t) (ts.map V.str) = decide (t ∈ ts) := by
  unfold inV
  rw [List.any_map, Bool.eq_iff_iff, List.any_eq_true]
  constructor
  · rintro ⟨x, hx, e⟩
    rw [Function.comp_apply, eqV_str] at e
    rw [← of_decide_eq_true e]
    exact decide_eq_true hx
  · intro h
    exact ⟨t, of_decide_eq_true h, by rw [Function.comp_apply, eqV_str]; simp⟩
theorem flat_strs (ts : List Str) : (ts.map V.str).all flatV = true := by
  rw [List.all_map, List.all_eq_true]
  exact fun _ _ => rfl
def sp_check_option (K : PySem.W.Frag) : L2.Sp := fun vs H Q _ => on2 vs fun x y => onStr x fun t => onRef y fun a => ∃ ts : List Str, SqT K H a (ts.map V.str) ∧ t ∈ ts ∧ Q .non H
abbrev N_check_option : List Str := ["given", "known"]
theorem sc_check_option : FnScope N_check_option ["given", "known"] (defScope s_check_option) := ⟨rfl, rfl, rfl, by decide +kernel, rfl, by decide +kernel, by decide +kernel⟩
def t_check_option (K : PySem.W.Frag) : TS :=
    tIfS (tOr (tNot (fT (tCB (fIsi K) (tCons (fV 0) (tCons (tC (.ty "str")) tNil))))) (fT (tOp (fIn K true) (fV 0) (fV 1))))
    tNever tNext
abbrev Pure_check_option (K : PySem.W.Frag) : Prop := ∀ (vs : List V) (H : Hp) (Q : VK) (E : XK), sp_check_option K vs H Q E → t_check_option K { nx := fun _ H' => Q .non H', rt := Q } (L2.start N_check_option vs) H
theorem pure_check_option (T : Tx K mg) : Pure_check_option K := by
  intro vs H Q E h
  obtain ⟨x, y, rfl, h⟩ := on2_ex h
  obtain ⟨t, rfl, h⟩ := onStr_ex h
  obtain ⟨a, rfl, ts, h1, h2, hQ⟩ := onRef_ex h
  refine ⟨_, _, true, .ty "str", .base (.str _), kit_ty (by decide +kernel), ?_⟩
  exact ⟨_, .inr h1, rfl, flat_strs ts, true, by rw [inV_str]; exact decide_eq_true h2, hQ⟩
theorem b_check_option (T : Tx K mg) : Binds K (fdA K (He.fAd K d_check_option.at_)) ["given", "known"] [] := T.F_check_option.bindsN fun _ _ _ _ _ _ us hl => match us, hl with | [_, _], _ => rfl
theorem ok_check_option (T : Tx K mg) : FnOk P w K mg base CX0 1 (He.fAd K d_check_option.at_) (fdA K (He.fAd K d_check_option.at_)) ["given", "known"] (sp_check_option K) :=
  T.F_check_option.ok sc_check_option (fun _ _ _ _ h => on2_len h) (fun cdv A outer s H vs Q E hr h => ⟨t_check_option K, PSs.nox ((pss_one (ps_if (PW.pt (pw_or (pt_not (t_val (pe_callB c_isi (by rfl) T.b_isinstance boot_isinstance (pa_cons (vv 0) (pa_cons (pe_bltn (by rfl) T.b_str boot_str rfl) pa_nil))))) (pw_or1 (t_cmp o_notInS (vv 0) (vv 1) (by rfl)))))
      (pss_one ps_never) pss_nil))), pure_check_option T vs H Q E h⟩)
def sp_check_rules (K : PySem.W.Frag) : L2.Sp := fun vs H Q _ => on1 vs fun x => onRef x fun a => ∃ rs : List Rl, SqT K H a (rs.map fun r => .str r.t) ∧ (∀ r ∈ rs, r.Ok) ∧ rs.length ≤ 12 ∧ ∀ H', Same H H' → Q .non H'
abbrev N_check_rules : List Str := ["rules", "index", "text"]
theorem sc_check_rules : FnScope N_check_rules ["rules"] (defScope s_check_rules) := ⟨rfl, rfl, rfl, by decide +kernel, rfl, by decide +kernel, by decide +kernel⟩
def t_check_rules (K : PySem.W.Frag) : TS :=
    tSeq (tIfS (tNot (fT (tCB (fIsi K) (tCons (fV 0) (tCons (tC (.ty "tuple")) tNil)))))
    tNever tNext)
    (tFor (iEnumT K (tCons (fV 0) tNil)) (gTup K 2 (gCons (gName 1) (gCons (gName 2) gNil)))
    (tIfS (tOr (fT (tOp fEq (fV 1) (tC (.int 12)))) (fT (tOp fIsN (tCall (sp_parsed K) [] E0 (tCons (fV 2) tNil)) (tC .non))))
    tNever tNext))
abbrev Pure_check_rules (K : PySem.W.Frag) : Prop := ∀ (vs : List V) (H : Hp) (Q : VK) (E : XK), sp_check_rules K vs H Q E → t_check_rules K { nx := fun _ H' => Q .non H', rt := Q } (L2.start N_check_rules vs) H
theorem pure_check_rules (T : Tx K mg) : Pure_check_rules K := by
  intro vs H Q E h
  obtain ⟨x, rfl, h⟩ := on1_ex h
  obtain ⟨a, rfl, rs, ha, hok, hl, hQ⟩ := onRef_ex h
  refine ⟨_, _, true, .ty "tuple", tyx_tup ha, kit_ty (by decide +kernel), ?_⟩
  refine ⟨⟨_, ha⟩, ?_⟩
  refine for_enumT (K := K) (a := a) (xs := rs.map fun r => .str r.t) (fun i σ H1 => Same H H1 ∧ ∃ o1 o2, σ = [some (.ref a), o1, o2]) ⟨Same.refl _, none, none, rfl⟩ (fun i σ H1 _ hp => sameT hp.1 ha) (fun i x σ H1 T' hx hp hT' => ?_) (fun σ H1 hp => hQ H1 hp.1)
  obtain ⟨s1, o1, o2, rfl⟩ := hp
  have hi : i < rs.length := by
    have := (List.getElem?_eq_some_iff.mp hx).1
    simpa using this
  obtain ⟨r, hr, rfl⟩ : ∃ r ∈ rs, x = .str r.t := by
    obtain ⟨z, hz, rfl⟩ := List.mem_map.mp (List.mem_of_getElem? hx)
    exact ⟨z, hz, rfl⟩
  refine ⟨_, _, rfl, SqT.of upd_same, rfl, _, _, rfl, _, _, rfl, rfl, ?_⟩
  have e2 : decide (V.int (i : Nat) = V.int 12) = false := decide_eq_false (fun z => by injection z with z; omega)
  refine ite2 (fun z => absurd (z.symm.trans e2) (by simp)) (fun _ => ?_)
  exact ⟨r, hok r hr, rfl, fun p H2 e3 hp2 => ⟨(s1.trans (Same.upd hT')).trans e3, _, _, rfl⟩⟩
theorem b_check_rules (T : Tx K mg) : Binds K (fdA K (He.fAd K d_check_rules.at_)) ["rules"] [] := T.F_check_rules.bindsN fun _ _ _ _ _ _ us hl => match us, hl with | [_], _ => rfl
theorem ok_check_rules (T : Tx K mg) : FnOk P w K mg base CX0 3 (He.fAd K d_check_rules.at_) (fdA K (He.fAd K d_check_rules.at_)) ["rules"] (sp_check_rules K) :=
  T.F_check_rules.ok sc_check_rules (fun _ _ _ _ h => on1_len h) (fun cdv A outer s H vs Q E hr h => ⟨t_check_rules K, PSs.nox ((pss_cons (ps_if (pt_not (t_val (pe_callB c_isi (by rfl) T.b_isinstance boot_isinstance (pa_cons (vv 0) (pa_cons (pe_bltn (by rfl) T.b_tuple boot_tuple rfl) pa_nil)))))
      (pss_one ps_never) pss_nil)
      (pss_one (ps_for PassesOwn.never (by rfl) (pi_enumT (by rfl) T.b_enumerate (pa_cons (vv 0) pa_nil)) (pg_tup rfl (pgs_cons (pg_name (i := 1) sc_check_rules.nd rfl (.inl rfl)) (pgs_cons (pg_name (i := 2) sc_check_rules.nd rfl (.inl rfl)) pgs_nil)))
      (pss_one (ps_if (PW.pt (pw_or (t_cmp o_eq (vv 1) (pe_glob (by rfl) (T.i_MOST_RULES).choose_spec ⟨_, rfl⟩) (nomark _)) (pw_or1 (t_cmp o_isN (pe_call (ok_parsed T) (hr.mono (by decide)) (by rfl) T.g_parsed T.F_parsed.kp (b_parsed T) .nil pass0 (pa_cons (vv 2) pa_nil)) pe_non (nomark _)))))
      (pss_one ps_never) pss_nil)))))), pure_check_rules T vs H Q E h⟩)
structure Mkr where
  room : Nat
  rs : List Rl
  ties : Str
  eq : Str
  dbl : Str
def Mkr.drops (m : Mkr) : Bool := decide (V.str m.dbl = V.str "drop")
structure Mkr.Ok (m : Mkr) : Prop where
  r1 : 1 ≤ m.room
  r4 : m.room ≤ 4
  rs : ∀ r ∈ m.rs, r.Ok
  len : m.rs.length ≤ 12
  ties : m.ties ∈ (["early", "late", "kept"] : List Str)
  eq : m.eq ∈ (["fits", "waits", "kept"] : List Str)
  dbl : m.dbl ∈ (["stay", "drop"] : List Str)
  en : ¬ Endless m.rs m.room m.drops
/-- a maker at a -/
def MakerAt (K : PySem.W.Frag) (H : Hp) (a : Addr) (m : Mkr) : Prop := ∃ dx t l p, H a = some (.ins (He.ga K "Maker") dx [("spec", .ref t), ("parts", .ref p), ("drops", .bl m.drops)]) ∧ SqT K H t [.int m.room, .ref l, .str m.ties, .str m.eq, .str m.dbl] ∧ SqT K H l (m.rs.map fun r => .str r.t) ∧ PartsAt K H p m.rs
theorem MakerAt.same {H H' : Hp} {a : Addr} {m : Mkr} (e : Same H H') (h : MakerAt K H a m) : MakerAt K H' a m := by
  obtain ⟨dx, t, l, p, h1, h2, h3, h4⟩ := h
  exact ⟨dx, t, l, p, e _ _ h1, sameT e h2, sameT e h3, h4.same e⟩
theorem kx_parts {x p C dx : Addr} {fs : List (Str × V)} {H H' : Hp} {rs : List Rl} (k : KpX x H H') (hx : H x = some (.ins C dx fs)) (h : PartsAt K H p rs) : PartsAt K H' p rs := by
  obtain ⟨as, h1, h2⟩ := h
  refine ⟨as, k.T hx h1, h2.imp fun _ _ ⟨l, cs, z1, z2, z3⟩ => ⟨l, cs, k.T hx z1, k.T hx z2, z3.imp fun _ _ z => k.T hx z⟩⟩
def sp_Maker_init (K : PySem.W.Frag) : L2.Sp := fun vs H Q _ => on6 vs fun x n r t e d => onRef x fun x => onInt n fun n => onRef r fun l => onStr t fun t => onStr e fun e => onStr d fun d => ∃ (m : Mkr) (dx : Addr), m.Ok ∧ H x = some (.ins (He.ga K "Maker") dx []) ∧ n = m.room ∧ SqT K H l (m.rs.map fun r => .str r.t) ∧ t = m.ties ∧ e = m.eq ∧ d = m.dbl ∧
  ∀ H', KpX x H H' → MakerAt K H' x m → Q .non H'
abbrev N_Maker_init : List Str := ["self", "room", "rules", "ties", "equal", "doubles", "text"]
theorem sc_Maker_init : FnScope N_Maker_init ["self", "room", "rules", "ties", "equal", "doubles"] (defScope s_Maker_init) := ⟨rfl, rfl, rfl, by decide +kernel, rfl, by decide +kernel, by decide +kernel⟩
def t_Maker_init (K : PySem.W.Frag) : TS :=
    tSeq (tDrop (tCall (sp_check_room K) [] E0 (tCons (fV 1) (tCons (tC (.int 4)) tNil))))
    (tSeq (tDrop (tCall (sp_check_rules K) [] E0 (tCons (fV 2) tNil)))
    (tSeq (tDrop (tCall (sp_check_option K) [] E0 (tCons (fV 3) (tCons (tC (.ref (He.ga K "TIES"))) tNil))))
    (tSeq (tDrop (tCall (sp_check_option K) [] E0 (tCons (fV 4) (tCons (tC (.ref (He.ga K "EQUALS"))) tNil))))
    (tSeq (tDrop (tCall (sp_check_option K) [] E0 (tCons (fV 5) (tCons (tC (.ref (He.ga K "DOUBLES"))) tNil))))
    (tSeq (sFld K (fV 0) (tTup (tCons (fV 1) (tCons (fV 2) (tCons (fV 3) (tCons (fV 4) (tCons (fV 5) tNil)))))) "spec")
    (tSeq (sFld K (fV 0) (tCB (fTupOfL K) (tCons (tLc (iTup K (fV 2)) (gName 6) tYes (tCall (sp_parsed K) [] E0 (tCons (fV 6) tNil)) [6]) tNil)) "parts")
    (tSeq (sFld K (fV 0) (tOp fEq (fV 5) (tC (.str "drop"))) "drops")
    (tIfS (fT (tCall (sp_is_endless K) [] E0 (tCons (fV 1) (tCons (tFld K (fV 0) "parts") (tCons (tFld K (fV 0) "drops") tNil)))))
    tNever tNext))))))))
abbrev Pure_Maker_init (K : PySem.W.Frag) : Prop := ∀ (vs : List V) (H : Hp) (Q : VK) (E : XK), sp_Maker_init K vs H Q E → t_Maker_init K { nx := fun _ H' => Q .non H', rt := Q } (L2.start N_Maker_init vs) H
theorem pure_Maker_init (T : Tx K mg) : Pure_Maker_init K := by
  intro vs H Q E h
  obtain ⟨x1, x2, x3, x4, x5, x6, rfl, h⟩ := on6_ex h
  obtain ⟨x, rfl, h⟩ := onRef_ex h
  obtain ⟨n, rfl, h⟩ := onInt_ex h
  obtain ⟨l, rfl, h⟩ := onRef_ex h
  obtain ⟨t, rfl, h⟩ := onStr_ex h
  obtain ⟨e, rfl, h⟩ := onStr_ex h
  obtain ⟨d, rfl, m, dx, mo, hx, rfl, hl, rfl, rfl, rfl, hQ⟩ := onStr_ex h
  have hr1 := mo.r1
  have hr4 := mo.r4
  have hlen := mo.len
  refine ⟨.int m.room, .fl rfl, fun _ => ?_, fun z => ?_⟩
  rotate_left
  · have z : (decide ((1 : Int) ≤ m.room) && decide ((m.room : Int) ≤ 4)) = false := z
    rw [decide_eq_true (by omega), decide_eq_true (by omega)] at z
    cases z
  refine ⟨m.rs, hl, mo.rs, mo.len, fun H1 e1 => ?_⟩
  refine ⟨["early", "late", "kept"], T.t_TIES H1, mo.ties, ["fits", "waits", "kept"], T.t_EQUALS H1, mo.eq, ["stay", "drop"], T.t_DOUBLES H1, mo.dbl, ?_⟩
  refine ⟨by show 5 ≤ sizeLine; decide, fun u hu => ?_⟩
  have e2 := Same.upd (o := .tup [.int m.room, .ref l, .str m.ties, .str m.eq, .str m.dbl]) hu
  have hx2 := (e1.trans e2) _ _ hx
  refine ⟨x, _, dx, _, rfl, hx2, T.cl_Maker, T.no_Maker_spec, by show 0 < 1000; decide, ?_⟩
  have k3 : KpX x H (upd (upd H1 u (.tup [.int m.room, .ref l, .str m.ties, .str m.eq, .str m.dbl])) x (.ins (He.ga K "Maker") dx [("spec", .ref u)])) := (KpX.of (e1.trans e2)).trans .upd
  have x3 : (upd (upd H1 u (.tup [.int m.room, .ref l, .str m.ties, .str m.eq, .str m.dbl])) x (.ins (He.ga K "Maker") dx [("spec", .ref u)])) x = some (.ins (He.ga K "Maker") dx [("spec", .ref u)]) := upd_same
  have u3 : SqT K (upd (upd H1 u (.tup [.int m.room, .ref l, .str m.ties, .str m.eq, .str m.dbl])) x (.ins (He.ga K "Maker") dx [("spec", .ref u)])) u [.int m.room, .ref l, .str m.ties, .str m.eq, .str m.dbl] := KpX.upd.T hx2 (SqT.of upd_same)
  show tSeq _ _ _ [some (.ref x), some (.int m.room), some (.ref l), some (.str m.ties), some (.str m.eq), some (.str m.dbl), none] (upd (upd H1 u (.tup [.int m.room, .ref l, .str m.ties, .str m.eq, .str m.dbl])) x (.ins (He.ga K "Maker") dx [("spec", .ref u)]))
  generalize (upd (upd H1 u (.tup [.int m.room, .ref l, .str m.ties, .str m.eq, .str m.dbl])) x (.ins (He.ga K "Maker") dx [("spec", .ref u)])) = H3 at k3 x3 u3 ⊢
  have l3 := k3.T hx hl
  refine ⟨l, rfl, ⟨_, l3⟩, fun D hD => ?_⟩
  refine lc_tupI (xs := m.rs.map fun r => .str r.t) (by rw [List.length_map]; omega) (fun i acc H4 => Same H3 H4 ∧ ∃ as, acc = as.map V.ref ∧ Each (RlAt K H4) as (m.rs.take i)) ⟨Same.upd hD, [], rfl, by rw [List.take_zero]; exact .nil⟩ (fun i acc H4 _ _ hJ => sameT hJ.1 l3) (fun i y acc H4 hy hac hD4 hJ R hR => ?_) (fun acc H4 hac hD4 hJ => ?_)
  · obtain ⟨e4, as, rfl, hE⟩ := hJ
    rw [List.getElem?_map] at hy
    obtain ⟨r, hr, rfl⟩ := Option.map_eq_some_iff.mp hy
    refine ⟨rfl, r, mo.rs r (List.mem_of_getElem? hr), rfl, fun b H5 e5 hb => ?_⟩
    have hD5 := e5 _ _ hD4
    refine hR _ H5 hD5 ⟨newL hD (e4.trans e5), as ++ [b], by rw [List.map_append]; rfl, ?_⟩
    rw [List.take_add_one, hr]
    have sq : ∀ {b : Addr} {r : Rl}, RlAt K H5 b r → RlAt K (upd H5 D (.lst (as.map V.ref ++ [V.ref b]))) b r := fun {b r} ⟨l, cs, z1, z2, z3⟩ => ⟨l, cs, setL_T hD5 z1, setL_T hD5 z2, z3.imp fun _ _ z => setL_T hD5 z⟩
    have sq2 : ∀ {c : Addr} {r : Rl}, RlAt K H5 c r → RlAt K (upd H5 D (.lst (as.map V.ref ++ [V.ref b]))) c r := fun {c r} ⟨l, cs, z1, z2, z3⟩ => ⟨l, cs, setL_T hD5 z1, setL_T hD5 z2, z3.imp fun _ _ z => setL_T hD5 z⟩
    exact Each.snoc (R := RlAt K (upd H5 D (.lst (as.map V.ref ++ [V.ref b])))) (sq2 hb) (hE.imp fun _ _ z => sq2 (z.same e5))
  obtain ⟨e4, as, rfl, hE⟩ := hJ
  rw [List.length_map, List.take_length] at hE
  refine ⟨_, SqL.of hD4, fun q hq => ?_⟩
  have e5 := Same.upd (o := .tup (as.map V.ref)) hq
  have x5 := (e4.trans e5) _ _ x3
  have p5 : PartsAt K (upd H4 q (.tup (as.map V.ref))) q m.rs := ⟨as, SqT.of upd_same, hE.imp fun _ _ z => z.same e5⟩
  refine ⟨x, _, dx, _, rfl, x5, T.cl_Maker, T.no_Maker_parts, by show 1 < 1000; decide, ?_⟩
  refine ⟨x, _, dx, _, rfl, upd_same, T.cl_Maker, T.no_Maker_drops, by show 2 < 1000; decide, ?_⟩
  have k6 : KpX x (upd H4 q (.tup (as.map V.ref))) (upd (upd (upd H4 q (.tup (as.map V.ref))) x (.ins (He.ga K "Maker") dx (putF "parts" (.ref q) [("spec", .ref u)]))) x (.ins (He.ga K "Maker") dx (putF "drops" (.bl m.drops) (putF "parts" (.ref q) [("spec", .ref u)])))) := KpX.upd.trans .upd
  have x6 : (upd (upd (upd H4 q (.tup (as.map V.ref))) x (.ins (He.ga K "Maker") dx (putF "parts" (.ref q) [("spec", .ref u)]))) x (.ins (He.ga K "Maker") dx (putF "drops" (.bl m.drops) (putF "parts" (.ref q) [("spec", .ref u)])))) x = some (.ins (He.ga K "Maker") dx [("spec", .ref u), ("parts", .ref q), ("drops", .bl m.drops)]) := upd_same
  have p6 := kx_parts k6 x5 p5
  have u6 := k6.T x5 (sameT (e4.trans e5) u3)
  have l6 := k6.T x5 (sameT (e4.trans e5) l3)
  have k06 : KpX x H _ := (k3.trans (KpX.of (e4.trans e5))).trans k6
  refine ⟨x, _, dx, _, _, rfl, x6, T.cl_Maker, T.no_Maker_parts, rfl, ?_⟩
  refine ⟨x, _, dx, _, _, rfl, x6, T.cl_Maker, T.no_Maker_drops, rfl, ?_⟩
  refine ⟨m.rs, m.room, m.drops, rfl, mo.rs, mo.len, p6, rfl, mo.r1, mo.r4, fun b hb H7 e7 => ?_⟩
  cases b with
  | true => exact absurd (hb.mp rfl) mo.en
  | false => exact hQ H7 (k06.trans (KpX.of e7)) ⟨dx, u, l, q, e7 _ _ x6, sameT e7 u6, sameT e7 l6, p6.same e7⟩
theorem ok_Maker_init (T : Tx K mg) : FnOk P w K mg base CX0 5 (He.fAd K d_Maker_init.at_) (fdA K (He.fAd K d_Maker_init.at_)) ["self", "room", "rules", "ties", "equal", "doubles"] (sp_Maker_init K) :=
  T.F_Maker_init.ok sc_Maker_init (fun _ _ _ _ h => on6_len h) (fun cdv A outer s H vs Q E hr h => ⟨t_Maker_init K, PSs.nox ((pss_cons (ps_expr (pe_call (ok_check_room T) (hr.mono (by decide)) (by rfl) T.g_check_room T.F_check_room.kp (b_check_room T) .nil passL (pa_cons (vv 1) (pa_cons (pe_glob (by rfl) (T.i_MOST_ROOM).choose_spec ⟨_, rfl⟩) pa_nil))))
      (pss_cons (ps_expr (pe_call (ok_check_rules T) (hr.mono (by decide)) (by rfl) T.g_check_rules T.F_check_rules.kp (b_check_rules T) .nil pass0 (pa_cons (vv 2) pa_nil)))
      (pss_cons (ps_expr (pe_call (ok_check_option T) (hr.mono (by decide)) (by rfl) T.g_check_option T.F_check_option.kp (b_check_option T) .nil pass0 (pa_cons (vv 3) (pa_cons (pe_glob (by rfl) T.g_TIES rfl) pa_nil))))
      (pss_cons (ps_expr (pe_call (ok_check_option T) (hr.mono (by decide)) (by rfl) T.g_check_option T.F_check_option.kp (b_check_option T) .nil pass0 (pa_cons (vv 4) (pa_cons (pe_glob (by rfl) T.g_EQUALS rfl) pa_nil))))
      (pss_cons (ps_expr (pe_call (ok_check_option T) (hr.mono (by decide)) (by rfl) T.g_check_option T.F_check_option.kp (b_check_option T) .nil pass0 (pa_cons (vv 5) (pa_cons (pe_glob (by rfl) T.g_DOUBLES rfl) pa_nil))))
      (pss_cons (ps_fld (vv 0) (pe_tup (pa_cons (vv 1) (pa_cons (vv 2) (pa_cons (vv 3) (pa_cons (vv 4) (pa_cons (vv 5) pa_nil)))))) rfl)
      (pss_cons (ps_fld (vv 0) (pe_callTy c_tupL (by rfl) T.b_tuple boot_tuple (pa_cons (pe_lc (own := [("text", 6)]) (g := gName 6) (by rfl) sc_Maker_init.nd (pi_tup (vv 2)) (blkOk_by (own := [("text", 6)]) (N := N_Maker_init) (sc := defScope s_Maker_init) (by decide +kernel)) (fun _ _ _ _ _ => (pg_name (i := 6) sc_Maker_init.nd rfl (.inl rfl))) (fun _ _ _ _ _ => pts_nil) (fun _ _ _ _ _ => (pe_call (ok_parsed T) (hr.mono (by decide)) (by rfl) T.g_parsed T.F_parsed.kp (b_parsed T) .nil pass0 (pa_cons (vv 6) pa_nil)))) pa_nil)) rfl)
      (pss_cons (ps_fld (vv 0) (pe_cmpR o_eq (vv 5) pe_str (nomark _)) rfl)
      (pss_one (ps_if (t_val (pe_call (ok_is_endless T) (hr.mono (by decide)) (by rfl) T.g_is_endless T.F_is_endless.kp (b_is_endless T) .nil pass0 (pa_cons (vv 1) (pa_cons (pe_fld (vv 0) rfl) (pa_cons (pe_fld (vv 0) rfl) pa_nil)))))
      (pss_one ps_never) pss_nil))))))))))), pure_Maker_init T vs H Q E h⟩)

end K12
namespace K12
open PySem PySem.Spec PyProof.Rows L2 Sp
variable {P : Program} {w : World} {K : PySem.W.Frag} {mg : Str → Option Value} {base : Heap}
/-! ### rules that come to an end, plain -/
def Dd.idle : Dd → Bool
  | .turn => true
  | .mode _ => true
  | _ => false
/-- a number falls at each deed that is neither read, write nor close -/
def Calm (rs : List Rl) (r : Nat) : Prop := ∃ φ : Ctl → Nat, (∀ k, φ k ≤ 6) ∧ ∀ k d, deedOf rs r k = some d → d.idle = true → φ (behindK k d) < φ k
theorem work_calm {rs : List Rl} {r : Nat} (ho : ∀ q ∈ rs, q.Ok) {φ : Ctl → Nat} (h6 : ∀ k, φ k ≤ 6) (hd : ∀ k d, deedOf rs r k = some d → d.idle = true → φ (behindK k d) < φ k) : ∀ {f i : Nat} {k : Ctl} {ds : List Dd}, i + φ k ≤ 6 → fuelK k i ≤ f → ∃ p, work rs r f i k ds = some p
  | 0, i, k, ds, hi, hf => by unfold fuelK at hf; omega
  | f + 1, i, k, ds, hi, hf => by
    unfold work
    cases hde : deedOf rs r k with
    | none => exact ⟨_, rfl⟩
    | some d =>
      obtain ⟨hda, hc⟩ := deedOf_can ho hde
      by_cases hrd : d = .read
      · subst hrd
        exact ⟨_, rfl⟩
      have hfs := fuel_step hc hrd (i := i) (by omega)
      have hnx : idleB d i + φ (behindK k d) ≤ 6 := by
        have h6' := h6 (behindK k d)
        cases d with
        | read => exact absurd rfl hrd
        | write => simpa [idleB] using h6'
        | close => simpa [idleB] using h6'
        | turn =>
          have := hd k _ hde rfl
          show i + 1 + _ ≤ 6
          omega
        | mode m =>
          have := hd k _ hde rfl
          show i + 1 + _ ≤ 6
          omega
      have hn : ¬ 6 < idleB d i := by omega
      have hw := work_calm ho h6 hd (f := f) (i := idleB d i) (k := behindK k d) (ds := ds ++ [d]) hnx (by omega)
      obtain ⟨p, hp⟩ := hw
      refine ⟨p, ?_⟩
      cases d <;> first | exact absurd rfl hrd | (show (if 6 < _ then none else _) = _; rw [if_neg hn]; exact hp)
theorem Calm.worked {rs : List Rl} {r : Nat} (h : Calm rs r) (ho : ∀ q ∈ rs, q.Ok) (k : Ctl) : ∃ p, worked rs r k = some p := by
  obtain ⟨φ, h6, hd⟩ := h
  exact work_calm ho h6 hd (by have := h6 k; omega) (Nat.le_refl _)
theorem Calm.ends {rs : List Rl} {r : Nat} {dr : Bool} (h : Calm rs r) (ho : ∀ q ∈ rs, q.Ok) : ¬ Endless rs r dr := by
  rintro ⟨k, _, hb | ⟨k', ds, h1, h2⟩⟩
  · obtain ⟨p, hp⟩ := h.worked ho k
    rw [hp] at hb
    cases hb
  · obtain ⟨p, hp⟩ := h.worked ho (atEndK k')
    rw [hp] at h2
    cases h2
theorem deedOf_fits {rs : List Rl} {r : Nat} {k : Ctl} {d : Dd} (h : deedOf rs r k = some d) (hi : d.idle = true) : ∃ q ∈ rs, q.d = d ∧ q.fits r k = true := by
  induction rs with
  | nil =>
    obtain ⟨a, _⟩ := firstCan_can h
    simp at a
    rcases a with rfl | rfl | rfl <;> cases hi
  | cons q t ih =>
    unfold deedOf at h
    split at h
    · rename_i hq
      cases h
      exact ⟨q, List.mem_cons_self .., rfl, hq⟩
    · obtain ⟨q', a, b⟩ := ih h
      exact ⟨q', List.mem_cons_of_mem _ a, b⟩
/-- a number falls at each of some rules that fits -/
def Falls (ms : List Rl) (r : Nat) : Prop := ∃ φ : Ctl → Nat, (∀ k, φ k ≤ 6) ∧ ∀ q ∈ ms, ∀ k, q.fits r k = true → φ (behindK k q.d) < φ k
theorem Falls.calm {ms rs : List Rl} {r : Nat} (h : Falls ms r) (hs : ∀ q ∈ rs, q.d.idle = true → q ∈ ms) : Calm rs r := by
  obtain ⟨φ, h6, hd⟩ := h
  refine ⟨φ, h6, fun k d hde hi => ?_⟩
  obtain ⟨q, hq, rfl, hf⟩ := deedOf_fits hde hi
  exact hd q (hs q hq hi) k hf
/-! the shapes -/
def cN (w : Wd) (k : Nat) : Cnd := ⟨false, w, k⟩
def cX (w : Wd) (k : Nat) : Cnd := ⟨true, w, k⟩
def turnRs : List Rl := [⟨[cN .fresh 0, cN .mode 0, cX .up 0], .turn⟩, ⟨[cN .fresh 0, cN .mode 1, cN .up 0], .turn⟩, ⟨[cX .fresh 0, cN .up 0, cN .mode 0], .mode 1⟩, ⟨[cX .fresh 0, cX .up 0, cN .mode 1], .mode 0⟩]
theorem falls_turn (r : Nat) : Falls turnRs r := by
  refine ⟨fun k => if (k.fresh = true ∧ ((k.mode = 0 ∧ k.up = false) ∨ (k.mode = 1 ∧ k.up = true))) ∨ (k.fresh = false ∧ ((k.mode = 0 ∧ k.up = true) ∨ (k.mode = 1 ∧ k.up = false))) then 1 else 0, fun k => by dsimp only; split <;> omega, fun q hq k hf => ?_⟩
  simp [turnRs, cN, cX] at hq
  rcases hq with rfl | rfl | rfl | rfl <;> simp [Rl.fits, Cnd.holds, Cnd.bas, Dd.can] at hf <;> simp [behindK, hf]
/-- the causes by which the mode is set -/
def causes : List (Wd × Nat) := [(.now, 2), (.nxt, 1), (.nxt, 2), (.free, 1), (.free, 2), (.fresh, 0), (.ended, 0)]
def modeRs (c : Wd × Nat) (x : Nat) : List Rl := [⟨[cN c.1 c.2, cX .mode x], .mode x⟩, ⟨[cX c.1 c.2, cN .mode x], .mode 0⟩]
def wayRs (x : Nat) : List Rl := [⟨[cN .fresh 0, cN .mode x, cN .up 0], .turn⟩, ⟨[cN .fresh 0, cX .mode x, cX .up 0], .turn⟩]
theorem bas_mode {w : Wd} {n r : Nat} {k : Ctl} {b : Bool} {m : Nat} (h : w ≠ .mode) : Cnd.bas ⟨b, w, n⟩ r { k with mode := m } = Cnd.bas ⟨b, w, n⟩ r k := by
  cases w <;> first | exact absurd rfl h | rfl
theorem bas_up {w : Wd} {n r : Nat} {k : Ctl} {b : Bool} {u : Bool} (h : w ≠ .up) : Cnd.bas ⟨b, w, n⟩ r { k with up := u } = Cnd.bas ⟨b, w, n⟩ r k := by
  cases w <;> first | exact absurd rfl h | rfl
theorem falls_modes (r : Nat) {c : Wd × Nat} (hc : c ∈ causes) {x : Nat} (hx : x = 1 ∨ x = 2) : Falls (modeRs c x ++ wayRs x) r := by
  have h1 : c.1 ≠ .mode ∧ c.1 ≠ .up := by
    simp [causes] at hc
    rcases hc with rfl | rfl | rfl | rfl | rfl | rfl | rfl <;> simp
  have hx0 : x ≠ 0 := by omega
  obtain ⟨cw, cn⟩ := c
  refine ⟨fun k => (if (Cnd.bas ⟨false, cw, cn⟩ r k = true ∧ k.mode ≠ x) ∨ (Cnd.bas ⟨false, cw, cn⟩ r k = false ∧ k.mode = x) then 2 else 0) + (if k.fresh = true ∧ ((k.mode = x ∧ k.up = true) ∨ (k.mode ≠ x ∧ k.up = false)) then 1 else 0), fun k => by dsimp only; split <;> split <;> omega, fun q hq k hf => ?_⟩
  have hb : ∀ b, Cnd.bas ⟨b, cw, cn⟩ r k = Cnd.bas ⟨false, cw, cn⟩ r k := fun b => by cases cw <;> rfl
  simp [modeRs, wayRs, cN, cX] at hq
  have bm : ∀ m, Cnd.bas ⟨false, cw, cn⟩ r { k with mode := m } = Cnd.bas ⟨false, cw, cn⟩ r k := fun m => bas_mode h1.1
  have bu : ∀ u, Cnd.bas ⟨false, cw, cn⟩ r { k with up := u } = Cnd.bas ⟨false, cw, cn⟩ r k := fun u => bas_up h1.2
  rcases hq with rfl | rfl | rfl | rfl
  · have hP : Cnd.bas ⟨false, cw, cn⟩ r k = true := by
      simp [Rl.fits, Cnd.holds, hb] at hf
      exact hf.2.1
    have hm : k.mode ≠ x := by
      simp [Rl.fits, Cnd.holds, Cnd.bas, Dd.can] at hf
      exact hf.1
    simp only [behindK, bm, hP]
    simp [hm]
    split <;> omega
  · have hP : Cnd.bas ⟨false, cw, cn⟩ r k = false := by
      simp [Rl.fits, Cnd.holds, hb] at hf
      exact hf.2.1
    have hm : k.mode = x := by
      simp [Rl.fits, Cnd.holds, Cnd.bas, Dd.can] at hf
      exact hf.2.2
    simp only [behindK, bm, hP]
    simp [hm, Ne.symm hx0]
    split <;> split <;> omega
  · have hm : k.mode = x ∧ k.fresh = true ∧ k.up = true := by
      simp [Rl.fits, Cnd.holds, Cnd.bas, Dd.can] at hf
      exact ⟨hf.2.1, hf.1, hf.2.2⟩
    simp only [behindK, bu]
    simp [hm]
  · have hm : k.mode ≠ x ∧ k.fresh = true ∧ k.up = false := by
      simp [Rl.fits, Cnd.holds, Cnd.bas, Dd.can] at hf
      exact ⟨hf.2.1, hf.1, hf.2.2⟩
    simp only [behindK, bu]
    simp [hm]

end K12
namespace K12
open PySem PySem.Spec PyProof.Rows L2 Sp
variable {P : Program} {w : World} {K : PySem.W.Frag} {mg : Str → Option Value} {base : Heap}
/-! ### Best made -/
abbrev ps_Best : List Str := ["self", "room", "down"]
def gV_Best_1_down : List V → List V → List V := fun vs zs => vs ++ zs
theorem mb_Best_1_down (T : Tx K mg) : ∃ its : List Value, KBn K (fdA K (He.fAd K d_Best_init.at_)) ps_Best 2 ["down"] (fun us ws => us ++ ws) gV_Best_1_down :=
  ⟨[], Sp.FunD.kbinds0 T.F_Best_init 2 ["down"] (fun us ws => us ++ ws) (fun r1 r2 => r1.append r2) fun _ _ _ _ _ _ us ws h1 h2 => match us, ws, h1, h2 with | [_, _], [_], _, _ => rfl⟩
def gBK {α : Type} (us ws : List α) : List α := us ++ match ws with
  | [k, b] => [b, k]
  | _ => []
theorem gBK_rel {vs zs : List V} {us ws : List Value} (r1 : Vals vs us) (r2 : Vals zs ws) : Vals (gBK vs zs) (gBK us ws) := r1.append (by
  cases r2 with
  | nil => exact .nil
  | cons a r2 =>
    cases r2 with
    | nil => exact .nil
    | cons b r2 =>
      cases r2 with
      | nil => exact .cons b (.cons a .nil)
      | cons _ _ => exact .nil)
/-- a Best just made -/
theorem made_same {H H' : Hp} {x dx C : Addr} (hx : H x = none) (hdx : H dx = none) (k : KpX x (upd (upd H dx (.own x)) x (.ins C dx [])) H') : Same H H' := fun b o hb => k b o (ne_of_none hb hx) (by rw [upd_ne (ne_of_none hb hx), upd_ne (ne_of_none hb hdx)]; exact hb)

def dv_Best_1 : List V := [.bl false]
theorem mb_Best_1 (T : Tx K mg) : ∃ ds, Vals dv_Best_1 ds ∧ Binds K (fdA K (He.fAd K d_Best_init.at_)) ps_Best ds :=
  T.F_Best_init.binds0 2 (by simp) (by decide) fun _ _ _ _ _ _ us ks h1 h2 => match us, ks, h1, h2 with | [_, _], [_], _, _ => ⟨_, _, _, _, _, _, rfl, rfl, rfl⟩
def gV_Best_0_down_room : List V → List V → List V := fun vs zs => gBK vs zs
theorem mb_Best_0_down_room (T : Tx K mg) : ∃ its : List Value, KBn K (fdA K (He.fAd K d_Best_init.at_)) ps_Best 1 ["down", "room"] (fun us ws => gBK us ws) gV_Best_0_down_room :=
  ⟨[], Sp.FunD.kbinds0 T.F_Best_init 1 ["down", "room"] gBK gBK_rel fun _ _ _ _ _ _ us ws h1 h2 => match us, ws, h1, h2 with | [_], [_, _], _, _ => rfl⟩
abbrev ps_Maker : List Str := ["self", "room", "rules", "ties", "equal", "doubles"]
def dv_Maker_1 (K : PySem.W.Frag) : List V := [.ref (He.dflAt ("Maker", some "__init__") 0 K), .str "early", .str "fits", .str "stay"]
theorem mb_Maker_1 (T : Tx K mg) : ∃ ds, Vals (dv_Maker_1 K) ds ∧ Binds K (fdA K (He.fAd K d_Maker_init.at_)) ps_Maker ds :=
  T.F_Maker_init.binds 2 0 (by simp) rfl (fun _ _ _ _ _ _ _ us its ks h1 h2 h3 => match us, its, ks, h1, h2, h3 with | [_, _], [_], [_, _, _], _, _, _ => ⟨_, rfl, _, _, _, _, _, _, rfl, rfl, _, _, _, _, _, _, rfl, rfl, _, _, _, _, _, _, rfl, rfl, rfl⟩) (by simp)
/-! ### equal -/
theorem BestAt.same {H H' : Hp} {b : Addr} {r : Nat} {d : Bool} (e : Same H H') (h : BestAt K H b r d) : BestAt K H' b r d := by
  obtain ⟨dx, u, h1, h2⟩ := h
  exact ⟨dx, u, e _ _ h1, sameT e h2⟩
theorem BestAt.ins {H : Hp} {b : Addr} {r : Nat} {d : Bool} (h : BestAt K H b r d) : InsV (He.ga K "Best") H b := by
  obtain ⟨dx, u, h1, _⟩ := h
  exact ⟨dx, _, h1⟩
theorem BestAt.ty (T : Tx K mg) {H : Hp} {b : Addr} {r : Nat} {d : Bool} (h : BestAt K H b r d) : TyX K H (.ref b) (.ref (He.ga K "Best")) := by
  obtain ⟨dx, u, h1, _⟩ := h
  exact T.I_Best.ty T.cl_Best h1
theorem spec_dp {H : Hp} {u : Addr} {r : Nat} {d : Bool} (h : SqT K H u [.int r, .bl d]) : Dp K H (.ref u) (.tuple [.int r, .bool d]) := .tup h (.cons (.int _) (.cons (.bl _) .nil))
theorem spec_sh (r : Nat) (d : Bool) : SeqAt.shaped (.tuple [.int r, .bool d]) = true := by
  simp [SeqAt.shaped, PyData.canLay0, PyData.canLayAll0, PyData.depth, PyData.depthAll]
theorem spec_eqv (r r' : Nat) (d d' : Bool) : PyData.eqv (.tuple [.int r, .bool d]) (.tuple [.int r', .bool d']) = (decide (r = r') && (d == d')) := by
  rw [Bool.eq_iff_iff]
  simp [PyData.eqv, PyData.eqvAll]
  intro _
  omega
def sp_Best_eq (K : PySem.W.Frag) : L2.Sp := fun vs H Q _ => on2 vs fun x y => onRef x fun a => ∃ r d, BestAt K H a r d ∧
  ((∃ b r' d', y = .ref b ∧ BestAt K H b r' d' ∧ Q (.bl (decide (r = r') && (d == d'))) H) ∨ (∃ t, TyX K H y t ∧ PySem.W.kitOne K t (.ref (He.ga K "Best")) = some false ∧ Q (.bl false) H))
abbrev N_Best_eq : List Str := ["self", "other"]
theorem sc_Best_eq : FnScope N_Best_eq ["self", "other"] (defScope s_Best_eq) := ⟨rfl, rfl, rfl, by decide +kernel, rfl, by decide +kernel, by decide +kernel⟩
def t_Best_eq (K : PySem.W.Frag) : TS :=
    tRet (fAndV (tCB (fIsi K) (tCons (fV 1) (tCons (tC (.ref (He.ga K "Best"))) tNil))) (tOp (rEqD K) (tFld K (fV 0) "spec") (tFld K (fV 1) "spec")))
abbrev Pure_Best_eq (K : PySem.W.Frag) : Prop := ∀ (vs : List V) (H : Hp) (Q : VK) (E : XK), sp_Best_eq K vs H Q E → t_Best_eq K { nx := fun _ H' => Q .non H', rt := Q } (L2.start N_Best_eq vs) H
theorem pure_Best_eq (T : Tx K mg) : Pure_Best_eq K := by
  intro vs H Q E h
  obtain ⟨x, y, rfl, h⟩ := on2_ex h
  obtain ⟨a, rfl, r, d, ⟨dx, t, ha, ht⟩, h⟩ := onRef_ex h
  rcases h with ⟨b, r', d', rfl, ⟨dx', t', hb, ht'⟩, hQ⟩ | ⟨U, ty, hk, hQ⟩
  · refine ⟨_, _, true, .own _, T.I_Best.ty T.cl_Best hb, kit_self, ?_⟩
    refine ⟨a, _, dx, _, _, rfl, ha, T.cl_Best, T.no_Best_spec, rfl, ?_⟩
    refine ⟨b, _, dx', _, _, rfl, hb, T.cl_Best, T.no_Best_spec, rfl, ?_⟩
    refine ⟨_, _, spec_dp ht, spec_dp ht', spec_sh _ _, spec_sh _ _, ?_⟩
    rw [spec_eqv]
    exact hQ
  · exact ⟨_, _, false, .own _, ty, hk, hQ⟩
theorem b_Best_eq (T : Tx K mg) : Binds K (fdA K (He.fAd K d_Best_eq.at_)) ["self", "other"] [] := T.F_Best_eq.bindsN fun _ _ _ _ _ _ us hl => match us, hl with | [_, _], _ => rfl
theorem ok_Best_eq (T : Tx K mg) : FnOk P w K mg base CX0 1 (He.fAd K d_Best_eq.at_) (fdA K (He.fAd K d_Best_eq.at_)) ["self", "other"] (sp_Best_eq K) :=
  T.F_Best_eq.ok sc_Best_eq (fun _ _ _ _ h => on2_len h) (fun cdv A outer s H vs Q E hr h => ⟨t_Best_eq K, PSs.nox ((pss_one (ps_ret (e_and (pe_callB c_isi (by rfl) T.b_isinstance boot_isinstance (pa_cons (vv 1) (pa_cons (pe_glob (by rfl) T.g_Best rfl) pa_nil))) (pe_one (pe_cmpR (op_eqD hr.units) (pe_fld (vv 0) rfl) (pe_fld (vv 1) rfl) (nomark _))))))), pure_Best_eq T vs H Q E h⟩)
/-- a maker beside what is none -/
def sp_Maker_eq (K : PySem.W.Frag) : L2.Sp := fun vs H Q _ => on2 vs fun x y => ∃ t, TyX K H y t ∧ PySem.W.kitOne K t (.ref (He.ga K "Maker")) = some false ∧ Q (.bl false) H
abbrev N_Maker_eq : List Str := ["self", "other"]
theorem sc_Maker_eq : FnScope N_Maker_eq ["self", "other"] (defScope s_Maker_eq) := ⟨rfl, rfl, rfl, by decide +kernel, rfl, by decide +kernel, by decide +kernel⟩
def t_Maker_eq (K : PySem.W.Frag) : TS :=
    tRet (fAndV (tCB (fIsi K) (tCons (fV 1) (tCons (tC (.ref (He.ga K "Maker"))) tNil))) (tOp (rEqD K) (tFld K (fV 0) "spec") (tFld K (fV 1) "spec")))
abbrev Pure_Maker_eq (K : PySem.W.Frag) : Prop := ∀ (vs : List V) (H : Hp) (Q : VK) (E : XK), sp_Maker_eq K vs H Q E → t_Maker_eq K { nx := fun _ H' => Q .non H', rt := Q } (L2.start N_Maker_eq vs) H
theorem pure_Maker_eq (T : Tx K mg) : Pure_Maker_eq K := by
  intro vs H Q E h
  obtain ⟨x, y, rfl, U, ty, hk, hQ⟩ := on2_ex h
  exact ⟨_, _, false, .own _, ty, hk, hQ⟩
theorem b_Maker_eq (T : Tx K mg) : Binds K (fdA K (He.fAd K d_Maker_eq.at_)) ["self", "other"] [] := T.F_Maker_eq.bindsN fun _ _ _ _ _ _ us hl => match us, hl with | [_, _], _ => rfl
theorem ok_Maker_eq (T : Tx K mg) : FnOk P w K mg base CX0 1 (He.fAd K d_Maker_eq.at_) (fdA K (He.fAd K d_Maker_eq.at_)) ["self", "other"] (sp_Maker_eq K) :=
  T.F_Maker_eq.ok sc_Maker_eq (fun _ _ _ _ h => on2_len h) (fun cdv A outer s H vs Q E hr h => ⟨t_Maker_eq K, PSs.nox ((pss_one (ps_ret (e_and (pe_callB c_isi (by rfl) T.b_isinstance boot_isinstance (pa_cons (vv 1) (pa_cons (pe_glob (by rfl) T.g_Maker rfl) pa_nil))) (pe_one (pe_cmpR (op_eqD hr.units) (pe_fld (vv 0) rfl) (pe_fld (vv 1) rfl) (nomark _))))))), pure_Maker_eq T vs H Q E h⟩)

theorem fieldW (T : Tx K mg) : ∀ {k : Nat}, k < 6 → PySem.W.findIn K (.ref (wdC K k)) "given" = some none
  | 0, _ => T.xn_InvalidRoom_given.2
  | 1, _ => T.xn_InvalidOption_given.2
  | 2, _ => T.xn_InvalidNumber_given.2
  | 3, _ => T.xn_InvalidIndex_given.2
  | 4, _ => T.xn_InvalidFlag_given.2
  | 5, _ => T.xn_InvalidText_given.2
  | k + 6, h => absurd h (by omega)
theorem catchW (T : Tx K mg) {k : Nat} (hk : k < 6) : PySem.W.exmAny K (.ref (wdC K k)) [.ref (He.ga K "InvalidRoom"), .ref (He.ga K "InvalidOption"), .ref (He.ga K "InvalidNumber"), .ref (He.ga K "InvalidIndex"), .ref (He.ga K "InvalidFlag"), .ref (He.ga K "InvalidText")] = some true :=
  of_decide_eq_true (List.all_eq_true.mp T.xk k (List.mem_range.mpr hk))
/-- what is caught: the word of the class and what it bears, or what is told -/
def TT__law_caught (K : PySem.W.Frag) : (XK → Hp → VK → Prop) → Hp → VK → Prop := fun tl H Q => ∀ (E' : XK) (Q' : VK),
  (∀ (k : Nat) (dd : Addr) (v : V) (dv : PyData) (H' : Hp), k < 6 → H' dd = some (.xd [("given", v)]) → Dt K H' v dv → Sml dv → (∀ (L : Addr) (H2 : Hp), Same H' H2 → H2 L = some (.lst [.str (wdN.getD k ""), .str dv.shown]) → Q (.ref L) H2) → E' (.ref (wdC K k)) (some dd) H') →
  (∀ (v : V) (dv : PyData) (H' : Hp), Dt K H' v dv → Sml dv → (∀ (L : Addr) (H2 : Hp), Same H' H2 → H2 L = some (.lst [.str "told", .str dv.shown]) → Q (.ref L) H2) → Q' v H') → tl E' H Q'
abbrev N__law_caught : List Str := ["_law_act", "_law_told", "_law_e"]
theorem sc__law_caught : FnScope N__law_caught ["_law_act"] (defScope s__law_caught) := ⟨rfl, rfl, rfl, by decide +kernel, rfl, by decide +kernel, by decide +kernel⟩
def t__law_caught (K : PySem.W.Frag) (f c' : Addr) (q : Str) (tl : XK → Hp → VK → Prop) : TS :=
    tSeq (tTry K (fun W => tAsg (fAct f c' q tl W) (gName 1))
    [([.ref (He.ga K "InvalidRoom"), .ref (He.ga K "InvalidOption"), .ref (He.ga K "InvalidNumber"), .ref (He.ga K "InvalidIndex"), .ref (He.ga K "InvalidFlag"), .ref (He.ga K "InvalidText")], some 2, fun p => tRet (tLst (tCons (tCall (sp__law_word K p) [] E0 (tCons (fV 2) tNil)) (tCons (tCB (fReprT K) (tCons (tXfP K p "given" (fV 2)) tNil)) tNil))))])
    (tRet (tLst (tCons (tC (.str "told")) (tCons (tCB (fReprT K) (tCons (fV 1) tNil)) tNil))))
abbrev Pure__law_caught (K : PySem.W.Frag) : Prop := ∀ (f c' : Addr) (q : Str) (tl : XK → Hp → VK → Prop) (H : Hp) (Q : VK), H c' = some (LamX.CodeO c' q) → TT__law_caught K tl H Q → t__law_caught K f c' q tl { nx := fun _ H' => Q .non H', rt := Q } (L2.start N__law_caught [.ref f]) H
theorem pure__law_caught (T : Tx K mg) : Pure__law_caught K := by
  intro f c' q tl H Q hc h
  refine ⟨rfl, hc, h _ _ (fun k dd v dv H' hk hdd hdv hs hQ => ?_) (fun v dv H' hdv hs hQ => ?_)⟩
  · refine ⟨true, catchW T hk, fun _ p hp hcl hdi hda => ?_, fun z => nomatch z⟩
    refine ⟨k, dd, _, hk, rfl, hcl, hdi, hda, hdd, fun H1 e1 => ?_⟩
    refine ⟨rfl, _, dd, _, v, hcl, hdi, hda, e1 _ _ hdd, xcW T hk, fieldW T hk, rfl, ?_⟩
    refine ⟨dv, hdv.same e1, hs, ?_⟩
    exact ⟨by show 2 ≤ sizeLine; decide, fun L hL => hQ L _ (e1.trans (Same.upd hL)) upd_same⟩
  · exact ⟨dv, hdv, hs, by show 2 ≤ sizeLine; decide, fun L hL => hQ L _ (Same.upd hL) upd_same⟩
theorem b__law_caught (T : Tx K mg) : Binds K (fdA K (He.fAd K d__law_caught.at_)) ["_law_act"] [] := T.F__law_caught.bindsN fun _ _ _ _ _ _ us hl => match us, hl with | [_], _ => rfl
theorem gives__law_caught {X : Cx} (T : Tx X.K X.mg) (hgd : X.A.guards = some []) (cdv : Value) : GivesL X N__law_caught "_law_caught" (defScope s__law_caught) (He.fAd X.K d__law_caught.at_) cdv (defBody s__law_caught) "_law_act" (X.env.qual ++ "<lambda>") (TT__law_caught X.K) :=
  fun f c' s H Q tl act hr hc h => ⟨t__law_caught X.K f c' (X.env.qual ++ "<lambda>") tl, (pss_cons (s_tryH rfl rfl sc__law_caught.nd (fun W pn xe tk => (pss_one (ps_set (i := 1) sc__law_caught.nd rfl (.inl rfl) (act W pn xe _ _ tk))))
      (.named (i := 2) rfl rfl (.tup (.cons ⟨by rfl, by decide, .inl T.g_InvalidRoom⟩ (.cons ⟨by rfl, by decide, .inl T.g_InvalidOption⟩ (.cons ⟨by rfl, by decide, .inl T.g_InvalidNumber⟩ (.cons ⟨by rfl, by decide, .inl T.g_InvalidIndex⟩ (.cons ⟨by rfl, by decide, .inl T.g_InvalidFlag⟩ (.cons ⟨by rfl, by decide, .inl T.g_InvalidText⟩ .nil)))))) (Nat.le_of_ble_eq_true rfl)) (fun p pn hp => (pss_one (ps_ret (pe_lst (pa_cons (e_callP (p := p) (ok__law_word T) ⟨hr.dp, hr.un⟩ hp (by rfl) T.g__law_word T.F__law_word.kp (b__law_word T) pass0 (pa_cons (vv 2) pa_nil)) (pa_cons (pe_callB (c_reprT hgd hr.units) (by rfl) T.b_repr boot_repr (pa_cons (e_xfP (p := p) hp (vv 2)) pa_nil)) pa_nil))))))
      .rest))
      (pss_one (ps_ret (pe_lst (pa_cons pe_str (pa_cons (pe_callB (c_reprT hgd hr.units) (by rfl) T.b_repr boot_repr (pa_cons (vv 1) pa_nil)) pa_nil)))))), pure__law_caught T f c' _ tl H Q hc h⟩

end K12
namespace K12
open PySem PySem.Spec PyProof.Rows L2 Sp
variable {P : Program} {w : World} {K : PySem.W.Frag} {mg : Str → Option Value} {base : Heap}
theorem pb1 (T : Tx K mg) : PySem.W.kitOne K (.ref (He.ga K "Best")) (.ref (He.ga K "Maker")) = some false := of_decide_eq_true (He.ba T.xp).1
theorem pb2 (T : Tx K mg) : PySem.W.kitOne K (.ref (He.ga K "Maker")) (.ref (He.ga K "Best")) = some false := of_decide_eq_true (He.ba (He.ba T.xp).2).1
theorem pb3 (T : Tx K mg) : PySem.W.notFirst K (He.ga K "Best") (.ref (He.ga K "Maker")) = true := (He.ba (He.ba (He.ba T.xp).2).2).1
theorem pb4 (T : Tx K mg) : PySem.W.notFirst K (He.ga K "Maker") (.ref (He.ga K "Best")) = true := (He.ba (He.ba (He.ba T.xp).2).2).2
/-- Best(..) of right values is made -/
theorem make_best {H : Hp} {r : Nat} {d : Bool} {E : XK} {Q : Addr → Hp → Prop} (hr : 1 ≤ r ∧ r ≤ 3) (h : ∀ (x : Addr) (H' : Hp), Same H H' → BestAt K H' x r d → Q x H') :
    ∀ x dx, H x = none → H dx = none → dx ≠ x → sp_Best_init K [.ref x, .int r, .bl d] (upd (upd H dx (.own x)) x (.ins (He.ga K "Best") dx [])) (fun v H3 => v = .non ∧ Q x H3) E := by
  intro x dx hx hdx hne
  refine ⟨.int r, .bool d, dx, .fl rfl, .fl rfl, upd_same, fun z => ?_, fun _ z => Bool.noConfusion (show true = false from z), fun room down H' e1 e2 _ _ k b => ⟨rfl, ?_⟩⟩
  · have z : (decide ((1 : Int) ≤ r) && decide ((r : Int) ≤ 3)) = false := z
    rw [decide_eq_true (by omega), decide_eq_true (by omega)] at z
    cases z
  · have e3 : room = r := by
      have := V.int.inj e1
      omega
    cases e2
    subst e3
    exact h x H' (made_same hx hdx k) b
theorem make_best1 {H : Hp} {r : Nat} {d : Bool} {E : XK} {Q : Addr → Hp → Prop} (hr : 1 ≤ r ∧ r ≤ 3) (h : ∀ (x : Addr) (H' : Hp), Same H H' → BestAt K H' x r d → Q x H') :
    ∀ x dx, H x = none → H dx = none → dx ≠ x → sp_Best_init K (gV_Best_1_down [.ref x, .int r] [.bl d]) (upd (upd H dx (.own x)) x (.ins (He.ga K "Best") dx [])) (fun v H3 => v = .non ∧ Q x H3) E := make_best hr h
theorem make_best2 {H : Hp} {r : Nat} {d : Bool} {E : XK} {Q : Addr → Hp → Prop} (hr : 1 ≤ r ∧ r ≤ 3) (h : ∀ (x : Addr) (H' : Hp), Same H H' → BestAt K H' x r d → Q x H') :
    ∀ x dx, H x = none → H dx = none → dx ≠ x → sp_Best_init K (gV_Best_0_down_room [.ref x] [.bl d, .int r]) (upd (upd H dx (.own x)) x (.ins (He.ga K "Best") dx [])) (fun v H3 => v = .non ∧ Q x H3) E := make_best hr h
theorem make_best3 {H : Hp} {r : Nat} {E : XK} {Q : Addr → Hp → Prop} (hr : 1 ≤ r ∧ r ≤ 3) (h : ∀ (x : Addr) (H' : Hp), Same H H' → BestAt K H' x r false → Q x H') :
    ∀ x dx, H x = none → H dx = none → dx ≠ x → sp_Best_init K (.ref x :: ([.int r] ++ dv_Best_1)) (upd (upd H dx (.own x)) x (.ins (He.ga K "Best") dx [])) (fun v H3 => v = .non ∧ Q x H3) E := make_best hr h
/-- Maker(n) is made -/
def mkr1 (n : Nat) : Mkr := ⟨n, [⟨[], .read⟩], "early", "fits", "stay"⟩
theorem mkr1_ok {n : Nat} (h : 1 ≤ n ∧ n ≤ 4) : (mkr1 n).Ok := by
  have ho : ∀ r ∈ (mkr1 n).rs, r.Ok := fun r hr => by
    rw [List.mem_singleton.mp hr]
    exact ⟨fun c hc => absurd hc List.not_mem_nil, Nat.zero_le _, by decide⟩
  refine ⟨h.1, h.2, ho, by show 1 ≤ 12; decide, by show ("early" : Str) ∈ _; decide, by show ("fits" : Str) ∈ _; decide, by show ("stay" : Str) ∈ _; decide, ?_⟩
  refine Calm.ends ⟨fun _ => 0, fun _ => Nat.zero_le _, fun k d hd hi => ?_⟩ ho
  obtain ⟨q, hq, rfl, _⟩ := deedOf_fits hd hi
  rw [List.mem_singleton.mp hq] at hi
  cases hi
theorem make_maker (T : Tx K mg) {H : Hp} {n : Nat} {E : XK} {Q : Addr → Hp → Prop} (hn : 1 ≤ n ∧ n ≤ 4) (h : ∀ (x : Addr) (H' : Hp), Same H H' → MakerAt K H' x (mkr1 n) → Q x H') :
    ∀ x dx, H x = none → H dx = none → dx ≠ x → sp_Maker_init K (.ref x :: ([.int n] ++ dv_Maker_1 K)) (upd (upd H dx (.own x)) x (.ins (He.ga K "Maker") dx [])) (fun v H3 => v = .non ∧ Q x H3) E := by
  intro x dx hx hdx hne
  exact ⟨mkr1 n, dx, mkr1_ok hn, upd_same, rfl, T.dt_Maker_init_0 _, rfl, rfl, rfl, fun H' k b => ⟨rfl, h x H' (made_same hx hdx k) b⟩⟩
theorem MakerAt.ty (T : Tx K mg) {H : Hp} {b : Addr} {m : Mkr} (h : MakerAt K H b m) : TyX K H (.ref b) (.ref (He.ga K "Maker")) := by
  obtain ⟨dx, t, l, p, h1, _⟩ := h
  exact T.I_Maker.ty T.cl_Maker h1
theorem MakerAt.ins {H : Hp} {b : Addr} {m : Mkr} (h : MakerAt K H b m) : InsV (He.ga K "Maker") H b := by
  obtain ⟨dx, t, l, p, h1, _⟩ := h
  exact ⟨dx, _, h1⟩
/-- a thing that is no Best -/
def NoB (K : PySem.W.Frag) (H : Hp) (v : V) : Prop := ∃ t, TyX K H v t ∧ PySem.W.kitOne K t (.ref (He.ga K "Best")) = some false ∧ PySem.W.notFirst K (He.ga K "Best") t = true
theorem noB_of (T : Tx K mg) {H : Hp} {v : V} (U : String) (hU : U ∈ (["NoneType", "bool", "int", "str", "list", "tuple", "dict", "float", "set", "bytes"] : List String)) (h : TyX K H v (.type U)) : NoB K H v := ⟨_, h, T.O_Best.isi U hU, T.O_Best.nf U hU⟩
theorem due_best {r : Nat} {d : Bool} : PyData.shown (.list [.int r, .bool d, .str (lineT (strD (.int r)) d), .bool true]) = PyData.shown (.list (bestD r d)) := rfl
theorem three_dp {H : Hp} {L : Addr} {x y z : Str} (h : H L = some (.lst [.str x, .str y, .str z])) : Dp K H (.ref L) (.list [.str x, .str y, .str z]) := .lst (SqL.of h) (.cons (.str _) (.cons (.str _) (.cons (.str _) .nil)))
theorem three_sh {x y z : Str} (hx : PyData.strOk x = true) (hy : PyData.strOk y = true) (hz : PyData.strOk z = true) : SeqAt.shaped (.list [.str x, .str y, .str z]) = true := by
  simp [SeqAt.shaped, PyData.canLay0, PyData.canLayAll0, PyData.depth, PyData.depthAll, hx, hy, hz]
theorem best_sok {r : Nat} (d : Bool) (h1 : 1 ≤ r) (h3 : r ≤ 3) : PyData.strOk (PyData.shown (.list (bestD r d))) = true := by
  match r, h1, h3 with
  | 1, _, _ => cases d <;> decide +kernel
  | 2, _, _ => cases d <;> decide +kernel
  | 3, _, _ => cases d <;> decide +kernel
  | r + 4, _, h => omega
theorem room_sml {r : Nat} (hr : r ≤ 3) : Sml (.int r) ∧ (strD (.int r)).length ≤ 100 ∧ ∀ c ∈ (strD (.int r)).cps.toList, c < 16 ^ 8 := by
  refine ⟨bestD_sml (down := true) hr _ List.mem_cons_self, ?_, cps_any _⟩
  show (Str.ofString (toString (r : Int))).length ≤ 100
  rw [PySem.ofString_length]
  exact Nat.le_trans (int_text_length_le (k := 2) (by decide) (log_2 hr)) (by decide)
def sp__law_pair_right (K : PySem.W.Frag) : L2.Sp := fun vs H Q _ => on0 vs (∀ H', Same H H' → Q (.bl true) H')
abbrev N__law_pair_right : List Str := ["_law_some", "_law_width", "_law_flag", "_law_mine", "_law_named", "_law_plain", "_law_told", "_law_other", "_law_twin", "_law_thing"]
theorem sc__law_pair_right : FnScope N__law_pair_right [] (defScope s__law_pair_right) := ⟨rfl, rfl, rfl, by decide +kernel, rfl, by decide +kernel, by decide +kernel⟩
def t__law_pair_right (K : PySem.W.Frag) : TS :=
    tSeq (tAsg (tLst (tCons (tTup (tCons (tC (.int 1)) (tCons (tC (.bl false)) tNil))) (tCons (tTup (tCons (tC (.int 2)) (tCons (tC (.bl false)) tNil))) (tCons (tTup (tCons (tC (.int 3)) (tCons (tC (.bl false)) tNil))) (tCons (tTup (tCons (tC (.int 1)) (tCons (tC (.bl true)) tNil))) (tCons (tTup (tCons (tC (.int 2)) (tCons (tC (.bl true)) tNil))) (tCons (tTup (tCons (tC (.int 3)) (tCons (tC (.bl true)) tNil))) tNil))))))) (gName 0))
    (tSeq (tFor (iList K (fV 0)) (gTup K 2 (gCons (gName 1) (gCons (gName 2) gNil)))
    (tSeq (tAsg (tMakeN (He.ga K "Best") 1 (List.length (["down"] : List Str)) (sp_Best_init K) gV_Best_1_down E0 (tCons (fV 1) tNil) (tCons (fV 2) tNil)) (gName 3))
    (tSeq (tPar 4 5 (tCons (tMakeN (He.ga K "Best") 0 (List.length (["down", "room"] : List Str)) (sp_Best_init K) gV_Best_0_down_room E0 tNil (tCons (fV 2) (tCons (fV 1) tNil))) (tCons (tMake (He.ga K "Best") (sp_Best_init K) dv_Best_1 E0 (tCons (fV 1) tNil)) tNil)))
    (tSeq (tAsg (tLst (tCons (tCall (sp__law_shown K) [] E0 (tCons (fV 3) tNil)) (tCons (tCall (sp__law_shown K) [] E0 (tCons (fV 4) tNil)) (tCons (tCall (sp__law_shown K) [] E0 (tCons (fV 5) tNil)) tNil)))) (gName 6))
    (tSeq (tIfS (fT (tOp (rNeD K) (fV 6) (tLst (tCons (tCall (sp__law_due K) [] E0 (tCons (fV 1) (tCons (fV 2) tNil))) (tCons (tCall (sp__law_due K) [] E0 (tCons (fV 1) (tCons (fV 2) tNil))) (tCons (tCall (sp__law_due K) [] E0 (tCons (fV 1) (tCons (tC (.bl false)) tNil))) tNil))))))
    (tRet (tC (.bl false))) tNext)
    (tSeq (tFor (iList K (fV 0)) (gName 7)
    (tSeq (tAsg (tMakeN (He.ga K "Best") 1 (List.length (["down"] : List Str)) (sp_Best_init K) gV_Best_1_down E0 (tCons (tOp (fIxT K) (fV 7) (tC (.int 0))) tNil) (tCons (tOp (fIxT K) (fV 7) (tC (.int 1))) tNil)) (gName 8))
    (tIfS (tOr (fT (tOp fNe (tOp (fOwnEq K (He.ga K "Best") (sp_Best_eq K) E0) (fV 3) (fV 8)) (tOp (rEqD K) (fV 7) (tTup (tCons (fV 1) (tCons (fV 2) tNil)))))) (fT (tOp fEq (tOp (fOwnNe K (He.ga K "Best") (sp_Best_eq K) E0) (fV 3) (fV 8)) (tOp (fOwnEq K (He.ga K "Best") (sp_Best_eq K) E0) (fV 3) (fV 8)))))
    (tRet (tC (.bl false))) tNext)))
    (tFor (iList K (tLst (tCons (tCB (fReprI (He.ga K "Best") (sp_Best_str K) E0) (tCons (fV 3) tNil)) (tCons (fV 1) (tCons (fV 2) (tCons (tTup (tCons (fV 1) (tCons (fV 2) tNil))) (tCons (tC .non) (tCons (tMake (He.ga K "Maker") (sp_Maker_init K) (dv_Maker_1 K) E0 (tCons (fV 1) tNil)) (tCons (tLst (tCons (fV 3) tNil)) tNil))))))))) (gName 9)
    (tIfS (tOr (fT (tOp (fOwnEq K (He.ga K "Best") (sp_Best_eq K) E0) (fV 3) (fV 9))) (tNot (fT (tOp (fOwnNe K (He.ga K "Best") (sp_Best_eq K) E0) (fV 3) (fV 9)))))
    (tRet (tC (.bl false))) tNext))))))))
    (tRet (fAndV (tOp (fOwnNe K (He.ga K "Maker") (sp_Maker_eq K) E0) (tMake (He.ga K "Maker") (sp_Maker_init K) (dv_Maker_1 K) E0 (tCons (tC (.int 2)) tNil)) (tMake (He.ga K "Best") (sp_Best_init K) dv_Best_1 E0 (tCons (tC (.int 2)) tNil))) (fNotV (tOp (fOwnEq K (He.ga K "Maker") (sp_Maker_eq K) E0) (tMake (He.ga K "Maker") (sp_Maker_init K) (dv_Maker_1 K) E0 (tCons (tC (.int 1)) tNil)) (tMake (He.ga K "Best") (sp_Best_init K) dv_Best_1 E0 (tCons (tC (.int 1)) tNil)))))))
abbrev Pure__law_pair_right (K : PySem.W.Frag) : Prop := ∀ (vs : List V) (H : Hp) (Q : VK) (E : XK), sp__law_pair_right K vs H Q E → t__law_pair_right K { nx := fun _ H' => Q .non H', rt := Q } (L2.start N__law_pair_right vs) H
theorem pure__law_pair_right (T : Tx K mg) : Pure__law_pair_right K := by
  intro vs H Q E h
  obtain ⟨rfl, hQ⟩ := on0_ex h
  refine ⟨by show 2 ≤ sizeLine; decide, fun t1 ht1 => ?_⟩
  obtain ⟨G1, hG1⟩ : ∃ z, z = upd H t1 (.tup [V.int 1, V.bl false]) := ⟨_, rfl⟩
  have eG1 : Same H G1 := by rw [hG1]; exact Same.upd ht1
  have lt1 : G1 t1 = some (.tup [V.int 1, V.bl false]) := by rw [hG1]; exact upd_same
  rw [← hG1]
  refine ⟨by show 2 ≤ sizeLine; decide, fun t2 ht2 => ?_⟩
  obtain ⟨G2, hG2⟩ : ∃ z, z = upd G1 t2 (.tup [V.int 2, V.bl false]) := ⟨_, rfl⟩
  have eG2 : Same G1 G2 := by rw [hG2]; exact Same.upd ht2
  have lt2 : G2 t2 = some (.tup [V.int 2, V.bl false]) := by rw [hG2]; exact upd_same
  rw [← hG2]
  refine ⟨by show 2 ≤ sizeLine; decide, fun t3 ht3 => ?_⟩
  obtain ⟨G3, hG3⟩ : ∃ z, z = upd G2 t3 (.tup [V.int 3, V.bl false]) := ⟨_, rfl⟩
  have eG3 : Same G2 G3 := by rw [hG3]; exact Same.upd ht3
  have lt3 : G3 t3 = some (.tup [V.int 3, V.bl false]) := by rw [hG3]; exact upd_same
  rw [← hG3]
  refine ⟨by show 2 ≤ sizeLine; decide, fun t4 ht4 => ?_⟩
  obtain ⟨G4, hG4⟩ : ∃ z, z = upd G3 t4 (.tup [V.int 1, V.bl true]) := ⟨_, rfl⟩
  have eG4 : Same G3 G4 := by rw [hG4]; exact Same.upd ht4
  have lt4 : G4 t4 = some (.tup [V.int 1, V.bl true]) := by rw [hG4]; exact upd_same
  rw [← hG4]
  refine ⟨by show 2 ≤ sizeLine; decide, fun t5 ht5 => ?_⟩
  obtain ⟨G5, hG5⟩ : ∃ z, z = upd G4 t5 (.tup [V.int 2, V.bl true]) := ⟨_, rfl⟩
  have eG5 : Same G4 G5 := by rw [hG5]; exact Same.upd ht5
  have lt5 : G5 t5 = some (.tup [V.int 2, V.bl true]) := by rw [hG5]; exact upd_same
  rw [← hG5]
  refine ⟨by show 2 ≤ sizeLine; decide, fun t6 ht6 => ?_⟩
  obtain ⟨G6, hG6⟩ : ∃ z, z = upd G5 t6 (.tup [V.int 3, V.bl true]) := ⟨_, rfl⟩
  have eG6 : Same G5 G6 := by rw [hG6]; exact Same.upd ht6
  have lt6 : G6 t6 = some (.tup [V.int 3, V.bl true]) := by rw [hG6]; exact upd_same
  rw [← hG6]
  refine ⟨by show 6 ≤ sizeLine; decide, fun L hL => ?_⟩
  obtain ⟨G7, hG7⟩ : ∃ z, z = upd G6 L (.lst [V.ref t1, V.ref t2, V.ref t3, V.ref t4, V.ref t5, V.ref t6]) := ⟨_, rfl⟩
  have eG7 : Same G6 G7 := by rw [hG7]; exact Same.upd hL
  have lL : G7 L = some (.lst [V.ref t1, V.ref t2, V.ref t3, V.ref t4, V.ref t5, V.ref t6]) := by rw [hG7]; exact upd_same
  rw [← hG7]
  have zG7 : Same G7 G7 := Same.refl _
  have zG6 : Same G6 G7 := eG7.trans zG7
  have zG5 : Same G5 G7 := eG6.trans zG6
  have zG4 : Same G4 G7 := eG5.trans zG5
  have zG3 : Same G3 G7 := eG4.trans zG4
  have zG2 : Same G2 G7 := eG3.trans zG3
  have zG1 : Same G1 G7 := eG2.trans zG2
  have zH : Same H G7 := eG1.trans zG1
  have item : ∀ {i : Nat} {x : V}, [V.ref t1, V.ref t2, V.ref t3, V.ref t4, V.ref t5, V.ref t6][i]? = some x → ∃ (t : Addr) (r : Nat) (d : Bool), x = .ref t ∧ G7 t = some (.tup [.int r, .bl d]) ∧ 1 ≤ r ∧ r ≤ 3 := fun {i x} hx => by
    match i, hx with
    | 0, hx => cases hx; exact ⟨t1, 1, false, rfl, zG1 _ _ lt1, by decide, by decide⟩
    | 1, hx => cases hx; exact ⟨t2, 2, false, rfl, zG2 _ _ lt2, by decide, by decide⟩
    | 2, hx => cases hx; exact ⟨t3, 3, false, rfl, zG3 _ _ lt3, by decide, by decide⟩
    | 3, hx => cases hx; exact ⟨t4, 1, true, rfl, zG4 _ _ lt4, by decide, by decide⟩
    | 4, hx => cases hx; exact ⟨t5, 2, true, rfl, zG5 _ _ lt5, by decide, by decide⟩
    | 5, hx => cases hx; exact ⟨t6, 3, true, rfl, zG6 _ _ lt6, by decide, by decide⟩
    | i + 6, hx => simp at hx
  refine ⟨L, rfl, ⟨_, SqL.of lL⟩, ?_⟩
  refine for_list (K := K) (a := L) (xs := [V.ref t1, V.ref t2, V.ref t3, V.ref t4, V.ref t5, V.ref t6]) (fun i σ H5 => Same G7 H5 ∧ ∃ o1 o2 o3 o4 o5 o6 o7 o8 o9, σ = [some (.ref L), o1, o2, o3, o4, o5, o6, o7, o8, o9]) ⟨Same.refl _, _, _, _, _, _, _, _, _, _, rfl⟩ (fun i σ H5 _ hp5 => hp5.1.seq (SqL.of lL)) (fun i x σ H5 hx hp5 => ?_) (fun σ H5 hp5 => ?_)
  · obtain ⟨e5, o1, o2, o3, o4, o5, o6, o7, o8, o9, rfl⟩ := hp5
    obtain ⟨t, r, d, rfl, ht, hr1, hr3⟩ := item hx
    refine ⟨_, _, rfl, SqT.of (e5 _ _ ht), rfl, _, _, rfl, _, _, rfl, rfl, ?_⟩
    refine ⟨rfl, rfl, make_best1 ⟨hr1, hr3⟩ fun b1 H6 e6 hb1 => ?_⟩
    refine ⟨rfl, rfl, make_best2 ⟨hr1, hr3⟩ fun b2 H7 e7 hb2 => ?_⟩
    refine make_best3 ⟨hr1, hr3⟩ fun b3 H8 e8 hb3 => ?_
    refine ⟨_, _, rfl, ?_⟩
    have hb1' := hb1.same (e7.trans e8)
    have hb2' := hb2.same e8
    refine ⟨r, d, hb1', hr3, fun H9 e9 => ?_⟩
    refine ⟨r, d, hb2'.same e9, hr3, fun H10 e10 => ?_⟩
    refine ⟨r, false, hb3.same (e9.trans e10), hr3, fun H11 e11 => ?_⟩
    refine ⟨by show 3 ≤ sizeLine; decide, fun M hM => ?_⟩
    obtain ⟨H12, hH12⟩ : ∃ z, z = upd H11 M (.lst [V.str (PyData.shown (.list (bestD r d))), V.str (PyData.shown (.list (bestD r d))), V.str (PyData.shown (.list (bestD r false)))]) := ⟨_, rfl⟩
    have eH12 : Same H11 H12 := by rw [hH12]; exact Same.upd hM
    have lM : H12 M = some (.lst [V.str (PyData.shown (.list (bestD r d))), V.str (PyData.shown (.list (bestD r d))), V.str (PyData.shown (.list (bestD r false)))]) := by rw [hH12]; exact upd_same
    rw [← hH12]
    obtain ⟨s1, s2, s3⟩ := room_sml hr3
    refine ⟨.int r, .fl rfl, s1, s2, s3, fun H13 e13 => ?_⟩
    refine ⟨.int r, .fl rfl, s1, s2, s3, fun H14 e14 => ?_⟩
    refine ⟨.int r, .fl rfl, s1, s2, s3, fun H15 e15 => ?_⟩
    simp only [due_best]
    refine ⟨by show 3 ≤ sizeLine; decide, fun M2 hM2 => ?_⟩
    obtain ⟨H16, hH16⟩ : ∃ z, z = upd H15 M2 (.lst [V.str (PyData.shown (.list (bestD r d))), V.str (PyData.shown (.list (bestD r d))), V.str (PyData.shown (.list (bestD r false)))]) := ⟨_, rfl⟩
    have eH16 : Same H15 H16 := by rw [hH16]; exact Same.upd hM2
    have lM2 : H16 M2 = some (.lst [V.str (PyData.shown (.list (bestD r d))), V.str (PyData.shown (.list (bestD r d))), V.str (PyData.shown (.list (bestD r false)))]) := by rw [hH16]; exact upd_same
    rw [← hH16]
    have e16 := ((e13.trans e14).trans e15).trans eH16
    have sh3 := three_sh (best_sok d hr1 hr3) (best_sok d hr1 hr3) (best_sok false hr1 hr3)
    refine ⟨_, _, three_dp (e16 _ _ lM), three_dp lM2, sh3, sh3, ?_⟩
    refine ite2 (fun hz => ?_) (fun _ => ?_)
    · rw [SeqAt.eqv_refl _ (SeqAt.canLay_of_shaped sh3)] at hz
      cases hz
    have e816 := (((e9.trans e10).trans e11).trans eH12).trans e16
    have e716 : Same G7 H16 := (((e5.trans e6).trans e7).trans e8).trans e816
    have hb := hb1'.same e816
    refine ⟨L, rfl, ⟨_, SqL.of (e716 _ _ lL)⟩, ?_⟩
    refine for_list (K := K) (a := L) (xs := [V.ref t1, V.ref t2, V.ref t3, V.ref t4, V.ref t5, V.ref t6]) (fun i σ H17 => Same H16 H17 ∧ ∃ o7 o8 o9, σ = [some (.ref L), some (.int r), some (.bl d), some (.ref b1), some (.ref b2), some (.ref b3), some (.ref M), o7, o8, o9]) ⟨Same.refl _, _, _, _, rfl⟩ (fun i σ H17 _ hp => (e716.trans hp.1).seq (SqL.of lL)) (fun i x σ H17 hx hp => ?_) (fun σ H17 hp => ?_)
    · obtain ⟨e17, o7, o8, o9, rfl⟩ := hp
      obtain ⟨t', r', d', rfl, ht', hr1', hr3'⟩ := item hx
      have ho := (e716.trans e17) _ _ ht'
      refine ⟨_, SqT.of ho, _, rfl, _, SqT.of ho, _, rfl, rfl, rfl, make_best1 ⟨hr1', hr3'⟩ fun b4 H18 e18 hb4 => ?_⟩
      have hb18 := hb.same (e17.trans e18)
      refine ⟨hb18.ins, ⟨_, hb4.ty T, nf_self⟩, r, d, hb18, .inl ⟨b4, r', d', rfl, hb4, ?_⟩⟩
      refine ⟨by show 2 ≤ sizeLine; decide, fun tt htt => ?_⟩
      have e19 := Same.upd (o := .tup [V.int r, V.bl d]) htt
      refine ⟨_, _, spec_dp (SqT.of ((e18.trans e19) _ _ ho)), spec_dp (SqT.of upd_same), spec_sh _ _, spec_sh _ _, ?_⟩
      have hsy : PyData.eqv (.tuple [.int r', .bool d']) (.tuple [.int r, .bool d]) = (decide (r = r') && (d == d')) := by
        rw [spec_eqv]
        congr 1
        · exact decide_eq_decide.mpr eq_comm
        · cases d <;> cases d' <;> rfl
      rw [hsy]
      refine ite2 (fun hz => ?_) (fun _ => ?_)
      · have hz : (!decide (V.bl (decide (r = r') && (d == d')) = V.bl (decide (r = r') && (d == d')))) = true := hz
        rw [decide_eq_true rfl] at hz
        cases hz
      have hb19 := hb18.same e19
      have hb419 := hb4.same e19
      refine ⟨hb19.ins, ⟨_, hb419.ty T, nf_self⟩, r, d, hb19, .inl ⟨b4, r', d', rfl, hb419, ?_⟩⟩
      refine ⟨hb19.ins, ⟨_, hb419.ty T, nf_self⟩, r, d, hb19, .inl ⟨b4, r', d', rfl, hb419, ?_⟩⟩
      refine ite2 (fun hz => ?_) (fun _ => ?_)
      · have hz : V.bl (!(decide (r = r') && (d == d'))) = V.bl (decide (r = r') && (d == d')) := of_decide_eq_true hz
        exact absurd (V.bl.inj hz) (by cases (decide (r = r') && (d == d')) <;> simp)
      exact ⟨(e17.trans e18).trans e19, _, _, _, rfl⟩
    · obtain ⟨e17, o7, o8, o9, rfl⟩ := hp
      have hb17 := hb.same e17
      refine ⟨hb17.ins, r, d, hb17, hr3, ?_⟩
      refine ⟨by show 2 ≤ sizeLine; decide, fun tw htw => ?_⟩
      obtain ⟨H18, hH18⟩ : ∃ z, z = upd H17 tw (.tup [V.int r, V.bl d]) := ⟨_, rfl⟩
      have eH18 : Same H17 H18 := by rw [hH18]; exact Same.upd htw
      have ltw : H18 tw = some (.tup [V.int r, V.bl d]) := by rw [hH18]; exact upd_same
      rw [← hH18]
      refine make_maker T ⟨hr1, by omega⟩ fun m H19 e19 hm => ?_
      refine ⟨by show 1 ≤ sizeLine; decide, fun lm hlm => ?_⟩
      obtain ⟨H20, hH20⟩ : ∃ z, z = upd H19 lm (.lst [V.ref b1]) := ⟨_, rfl⟩
      have eH20 : Same H19 H20 := by rw [hH20]; exact Same.upd hlm
      have llm : H20 lm = some (.lst [V.ref b1]) := by rw [hH20]; exact upd_same
      rw [← hH20]
      refine ⟨by show 7 ≤ sizeLine; decide, fun N hN => ?_⟩
      obtain ⟨H21, hH21⟩ : ∃ z, z = upd H20 N (.lst [V.str (bestT r d), V.int r, V.bl d, V.ref tw, V.non, V.ref m, V.ref lm]) := ⟨_, rfl⟩
      have eH21 : Same H20 H21 := by rw [hH21]; exact Same.upd hN
      have lN : H21 N = some (.lst [V.str (bestT r d), V.int r, V.bl d, V.ref tw, V.non, V.ref m, V.ref lm]) := by rw [hH21]; exact upd_same
      rw [← hH21]
      have e1821 : Same H18 H21 := (e19.trans eH20).trans eH21
      have hb21 := hb17.same (eH18.trans e1821)
      have things : ∀ {i : Nat} {x : V}, [V.str (bestT r d), V.int r, V.bl d, V.ref tw, V.non, V.ref m, V.ref lm][i]? = some x → ∀ H', Same H21 H' → NoB K H' x := fun {i x} hx H' e' => by
        match i, hx with
        | 0, hx => cases hx; exact noB_of T "str" (by decide) (.base (.str _))
        | 1, hx => cases hx; exact noB_of T "int" (by decide) (.base (.int _))
        | 2, hx => cases hx; exact noB_of T "bool" (by decide) (.base (.bl _))
        | 3, hx => cases hx; exact noB_of T "tuple" (by decide) (.base (.tup ((e1821.trans e') _ _ ltw)))
        | 4, hx => cases hx; exact noB_of T "NoneType" (by decide) (.base .non)
        | 5, hx => cases hx; exact ⟨_, (hm.same ((eH20.trans eH21).trans e')).ty T, pb2 T, pb3 T⟩
        | 6, hx => cases hx; exact noB_of T "list" (by decide) (.base (.lst ((eH21.trans e') _ _ llm)))
        | i + 7, hx => simp at hx
      refine ⟨N, rfl, ⟨_, SqL.of lN⟩, ?_⟩
      refine for_list (K := K) (a := N) (xs := [V.str (bestT r d), V.int r, V.bl d, V.ref tw, V.non, V.ref m, V.ref lm]) (fun i σ H22 => Same H21 H22 ∧ ∃ o9, σ = [some (.ref L), some (.int r), some (.bl d), some (.ref b1), some (.ref b2), some (.ref b3), some (.ref M), o7, o8, o9]) ⟨Same.refl _, _, rfl⟩ (fun i σ H22 _ hp => hp.1.seq (SqL.of lN)) (fun i x σ H22 hx hp => ?_) (fun σ H22 hp => ?_)
      · obtain ⟨e22, o9, rfl⟩ := hp
        obtain ⟨ty, h1, h2, h3⟩ := things hx H22 e22
        have hb22 := hb21.same e22
        refine ⟨hb22.ins, ⟨_, h1, h3⟩, r, d, hb22, .inr ⟨_, h1, h2, ?_⟩⟩
        refine ⟨hb22.ins, ⟨_, h1, h3⟩, r, d, hb22, .inr ⟨_, h1, h2, ?_⟩⟩
        exact ⟨e22, _, rfl⟩
      · obtain ⟨e22, o9, rfl⟩ := hp
        exact ⟨(((e716.trans e17).trans eH18).trans e1821).trans e22, _, _, _, _, _, _, _, _, _, rfl⟩
  · obtain ⟨e5, o1, o2, o3, o4, o5, o6, o7, o8, o9, rfl⟩ := hp5
    refine make_maker T (n := 2) ⟨by decide, by decide⟩ fun m1 H6 e6 hm1 => ?_
    refine make_best3 (r := 2) ⟨by decide, by decide⟩ fun b1 H7 e7 hb1 => ?_
    refine ⟨(hm1.same e7).ins, ⟨_, hb1.ty T, pb4 T⟩, _, hb1.ty T, pb1 T, ?_⟩
    refine make_maker T (n := 1) ⟨by decide, by decide⟩ fun m2 H8 e8 hm2 => ?_
    refine make_best3 (r := 1) ⟨by decide, by decide⟩ fun b2 H9 e9 hb2 => ?_
    refine ⟨(hm2.same e9).ins, ⟨_, hb2.ty T, pb4 T⟩, _, hb2.ty T, pb1 T, ?_⟩
    exact hQ _ ((((zH.trans e5).trans e6).trans e7).trans (e8.trans e9))
theorem b__law_pair_right (T : Tx K mg) : Binds K (fdA K (He.fAd K d__law_pair_right.at_)) [] [] := T.F__law_pair_right.bindsN fun _ _ _ _ _ _ us hl => match us, hl with | [], _ => rfl
theorem ok__law_pair_right (T : Tx K mg) : FnG P w K mg base CX0 7 (He.fAd K d__law_pair_right.at_) (fdA K (He.fAd K d__law_pair_right.at_)) [] (sp__law_pair_right K) :=
  Sp.FunD.okG T.F__law_pair_right sc__law_pair_right (fun _ _ _ _ h => on0_len h) (fun cdv A outer s H vs Q E hgd hr h => ⟨t__law_pair_right K, PSs.nox ((pss_cons (ps_set (i := 0) sc__law_pair_right.nd rfl (.inl rfl) (pe_lst (pa_cons (pe_tup (pa_cons pe_int (pa_cons pe_bl pa_nil))) (pa_cons (pe_tup (pa_cons pe_int (pa_cons pe_bl pa_nil))) (pa_cons (pe_tup (pa_cons pe_int (pa_cons pe_bl pa_nil))) (pa_cons (pe_tup (pa_cons pe_int (pa_cons pe_bl pa_nil))) (pa_cons (pe_tup (pa_cons pe_int (pa_cons pe_bl pa_nil))) (pa_cons (pe_tup (pa_cons pe_int (pa_cons pe_bl pa_nil))) pa_nil))))))))
      (pss_cons (ps_for PassesOwn.never (by rfl) (pi_list (vv 0)) (pg_tup rfl (pgs_cons (pg_name (i := 1) sc__law_pair_right.nd rfl (.inl rfl)) (pgs_cons (pg_name (i := 2) sc__law_pair_right.nd rfl (.inl rfl)) pgs_nil)))
      (pss_cons (ps_set (i := 3) sc__law_pair_right.nd rfl (.inl rfl) (pe_makeN T.mk_Best (ok_Best_init T) (hr.mono (by decide)) (by rfl) T.g_Best (mb_Best_1_down T).choose_spec passL (pa_cons (vv 1) pa_nil) (pk_cons (vv 2) pk_nil)))
      (pss_cons (ps_par (by rfl) sc__law_pair_right.nd rfl rfl (by decide) rfl rfl (pa_cons (e_makeK0 T.mk_Best (ok_Best_init T) (hr.mono (by decide)) (by rfl) T.g_Best (mb_Best_0_down_room T).choose_spec passL (pk_cons (vv 2) (pk_cons (vv 1) pk_nil))) (pa_cons (pe_make T.mk_Best (ok_Best_init T) (hr.mono (by decide)) (by rfl) T.g_Best (mb_Best_1 T).choose_spec.2 (mb_Best_1 T).choose_spec.1 passL (pa_cons (vv 1) pa_nil)) pa_nil)) (by rfl))
      (pss_cons (ps_set (i := 6) sc__law_pair_right.nd rfl (.inl rfl) (pe_lst (pa_cons (e_callG hgd (ok__law_shown T) (hr.mono (by decide)) (by rfl) T.g__law_shown T.F__law_shown.kp (b__law_shown T) .nil pass0 (pa_cons (vv 3) pa_nil)) (pa_cons (e_callG hgd (ok__law_shown T) (hr.mono (by decide)) (by rfl) T.g__law_shown T.F__law_shown.kp (b__law_shown T) .nil pass0 (pa_cons (vv 4) pa_nil)) (pa_cons (e_callG hgd (ok__law_shown T) (hr.mono (by decide)) (by rfl) T.g__law_shown T.F__law_shown.kp (b__law_shown T) .nil pass0 (pa_cons (vv 5) pa_nil)) pa_nil)))))
      (pss_cons (ps_if (t_cmp (op_neD hr.units) (vv 6) (pe_lst (pa_cons (e_callG hgd (ok__law_due T) (hr.mono (by decide)) (by rfl) T.g__law_due T.F__law_due.kp (b__law_due T) .nil pass0 (pa_cons (vv 1) (pa_cons (vv 2) pa_nil))) (pa_cons (e_callG hgd (ok__law_due T) (hr.mono (by decide)) (by rfl) T.g__law_due T.F__law_due.kp (b__law_due T) .nil pass0 (pa_cons (vv 1) (pa_cons (vv 2) pa_nil))) (pa_cons (e_callG hgd (ok__law_due T) (hr.mono (by decide)) (by rfl) T.g__law_due T.F__law_due.kp (b__law_due T) .nil pass0 (pa_cons (vv 1) (pa_cons pe_bl pa_nil))) pa_nil)))) (nomark _))
      (pss_one (ps_ret pe_bl)) pss_nil)
      (pss_cons (ps_for PassesOwn.never (by rfl) (pi_list (vv 0)) (pg_name (i := 7) sc__law_pair_right.nd rfl (.inl rfl))
      (pss_cons (ps_set (i := 8) sc__law_pair_right.nd rfl (.inl rfl) (pe_makeN T.mk_Best (ok_Best_init T) (hr.mono (by decide)) (by rfl) T.g_Best (mb_Best_1_down T).choose_spec passL (pa_cons (pe_ix x_tup (vv 7) pe_int (fun _ _ => rfl)) pa_nil) (pk_cons (pe_ix x_tup (vv 7) pe_int (fun _ _ => rfl)) pk_nil)))
      (pss_one (ps_if (PW.pt (pw_or (t_cmp o_ne (pe_cmpR (o_ownEq T.m_Best_eq (ck0 (ok_Best_eq T) (b_Best_eq T) pass0) (hr.mono (by decide))) (vv 3) (vv 8) (nomark _)) (pe_cmpR (op_eqD hr.units) (vv 7) (pe_tup (pa_cons (vv 1) (pa_cons (vv 2) pa_nil))) (nomark _)) (nomark _)) (pw_or1 (t_cmp o_eq (pe_cmpR (o_ownNe T.m_Best_eq T.ne_Best T.I_Best (ck0 (ok_Best_eq T) (b_Best_eq T) pass0) (hr.mono (by decide))) (vv 3) (vv 8) (nomark _)) (pe_cmpR (o_ownEq T.m_Best_eq (ck0 (ok_Best_eq T) (b_Best_eq T) pass0) (hr.mono (by decide))) (vv 3) (vv 8) (nomark _)) (nomark _)))))
      (pss_one (ps_ret pe_bl)) pss_nil))))
      (pss_one (ps_for PassesOwn.never (by rfl) (pi_list (pe_lst (pa_cons (pe_callTy (c_strO T.m_Best_str (ck0 (ok_Best_str T) (b_Best_str T) pass0) (hr.mono (by decide))) (by rfl) T.b_str boot_str (pa_cons (vv 3) pa_nil)) (pa_cons (vv 1) (pa_cons (vv 2) (pa_cons (pe_tup (pa_cons (vv 1) (pa_cons (vv 2) pa_nil))) (pa_cons pe_non (pa_cons (pe_make T.mk_Maker (ok_Maker_init T) (hr.mono (by decide)) (by rfl) T.g_Maker (mb_Maker_1 T).choose_spec.2 (mb_Maker_1 T).choose_spec.1 pass0 (pa_cons (vv 1) pa_nil)) (pa_cons (pe_lst (pa_cons (vv 3) pa_nil)) pa_nil))))))))) (pg_name (i := 9) sc__law_pair_right.nd rfl (.inl rfl))
      (pss_one (ps_if (PW.pt (pw_or (t_cmp (o_ownEq T.m_Best_eq (ck0 (ok_Best_eq T) (b_Best_eq T) pass0) (hr.mono (by decide))) (vv 3) (vv 9) (nomark _)) (pw_or1 (pt_not (t_cmp (o_ownNe T.m_Best_eq T.ne_Best T.I_Best (ck0 (ok_Best_eq T) (b_Best_eq T) pass0) (hr.mono (by decide))) (vv 3) (vv 9) (nomark _))))))
      (pss_one (ps_ret pe_bl)) pss_nil))))))))))
      (pss_one (ps_ret (e_and (pe_cmpR (o_ownNe T.m_Maker_eq T.ne_Maker T.I_Maker (ck0 (ok_Maker_eq T) (b_Maker_eq T) pass0) (hr.mono (by decide))) (pe_make T.mk_Maker (ok_Maker_init T) (hr.mono (by decide)) (by rfl) T.g_Maker (mb_Maker_1 T).choose_spec.2 (mb_Maker_1 T).choose_spec.1 pass0 (pa_cons pe_int pa_nil)) (pe_make T.mk_Best (ok_Best_init T) (hr.mono (by decide)) (by rfl) T.g_Best (mb_Best_1 T).choose_spec.2 (mb_Best_1 T).choose_spec.1 passL (pa_cons pe_int pa_nil)) (nomark _)) (pe_one (e_not (pe_cmpR (o_ownEq T.m_Maker_eq (ck0 (ok_Maker_eq T) (b_Maker_eq T) pass0) (hr.mono (by decide))) (pe_make T.mk_Maker (ok_Maker_init T) (hr.mono (by decide)) (by rfl) T.g_Maker (mb_Maker_1 T).choose_spec.2 (mb_Maker_1 T).choose_spec.1 pass0 (pa_cons pe_int pa_nil)) (pe_make T.mk_Best (ok_Best_init T) (hr.mono (by decide)) (by rfl) T.g_Best (mb_Best_1 T).choose_spec.2 (mb_Best_1 T).choose_spec.1 passL (pa_cons pe_int pa_nil)) (nomark _)))))))))), pure__law_pair_right T vs H Q E h⟩)

end K12
namespace K12
open PySem PySem.Spec PyProof.Rows L2 Sp
variable {P : Program} {w : World} {K : PySem.W.Frag} {mg : Str → Option Value} {base : Heap}
theorem Pool.same {H H' : Hp} {p : Addr} (e : Same H H') (h : Pool H p) : Pool H' p := by
  obtain ⟨a, b, c, h1, h2⟩ := h
  exact ⟨a, b, c, e _ _ h1, h2⟩
theorem Pool.ne {H : Hp} {p q : Addr} (h : Pool H p) (hq : H q = none) : q ≠ p := by
  obtain ⟨a, b, c, h1, _⟩ := h
  exact (ne_of_none h1 hq).symm
theorem Pool.tk {H H' : Hp} {p : Addr} (h : Pool H p) (k : Kp p H H') : TK K H H' := fun l xs hl => by
  obtain ⟨a, b, c, h1, _⟩ := h
  rcases hl with (hl | ⟨ob, hl⟩) | hl
  · exact .inl (.inl (k _ _ (ne_of hl h1 (fun z => by cases z)) hl))
  · exact .inl (.inr ⟨ob, k _ _ (ne_of hl h1 (fun z => by cases z)) hl⟩)
  · exact .inr hl

/-! ### drawn values -/
def inD (d : PyData) (ss : List Str) : Bool := ss.any fun s => decide (s = d.shown)
def smlB (d : PyData) : Bool := d.showable && (decide (d.depth ≤ 5) && decide (d.shown.length ≤ 10000))
theorem smlB_ok {d : PyData} (h : smlB d = true) : Sml d := by
  obtain ⟨h1, h⟩ := He.ba h
  obtain ⟨h2, h3⟩ := He.ba h
  exact ⟨h1, of_decide_eq_true h2, of_decide_eq_true h3⟩
def dueD (d : PyData) (b : Bool) : PyData := .str (PyData.shown (.list [d, .bool b, .str (lineT (strD d) b), .bool true]))
def widD : List PyData := [.none, .bool true, .bool false, .int 0, .int 4, .int (-1), .int (10 ^ 30), .str "1", .str "", .tuple [.int 1], .list [.int 2], .dict [], .tuple [], .int 1, .int 2, .int 3]
def flgD : List PyData := [.bool true, .bool false, .none, .int 0, .int 1, .str "down", .tuple [], .list [.bool true], .int 2, .int (-1)]
def widB (d : PyData) : Bool := smlB d && (decide ((strD d).length ≤ 100) && ((strD d).cps.toList.all (fun c => decide (c < 16 ^ 8)) && (decide (inD d ["1", "2", "3"] = roomOk 3 d) && (PyData.strOk d.shown && (smlB (dueD d true) && (smlB (dueD d false) && (PyData.strOk (dueD d true).shown && PyData.strOk (dueD d false).shown)))))))
def flgB (d : PyData) : Bool := smlB d && (decide (inD d ["True", "False"] = flagOk d) && PyData.strOk d.shown)
theorem wid_all : widD.all widB = true := by decide +kernel
theorem flg_all : flgD.all flgB = true := by decide +kernel
structure WidOk (d : PyData) : Prop where
  s : Sml d
  l : (strD d).length ≤ 100
  c : ∀ c ∈ (strD d).cps.toList, c < 16 ^ 8
  i : inD d ["1", "2", "3"] = roomOk 3 d
  k : PyData.strOk d.shown = true
  sd : ∀ b, Sml (dueD d b)
  kd : ∀ b, PyData.strOk (dueD d b).shown = true
theorem wid_ok {d : PyData} (h : d ∈ widD) : WidOk d := by
  have h := List.all_eq_true.mp wid_all d h
  obtain ⟨h1, h⟩ := He.ba h
  obtain ⟨h2, h⟩ := He.ba h
  obtain ⟨h3, h⟩ := He.ba h
  obtain ⟨h4, h⟩ := He.ba h
  obtain ⟨h5, h⟩ := He.ba h
  obtain ⟨h6, h⟩ := He.ba h
  obtain ⟨h7, h⟩ := He.ba h
  obtain ⟨h8, h9⟩ := He.ba h
  exact ⟨smlB_ok h1, of_decide_eq_true h2, fun c hc => of_decide_eq_true (List.all_eq_true.mp h3 c hc), of_decide_eq_true h4, h5, fun b => by cases b; exact smlB_ok h7; exact smlB_ok h6, fun b => by cases b; exact h9; exact h8⟩
structure FlgOk (d : PyData) : Prop where
  s : Sml d
  i : inD d ["True", "False"] = flagOk d
  k : PyData.strOk d.shown = true
theorem flg_ok {d : PyData} (h : d ∈ flgD) : FlgOk d := by
  have h := List.all_eq_true.mp flg_all d h
  obtain ⟨h1, h⟩ := He.ba h
  obtain ⟨h2, h3⟩ := He.ba h
  exact ⟨smlB_ok h1, of_decide_eq_true h2, h3⟩
theorem in_strs (s : Str) : ∀ ss : List Str, inV (.str s) (ss.map V.str) = ss.any fun z => decide (z = s)
  | [] => rfl
  | z :: ss => by
    have := in_strs s ss
    unfold inV at this ⊢
    rw [List.map_cons, List.any_cons, List.any_cons, this]
    congr 1
theorem two_dp {H : Hp} {L : Addr} {x y : Str} (h : H L = some (.lst [.str x, .str y])) : Dp K H (.ref L) (.list [.str x, .str y]) := .lst (SqL.of h) (.cons (.str _) (.cons (.str _) .nil))
theorem two_sh {x y : Str} (hx : PyData.strOk x = true) (hy : PyData.strOk y = true) : SeqAt.shaped (.list [.str x, .str y]) = true := by
  simp [SeqAt.shaped, PyData.canLay0, PyData.canLayAll0, PyData.depth, PyData.depthAll, hx, hy]
theorem tabs_keep {T : List (Addr × Str)} {H H' : Hp} (k : ∀ b o, (∀ xs, o ≠ .lst xs) → H b = some o → H' b = some o) (h : LamX.Tabs T H) : LamX.Tabs T H' := fun p hp => by
  obtain ⟨ps, h1, h2, h3⟩ := h p hp
  refine ⟨ps, k _ _ (fun _ z => nomatch z) h1, h2, fun pos cv hc => ?_⟩
  obtain ⟨c, e1, e2⟩ := h3 pos cv hc
  exact ⟨c, e1, k _ _ (fun _ z => by unfold LamX.CodeO at z; cases z) e2⟩
theorem tabs_kp {T : List (Addr × Str)} {H H' : Hp} {p : Addr} (hp : Pool H p) (k : Kp p H H') (h : LamX.Tabs T H) : LamX.Tabs T H' := tabs_keep (fun b o ho hb => k b o (fun z => by
  obtain ⟨a, b', c, e, _⟩ := hp
  rw [z, e] at hb
  exact ho _ (Option.some.inj hb).symm) hb) h
theorem tabs0 {K : PySem.W.Frag} {H : Hp} (h : ∀ p ∈ tf.map (He.cT K), H p.2 = some (.tbl #[])) : LamX.Tabs (lamT K) H := fun p hp => by
  simp only [lamT, List.mem_cons, List.not_mem_nil, or_false] at hp
  subst hp
  exact .nil (h _ (List.mem_map.mpr ⟨_, List.mem_cons_self, rfl⟩))
theorem KpN.kp {p : Addr} {H H' : Hp} (a : Kp p H H') : KpN p H H' := fun c o n _ h => a c o n h
theorem KpN.same {p : Addr} {H H' : Hp} (a : Same H H') : KpN p H H' := fun c o _ _ h => a c o h
theorem Pool.ext {p : Addr} {H H' : Hp} (a : LamX.ExtN H H') (h : Pool H p) : Pool H' p := by
  obtain ⟨x, y, z, e, r⟩ := h
  exact ⟨x, y, z, a _ _ e (fun _ z => nomatch z), r⟩
theorem dt_kp {H H' : Hp} {p : Addr} {v : V} {d : PyData} (hp : Pool H p) (k : Kp p H H') (h : Dt K H v d) : Dt K H' v d := h.keep (hp.tk k) fun b o ho hb => k b o (fun z => by
  obtain ⟨a', b', c', h1, _⟩ := hp
  rw [z, h1] at hb
  exact ho _ _ _ (Option.some.inj hb).symm) hb
theorem pool_ne {H : Hp} {p q : Addr} {xs : List V} (h : Pool H p) (hq : H q = some (.lst xs)) (hl : xs.length ≠ 3) : q ≠ p := fun z => by
  obtain ⟨a, b, c, h1, _⟩ := h
  rw [z, h1] at hq
  cases hq
  exact hl rfl
/-- what is due by the flag alone -/
def FDue (f : V) (dw df : PyData) (s1 s2 : Str) : Prop := (flagOk df = false ∧ s1 = "InvalidFlag" ∧ s2 = df.shown) ∨ ∃ b, f = .bl b ∧ df = .bool b ∧ s1 = "told" ∧ s2 = (dueD dw b).shown
def WDue (v f : V) (dw df : PyData) (s1 s2 : Str) : Prop := (roomOk 3 dw = false ∧ s1 = "InvalidRoom" ∧ s2 = dw.shown) ∨ (roomOk 3 dw = true ∧ FDue f dw df s1 s2)
def sp__law_right (K : PySem.W.Frag) : L2.Sp := fun vs H Q _ => on1 vs fun x => onRef x fun p => Pool H p ∧ LamX.Tabs (lamT K) H ∧ ∀ H', KpN p H H' → Pool H' p → LamX.Tabs (lamT K) H' → Q (.bl true) H'
abbrev N__law_right : List Str := ["_law_pool", "_law_menu", "_law_width", "_law_flag", "_law_due_here"]
theorem sc__law_right : FnScope N__law_right ["_law_pool"] (defScope s__law_right) := ⟨rfl, rfl, rfl, by decide +kernel, rfl, by decide +kernel, by decide +kernel⟩
def t__law_right (K : PySem.W.Frag) : TS :=
    tSeq (tAsg (tLstN (tCons (tC .non) (tCons (tC (.bl true)) (tCons (tC (.bl false)) (tCons (tC (.int 0)) (tCons (tC (.int 4)) (tCons (tUn fNeg (tC (.int 1))) (tCons (tOp fPow (tC (.int 10)) (tC (.int 30))) (tCons (tC (.str "1")) (tCons (tC (.str "")) (tCons (tTup (tCons (tC (.int 1)) tNil)) (tCons (tLstN (tCons (tC (.int 2)) tNil)) (tCons tDNewK (tCons (tTup tNil) tNil)))))))))))))) (gName 1))
    (tSeq (tAsg (tCall (sp__law_pick K) [] E0 (tCons (fV 0) (tCons (tOp fCatL (fV 1) (tLstN (tCons (tC (.int 1)) (tCons (tC (.int 2)) (tCons (tC (.int 3)) tNil))))) tNil))) (gName 2))
    (tSeq (tAsg (tCall (sp__law_pick K) [] E0 (tCons (fV 0) (tCons (tLstN (tCons (tC (.bl true)) (tCons (tC (.bl false)) (tCons (tC .non) (tCons (tC (.int 0)) (tCons (tC (.int 1)) (tCons (tC (.str "down")) (tCons (tTup tNil) (tCons (tLstN (tCons (tC (.bl true)) tNil)) (tCons (tC (.int 2)) (tCons (tUn fNeg (tC (.int 1))) tNil))))))))))) tNil))) (gName 3))
    (tSeq (tAsg (tLstN (tCons (tC (.str "InvalidFlag")) (tCons (tCB (fReprT K) (tCons (fV 3) tNil)) tNil))) (gName 4))
    (tCut (tIfS (fT (tOp (fIn K false) (tCB (fReprT K) (tCons (fV 3) tNil)) (tLstN (tCons (tC (.str "True")) (tCons (tC (.str "False")) tNil)))))
    (tAsg (tLstN (tCons (tC (.str "told")) (tCons (tCB (fReprT K) (tCons (tCall (sp__law_due K) [] E0 (tCons (fV 2) (tCons (fV 3) tNil))) tNil)) tNil))) (gName 4)) tNext)
    (tCut (tIfS (fT (tOp (fIn K true) (tCB (fReprT K) (tCons (fV 2) tNil)) (tLstN (tCons (tC (.str "1")) (tCons (tC (.str "2")) (tCons (tC (.str "3")) tNil))))))
    (tAsg (tLstN (tCons (tC (.str "InvalidRoom")) (tCons (tCB (fReprT K) (tCons (fV 2) tNil)) tNil))) (gName 4)) tNext)
    (tRet (tOp (rEqD K) (LamX.tLam (lamT K) (TT__law_caught K) (fun E => tCall (sp__law_shown K) [] E0 (tCons (tMakeN (He.ga K "Best") 1 (List.length (["down"] : List Str)) (sp_Best_init K) gV_Best_1_down E (tCons (fV 2) tNil) (tCons (fV 3) tNil)) tNil))) (fV 4))))))))
abbrev Pure__law_right (K : PySem.W.Frag) : Prop := ∀ (vs : List V) (H : Hp) (Q : VK) (E : XK), sp__law_right K vs H Q E → t__law_right K { nx := fun _ H' => Q .non H', rt := Q } (L2.start N__law_right vs) H
theorem pure__law_right (T : Tx K mg) : Pure__law_right K := by
  intro vs H Q E h
  obtain ⟨x, rfl, h⟩ := on1_ex h
  obtain ⟨p, rfl, hp, hT, hQ⟩ := onRef_ex h
  refine ⟨⟨by decide, by decide, by decide⟩, ?_⟩
  refine ⟨by show 1 ≤ sizeLine; decide, fun t1 ht1 => ?_⟩
  obtain ⟨G1, hG1⟩ : ∃ z, z = upd H t1 (.tup [V.int 1]) := ⟨_, rfl⟩
  have eG1 : Same H G1 := by rw [hG1]; exact Same.upd ht1
  have lt1 : G1 t1 = some (.tup [V.int 1]) := by rw [hG1]; exact upd_same
  rw [← hG1]
  refine ⟨by show 1 ≤ sizeLine; decide, fun t2 ht2 hst2 => ?_⟩
  obtain ⟨G2, hG2⟩ : ∃ z, z = upd G1 t2 (.lst [V.int 2]) := ⟨_, rfl⟩
  have eG2 : Same G1 G2 := by rw [hG2]; exact Same.upd ht2
  have lt2 : G2 t2 = some (.lst [V.int 2]) := by rw [hG2]; exact upd_same
  rw [← hG2]
  refine fun t3 ht3 => ?_
  obtain ⟨G3, hG3⟩ : ∃ z, z = upd G2 t3 (.dK []) := ⟨_, rfl⟩
  have eG3 : Same G2 G3 := by rw [hG3]; exact Same.upd ht3
  have lt3 : G3 t3 = some (.dK []) := by rw [hG3]; exact upd_same
  rw [← hG3]
  refine ⟨by show 0 ≤ sizeLine; decide, fun t4 ht4 => ?_⟩
  obtain ⟨G4, hG4⟩ : ∃ z, z = upd G3 t4 (.tup []) := ⟨_, rfl⟩
  have eG4 : Same G3 G4 := by rw [hG4]; exact Same.upd ht4
  have lt4 : G4 t4 = some (.tup []) := by rw [hG4]; exact upd_same
  rw [← hG4]
  refine ⟨by show 13 ≤ sizeLine; decide, fun M hM hsM => ?_⟩
  obtain ⟨G5, hG5⟩ : ∃ z, z = upd G4 M (.lst [V.non, V.bl true, V.bl false, V.int 0, V.int 4, V.int (-1), V.int (10 ^ Int.toNat 30), V.str "1", V.str "", V.ref t1, V.ref t2, V.ref t3, V.ref t4]) := ⟨_, rfl⟩
  have eG5 : Same G4 G5 := by rw [hG5]; exact Same.upd hM
  have lM : G5 M = some (.lst [V.non, V.bl true, V.bl false, V.int 0, V.int 4, V.int (-1), V.int (10 ^ Int.toNat 30), V.str "1", V.str "", V.ref t1, V.ref t2, V.ref t3, V.ref t4]) := by rw [hG5]; exact upd_same
  rw [← hG5]
  refine ⟨by show 3 ≤ sizeLine; decide, fun M2 hM2 hsM2 => ?_⟩
  obtain ⟨G6, hG6⟩ : ∃ z, z = upd G5 M2 (.lst [V.int 1, V.int 2, V.int 3]) := ⟨_, rfl⟩
  have eG6 : Same G5 G6 := by rw [hG6]; exact Same.upd hM2
  have lM2 : G6 M2 = some (.lst [V.int 1, V.int 2, V.int 3]) := by rw [hG6]; exact upd_same
  rw [← hG6]
  refine ⟨_, _, eG6 _ _ lM, lM2, by show 16 ≤ sizeLine; decide, fun L hL => ?_⟩
  obtain ⟨G7, hG7⟩ : ∃ z, z = upd G6 L (.lst ([V.non, V.bl true, V.bl false, V.int 0, V.int 4, V.int (-1), V.int (10 ^ Int.toNat 30), V.str "1", V.str "", V.ref t1, V.ref t2, V.ref t3, V.ref t4] ++ [V.int 1, V.int 2, V.int 3])) := ⟨_, rfl⟩
  have eG7 : Same G6 G7 := by rw [hG7]; exact Same.upd hL
  have lL : G7 L = some (.lst [V.non, V.bl true, V.bl false, V.int 0, V.int 4, V.int (-1), V.int (10 ^ Int.toNat 30), V.str "1", V.str "", V.ref t1, V.ref t2, V.ref t3, V.ref t4, V.int 1, V.int 2, V.int 3]) := by rw [hG7]; exact upd_same
  rw [← hG7]
  have zG7 : Same G7 G7 := Same.refl _
  have zG6 : Same G6 G7 := eG7.trans zG7
  have zG5 : Same G5 G7 := eG6.trans zG6
  have zG4 : Same G4 G7 := eG5.trans zG5
  have zG3 : Same G3 G7 := eG4.trans zG4
  have zG2 : Same G2 G7 := eG3.trans zG3
  have zG1 : Same G1 G7 := eG2.trans zG2
  have zH : Same H G7 := eG1.trans zG1
  have hp7 := hp.same zH
  refine ⟨hp7, _, SqL.of lL, pool_ne hp7 lL (by show 16 ≠ 3; decide), by simp, by show 16 < 1000; decide, fun i v H1 hi hp1 hk1 => ?_⟩
  obtain ⟨dw, hdw7, hw⟩ : ∃ dw, Dt K G7 v dw ∧ dw ∈ widD := by
    match i, hi with
    | 0, hi => cases hi; exact ⟨_, .fl rfl, by simp [widD]⟩
    | 1, hi => cases hi; exact ⟨.bool true, .fl rfl, by simp [widD]⟩
    | 2, hi => cases hi; exact ⟨.bool false, .fl rfl, by simp [widD]⟩
    | 3, hi => cases hi; exact ⟨.int 0, .fl rfl, by simp [widD]⟩
    | 4, hi => cases hi; exact ⟨.int 4, .fl rfl, by simp [widD]⟩
    | 5, hi => cases hi; exact ⟨.int (-1), .fl rfl, by simp [widD]⟩
    | 6, hi => cases hi; exact ⟨.int (10 ^ 30), .fl rfl, by simp [widD]⟩
    | 7, hi => cases hi; exact ⟨.str "1", .fl rfl, by simp [widD]⟩
    | 8, hi => cases hi; exact ⟨.str "", .fl rfl, by simp [widD]⟩
    | 9, hi => cases hi; exact ⟨.tuple [.int 1], .tup (SqT.of (zG1 _ _ lt1)) (.cons (.fl rfl) .nil), by simp [widD]⟩
    | 10, hi => cases hi; exact ⟨.list [.int 2], .lst (zG2 _ _ lt2) (by show 1 ≠ 3; decide) hst2 (.cons (.fl rfl) .nil), by simp [widD]⟩
    | 11, hi => cases hi; exact ⟨.dict [], .d0 (zG3 _ _ lt3), by simp [widD]⟩
    | 12, hi => cases hi; exact ⟨.tuple [], .tup (SqT.of (zG4 _ _ lt4)) .nil, by simp [widD]⟩
    | 13, hi => cases hi; exact ⟨.int 1, .fl rfl, by simp [widD]⟩
    | 14, hi => cases hi; exact ⟨.int 2, .fl rfl, by simp [widD]⟩
    | 15, hi => cases hi; exact ⟨.int 3, .fl rfl, by simp [widD]⟩
    | i + 16, hi => simp at hi
  have hdw1 := dt_kp hp7 hk1 hdw7
  have hT1 := tabs_kp hp7 hk1 (hT.ext zH)
  have k1 : KpN p H H1 := (KpN.same zH).trans (KpN.kp hk1)
  refine ⟨by show 0 ≤ sizeLine; decide, fun u1 hu1 => ?_⟩
  obtain ⟨F1, hF1⟩ : ∃ z, z = upd H1 u1 (.tup []) := ⟨_, rfl⟩
  have eF1 : Same H1 F1 := by rw [hF1]; exact Same.upd hu1
  have lu1 : F1 u1 = some (.tup []) := by rw [hF1]; exact upd_same
  rw [← hF1]
  refine ⟨by show 1 ≤ sizeLine; decide, fun u2 hu2 hsu2 => ?_⟩
  obtain ⟨F2, hF2⟩ : ∃ z, z = upd F1 u2 (.lst [V.bl true]) := ⟨_, rfl⟩
  have eF2 : Same F1 F2 := by rw [hF2]; exact Same.upd hu2
  have lu2 : F2 u2 = some (.lst [V.bl true]) := by rw [hF2]; exact upd_same
  rw [← hF2]
  refine ⟨by show 10 ≤ sizeLine; decide, fun N hN hsN => ?_⟩
  obtain ⟨F3, hF3⟩ : ∃ z, z = upd F2 N (.lst [V.bl true, V.bl false, V.non, V.int 0, V.int 1, V.str "down", V.ref u1, V.ref u2, V.int 2, V.int (-1)]) := ⟨_, rfl⟩
  have eF3 : Same F2 F3 := by rw [hF3]; exact Same.upd hN
  have lN : F3 N = some (.lst [V.bl true, V.bl false, V.non, V.int 0, V.int 1, V.str "down", V.ref u1, V.ref u2, V.int 2, V.int (-1)]) := by rw [hF3]; exact upd_same
  rw [← hF3]
  have zF3 : Same F3 F3 := Same.refl _
  have zF2 : Same F2 F3 := eF3.trans zF3
  have zF1 : Same F1 F3 := eF2.trans zF2
  have zH1 : Same H1 F3 := eF1.trans zF1
  have hp3 := hp1.same zH1
  refine ⟨hp3, _, SqL.of lN, pool_ne hp3 lN (by show 10 ≠ 3; decide), by simp, by show 10 < 1000; decide, fun i f H2 hi hp2 hk2 => ?_⟩
  obtain ⟨df, hdf3, hf⟩ : ∃ df, Dt K F3 f df ∧ df ∈ flgD := by
    match i, hi with
    | 0, hi => cases hi; exact ⟨.bool true, .fl rfl, by simp [flgD]⟩
    | 1, hi => cases hi; exact ⟨.bool false, .fl rfl, by simp [flgD]⟩
    | 2, hi => cases hi; exact ⟨.none, .fl rfl, by simp [flgD]⟩
    | 3, hi => cases hi; exact ⟨.int 0, .fl rfl, by simp [flgD]⟩
    | 4, hi => cases hi; exact ⟨.int 1, .fl rfl, by simp [flgD]⟩
    | 5, hi => cases hi; exact ⟨.str "down", .fl rfl, by simp [flgD]⟩
    | 6, hi => cases hi; exact ⟨.tuple [], .tup (SqT.of (zF1 _ _ lu1)) .nil, by simp [flgD]⟩
    | 7, hi => cases hi; exact ⟨.list [.bool true], .lst (zF2 _ _ lu2) (by show 1 ≠ 3; decide) hsu2 (.cons (.fl rfl) .nil), by simp [flgD]⟩
    | 8, hi => cases hi; exact ⟨.int 2, .fl rfl, by simp [flgD]⟩
    | 9, hi => cases hi; exact ⟨.int (-1), .fl rfl, by simp [flgD]⟩
    | i + 10, hi => simp at hi
  have hdf2 := dt_kp hp3 hk2 hdf3
  have hdw2 := dt_kp hp3 hk2 (hdw1.same zH1)
  have hT2 := tabs_kp hp3 hk2 (hT1.ext zH1)
  have k2 : KpN p H H2 := (k1.trans (KpN.same zH1)).trans (KpN.kp hk2)
  have w := wid_ok hw
  have g := flg_ok hf
  refine ⟨df, hdf2, g.s, ?_⟩
  refine ⟨by show 2 ≤ sizeLine; decide, fun D1 hD1 hsD1 => ?_⟩
  obtain ⟨H3, hH3⟩ : ∃ z, z = upd H2 D1 (.lst [V.str "InvalidFlag", V.str df.shown]) := ⟨_, rfl⟩
  have eH3 : Same H2 H3 := by rw [hH3]; exact Same.upd hD1
  have lD1 : H3 D1 = some (.lst [V.str "InvalidFlag", V.str df.shown]) := by rw [hH3]; exact upd_same
  rw [← hH3]
  have hdf := hdf2.same eH3
  have hdw := hdw2.same eH3
  refine ⟨fun σ H' => ∃ D s1 s2, σ = [some (.ref p), some (.ref M), some v, some f, some (.ref D)] ∧ Same H3 H' ∧ H' D = some (.lst [.str s1, .str s2]) ∧ FDue f dw df s1 s2, ?_, fun σ H4 hM => ?_⟩
  · refine ⟨df, hdf, g.s, by show 2 ≤ sizeLine; decide, fun B hB hBs => ?_⟩
    refine ⟨_, .inl (SqL.of upd_same), rfl, rfl, _, in_strs _ ["True", "False"], ?_⟩
    have eB := Same.upd (o := .lst [V.str "True", V.str "False"]) hB
    refine ite2 (fun hin => ?_) (fun hin => ?_)
    · have hin : (false != inD df ["True", "False"]) = true := hin
      rw [g.i] at hin
      obtain ⟨b, rfl, rfl⟩ : ∃ b, f = .bl b ∧ df = .bool b := by
        cases hdf with
        | fl z =>
          cases f with
          | bl b => cases z; exact ⟨b, rfl, rfl⟩
          | non => cases z; cases hin
          | int i => cases z; cases hin
          | str i => cases z; cases hin
          | _ => cases z
        | _ => cases hin
      refine ⟨dw, hdw.same eB, w.s, w.l, w.c, fun H5 e5 => ?_⟩
      refine ⟨dueD dw b, .fl rfl, w.sd b, ?_⟩
      refine ⟨by show 2 ≤ sizeLine; decide, fun D hD hDs => ?_⟩
      exact ⟨D, _, _, rfl, (eB.trans e5).trans (Same.upd hD), upd_same, .inr ⟨b, rfl, rfl, rfl, rfl⟩⟩
    · have hin : ¬ (false != inD df ["True", "False"]) = true := hin
      rw [g.i] at hin
      refine ⟨D1, _, _, rfl, eB, eB _ _ lD1, .inl ⟨?_, rfl, rfl⟩⟩
      cases hq : flagOk df with
      | false => rfl
      | true => rw [hq] at hin; exact absurd rfl hin
  obtain ⟨D, s1, s2, rfl, e4, hD, hF⟩ := hM
  have hdw4 := hdw.same e4
  refine ⟨fun σ H' => ∃ D s1 s2, σ = [some (.ref p), some (.ref M), some v, some f, some (.ref D)] ∧ Same H4 H' ∧ H' D = some (.lst [.str s1, .str s2]) ∧ WDue v f dw df s1 s2, ?_, fun σ H5 hM => ?_⟩
  · refine ⟨dw, hdw4, w.s, by show 3 ≤ sizeLine; decide, fun B hB hBs => ?_⟩
    refine ⟨_, .inl (SqL.of upd_same), rfl, rfl, _, in_strs _ ["1", "2", "3"], ?_⟩
    have eB := Same.upd (o := .lst [V.str "1", V.str "2", V.str "3"]) hB
    refine ite2 (fun hin => ?_) (fun hin => ?_)
    · have hin : (true != inD dw ["1", "2", "3"]) = true := hin
      rw [w.i] at hin
      refine ⟨dw, hdw4.same eB, w.s, by show 2 ≤ sizeLine; decide, fun D hD hDs => ?_⟩
      refine ⟨D, _, _, rfl, eB.trans (Same.upd hD), upd_same, .inl ⟨?_, rfl, rfl⟩⟩
      cases hq : roomOk 3 dw with
      | false => rfl
      | true => rw [hq] at hin; cases hin
    · have hin : ¬ (true != inD dw ["1", "2", "3"]) = true := hin
      rw [w.i] at hin
      refine ⟨D, _, _, rfl, eB, eB _ _ hD, .inr ⟨?_, hF⟩⟩
      cases hq : roomOk 3 dw with
      | true => rfl
      | false => rw [hq] at hin; exact absurd rfl hin
  obtain ⟨D, s1, s2, rfl, e5, hD, hW⟩ := hM
  have e35 := e4.trans e5
  have hT5 := (hT2.ext eH3).ext e35
  have hp5 := (hp2.same eH3).same e35
  have hdw5 := hdw.same e35
  have hdf5 := hdf.same e35
  have k5 : KpN p H H5 := k2.trans (KpN.same (eH3.trans e35))
  have hs : PyData.strOk s1 = true ∧ PyData.strOk s2 = true := by
    rcases hW with ⟨_, rfl, rfl⟩ | ⟨_, ⟨_, rfl, rfl⟩ | ⟨b, _, _, rfl, rfl⟩⟩
    · exact ⟨by decide +kernel, w.k⟩
    · exact ⟨by decide +kernel, g.k⟩
    · exact ⟨by decide +kernel, w.kd b⟩
  have sh := two_sh hs.1 hs.2
  -- compared
  have fin : ∀ (H6 : Hp) (L : Addr) (H7 : Hp), LamX.ExtN H5 H6 → LamX.Tabs (lamT K) H6 → Same H6 H7 → H7 L = some (.lst [.str s1, .str s2]) → fV 4 [some (.ref p), some (.ref M), some v, some f, some (.ref D)] H7 (fun y H8 => rEqD K (.ref L) y H8 fun v H9 => Q v H9) := fun H6 L H7 x6 t6 e7 hL7 => by
    refine ⟨_, _, two_dp hL7, two_dp (e7 _ _ (x6 _ _ hD fun _ z => nomatch z)), sh, sh, ?_⟩
    rw [SeqAt.eqv_refl _ (SeqAt.canLay_of_shaped sh)]
    exact hQ H7 ((k5.trans (KpN.ext x6)).trans (KpN.same e7)) ((hp5.ext x6).same e7) (t6.ext e7)
  refine ⟨hT5, fun H6 x6 t6 => ?_⟩
  intro E' Q' hE hQ'
  refine ⟨rfl, rfl, fun x dx hx hdx hne => ?_⟩
  have em : Same H6 (upd (upd H6 dx (.own x)) x (.ins (He.ga K "Best") dx [])) := (Same.upd hdx).trans (Same.upd (by rw [upd_ne (Ne.symm hne)]; exact hx))
  have hdw6 := (hdw5.extN x6).same em
  have hdf6 := (hdf5.extN x6).same em
  refine ⟨dw, df, dx, hdw6, hdf6, upd_same, fun hz dd hdd => ?_, fun hz1 hz2 dd hdd => ?_, fun room down H' e1 e2 h1 h3 k b => ⟨rfl, ?_⟩⟩
  · have ed := Same.upd (o := .xd [("given", v)]) hdd
    refine hE 0 dd v dw _ (by decide) upd_same (hdw6.same ed) w.s fun L H7 e7 hL7 => ?_
    obtain ⟨rfl, rfl⟩ : s1 = "InvalidRoom" ∧ s2 = dw.shown := by
      rcases hW with ⟨_, a, b⟩ | ⟨a, _⟩
      · exact ⟨a, b⟩
      · rw [hz] at a; cases a
    exact fin H6 L H7 x6 t6 ((em.trans ed).trans e7) hL7
  · have ed := Same.upd (o := .xd [("given", f)]) hdd
    refine hE 4 dd f df _ (by decide) upd_same (hdf6.same ed) g.s fun L H7 e7 hL7 => ?_
    obtain ⟨rfl, rfl⟩ : s1 = "InvalidFlag" ∧ s2 = df.shown := by
      rcases hW with ⟨a, _⟩ | ⟨_, ⟨_, a, b⟩ | ⟨b, _, c, _⟩⟩
      · rw [hz1] at a; cases a
      · exact ⟨a, b⟩
      · rw [c] at hz2; cases hz2
    exact fin H6 L H7 x6 t6 ((em.trans ed).trans e7) hL7
  · have e67 : Same H6 H' := made_same hx hdx k
    refine ⟨room, down, b, h3, fun H7 e7 => ?_⟩
    have hdi : dw = .int room := by
      rw [e1] at hdw
      cases hdw with
      | fl z => cases z; rfl
    have hro : roomOk 3 dw = true := by
      rw [hdi]
      show (decide ((1 : Int) ≤ room) && decide ((room : Int) ≤ 3)) = true
      rw [decide_eq_true (by omega), decide_eq_true (by omega)]
      rfl
    obtain ⟨rfl, rfl⟩ : s1 = "told" ∧ s2 = (dueD dw down).shown := by
      rcases hW with ⟨a, _⟩ | ⟨_, ⟨a, _⟩ | ⟨b', a, c, z1, z2⟩⟩
      · rw [hro] at a; cases a
      · rw [e2] at hdf
        cases hdf with
        | fl z => cases z; cases a
      · rw [e2] at a
        cases a
        exact ⟨z1, z2⟩
    refine hQ' _ (dueD dw down) H7 (.fl ?_) (w.sd down) fun L H8 e8 hL8 => ?_
    · rw [hdi]
      rfl
    · exact fin H6 L H8 x6 t6 ((e67.trans e7).trans e8) hL8
theorem b__law_right (T : Tx K mg) : Binds K (fdA K (He.fAd K d__law_right.at_)) ["_law_pool"] [] := T.F__law_right.bindsN fun _ _ _ _ _ _ us hl => match us, hl with | [_], _ => rfl
theorem ok__law_right (T : Tx K mg) (TB : LamTB K mg base) : FnG P w K mg base CX0 14 (He.fAd K d__law_right.at_) (fdA K (He.fAd K d__law_right.at_)) ["_law_pool"] (sp__law_right K) :=
  Sp.FunD.okL T.F__law_right sc__law_right (fun _ _ _ _ h => on1_len h) (fun cdv A outer s H vs Q E hcd hgd hr h => ⟨t__law_right K, PSs.nox ((pss_cons (ps_set (i := 1) sc__law_right.nd rfl (.inl rfl) (e_lstN (pa_cons pe_non (pa_cons pe_bl (pa_cons pe_bl (pa_cons pe_int (pa_cons pe_int (pa_cons (pe_un o_neg pe_int) (pa_cons (pe_op o_pow pe_int pe_int) (pa_cons pe_str (pa_cons pe_str (pa_cons (pe_tup (pa_cons pe_int pa_nil)) (pa_cons (e_lstN (pa_cons pe_int pa_nil)) (pa_cons pe_dnewK (pa_cons (pe_tup pa_nil) pa_nil)))))))))))))))
      (pss_cons (ps_set (i := 2) sc__law_right.nd rfl (.inr rfl) (pe_call (ok__law_pick T) (hr.mono (by decide)) (by rfl) T.g__law_pick T.F__law_pick.kp (b__law_pick T) .nil pass0 (pa_cons (vv 0) (pa_cons (pe_op o_catL (vv 1) (e_lstN (pa_cons pe_int (pa_cons pe_int (pa_cons pe_int pa_nil))))) pa_nil))))
      (pss_cons (ps_set (i := 3) sc__law_right.nd rfl (.inr rfl) (pe_call (ok__law_pick T) (hr.mono (by decide)) (by rfl) T.g__law_pick T.F__law_pick.kp (b__law_pick T) .nil pass0 (pa_cons (vv 0) (pa_cons (e_lstN (pa_cons pe_bl (pa_cons pe_bl (pa_cons pe_non (pa_cons pe_int (pa_cons pe_int (pa_cons pe_str (pa_cons (pe_tup pa_nil) (pa_cons (e_lstN (pa_cons pe_bl pa_nil)) (pa_cons pe_int (pa_cons (pe_un o_neg pe_int) pa_nil))))))))))) pa_nil))))
      (pss_cons (ps_set (i := 4) sc__law_right.nd rfl (.inl rfl) (e_lstN (pa_cons pe_str (pa_cons (pe_callB (c_reprT hgd hr.units) (by rfl) T.b_repr boot_repr (pa_cons (vv 3) pa_nil)) pa_nil))))
      (pss_cut (ps_if (t_cmp o_inS (pe_callB (c_reprT hgd hr.units) (by rfl) T.b_repr boot_repr (pa_cons (vv 3) pa_nil)) (e_lstN (pa_cons pe_str (pa_cons pe_str pa_nil))) (by rfl))
      (pss_one (ps_set (i := 4) sc__law_right.nd rfl (.inl rfl) (e_lstN (pa_cons pe_str (pa_cons (pe_callB (c_reprT hgd hr.units) (by rfl) T.b_repr boot_repr (pa_cons (e_callG hgd (ok__law_due T) (hr.mono (by decide)) (by rfl) T.g__law_due T.F__law_due.kp (b__law_due T) .nil pass0 (pa_cons (vv 2) (pa_cons (vv 3) pa_nil))) pa_nil)) pa_nil))))) pss_nil)
      (pss_cut (ps_if (t_cmp o_notInS (pe_callB (c_reprT hgd hr.units) (by rfl) T.b_repr boot_repr (pa_cons (vv 2) pa_nil)) (e_lstN (pa_cons pe_str (pa_cons pe_str (pa_cons pe_str pa_nil)))) (by rfl))
      (pss_one (ps_set (i := 4) sc__law_right.nd rfl (.inl rfl) (e_lstN (pa_cons pe_str (pa_cons (pe_callB (c_reprT hgd hr.units) (by rfl) T.b_repr boot_repr (pa_cons (vv 2) pa_nil)) pa_nil))))) pss_nil)
      (pss_one (ps_ret (pe_cmpR (op_eqD hr.units) (e_lamcall (T := lamT K) (c := (He.cT K ("_law_right", none)).1) (P := (He.cT K ("_law_right", none)).2) (k := 6) (t := fun E => tCall (sp__law_shown K) [] E0 (tCons (tMakeN (He.ga K "Best") 1 (List.length (["down"] : List Str)) (sp_Best_init K) gV_Best_1_down E (tCons (fV 2) tNil) (tCons (fV 3) tNil)) tNil)) hgd (by rfl) T.g__law_caught T.F__law_caught (b__law_caught T) sc__law_caught rfl (by first | exact Or.inl rfl | exact Or.inr (Or.inl rfl)) (fun cdv => gives__law_caught T hgd cdv) (TB ("_law_right", none) (by simp [tf])) hcd (by simp [lamT, tf]; rfl) (lamU T (by simp [lamT, tf]; rfl)) (hr.mono (by decide)) (LamX.lamS_by (sc := defScope s__law_right) (by decide +kernel))
      (fun A outer s H f c' E hgd hr => (e_callG hgd (ok__law_shown T) (hr.mono (by decide)) (by rfl) T.g__law_shown T.F__law_shown.kp (b__law_shown T) .nil pass0 (pa_cons (pe_makeN T.mk_Best (ok_Best_init T) (hr.mono (by decide)) (by rfl) T.g_Best (mb_Best_1_down T).choose_spec (passes_call (takes_of rfl rfl rfl rfl) (fun _ _ _ _ h => h)) (pa_cons (vv 2) pa_nil) (pk_cons (vv 3) pk_nil)) pa_nil)))) (vv 4) (nomark _))))))))))), pure__law_right T vs H Q E h⟩)
def sp_law (K : PySem.W.Frag) : L2.Sp := fun vs H Q _ => on1 vs fun x => onRef x fun c => ∃ ns : List Int, SqL K H c (ns.map V.int) ∧ ns.length ≤ 63 ∧ LamX.Tabs (lamT K) H ∧ ∀ H', Q (.bl true) H'
abbrev N_law : List Str := ["_law_cells", "_law_k", "_law_pool", "_law_turn"]
theorem sc_law : FnScope N_law ["_law_cells"] (defScope s_law) := ⟨rfl, rfl, rfl, by decide +kernel, rfl, by decide +kernel, by decide +kernel⟩
def t_law (K : PySem.W.Frag) : TS :=
    tSeq (tIfS (tNot (fT (tCall (sp__law_pair_right K) [] E0 tNil)))
    (tRet (tC (.bl false))) tNext)
    (tSeq (tFor (iRng1 (tCons (tCB fMax2 (tCons (tC (.int 2)) (tCons (tCB fMin2 (tCons (tCB (fLen K) (tCons (fV 0) tNil)) (tCons (tC (.int 6)) tNil))) tNil))) tNil)) (gName 1)
    (tSeq (tAsg (tCall (sp__law_source K) [] E0 (tCons (fV 0) (tCons (fV 1) tNil))) (gName 2))
    (tIfS (tNot (fT (tCB (fAll K) (tCons (tLc (iRng1 (tCons (tC (.int 12)) tNil)) (gName 3) tYes (tCall (sp__law_right K) [] E0 (tCons (fV 2) tNil)) [3]) tNil))))
    (tRet (tC (.bl false))) tNext)))
    (tRet (tC (.bl true))))
abbrev Pure_law (K : PySem.W.Frag) : Prop := ∀ (vs : List V) (H : Hp) (Q : VK) (E : XK), sp_law K vs H Q E → t_law K { nx := fun _ H' => Q .non H', rt := Q } (L2.start N_law vs) H
theorem kpN_L {H H' : Hp} {p c : Addr} {xs : List V} (k : KpN p H H') (n : c ≠ p) (h : SqL K H c xs) : SqL K H' c xs := by
  rcases h with (h | ⟨o, h⟩) | h
  · exact .inl (.inl (k _ _ n (fun _ z => nomatch z) h))
  · exact .inl (.inr ⟨o, k _ _ n (fun _ z => nomatch z) h⟩)
  · exact .inr h
theorem pure_law (T : Tx K mg) : Pure_law K := by
  intro vs H Q E h
  obtain ⟨x1, rfl, h⟩ := on1_ex h
  obtain ⟨c, rfl, ns, hS, hl, hT, hQ⟩ := onRef_ex h
  refine fun H1 e1 => ?_
  refine ⟨_, .inl (e1.seq hS), ?_⟩
  rw [List.length_map]
  refine ⟨_, rfl, ?_, ?_, ?_⟩
  · split <;> split <;> omega
  · split <;> split <;> omega
  refine for_range (lo := 0) (n := _) (fun i σ H6 => SqL K H6 c (ns.map V.int) ∧ LamX.Tabs (lamT K) H6 ∧ ∃ o1 o2 o3, σ = [some (.ref c), o1, o2, o3]) ⟨e1.seq hS, hT.ext e1, none, none, none, rfl⟩ (fun i σ H6 hi hp => ?_) (fun σ H6 hp => ?_)
  · obtain ⟨hS6, hT6, o1, o2, o3, rfl⟩ := hp
    have hi5 : i < 6 + 1 := by
      refine Nat.lt_of_lt_of_le hi ?_
      split <;> split <;> omega
    refine ⟨ns, hS6, by omega, by omega, by omega, fun p H7 hp0 hp7 e7 => ?_⟩
    refine ⟨_, rfl, by decide, by decide, fun D hD => ?_⟩
    have hDp := hp7.ne hD
    refine lc_rangeI (by decide) (fun i acc H8 => Pool H8 p ∧ KpN p H7 H8 ∧ LamX.Tabs (lamT K) H8 ∧ acc = (List.range i).map fun _ => V.bl true) ⟨hp7.same (Same.upd hD), KpN.same (Same.upd hD), (hT6.ext e7).ext (Same.upd hD), rfl⟩ (fun i acc H8 hi hac hD8 hJ R hR => ?_) (fun acc H8 hac hD8 hJ => ?_)
    · obtain ⟨hp8, hk8, hT8, rfl⟩ := hJ
      refine ⟨rfl, hp8, hT8, fun H9 hk9 hp9 hT9 => ?_⟩
      have hD9 := hk9 D (.lst _) hDp (fun _ z => nomatch z) hD8
      refine hR _ H9 hD9 ⟨?_, fun b o hb ht h => ?_, tabs_keep (fun b o ho hb => ?_) hT9, by rw [List.range_succ, List.map_append]; rfl⟩
      · obtain ⟨a', b', c', h1, h2⟩ := hp9
        exact ⟨a', b', c', by rw [upd_ne hDp.symm]; exact h1, h2⟩
      · rw [upd_ne (ne_of_none h hD)]
        exact (hk8.trans hk9) b o hb ht h
      · rw [upd_ne fun z => ?_]
        · exact hb
        · rw [z, hD9] at hb
          exact ho _ (Option.some.inj hb).symm
    · obtain ⟨hp8, hk8, hT8, rfl⟩ := hJ
      refine ⟨(List.range 12).map fun _ => true, SqL.of (by rw [hD8]; rfl), ?_⟩
      have x8 : LamX.ExtN H6 H8 := fun b o hb ht => hk8 b o (ne_of_none hb hp0) ht (e7 _ _ hb)
      exact ⟨extN_L x8 hS6, hT8, _, _, _, rfl⟩
  · exact hQ H6
theorem b_law (T : Tx K mg) : Binds K (fdA K (He.fAd K d_law.at_)) ["_law_cells"] [] := T.F_law.bindsN fun _ _ _ _ _ _ us hl => match us, hl with | [_], _ => rfl
theorem ok_law (T : Tx K mg) (TB : LamTB K mg base) : FnG P w K mg base CX0 16 (He.fAd K d_law.at_) (fdA K (He.fAd K d_law.at_)) ["_law_cells"] (sp_law K) :=
  Sp.FunD.okG T.F_law sc_law (fun _ _ _ _ h => on1_len h) (fun cdv A outer s H vs Q E hgd hr h => ⟨t_law K, PSs.nox ((pss_cons (ps_if (pt_not (t_val (e_call0G hgd (ok__law_pair_right T) (hr.mono (by decide)) (by rfl) T.g__law_pair_right T.F__law_pair_right.kp (b__law_pair_right T) .nil pass0)))
      (pss_one (ps_ret pe_bl)) pss_nil)
      (pss_cons (ps_for PassesOwn.never (by rfl) (pi_range1 (by rfl) T.b_range (pa_cons (pe_callB (c_max2 rfl) (by rfl) T.b_max boot_max (pa_cons pe_int (pa_cons (pe_callB (c_min2 rfl) (by rfl) T.b_min boot_min (pa_cons (pe_callB c_len (by rfl) T.b_len boot_len (pa_cons (vv 0) pa_nil)) (pa_cons pe_int pa_nil))) pa_nil))) pa_nil)) (pg_name (i := 1) sc_law.nd rfl (.inl rfl))
      (pss_cons (ps_set (i := 2) sc_law.nd rfl (.inr rfl) (pe_call (ok__law_source T) (hr.mono (by decide)) (by rfl) T.g__law_source T.F__law_source.kp (b__law_source T) .nil pass0 (pa_cons (vv 0) (pa_cons (vv 1) pa_nil))))
      (pss_one (ps_if (pt_not (t_val (pe_callB (c_all rfl) (by rfl) T.b_all boot_all (pa_cons (pe_lc (own := [("_law_turn", 3)]) (g := gName 3) (by rfl) sc_law.nd (pi_range1 (by rfl) T.b_range (pa_cons pe_int pa_nil)) (blkOk_by (own := [("_law_turn", 3)]) (N := N_law) (sc := defScope s_law) (by decide +kernel)) (fun _ _ _ _ _ => (pg_name (i := 3) sc_law.nd rfl (.inl rfl))) (fun _ _ _ _ _ => pts_nil) (fun _ _ _ _ _ => (e_callG hgd (ok__law_right T TB) (hr.mono (by decide)) (by rfl) T.g__law_right T.F__law_right.kp (b__law_right T) .nil pass0 (pa_cons (vv 2) pa_nil)))) pa_nil))))
      (pss_one (ps_ret pe_bl)) pss_nil))))
      (pss_one (ps_ret pe_bl))))), pure_law T vs H Q E h⟩)
end K12
open PySem PySem.W PySem.Calls PyProof.Rows
set_option maxHeartbeats 0 in
theorem PySem.Challenge.cw_spillruns_k12_best_made_holds : PySem.Challenge.rw_spillruns_k12_best_made.Holds := by
  w_on; o_law
  refine HandSHeadRun.head_any (r := OpenLaw.row PySem.Challenge.rw_spillruns_k12_best_made) (q := view (OpenLaw.row PySem.Challenge.rw_spillruns_k12_best_made).prog [56]) (H := K12.hk) (ob := K12.ob) (M := 20000) (loose := K12.loose) (d := HandSHeadRun.topDef (OpenLaw.row PySem.Challenge.rw_spillruns_k12_best_made).prog 56) (kwd := []) K12.ob_eq
    (by kernel_rfl) (fun s => by kernel_rfl) K12.run (by kernel_rfl) (by kernel_rfl) (by kernel_rfl) (by rfl) (by first | assumption | decide +kernel) (by decide +kernel) ⟨rfl, rfl, rfl, rfl, rfl, by decide +kernel⟩ ?hw ?hc
  case hw => w_witness2
  case hc =>
    refine Sp.walkL (l := PySem.Challenge.rw_spillruns_k12_best_made) (n := 63) (k := 16) (x := "_law_cells") rfl (by decide) (by kernel_rfl) ⟨rfl, by decide, by decide⟩ ?F
    intro w mg fa h Y G hmg0
    obtain ⟨K, KX, c⟩ := Y
    have hmg : mg ("law" : PySem.Str) = some (.ref fa) := by
      have e : (HandSHeadRun.topDef (OpenLaw.row PySem.Challenge.rw_spillruns_k12_best_made).prog 56).name = ("law" : PySem.Str) := by kernel_rfl
      rw [← e]
      exact hmg0
    have T := K12.tx_of KX G c.a
    have e := hmg.symm.trans T.g_law
    cases e
    have TB : ∀ base : PySem.Heap, (∀ p ∈ K12.tf.map (He.cT K), LamX.TabB base mg p.1 p.2) → K12.LamTB K mg base := fun base z p hp => z _ (List.mem_map.mpr ⟨p, hp, rfl⟩)
    have M : ∀ {R : Addr × Addr → Prop}, (∀ p ∈ K12.tf, R (He.cT K p)) → ∀ p ∈ K12.tf.map (He.cT K), R p := fun z p hp => by
      obtain ⟨q, hq, rfl⟩ := List.mem_map.mp hp
      exact z q hq
    refine ⟨K, KX, K12.fdA K (He.fAd K K12.d_law.at_), K12.sp_law K, K12.tf.map (He.cT K), M c.empty, M c.out, M fun p hp => PySem.W.codeHd_of_K KX (c.hd p hp), (fun s v => (L2.FunD.bindsA (ps := ["_law_cells"]) T.F_law fun _ _ _ _ _ _ us hl => match us, hl with | [_], _ => rfl) s [v] rfl), (fun H a ns hl hH hS => ⟨ns, hS, hl, K12.tabs0 hH, fun _ => rfl⟩), fun base z => K12.ok_law T (TB base z)⟩



