import PyProof.Rows.All
import Wide.All
import OpenK.AllK
import Wide.FinOn
import KE.KStateDown
import Lean
import HandS.ForMost
import HandS.Defaults
import HandS.Head0
import HandS.Head1
import HandS.Head2
import HandS.HeadEnd
import HandS.HeadHook1
import HandS.HeadHook2
import HandS.HeadHook3
import HandS.HeadHook4
import HandS.HeadWalk
import HandS.EndBits
import HandS.EndTab
import HandS.Property
import HandS.Star
import HandS.FStr
import PyProof.FString
import PyProof.FString4
import KE.KCallOwn
import KE.KOpsOwn
import HandS.WideBits
import HandS.Wide
import PyProof.ReprRoads
import HandS.IsInst
import HandS.Style
import HandS.MakeKw
import HandS.TupAny
import HandS.Conv
import PyProof.LongRange
import KE.GoesMore
import HandS.Zip
import PyProof.TwoTypes
import PyProof.FactsInt
import HandS.Ends
import PyProof.ReprLen
import HandS.NoneIn
import HandS.SetBool
import KE.KDictDisplayH
import PyProof.Rows.TupTab
import PyProof.DictRoadsH
import PyProof.EqKinds
import PyProof.StrLawsTight
import PyProof.StrLawsLast
import PyProof.MeetsStr3
import KE.KxPart
import HandS.Deep
import PyProof.P3In
import KE.KeyNested
import HandS.SortRule
import HandS.Rev
import HandS.List
import PyProof.WalkInts
import PyProof.Rows.CallKwBuiltin
import PyProof.CallFns
import HandS.TupMul
import HandS.MakeKwOnly
import PySem.Challenge.RW_spillruns_k21_fewest_by_all_schedules
set_option Elab.async false
set_option linter.all false
set_option maxRecDepth 100000
set_option maxHeartbeats 4000000
namespace Sp
open PySem PySem.Spec PyProof.Rows L2

section
variable {X : Cx}
theorem OpR.imp {f : Value → Value → Sem Value} {r r' : R2} (h : OpR X f r) (hi : ∀ x y H Q, r' x y H Q → r x y H Q) : OpR X f r' :=
  fun pins s σ H x y v u Q I rx ry q => h pins s σ H x y v u Q I rx ry (hi _ _ _ _ q)
theorem UnR.imp {f : Value → Sem Value} {r r' : V → Hp → VK → Prop} (h : UnR X f r) (hi : ∀ x H Q, r' x H Q → r x H Q) : UnR X f r' :=
  fun pins s σ H x v Q I rx q => h pins s σ H x v Q I rx (hi _ _ _ q)
theorem CallR.imp {f : Value} {r r' : List V → Hp → VK → Prop} (h : CallR X f r) (hi : ∀ xs H Q, r' xs H Q → r xs H Q) : CallR X f r' :=
  fun pins s σ H xs us Q I rx q => h pins s σ H xs us Q I rx (hi _ _ _ q)
theorem IxR.imp {r r' : R2} (h : IxR X r) (hi : ∀ x y H Q, r' x y H Q → r x y H Q) : IxR X r' :=
  fun e1 e2 pins s σ H x y v u Q I rx ry q => h e1 e2 pins s σ H x y v u Q I rx ry (hi _ _ _ _ q)
theorem PSet.imp {r r' : TSet} (h : PSet X r) (hi : ∀ x y z H Q, r' x y z H Q → r x y z H Q) : PSet X r' :=
  fun pins s σ H x y z v u w Q I rx ry rz q => h pins s σ H x y z v u w Q I rx ry rz (hi _ _ _ _ _ q)
theorem PE.imp {e : Expr} {t t' : TE} (h : PE X e t) (hi : ∀ σ H Q, t' σ H Q → t σ H Q) : PE X e t' := ⟨fun pins s σ H Q I q => h.run pins s σ H Q I (hi _ _ _ q)⟩
theorem PS.imp {e : Stmt} {t t' : TS} (h : PS X e t) (hi : ∀ D σ H, t' D σ H → t D σ H) : PS X e t' := ⟨fun pins s σ H D I q => h.run pins s σ H D I (hi _ _ _ q)⟩
end

/-! ### names -/
def at? (σ : L2.St) (i : Nat) : Option V := (σ[i]?).bind id
def fV (i : Nat) : TE := fun σ H Q => match at? σ i with
  | some v => Q v H
  | none => False
section
variable {X : Cx}
theorem vv (i : Nat) {x : Str} {pos : Pos} (hN : X.N[i]? = some x := by rfl) (hv : Vis X.env.scope x := by first | exact Or.inl rfl | exact Or.inr (Or.inl rfl) | exact Or.inr (Or.inr rfl)) (hd : (x == ("__debug__" : Str)) = false := by decide)
    (hcd : (x == ("__classdict__" : Str)) = false := by decide) : PE X (.Name x pos) (fV i) := PE.imp (pe_var hN hv hd hcd) fun σ H Q h => by
  unfold fV at h
  cases e : σ[i]? with
  | none => rw [at?, e] at h; exact h.elim
  | some o =>
    cases o with
    | none => rw [at?, e] at h; exact h.elim
    | some v =>
      rw [at?, e] at h
      exact ⟨v, e, h⟩
end

/-! ### ints -/
def i2 (g : Int → Int → V) : R2 := fun x y H Q => match x, y with
  | .int i, .int j => Q (g i j) H
  | _, _ => False
def i2c (C : Int → Int → Prop) (g : Int → Int → V) : R2 := fun x y H Q => match x, y with
  | .int i, .int j => C i j ∧ Q (g i j) H
  | _, _ => False
def i1 (g : Int → V) : V → Hp → VK → Prop := fun x H Q => match x with
  | .int i => Q (g i) H
  | _ => False
theorem i2_of {g : Int → Int → V} (x y : V) (H : Hp) (Q : VK) (h : i2 g x y H Q) : rI0 g x y H Q := by
  cases x <;> cases y <;> first
    | exact h.elim
    | exact ⟨_, _, rfl, rfl, h⟩
theorem i2c_of {C : Int → Int → Prop} {g : Int → Int → V} (x y : V) (H : Hp) (Q : VK) (h : i2c C g x y H Q) : rI C g x y H Q := by
  cases x <;> cases y <;> first
    | exact h.elim
    | exact ⟨_, _, rfl, rfl, h.1, h.2⟩
theorem i1_of {g : Int → V} (x : V) (H : Hp) (Q : VK) (h : i1 g x H Q) : rU g x H Q := by
  cases x <;> first
    | exact h.elim
    | exact ⟨_, rfl, h⟩
abbrev fAdd : R2 := i2 fun i j => .int (i + j)
abbrev fSub : R2 := i2 fun i j => .int (i - j)
abbrev fMul : R2 := i2c CMul fun i j => .int (i * j)
abbrev fMulW : R2 := i2c CMulW fun i j => .int (i * j)
abbrev fMod : R2 := i2c (fun _ j => 0 < j) fun i j => .int (i % j)
abbrev fDiv : R2 := i2c CDivW fun i j => .int (i / j)
abbrev fDivN : R2 := i2c CDivN fun i j => .int (i.fdiv j)
abbrev fPow : R2 := i2c CPow fun i j => .int (i ^ j.toNat)
abbrev fLt : R2 := i2 fun i j => .bl (decide (i < j))
abbrev fLe : R2 := i2 fun i j => .bl (decide (i ≤ j))
abbrev fGt : R2 := i2 fun i j => .bl (decide (j < i))
abbrev fGe : R2 := i2 fun i j => .bl (decide (j ≤ i))
abbrev fNeg : V → Hp → VK → Prop := i1 fun i => .int (-i)
/-- == of scalars -/
def fEq : R2 := fun x y H Q => match scal x y with
  | true => Q (.bl (decide (x = y))) H
  | false => False
def fNe : R2 := fun x y H Q => match scal x y with
  | true => Q (.bl (!decide (x = y))) H
  | false => False
/-- is None, is not None -/
def fIsN : R2 := fun x y H Q => match y with
  | .non => Q (.bl (decide (x = .non))) H
  | _ => False
def fNotN : R2 := fun x y H Q => match y with
  | .non => Q (.bl (!decide (x = .non))) H
  | _ => False
/-- texts -/
def fAddS : R2 := fun x y H Q => match x, y with
  | .str i, .str j => i.length + j.length ≤ sizeLine ∧ Q (.str (i ++ j)) H
  | _, _ => False
section
variable {X : Cx}
theorem o_add : OpR X (binaryOp .Add) fAdd := OpR.imp op_add i2_of
theorem o_sub : OpR X (binaryOp .Sub) fSub := OpR.imp op_sub i2_of
theorem o_mul : OpR X (binaryOp .Mult) fMul := OpR.imp op_mul i2c_of
theorem o_mulW : OpR X (binaryOp .Mult) fMulW := OpR.imp op_mulW i2c_of
theorem o_mod : OpR X (binaryOp .Mod) fMod := OpR.imp op_mod i2c_of
theorem o_div : OpR X (binaryOp .FloorDiv) fDiv := OpR.imp op_fdivW i2c_of
theorem o_divN : OpR X (binaryOp .FloorDiv) fDivN := OpR.imp op_fdivN i2c_of
theorem o_pow : OpR X (binaryOp .Pow) fPow := OpR.imp op_pow i2c_of
theorem o_lt : OpR X (compareOp .Lt) fLt := OpR.imp op_lt i2_of
theorem o_le : OpR X (compareOp .LtE) fLe := OpR.imp op_le i2_of
theorem o_gt : OpR X (compareOp .Gt) fGt := OpR.imp op_gt i2_of
theorem o_ge : OpR X (compareOp .GtE) fGe := OpR.imp op_ge i2_of
theorem o_neg : UnR X (unaryOp .USub) fNeg := UnR.imp un_neg i1_of
theorem o_eq : OpR X (compareOp .Eq) fEq := OpR.imp op_eq fun x y H Q h => by
  unfold fEq at h
  cases e : scal x y with
  | true => rw [e] at h; exact ⟨e, h⟩
  | false => rw [e] at h; exact h.elim
theorem o_ne : OpR X (compareOp .NotEq) fNe := OpR.imp op_ne fun x y H Q h => by
  unfold fNe at h
  cases e : scal x y with
  | true => rw [e] at h; exact ⟨e, h⟩
  | false => rw [e] at h; exact h.elim
theorem o_isN : OpR X (compareOp .Is) fIsN := OpR.imp op_isN fun x y H Q h => by
  cases y <;> first
    | exact h.elim
    | exact ⟨rfl, h⟩
theorem o_notN : OpR X (compareOp .IsNot) fNotN := OpR.imp op_notN fun x y H Q h => by
  cases y <;> first
    | exact h.elim
    | exact ⟨rfl, h⟩
theorem o_addS : OpR X (binaryOp .Add) fAddS := OpR.imp op_add_str fun x y H Q h => by
  cases x <;> cases y <;> first
    | exact h.elim
    | exact ⟨_, _, rfl, rfl, h.1, h.2⟩
end

/-! ### tests -/
def onB (x : V) (k : Bool → Prop) : Prop := match x with
  | .bl b => k b
  | _ => False
theorem onB_ex {x : V} {k : Bool → Prop} (h : onB x k) : ∃ b, x = .bl b ∧ k b := by
  cases x <;> first
    | exact h.elim
    | exact ⟨_, rfl, h⟩
def fT (t : TE) : TT := fun σ H Q => t σ H fun x H' => onB x fun k => Q k H'
def fChain (r r' : R2) (ta tb tc : TE) : TE := fun σ H Q => ta σ H fun x H1 => tb σ H1 fun y H2 => r x y H2 fun z H3 => onB z fun k =>
  (if k = true then tc σ H3 fun w' H4 => r' y w' H4 Q else Q (.bl false) H3)
def fAndV (ta tb : TE) : TE := fun σ H Q => ta σ H fun x H1 => onB x fun c => if c = true then tb σ H1 Q else Q (.bl false) H1
def fOrV (ta tb : TE) : TE := fun σ H Q => ta σ H fun x H1 => onB x fun c => if c = true then Q (.bl true) H1 else tb σ H1 Q
def fNotV (ta : TE) : TE := fun σ H Q => ta σ H fun x H1 => onB x fun c => Q (.bl (!c)) H1
section
variable {X : Cx} {a b c : Expr} {ta tb tc : TE} {pos : Pos} {rest : List Expr}
theorem t_cmp {op : CmpOp} {r : R2} (ho : OpR X (compareOp op) r) (ha : PE X a ta) (hb : PE X b tb) (hm : behindInMarks op b = false) : PT X (.Compare a [op] [b] pos) (fT (tOp r ta tb)) := by
  refine ⟨fun pins s σ H Q I h => ?_⟩
  refine wpAny_isTrue_Compare1 (thn (ha.run pins s σ H _ I h) fun v s1 ⟨x, H1, I1, r1, q1⟩ => thn (hb.run pins s1 σ H1 _ I1 q1) fun u s2 ⟨y, H2, I2, r2, q2⟩ =>
    thn (ho pins s2 σ H2 x y v u _ I2 r1 r2 q2) fun c s3 ⟨z, H3, I3, r3, q3⟩ => ?_) hm
  obtain ⟨k, rfl, q3⟩ := onB_ex q3
  cases r3
  exact wpAny_truthy_bool ⟨H3, I3, q3⟩
theorem t_val {e : Expr} {t : TE} (h : PE X e t) (he : ∀ whole, isTrue e X.env whole = (do let v ← whole; standAt e.pos; holding [v] (truthy v)) := by intro _; rfl) : PT X e (fT t) := by
  refine ⟨fun pins s σ H Q I hw => ?_⟩
  refine isTrue_plain (thn (h.run pins s σ H _ I hw) fun v s1 ⟨x, H1, I1, r1, q1⟩ => ?_) (he _)
  obtain ⟨k, rfl, q⟩ := onB_ex q1
  cases r1
  exact wpAny_truthy_bool ⟨H1, I1, q⟩
theorem e_chain {op op' : CmpOp} {r r' : R2} (ho : OpR X (compareOp op) r) (ho' : OpR X (compareOp op') r') (ha : PE X a ta) (hb : PE X b tb) (hc : PE X c tc)
    (hm : lastMarks [op, op'] [b, c] = false := by with_unfolding_all rfl) : PE X (.Compare a [op, op'] [b, c] pos) (fChain r r' ta tb tc) := by
  refine ⟨fun pins s σ H Q I h => ?_⟩
  refine Compare_chain (thn (ha.run pins s σ H _ I h) fun v s1 ⟨x, H1, I1, r1, q1⟩ => chain_link (thn (hb.run pins s1 σ H1 _ I1 q1) fun u s2 ⟨y, H2, I2, r2, q2⟩ =>
    thn (ho pins s2 σ H2 x y v u _ I2 r1 r2 q2) fun d s3 ⟨z, H3, I3, r3, q3⟩ => ?_)) hm
  obtain ⟨k, rfl, q3⟩ := onB_ex q3
  cases r3
  refine wpAny_truthy_bool ?_
  cases k with
  | false => exact ite_ff ⟨.bl false, H3, I3, rfl, q3⟩
  | true => exact ite_tt (chain_last (thn (hc.run pins s3 σ H3 _ I3 q3) fun w' s4 ⟨z', H4, I4, r4, q4⟩ => ho' pins s4 σ H4 y z' u w' Q I4 r2 r4 q4))
theorem t_chain {op op' : CmpOp} {r r' : R2} (ho : OpR X (compareOp op) r) (ho' : OpR X (compareOp op') r') (ha : PE X a ta) (hb : PE X b tb) (hc : PE X c tc)
    (hm : lastMarks [op, op'] [b, c] = false := by with_unfolding_all rfl) : PT X (.Compare a [op, op'] [b, c] pos) (fT (fChain r r' ta tb tc)) := by
  refine ⟨fun pins s σ H Q I h => ?_⟩
  refine isTrue_chain (thn (ha.run pins s σ H _ I h) fun v s1 ⟨x, H1, I1, r1, q1⟩ => test_link (thn (hb.run pins s1 σ H1 _ I1 q1) fun u s2 ⟨y, H2, I2, r2, q2⟩ =>
    thn (ho pins s2 σ H2 x y v u _ I2 r1 r2 q2) fun d s3 ⟨z, H3, I3, r3, q3⟩ => ?_)) hm
  obtain ⟨k, rfl, q3⟩ := onB_ex q3
  cases r3
  refine wpAny_truthy_bool ?_
  cases k with
  | false => exact ite_ff ⟨H3, I3, q3⟩
  | true =>
    refine ite_tt (test_last (thn (hc.run pins s3 σ H3 _ I3 q3) fun w' s4 ⟨z', H4, I4, r4, q4⟩ => thn (ho' pins s4 σ H4 y z' u w' _ I4 r2 r4 q4) fun d' s5 ⟨z2, H5, I5, r5, q5⟩ => ?_))
    obtain ⟨k2, rfl, q5⟩ := onB_ex q5
    cases r5
    exact wpAny_truthy_bool ⟨H5, I5, q5⟩
theorem e_and (ha : PE X a ta) (hb : PE X (.BoolOp .And (b :: rest) pos) tb) : PE X (.BoolOp .And (a :: b :: rest) pos) (fAndV ta tb) := by
  refine ⟨fun pins s σ H Q I h => ?_⟩
  refine BoolOp_and (thn (ha.run pins s σ H _ I h) fun v s1 ⟨x, H1, I1, r1, q1⟩ => ?_)
  obtain ⟨c, rfl, q1⟩ := onB_ex q1
  cases r1
  refine wpAny_truthy_bool ?_
  cases c with
  | true => exact hb.run pins s1 σ H1 Q I1 q1
  | false => exact ⟨.bl false, H1, I1, rfl, q1⟩
theorem e_or (ha : PE X a ta) (hb : PE X (.BoolOp .Or (b :: rest) pos) tb) : PE X (.BoolOp .Or (a :: b :: rest) pos) (fOrV ta tb) := by
  refine ⟨fun pins s σ H Q I h => ?_⟩
  refine BoolOp_or (thn (ha.run pins s σ H _ I h) fun v s1 ⟨x, H1, I1, r1, q1⟩ => ?_)
  obtain ⟨c, rfl, q1⟩ := onB_ex q1
  cases r1
  refine wpAny_truthy_bool ?_
  cases c with
  | false => exact hb.run pins s1 σ H1 Q I1 q1
  | true => exact ⟨.bl true, H1, I1, rfl, q1⟩
theorem e_not (ha : PE X a ta) : PE X (.UnaryOp .Not a pos) (fNotV ta) := by
  refine ⟨fun pins s σ H Q I h => ?_⟩
  refine UnaryOp_ (thn (ha.run pins s σ H _ I h) fun v s1 ⟨x, H1, I1, r1, q1⟩ => ?_)
  obtain ⟨c, rfl, q1⟩ := onB_ex q1
  cases r1
  exact not_of (wpAny_truthy_bool ⟨.bl (!c), H1, I1, rfl, q1⟩)
end

/-! ### items, slices -/
/-- an item of a list, of a tuple, of a text -/
def onRef (x : V) (k : Addr → Prop) : Prop := match x with
  | .ref a => k a
  | _ => False
theorem onRef_ex {x : V} {k : Addr → Prop} (h : onRef x k) : ∃ b, x = .ref b ∧ k b := by
  cases x <;> first
    | exact h.elim
    | exact ⟨_, rfl, h⟩
def onInt (x : V) (k : Int → Prop) : Prop := match x with
  | .int a => k a
  | _ => False
theorem onInt_ex {x : V} {k : Int → Prop} (h : onInt x k) : ∃ b, x = .int b ∧ k b := by
  cases x <;> first
    | exact h.elim
    | exact ⟨_, rfl, h⟩
def onStr (x : V) (k : Str → Prop) : Prop := match x with
  | .str a => k a
  | _ => False
theorem onStr_ex {x : V} {k : Str → Prop} (h : onStr x k) : ∃ b, x = .str b ∧ k b := by
  cases x <;> first
    | exact h.elim
    | exact ⟨_, rfl, h⟩
def fIxL (K : PySem.W.Frag) : R2 := fun x y H Q => onRef x fun p => onInt y fun i => ∃ xs, SqL K H p xs ∧ ∃ v, atI xs i = some v ∧ Q v H
def fIxT (K : PySem.W.Frag) : R2 := fun x y H Q => onRef x fun p => onInt y fun i => ∃ xs, SqT K H p xs ∧ ∃ v, atI xs i = some v ∧ Q v H
def fSetL : V → V → V → Hp → (Hp → Prop) → Prop := fun o i v H Q => onRef o fun p => onInt i fun k => ∃ xs, H p = some (.lst xs) ∧ ∃ j, ixN xs.length k = some j ∧ Q (upd H p (.lst (xs.set j v)))
def fCatL : R2 := fun x y H Q => onRef x fun l => onRef y fun b => ∃ xs zs, H l = some (.lst xs) ∧ H b = some (.lst zs) ∧ xs.length + zs.length ≤ sizeLine ∧ ∀ p, H p = none → Q (.ref p) (upd H p (.lst (xs ++ zs)))
section
variable {X : Cx}
theorem x_list : IxR X (fIxL X.K) := IxR.imp ix_list fun x y H Q h => by
  obtain ⟨p, rfl, h1⟩ := onRef_ex h
  obtain ⟨i, rfl, xs, h2, v, h3, h4⟩ := onInt_ex h1
  exact ⟨p, xs, i, v, rfl, rfl, h2, h3, h4⟩
theorem x_tup : IxR X (fIxT X.K) := IxR.imp ix_tup fun x y H Q h => by
  obtain ⟨p, rfl, h1⟩ := onRef_ex h
  obtain ⟨i, rfl, xs, h2, v, h3, h4⟩ := onInt_ex h1
  exact ⟨p, xs, i, v, rfl, rfl, h2, h3, h4⟩
theorem s_list : PSet X fSetL := PSet.imp set_list fun o i v H Q h => by
  obtain ⟨p, rfl, h1⟩ := onRef_ex h
  obtain ⟨k, rfl, xs, h2, j, h3, h4⟩ := onInt_ex h1
  exact ⟨p, xs, k, j, rfl, rfl, h2, h3, h4⟩
theorem o_catL : OpR X (binaryOp .Add) fCatL := OpR.imp op_cat fun x y H Q h => by
  obtain ⟨l, rfl, h1⟩ := onRef_ex h
  obtain ⟨b, rfl, xs, zs, h2⟩ := onRef_ex h1
  exact ⟨l, b, xs, zs, rfl, rfl, h2⟩
end

/-! ### calls of builtins -/
def on1 (xs : List V) (k : V → Prop) : Prop := match xs with
  | [x] => k x
  | _ => False
theorem on1_ex {xs : List V} {k : V → Prop} (h : on1 xs k) : ∃ x, xs = [x] ∧ k x := by
  cases xs with
  | nil => exact h.elim
  | cons x r =>
    cases r with
    | nil => exact ⟨_, rfl, h⟩
    | cons _ _ => exact h.elim
def on2 (xs : List V) (k : V → V → Prop) : Prop := match xs with
  | [x, y] => k x y
  | _ => False
theorem on2_ex {xs : List V} {k : V → V → Prop} (h : on2 xs k) : ∃ x y, xs = [x, y] ∧ k x y := by
  cases xs with
  | nil => exact h.elim
  | cons x r =>
    cases r with
    | nil => exact h.elim
    | cons y r =>
      cases r with
      | nil => exact ⟨_, _, rfl, h⟩
      | cons _ _ => exact h.elim
def fLen (K : PySem.W.Frag) : List V → Hp → VK → Prop := fun xs H Q => on1 xs fun x => match x with
  | .str y => y.length ≤ sizeLine ∧ Q (.int y.length) H
  | .ref p => ∃ ys, (SqL K H p ys ∨ SqT K H p ys) ∧ Q (.int ys.length) H
  | _ => False
def fInt1 : List V → Hp → VK → Prop := fun xs H Q => on1 xs fun x => match x with
  | .int i => Q (.int i) H
  | .bl k => Q (.int (if k then 1 else 0)) H
  | _ => False
def fAbs : List V → Hp → VK → Prop := fun xs H Q => on1 xs fun x => onInt x fun i => Q (.int (if i < 0 then -i else i)) H
def fMax2 : List V → Hp → VK → Prop := fun xs H Q => on2 xs fun x y => onInt x fun i => onInt y fun j => Q (.int (if j > i then j else i)) H
def fMin2 : List V → Hp → VK → Prop := fun xs H Q => on2 xs fun x y => onInt x fun i => onInt y fun j => Q (.int (if j < i then j else i)) H
def fDivmod : List V → Hp → VK → Prop := fun xs H Q => on2 xs fun x y => onInt x fun i => onInt y fun j => CDivW i j ∧ ∀ p, H p = none → Q (.ref p) (upd H p (.tup [.int (i / j), .int (i % j)]))
def fStrI : List V → Hp → VK → Prop := fun xs H Q => on1 xs fun x => onInt x fun i => i.natAbs.log2 < 1920 ∧ Q (.str (toString i)) H
def fTupOfL (K : PySem.W.Frag) : List V → Hp → VK → Prop := fun xs H Q => on1 xs fun x => onRef x fun p => ∃ ys, SqL K H p ys ∧ ∀ l, H l = none → Q (.ref l) (upd H l (.tup ys))
def fLstOf (K : PySem.W.Frag) : List V → Hp → VK → Prop := fun xs H Q => on1 xs fun x => onRef x fun p => ∃ ys, (SqL K H p ys ∨ SqT K H p ys) ∧ ∀ l, H l = none → Q (.ref l) (upd H l (.lst ys))
def fAll (K : PySem.W.Frag) : List V → Hp → VK → Prop := fun xs H Q => on1 xs fun x => onRef x fun p => ∃ bs : List Bool, SqL K H p (bs.map V.bl) ∧ Q (.bl (bs.all id)) H
section
variable {X : Cx}
theorem c_len : CallR X (.builtin "len") (fLen X.K) := fun pins s σ H xs us Q I r h => by
  obtain ⟨x, rfl, h⟩ := on1_ex h
  cases x with
  | str y => exact call_len_str pins s σ H _ us Q I r ⟨y, rfl, h.1, h.2⟩
  | ref p =>
    obtain ⟨ys, h1, h2⟩ := h
    exact call_len_seq pins s σ H _ us Q I r ⟨p, ys, rfl, h1, h2⟩
  | _ => exact h.elim
theorem c_int1 : CallR X (.type "int") fInt1 := fun pins s σ H xs us Q I r h => by
  obtain ⟨x, rfl, h⟩ := on1_ex h
  cases x with
  | int i => exact call_int1 pins s σ H _ us Q I r (.inl ⟨i, rfl, h⟩)
  | bl k => exact call_int1 pins s σ H _ us Q I r (.inr ⟨k, rfl, h⟩)
  | _ => exact h.elim
theorem c_abs : CallR X (.builtin "abs") fAbs := CallR.imp call_abs fun xs H Q h => by
  obtain ⟨x, rfl, h⟩ := on1_ex h
  obtain ⟨i, rfl, h⟩ := onInt_ex h
  exact ⟨i, rfl, h⟩
theorem c_max2 (hc : X.calm = true) : CallR X (.builtin "max") fMax2 := CallR.imp (call_max2 hc) fun xs H Q h => by
  obtain ⟨x, y, rfl, h⟩ := on2_ex h
  obtain ⟨i, rfl, h⟩ := onInt_ex h
  obtain ⟨j, rfl, h⟩ := onInt_ex h
  exact ⟨i, j, rfl, h⟩
theorem c_min2 (hc : X.calm = true) : CallR X (.builtin "min") fMin2 := CallR.imp (call_min2 hc) fun xs H Q h => by
  obtain ⟨x, y, rfl, h⟩ := on2_ex h
  obtain ⟨i, rfl, h⟩ := onInt_ex h
  obtain ⟨j, rfl, h⟩ := onInt_ex h
  exact ⟨i, j, rfl, h⟩
theorem c_divmod : CallR X (.builtin "divmod") fDivmod := CallR.imp call_divmodW fun xs H Q h => by
  obtain ⟨x, y, rfl, h⟩ := on2_ex h
  obtain ⟨i, rfl, h⟩ := onInt_ex h
  obtain ⟨j, rfl, h, q⟩ := onInt_ex h
  exact ⟨i, j, rfl, ⟨h.1, PyProof.noPylong_of_log2 h.2⟩, q⟩
theorem c_strI : CallR X (.type "str") fStrI := CallR.imp call_str_int fun xs H Q h => by
  obtain ⟨x, rfl, h⟩ := on1_ex h
  obtain ⟨i, rfl, h⟩ := onInt_ex h
  exact ⟨i, rfl, h⟩
theorem c_tupL : CallR X (.type "tuple") (fTupOfL X.K) := CallR.imp call_tuple_of fun xs H Q h => by
  obtain ⟨x, rfl, h⟩ := on1_ex h
  obtain ⟨p, rfl, ys, h1, h2⟩ := onRef_ex h
  exact ⟨p, ys, rfl, .inl ⟨h1, h2⟩⟩
theorem c_list : CallR X (.type "list") (fLstOf X.K) := CallR.imp call_list_of fun xs H Q h => by
  obtain ⟨x, rfl, h⟩ := on1_ex h
  obtain ⟨p, rfl, ys, h1, h2⟩ := onRef_ex h
  exact ⟨p, ys, rfl, h1, h2⟩
theorem c_all (hc : X.calm = true) : CallR X (.builtin "all") (fAll X.K) := CallR.imp (cr_all hc) fun xs H Q h => by
  obtain ⟨x, rfl, h⟩ := on1_ex h
  obtain ⟨p, rfl, bs, h1, h2⟩ := onRef_ex h
  exact ⟨p, bs, rfl, h1, h2⟩
end

/-! ### repr of data -/
/-- data at x, shown as y -/
def ShownAs (K : PySem.W.Frag) (H : Hp) (x : V) (y : Str) : Prop := ∃ d, Dp K H x d ∧ isDisplay d = true ∧ d.showable = true ∧ d.depth ≤ 60 ∧ d.shown.length ≤ sizeLine ∧ d.shown = y
def fRepr (K : PySem.W.Frag) : List V → Hp → VK → Prop := fun xs H Q => on1 xs fun x => ∃ y, ShownAs K H x y ∧ Q (.str y) H
theorem dp_noDict {K : PySem.W.Frag} {H : Hp} : ∀ (d : PyData) (v : V), Dp K H v d → d.hasDict = false := by
  intro d v h
  refine Dp.rec (motive_1 := fun v d _ => d.hasDict = false) (motive_2 := fun vs ds _ => PyData.hasDictAll ds = false) ?_ ?_ ?_ ?_ ?_ ?_ ?_ ?_ h
  · rfl
  · intro b; rfl
  · intro b; rfl
  · intro b; rfl
  · intro a xs ds _ _ ih; simpa [PyData.hasDict] using ih
  · intro a xs ds _ _ ih; simpa [PyData.hasDict] using ih
  · rfl
  · intro v vs d ds _ _ h1 h2; simp [PyData.hasDictAll, h1, h2]
section
variable {X : Cx}
theorem c_repr (hg : X.A.guards = some []) (hu : X.A.units + 64 < cLine) : CallR X (.builtin "repr") (fRepr X.K) := fun pins s σ H xs us Q I r h => by
  obtain ⟨x, rfl, _, ⟨d, hd, h1, h2, h3, h4, rfl⟩, q⟩ := on1_ex h
  obtain ⟨u, rfl, rx⟩ := vals1 r
  obtain ⟨as, rd⟩ := Dp.reads I d x u hd rx
  obtain ⟨a, rfl⟩ := isRef_of_reads rd h1
  exact repr_of_reads' rd h2 (PyData.noDict_hsm (dp_noDict _ _ hd)) hg (by omega) (fun _ _ e => e) (fun h' u tk hk => ⟨.str d.shown, H, I.kept hk, ⟨_, rfl⟩, q⟩) h4
end
/-! ### promises by number of arguments -/
theorem on1_len {xs : List V} {k : V → Prop} (h : on1 xs k) : xs.length = 1 := by
  obtain ⟨_, rfl, _⟩ := on1_ex h
  rfl
theorem on2_len {xs : List V} {k : V → V → Prop} (h : on2 xs k) : xs.length = 2 := by
  obtain ⟨_, _, rfl, _⟩ := on2_ex h
  rfl
def on0 (xs : List V) (k : Prop) : Prop := match xs with
  | [] => k
  | _ => False
theorem on0_ex {xs : List V} {k : Prop} (h : on0 xs k) : xs = [] ∧ k := by
  cases xs with
  | nil => exact ⟨rfl, h⟩
  | cons _ _ => exact h.elim
theorem on0_len {xs : List V} {k : Prop} (h : on0 xs k) : xs.length = 0 := by
  obtain ⟨rfl, _⟩ := on0_ex h
  rfl
def on3 (xs : List V) (k : V → V → V → Prop) : Prop := match xs with
  | [x, y, z] => k x y z
  | _ => False
theorem on3_ex {xs : List V} {k : V → V → V → Prop} (h : on3 xs k) : ∃ x y z, xs = [x, y, z] ∧ k x y z := by
  match xs, h with
  | [x, y, z], h => exact ⟨x, y, z, rfl, h⟩
  | [], h => exact h.elim
  | [_], h => exact h.elim
  | [_, _], h => exact h.elim
  | _ :: _ :: _ :: _ :: _, h => exact h.elim
theorem on3_len {xs : List V} {k : V → V → V → Prop} (h : on3 xs k) : xs.length = 3 := by
  obtain ⟨_, _, _, rfl, _⟩ := on3_ex h
  rfl
def on4 (xs : List V) (k : V → V → V → V → Prop) : Prop := match xs with
  | [x, y, z, u] => k x y z u
  | _ => False
theorem on4_ex {xs : List V} {k : V → V → V → V → Prop} (h : on4 xs k) : ∃ x y z u, xs = [x, y, z, u] ∧ k x y z u := by
  match xs, h with
  | [x, y, z, u], h => exact ⟨x, y, z, u, rfl, h⟩
  | [], h => exact h.elim
  | [_], h => exact h.elim
  | [_, _], h => exact h.elim
  | [_, _, _], h => exact h.elim
  | _ :: _ :: _ :: _ :: _ :: _, h => exact h.elim
theorem on4_len {xs : List V} {k : V → V → V → V → Prop} (h : on4 xs k) : xs.length = 4 := by
  obtain ⟨_, _, _, _, rfl, _⟩ := on4_ex h
  rfl
def on5 (xs : List V) (k : V → V → V → V → V → Prop) : Prop := match xs with
  | [x, y, z, u, t] => k x y z u t
  | _ => False
theorem on5_ex {xs : List V} {k : V → V → V → V → V → Prop} (h : on5 xs k) : ∃ x y z u t, xs = [x, y, z, u, t] ∧ k x y z u t := by
  match xs, h with
  | [x, y, z, u, t], h => exact ⟨x, y, z, u, t, rfl, h⟩
  | [], h => exact h.elim
  | [_], h => exact h.elim
  | [_, _], h => exact h.elim
  | [_, _, _], h => exact h.elim
  | [_, _, _, _], h => exact h.elim
  | _ :: _ :: _ :: _ :: _ :: _ :: _, h => exact h.elim
theorem on5_len {xs : List V} {k : V → V → V → V → V → Prop} (h : on5 xs k) : xs.length = 5 := by
  obtain ⟨_, _, _, _, _, rfl, _⟩ := on5_ex h
  rfl

/-! ### defs that are called where nothing is being shown (repr asks that) -/
structure FnG (P : Program) (w : World) (K : PySem.W.Frag) (mg : Str → Option Value) (base : Heap) (CX : CXT) (k : Nat) (f : Addr) (fd : FuncData) (ps : List Str) (sp : Sp) : Prop where
  len : ∀ vs H Q E, sp vs H Q E → vs.length = ps.length
  run : ∀ (A : Around) (outer : List Env) (s : Shared) (H : Hp) (args : Args) (us : List Value) (vs : List V) (Q : VK) (E : XK), A.guards = some [] → Room k A → Env0 P w K mg base A outer s H → BindsTo s fd args (ps.zip us) → Vals vs us → sp vs H Q E →
    codeAny (model P w) A (.call (.ref f) args) (CR CX outer P w H s Q E) s
section
variable {P : Program} {w : World} {K : PySem.W.Frag} {mg : Str → Option Value} {base : Heap} {CX : CXT} {k : Nat} {f : Addr} {fd : FuncData} {ps : List Str} {sp : Sp}
theorem gOk (F : FnOk P w K mg base CX k f fd ps sp) : FnG P w K mg base CX k f fd ps sp := ⟨F.len, fun A outer s H args us vs Q E _ hr => F.run A outer s H args us vs Q E hr⟩
end
theorem fnG_of {CX : CXT} {P : Program} {w : World} {K : PySem.W.Frag} {mg : Str → Option Value} {base : Heap} {k : Nat} {f : Addr} {name qual : Str} {params : Arguments} {body : List Stmt} {scope : Scope} {dV kV doc pm cdv ct oc : Value} {an od : Option Addr}
    {osl : Array (Option Value)} {N ps : List Str} {sp : Sp} (lk : K.lookup f = some ⟨oc, od, .func (PySem.W.fnOf name qual params body scope dV kV doc pm an cdv ct), osl⟩) (hcd : PySem.W.codeIn K cdv qual = true) (S : FnScope N ps scope)
    (len : ∀ vs H Q E, sp vs H Q E → vs.length = ps.length)
    (hbody : ∀ (A : Around) (outer : List Env) (s : Shared) (H : Hp) (vs : List V) (Q : VK) (E : XK), A.guards = some [] → Room k (A.deeper (envOfC qual scope s.heap.objs.size f cdv)) → sp vs H Q E →
      ∃ t, PSs (cxOf CX P w K mg base N qual scope f cdv A outer s H E) body t ∧ t { nx := fun _ H' => Q .non H', rt := Q } (L2.start N vs) H) :
    FnG P w K mg base CX (k + 1) f (PySem.W.fnOf name qual params body scope dV kV doc pm an cdv ct) ps sp := by
  refine ⟨len, fun A outer s H args us vs Q E hgd hr e0 hb r hsp => ?_⟩
  have hl := len _ _ _ _ hsp
  have KX : K.In s.heap := e0.mod.kin.keeps fun b o e => (e0.bs b o e).1
  have kinds : ∀ y ∈ ps.zip us, scope.names.lookup y.1 = some .local ∨ (scope.names.lookup y.1 = some .cell ∧ ((cellsFrom (s.heap.objs.size + 1) scope.names []).lookup y.1).isSome = true) := by
    rintro ⟨n, v⟩ hy
    exact (S.par n (List.of_mem_zip hy).1).imp id fun z => ⟨z, PySem.W.cellsFrom_some _ _ _ (.inl z)⟩
  refine codeAny_call_function hr.depth (KX _ _ lk) rfl S.co S.gen rfl (PySem.W.codeRec_of KX hcd) (hb _ _ _ _ (wpAny_newFunctionEnv_cells S.kind kinds fun env he s1 x => ?_))
  subst he
  refine ⟨(e0.mod.nolimit.keeps fun b o e => (e0.bs b o e).1).keeps x.toInCall.keep, codeAny_func ?_⟩
  obtain ⟨t, ht, hq⟩ := hbody A outer s H vs Q E hgd (hr.deeper _) hsp
  refine wpAny_mono (ht.run [] s1 (L2.start N vs) H _ (inv_start S hr.hd e0 hl r x) hq) (fun fl s' hs => ?_) fun e s' hs => hs
  cases fl with
  | ret u =>
    obtain ⟨v, _, H', J, rv, q⟩ := hs
    exact ⟨v, H', J.os, J.bare, J.base, J.hok, rv, q⟩
  | next =>
    obtain ⟨_, H', J, q⟩ := hs
    exact ⟨V.non, H', J.os, J.bare, J.base, J.hok, rfl, q⟩
  | brk => exact (hs.choose_spec.choose_spec.2 : False).elim
  | cont => exact (hs.choose_spec.choose_spec.2 : False).elim
theorem FunD.okG {P : Program} {w : World} {K : PySem.W.Frag} {mg : Str → Option Value} {base : Heap} {x qual : Str} {params : Arguments} {body : List Stmt} {scope : Scope} {dvs : List V} {kws : List (Str × V)} {f : Addr} {fd : FuncData} {CX : CXT} {N ps : List Str} {k : Nat} {sp : Sp}
    (F : FunD K x qual params body scope dvs kws f fd) (S : FnScope N ps scope) (len : ∀ vs H Q E, sp vs H Q E → vs.length = ps.length)
    (hbody : ∀ (cdv : Value) (A : Around) (outer : List Env) (s : Shared) (H : Hp) (vs : List V) (Q : VK) (E : XK), A.guards = some [] → Room k (A.deeper (envOfC qual scope s.heap.objs.size f cdv)) → sp vs H Q E →
      ∃ t, PSs (cxOf CX P w K mg base N qual scope f cdv A outer s H E) body t ∧ t { nx := fun _ H' => Q .non H', rt := Q } (L2.start N vs) H) : FnG P w K mg base CX (k + 1) f fd ps sp := by
  obtain ⟨oc, od, dV, kV, doc, pm, an, cdv, ct, osl, rfl, lk, hcd, _, _⟩ := F.ex
  exact fnG_of lk hcd S len fun A outer s H vs Q E hg hr hsp => hbody cdv A outer s H vs Q E hg hr hsp
section
variable {X : Cx} {CX : CXT} {k : Nat} {f C : Addr} {fd : FuncData} {ps : List Str} {sp : Sp} {dvs : List V} {ds : List Value} {E : XK} {x m : Str} {p pos apos : Pos} {e o : Expr} {es : List Expr} {ta : TE} {t : TA}
theorem run_fnG {pins : List (Addr × Obj)} {σ : L2.St} {H : Hp} {s : Shared} {Q : VK} {us : List Value} {vs : List V} (hgd : X.A.guards = some []) (F : FnG X.prog X.w X.K X.mg X.base CX k f fd ps sp) (hr : Room k X.A) (hb : Binds X.K fd ps ds) (hd : Vals dvs ds) (hx : Passes CX X E)
    (I : L2.Inv X pins σ H s) (r : Vals vs us) (h : sp (vs ++ dvs) H Q E) : wpAny (model X.prog X.w) X.A (call (.ref f) us) (EP X pins σ Q) X.xe s := by
  have r2 : Vals (vs ++ dvs) (us ++ ds) := r.append hd
  refine wpAny_call (codeAny_mono (F.run X.A X.stack s H ⟨us, []⟩ (us ++ ds) (vs ++ dvs) Q E hgd hr I.env0 (hb s us I.kIn (by rw [← r2.length]; exact F.len _ _ _ _ h)) r2 h) fun res s' hq => ?_)
  match res, hq with
  | .error e, hq => exact hx pins σ H s e s' I hq
  | .ok (.ret u), hq => exact I.after hq
  | .ok .next, hq => exact hq.elim
  | .ok .brk, hq => exact hq.elim
  | .ok .cont, hq => exact hq.elim
theorem e_callG (hgd : X.A.guards = some []) (F : FnG X.prog X.w X.K X.mg X.base CX k f fd ps sp) (hr : Room k X.A) (hg : Gl X x) (hm : X.mg x = some (.ref f)) (hk : PySem.W.keepIn X.K (.ref f) = true) (hb : Binds X.K fd ps ds) (hd : Vals dvs ds) (hx : Passes CX X E)
    (ha : PA X (e :: es) t) (hdb : (x == ("__debug__" : Str)) = false := by decide) (he : starEach (e :: es) X.env = (false, eval e X.env) :: starEach es X.env := by rfl) (hpl : (backTo pos (starEach es X.env)).any (·.1) = false := by rfl) :
    PE X (.Call (.Name x p) (e :: es) [] pos) (tCall sp dvs E t) :=
  ⟨fun pins s σ H Q I h => wpAny_Call_Name_kw (ld_glob I hg hm (PySem.W.callWith_K (h₀ := X.base) I.ok.mod.kin hk (thn (ha.run pos pins s σ H _ I h) fun us s1 ⟨vs, H1, I1, r, q⟩ => ⟨I1.kIn, run_fnG hgd F hr hb hd hx I1 r q⟩) he hpl) hdb)⟩
theorem e_call0G (hgd : X.A.guards = some []) (F : FnG X.prog X.w X.K X.mg X.base CX k f fd ps sp) (hr : Room k X.A) (hg : Gl X x) (hm : X.mg x = some (.ref f)) (hk : PySem.W.keepIn X.K (.ref f) = true) (hb : Binds X.K fd ps ds) (hd : Vals dvs ds) (hx : Passes CX X E)
    (hdb : (x == ("__debug__" : Str)) = false := by decide) : PE X (.Call (.Name x p) [] [] pos) (tCall sp dvs E tNil) :=
  ⟨fun pins s σ H Q I h => wpAny_Call_Name_kw (ld_glob I hg hm (PySem.W.callWith_K0 I.kIn hk (run_fnG (us := []) hgd F hr hb hd hx I .nil h)) hdb)⟩
end
end Sp
namespace Sp
open PySem PySem.Spec PyProof.Rows L2

/-! ### enumerate(tuple) -/
theorem meets_enumT (l : Addr) (items : Array Value) (n : Nat) (dct : Option Addr) (sl : Array (Option Value)) :
    Meets (Builtin.«enumerate.__new__» ⟨[.type "enumerate", .ref l], []⟩) (fun _ R s => s.heap.get? l = some { cls := .type "tuple", dict := dct, data := .seq items n, slots := sl } ∧
      R (.ok (.ret (.ref (s.heap.push { cls := .type "tuple_iterator", data := .fields #[.ref l, .int 0 0] }).objs.size)))
        { s with heap := (s.heap.push { cls := .type "tuple_iterator", data := .fields #[.ref l, .int 0 0] }).push { cls := .type "enumerate", data := .fields #[.none, .bool false, .ref s.heap.objs.size, rawInt 0, .none, .none] } }) :=
  .of_wp fun prog w A R s h => by
    obtain ⟨hp, g, d, tk, os⟩ := s
    obtain ⟨hl, h⟩ := h
    have sub := sub_enumerate
    have tt : Heap.IsTuple (Shared.heap ⟨hp, g, d, tk, os⟩) l items := ⟨_, hl, rfl, n, rfl⟩
    wp_walk using AutoSeq1.wpAny_loadPart' hl
    refine wpAny_stack_any fun st => wpAny_pure ?_
    split
    · rename_i c _ _ _ _ _
      cases (c == Value.type "enumerate") <;> (wp_walk using AutoSeq1.wpAny_loadPart' hl, wpAny_pyIter_tuple tt; exact ⟨_, rfl, h⟩)
    · wp_walk using AutoSeq1.wpAny_loadPart' hl, wpAny_pyIter_tuple tt
      exact ⟨_, rfl, h⟩
section
variable {prog : Program} {w : World} {A : Around} {E : Value → Shared → Prop} {s : Shared}
theorem call_enumT {l : Addr} {items : Array Value} {Q : Value → Shared → Prop} (hL : s.heap.IsTuple l items)
    (h : ∀ h', IsEnum h' (s.heap.objs.size + 1) s.heap.objs.size 0 .none → h'.IsTupleIter s.heap.objs.size l 0 → (∀ b o, s.heap.get? b = some o → h'.get? b = some o) → Q (.ref (s.heap.objs.size + 1)) { s with heap := h' }) :
    wpAny (model prog w) A (call (.type "enumerate") [.ref l]) Q E s := by
  obtain ⟨⟨c, dct, dt, sl⟩, hl, hc, n, hd⟩ := hL
  obtain rfl : c = .type "tuple" := hc
  obtain rfl : dt = .seq items n := hd
  refine callType_new F.called_enumerate (by decide) (F.typeCall_enumerate_1 _) (F.newCall_enumerate_1 _) (fun obj => F.args_object_init_2 obj _) F.entry_enumerate_new (meets_enumT l items n dct sl) ⟨hl, ?_⟩
  have hz : (s.heap.push { cls := .type "tuple_iterator", data := .fields #[.ref l, .int 0 0] }).objs.size = s.heap.objs.size + 1 := Heap.size_push ..
  show _ ∧ _
  rw [hz]
  have he : IsEnum ((s.heap.push { cls := .type "tuple_iterator", data := .fields #[.ref l, .int 0 0] }).push { cls := .type "enumerate", data := .fields #[.none, .bool false, .ref s.heap.objs.size, rawInt 0, .none, .none] }) (s.heap.objs.size + 1) s.heap.objs.size 0 .none := by
    have q := Heap.get?_push_size (s.heap.push { cls := .type "tuple_iterator", data := .fields #[.ref l, .int 0 0] }) (o := { cls := .type "enumerate", data := .fields #[.none, .bool false, .ref s.heap.objs.size, rawInt 0, .none, .none] }) rfl
    rw [hz] at q
    exact q
  exact ⟨⟨_, he, rfl⟩, h _ he ⟨_, Heap.get?_push_of_some _ (Heap.get?_push_size _ rfl), rfl, rfl⟩ fun b o x => Heap.get?_push_of_some _ (Heap.get?_push_of_some _ x)⟩
end
/-- the tuple at a, its items in new pairs with their places -/
def IteT (K : PySem.W.Frag) (a : Addr) : It where
  go := fun i H => ∃ (xs : List V) (x : V), SqT K H a xs ∧ xs[i]? = some x
  yld := fun i H v H' => ∃ T x, v = .ref T ∧ H T = none ∧ H' = upd H T (.tup [.int (i : Nat), x]) ∧ ∀ xs, SqT K H a xs → xs[i]? = some x
  stop := fun i H => ∃ xs : List V, SqT K H a xs ∧ xs.length = i
theorem turn_enumT {P : Program} {w : World} {K : PySem.W.Frag} {elts : List Expr} {kk : Nat} {tpos : Pos} (a e it : Addr) :
    Turn P w K (.Tuple elts kk tpos) (IteT K a) [e, it] e (fun i h => (∃ old, IsEnum h e it ((i : Nat) : Int) old) ∧ h.IsTupleIter it a i ∧ e ≠ it) where
  mem := by simp
  obj := fun i h st b hb => by
    obtain ⟨⟨old, he⟩, ⟨o, ho, hc, hd⟩, _⟩ := st
    rcases (by simpa using hb : b = e ∨ b = it) with rfl | rfl
    · exact ⟨_, he, fun v q => nomatch q⟩
    · exact ⟨o, ho, fun v q => by rw [hd] at q; cases q⟩
  keep := fun i h h' st k => let ⟨⟨old, he⟩, hi, hne⟩ := st; ⟨⟨old, k e (by simp) _ he⟩, hi.at fun o q => k it (by simp) o q, hne⟩
  item := by
    intro X hP hw hK hc i pins s σ H E I hf st hg
    subst hP hw hK
    obtain ⟨⟨old, he⟩, hit, hne⟩ := st
    obtain ⟨xs, x, hq, hx⟩ := hg
    obtain ⟨its, rv, tp, hz⟩ := I.tuple hq
    have tp0 : s.heap.IsTuple a its.toArray := tp
    have hai : a ≠ it := fun z => by
      obtain ⟨o, ho, hcl, _⟩ := tp
      obtain ⟨o2, ho2, hcl2, _⟩ := hit
      rw [z, ho2] at ho
      cases ho
      rw [hcl2] at hcl
      exact absurd hcl (by decide)
    have hea : e ≠ a := fun z => by
      obtain ⟨o, ho, hcl, _⟩ := tp
      have he2 := he
      unfold IsEnum at he2
      rw [z, ho] at he2
      cases he2
      exact absurd (show Value.type "enumerate" = Value.type "tuple" from hcl) (by decide)
    obtain ⟨u, hu, ru⟩ := rv.get hx
    have hel : e < s.heap.objs.size := Heap.lt_size he
    have hil : it < s.heap.objs.size := by obtain ⟨_, q, _⟩ := hit; exact Heap.lt_size q
    have hlt : i < its.toArray.size := by
      rw [List.size_toArray]
      exact (List.getElem?_eq_some_iff.mp hu).1
    refine wpAny_pyNext_enum_itemD (A := X.A) (Draws.tuple (A := X.A.in1) (I.ok.hd hc) it a hai its.toArray) he ⟨hit, tp0⟩ hlt hne (by simp [hne, hea]) fun x' h' tk hx' ho st' hT hsz hk => ?_
    have exu : x' = u := by
      have q : its.toArray[i]? = some x' := hx'
      simp only [List.getElem?_toArray] at q
      rw [hu] at q
      exact (Option.some.inj q).symm
    subst exu
    refine ⟨_, rfl, wpAny_letOwnedTupleGo_enum (s := { s with heap := h', toks := tk + 1 }) ho fun h'' he' sb => ?_⟩
    have hT2 := (sb.2 _ (Nat.ne_of_gt hel)).trans hT
    have new : ObjOk X.prog X.w (upd H s.heap.objs.size (.tup [.int (i : Nat), x])) h'' s.heap.objs.size (.tup [.int (i : Nat), x]) := ⟨by show 2 ≤ sizeLine; decide, [.int i tk, x'], .cons ⟨_, rfl⟩ (.cons ru .nil), ⟨_, hT2, rfl, _, rfl⟩⟩
    have I1 : L2.Inv X pins σ (upd H s.heap.objs.size (.tup [.int (i : Nat), x])) { s with heap := h'', toks := tk + 1 } := by
      refine I.turnedNew (ch := [e, it]) (fun b ob hb q => ?_) hf (Nat.le_refl _) new
      have n1 : b ≠ e := fun z => hb (by simp [z])
      have n2 : b ≠ it := fun z => hb (by simp [z])
      exact (sb.2 b n1).trans (hk b ob n1 n2 q)
    refine ⟨.ref s.heap.objs.size, _, I1, rfl, ⟨_, x, rfl, I.hok.fresh (Nat.le_refl _), rfl, fun ys hy => by rw [I.tuple_inj hy hq]; exact hx⟩, ⟨⟨x', by simpa using he'⟩, st'.1.at fun o q => (sb.2 it (Ne.symm hne)).trans q, hne⟩, fun b hb => ?_⟩
    have hb' : b < s.heap.objs.size := by
      rcases (by simpa using hb : b = e ∨ b = it) with rfl | rfl
      · exact hel
      · exact hil
    rw [upd_ne (Nat.ne_of_lt hb')]
    exact (hf b hb).1
  done := by
    intro X hP hw hK hc i pins s σ H E I hf st hg
    subst hP hw hK
    obtain ⟨⟨old, he⟩, hit, hne⟩ := st
    obtain ⟨xs, hq, hx⟩ := hg
    obtain ⟨its, rv, tp, hz⟩ := I.tuple hq
    have tp0 : s.heap.IsTuple a its.toArray := tp
    have hai : a ≠ it := fun z => by
      obtain ⟨o, ho, hcl, _⟩ := tp
      obtain ⟨o2, ho2, hcl2, _⟩ := hit
      rw [z, ho2] at ho
      cases ho
      rw [hcl2] at hcl
      exact absurd hcl (by decide)
    obtain ⟨f0, f1, f2, f3, f4, f5⟩ := hf it (by simp)
    have hn : i = its.toArray.size := by
      rw [List.size_toArray, ← rv.length, hx]
    exact wpAny_pyNext_enum_endD (A := X.A) (Draws.tuple (A := X.A.in1) (I.ok.hd hc) it a hai its.toArray) he ⟨by rw [← hn]; exact hit, tp0⟩ fun h' eb => ⟨rfl, I.turned (t' := s.toks) (fun b o hb q => eb b o hb q) f0 f1 f3 f4 f5⟩
  self := fun A i s Q E st h => let ⟨⟨_, he⟩, _⟩ := st; wpAny_pyIter_enum he h
def iEnumT (K : PySem.W.Frag) (ta : TA) : TI := fun σ H R => ta σ H fun vs H1 => on1 vs fun x => onRef x fun a => (∃ xs, SqT K H1 a xs) ∧ R (IteT K a) H1
theorem pi_enumT {X : Cx} {e : Expr} {ta : TA} {p pos tpos : Pos} {elts : List Expr} {kk : Nat} (hg : Gl X "enumerate") (hm : X.mg "enumerate" = none) (ha : PA X [e] ta) (hs : starEach [e] X.env = [(false, eval e X.env)] := by rfl) :
    PI X (.Tuple elts kk tpos) (.Call (.Name "enumerate" p) [e] [] pos) (iEnumT X.K ta) := by
  refine ⟨fun pins s σ H R I h => Call_ (ld_blt I hg hm boot_enumerate (PyProof.Rows.callWith_type1 (thn (ha.run pos pins s σ H _ I h) fun us s1 ⟨vs, H1, I1, r1, q1⟩ => ?_) hs rfl))⟩
  obtain ⟨x, rfl, q2⟩ := on1_ex q1
  obtain ⟨a, rfl, ⟨xs, hq⟩, q⟩ := onRef_ex q2
  obtain ⟨u, rfl, ru⟩ := vals1 r1
  cases ru
  obtain ⟨its, rv, tp, hz⟩ := I1.tuple hq
  refine call_enumT (show s1.heap.IsTuple a its.toArray from tp) fun h' he hit hk => wpAny_pyIter_enum he ?_
  refine ⟨s1.heap.objs.size + 1, [s1.heap.objs.size + 1, s1.heap.objs.size], _, _, H1, rfl, I1.kept (t' := s1.toks) hk, turn_enumT a (s1.heap.objs.size + 1) s1.heap.objs.size, ⟨⟨.none, he⟩, hit, Nat.succ_ne_self _⟩, fun b hb => ?_, q⟩
  have hle : s1.heap.objs.size ≤ b := by
    rcases (by simpa using hb : b = s1.heap.objs.size + 1 ∨ b = s1.heap.objs.size) with rfl | rfl <;> omega
  exact I1.fpOk hle (I1.hok.fresh hle)
/-- a for over enumerate(tuple) -/
theorem for_enumT {K : PySem.W.Frag} {a : Addr} {xs : List V} {g : TG} {tb : TS} {D : Ends} {σ : L2.St} {H : Hp} (Pv : Nat → L2.St → Hp → Prop) (h0 : Pv 0 σ H) (hG : ∀ i σ H, i ≤ xs.length → Pv i σ H → SqT K H a xs)
    (hs : ∀ i x σ H T, xs[i]? = some x → Pv i σ H → H T = none → g (.ref T) σ (upd H T (.tup [.int (i : Nat), x])) fun σ2 H2 => tb { D with nx := Pv (i + 1), ct := Pv (i + 1), bk := D.nx } σ2 H2) (hd : ∀ σ H, Pv xs.length σ H → D.nx σ H) :
    ∃ W : Nat → Nat → L2.St → Hp → Prop, (∃ m, W 0 m σ H) ∧ ∀ i m σ H, W i m σ H →
      ((IteT K a).stop i H ∧ D.nx σ H) ∨ ((IteT K a).go i H ∧ ∃ N : L2.St → Hp → Prop, (∀ σ' H', N σ' H' → ∃ m', m' < m ∧ W (i + 1) m' σ' H') ∧ ∀ x H', (IteT K a).yld i H x H' → g x σ H' fun σ2 H2 => tb { D with nx := N, ct := N, bk := D.nx } σ2 H2) := by
  refine ⟨fun i m σ H => m = xs.length - i ∧ i ≤ xs.length ∧ Pv i σ H, ⟨xs.length, by simp, Nat.zero_le _, h0⟩, ?_⟩
  rintro i m σ H ⟨rfl, hi, pv⟩
  have q := hG i σ H hi pv
  by_cases hlt : i < xs.length
  · refine .inr ⟨⟨xs, xs[i], q, by simp [hlt]⟩, Pv (i + 1), fun σ' H' p' => ⟨xs.length - (i + 1), by omega, rfl, hlt, p'⟩, fun v H' y => ?_⟩
    obtain ⟨T, x, rfl, hT, rfl, hx⟩ := y
    exact hs i x σ H T (hx xs q) pv hT
  · obtain rfl : i = xs.length := by omega
    exact .inl ⟨⟨xs, q, rfl⟩, hd σ H pv⟩

/-! ### isinstance, max, min -/
def fIsi (K : PySem.W.Frag) : List V → Hp → VK → Prop := fun xs H Q => on2 xs fun x c => ∃ (t u : Value) (b : Bool), ClsV c u ∧ TyX K H x t ∧ PySem.W.kitOne K t u = some b ∧ Q (.bl b) H
def fMax (K : PySem.W.Frag) : List V → Hp → VK → Prop := fun xs H Q => on1 xs fun x => onRef x fun a => ∃ ns : List Int, SqL K H a (ns.map V.int) ∧ 0 < ns.length ∧ ∀ m, m ∈ ns → (∀ y, y ∈ ns → y ≤ m) → Q (.int m) H
def fMin (K : PySem.W.Frag) : List V → Hp → VK → Prop := fun xs H Q => on1 xs fun x => onRef x fun a => ∃ ns : List Int, SqL K H a (ns.map V.int) ∧ 0 < ns.length ∧ ∀ m, m ∈ ns → (∀ y, y ∈ ns → m ≤ y) → Q (.int m) H
section
variable {X : Cx}
theorem c_isi : CallR X (.builtin "isinstance") (fIsi X.K) := CallR.imp call_isi fun xs H Q h => by
  obtain ⟨x, c, rfl, t, u, b, h1⟩ := on2_ex h
  exact ⟨x, c, t, u, b, rfl, h1⟩
theorem c_max (hc : X.calm = true) : CallR X (.builtin "max") (fMax X.K) := CallR.imp (cr_max hc) fun xs H Q h => by
  obtain ⟨x, rfl, h1⟩ := on1_ex h
  obtain ⟨a, rfl, ns, h2⟩ := onRef_ex h1
  exact ⟨a, ns, rfl, h2⟩
theorem c_min (hc : X.calm = true) : CallR X (.builtin "min") (fMin X.K) := CallR.imp (cr_min hc) fun xs H Q h => by
  obtain ⟨x, rfl, h1⟩ := on1_ex h
  obtain ⟨a, rfl, ns, h2⟩ := onRef_ex h1
  exact ⟨a, ns, rfl, h2⟩
end
/-- is it an int, a bool, .. -/
theorem isi_ty {K : PySem.W.Frag} {x c : V} {H : Hp} {Q : VK} {a b : String} {r : Bool} (hx : TyX K H x (.type a)) (hc : ClsV c (.type b)) (hk : kitB a b = some r) (q : Q (.bl r) H) : fIsi K [x, c] H Q := ⟨_, _, _, hc, hx, kit_ty hk, q⟩

/-! ### calls by keywords alone -/
section
variable {X : Cx} {CX : CXT} {k n : Nat} {f C : Addr} {fd : FuncData} {ps ks : List Str} {sp : L2.Sp} {E : XK} {x m : Str} {p pos apos : Pos} {o : Expr} {kws : List Keyword} {ta : TE} {t tk : TA} {g : List Value → List Value → List Value} {gV : List V → List V → List V}
theorem e_makeK0 (M : Mk X.K C f) (F : FnOk X.prog X.w X.K X.mg X.base CX k f fd ps sp) (hr : Room (k + 1) X.A) (hg : Gl X x) (hm : X.mg x = some (.ref C)) (hb : KBn X.K fd ps 1 ks g gV) (hx : Passes CX X E) (hkw : PK X kws tk)
    (hall : (backToKw pos (keywordEach kws X.env)).all (·.1.isSome) = true := by rfl) (hks : (backToKw pos (keywordEach kws X.env)).filterMap (·.1) = ks := by rfl) (hdb : (x == ("__debug__" : Str)) = false := by decide)
    (hpl : ((backTo pos (starEach [] X.env)).any (·.1) || (backToKw pos (keywordEach kws X.env)).any (·.1.isNone)) = false := by rfl) :
    PE X (.Call (.Name x p) [] kws pos) (tMakeN C 0 ks.length sp gV E tNil tk) := by
  refine ⟨fun pins s σ H Q I h => wpAny_Call_Name_kw (ld_glob I hg hm (PySem.W.callWith_KW0 (h₀ := X.base) I.ok.mod.kin M.kp hall (thn (hkw.run pos pins s σ H _ I h) fun ws s2 ⟨zs, H2, I2, rz, l1, l2, q2⟩ => ⟨I2.kIn, ?_⟩) hpl) hdb)⟩
  rw [hks]
  exact run_makeN (us := []) (vs := []) M F hr hb hx I2 .nil rz l1 l2 q2
/-- o.m(k = v, ..) -/
def tMethK (C : Addr) (m : Str) (mm : Nat) (sp : L2.Sp) (gV : List V → List V → List V) (E : XK) (ta : TE) (tk : TA) : TE := fun σ H Q => ta σ H fun x H1 => onRef x fun a => (∃ dx fs, H1 a = some (.ins C dx fs) ∧ fs.lookup m = none) ∧
  tk σ H1 fun zs H2 => zs.length = mm ∧ sp (gV [x] zs) H2 Q E
theorem e_methK0 {pl : Sem Bool} (he : PE X o ta) (c : Cls X.K C) (hm : Meth X.K C m f) (F : FnOk X.prog X.w X.K X.mg X.base CX k f fd ps sp) (hr : Room k X.A) (hb : KBn X.K fd ps 1 ks g gV) (hx : Passes CX X E) (hkw : PK X kws tk)
    (hall : (backToKw pos (keywordEach kws X.env)).all (·.1.isSome) = true := by rfl) (hks : (backToKw pos (keywordEach kws X.env)).filterMap (·.1) = ks := by rfl)
    (hpl : ((backTo pos (starEach [] X.env)).any (·.1) || (backToKw pos (keywordEach kws X.env)).any (·.1.isNone)) = false := by rfl)
    (ht : eval (.Call (.Attribute o m apos) [] kws pos) X.env = (do
      let ov ← eval o X.env
      standAt apos.atName
      let (f, first) ← holding [ov] (getMethod ov m pl)
      callWith pos f first (backTo pos (starEach [] X.env)) (backToKw pos (keywordEach kws X.env))) := by rfl) :
    PE X (.Call (.Attribute o m apos) [] kws pos) (tMethK C m ks.length sp gV E ta tk) := by
  refine ⟨fun pins s σ H Q I h => PySem.W.methodCall_KW (pl := pl) (thn (he.run pins s σ H _ I h) fun u s1 ⟨x, H1, I1, rx, q⟩ => ?_) ht⟩
  obtain ⟨a, rfl, ⟨dx, fs, ea, l⟩, q⟩ := onRef_ex q
  obtain rfl : u = Value.ref a := rx
  refine getmeth_ok I1 ea c hm l (PySem.W.callWith_KW0 (first := [.ref a]) (h₀ := X.base) I.ok.mod.kin hm.kp hall (thn (hkw.run pos pins s1 σ H1 _ I1 q) fun ws s2 ⟨zs, H2, I2, rz, l2, q2⟩ => ⟨I2.kIn, ?_⟩) hpl)
  rw [hks]
  exact run_fnN (us := [.ref a]) (vs := [.ref a]) F hr hb hx I2 (.cons rfl .nil) rz rfl l2 q2
end

/-! ### lists and tuples alike -/
def SqS (K : PySem.W.Frag) (H : Hp) (a : Addr) (xs : List V) : Prop := SqL K H a xs ∨ SqT K H a xs
def fIxQ (K : PySem.W.Frag) : R2 := fun x y H Q => onRef x fun p => onInt y fun i => ∃ xs, SqS K H p xs ∧ ∃ v, atI xs i = some v ∧ Q v H
def fSlQ (K : PySem.W.Frag) : V → Option Int → Option Int → Hp → VK → Prop := fun x lo hi H Q => rSlL K x lo hi H Q ∨ rSlA K x lo hi H Q
def fTupQ (K : PySem.W.Frag) : List V → Hp → VK → Prop := fun xs H Q => on1 xs fun x => onRef x fun p => ∃ ys, (SqL K H p ys ∧ ∀ l, H l = none → Q (.ref l) (upd H l (.tup ys))) ∨ (SqT K H p ys ∧ Q (.ref p) H)
section
variable {X : Cx}
theorem x_seq : IxR X (fIxQ X.K) := IxR.imp ix_seq fun x y H Q h => by
  obtain ⟨p, rfl, h1⟩ := onRef_ex h
  obtain ⟨i, rfl, xs, h2, v, h3, h4⟩ := onInt_ex h1
  rcases h2 with h2 | h2
  · exact .inl ⟨p, xs, i, v, rfl, rfl, h2, h3, h4⟩
  · exact .inr (.inl ⟨p, xs, i, v, rfl, rfl, h2, h3, h4⟩)
theorem sl_seq : SlR X (fSlQ X.K) := SlR.or sl_list sl_tupA
theorem c_tupQ : CallR X (.type "tuple") (fTupQ X.K) := CallR.imp call_tuple_of fun xs H Q h => by
  obtain ⟨x, rfl, h1⟩ := on1_ex h
  obtain ⟨p, rfl, ys, h2⟩ := onRef_ex h1
  exact ⟨p, ys, rfl, h2⟩
end
theorem Same.upd {H : Hp} {q : Addr} {o : HO} (hq : H q = none) : Same H (upd H q o) := fun b u h => by rw [upd_ne (ne_of_none h hq)]; exact h
theorem sameT {K : PySem.W.Frag} {H H' : Hp} {a : Addr} {xs : List V} (e : Same H H') (h : SqT K H a xs) : SqT K H' a xs := by
  rcases h with (h | ⟨o, h⟩) | h
  · exact .inl (.inl (e _ _ h))
  · exact .inl (.inr ⟨o, e _ _ h⟩)
  · exact .inr h
theorem sameS {K : PySem.W.Frag} {H H' : Hp} {a : Addr} {xs : List V} (e : Same H H') (h : SqS K H a xs) : SqS K H' a xs := h.imp (fun z => e.seq z) (fun z => sameT e z)

/-! ### comprehensions over a range: what holds between the turns -/
theorem lc_rangeI {lo : Int} {n : Nat} {g : TG} {te : TE} {vs : List Nat} {σ : L2.St} {H1 : Hp} {D : Addr} {Qd : Hp → Prop} (hz : n ≤ 1000000) (J : Nat → List V → Hp → Prop) (h0 : J 0 [] (upd H1 D (.lst [])))
    (hs : ∀ (i : Nat) (acc : List V) (H : Hp), i < n → acc.length = i → H D = some (.lst acc) → J i acc H → ∀ R : VK, (∀ y H4, H4 D = some (.lst acc) → J (i + 1) (acc ++ [y]) (upd H4 D (.lst (acc ++ [y]))) → R y H4) →
      g (.int (lo + i)) (wipe σ vs) H fun σ2 H2 => wipe σ2 vs = wipe σ vs ∧ te σ2 H2 R)
    (hd : ∀ acc H, acc.length = n → H D = some (.lst acc) → J n acc H → Qd H) :
    ∃ W : Nat → Nat → Hp → Prop, (∃ m, W 0 m (upd H1 D (.lst []))) ∧ ∀ i m H, W i m H →
      ((Itr lo n).stop i H ∧ Qd H) ∨ ((Itr lo n).go i H ∧ ∃ Nx : Hp → Prop, (∀ H', Nx H' → ∃ m', m' < m ∧ W (i + 1) m' H') ∧ ∀ x H', (Itr lo n).yld i H x H' → g x (wipe σ vs) H' fun σ2 H2 => wipe σ2 vs = wipe σ vs ∧ tYes σ2 H2 fun b H3 =>
        if b = true then te σ2 H3 fun y H4 => ∃ acc, H4 D = some (.lst acc) ∧ acc.length < sizeLine ∧ Nx (upd H4 D (.lst (acc ++ [y]))) else Nx H3) := by
  refine lc_range (fun i H => ∃ acc, acc.length = i ∧ H D = some (.lst acc) ∧ J i acc H) ⟨[], rfl, upd_same, h0⟩ (fun i H hi h => ?_) (fun H h => ?_)
  · obtain ⟨acc, hl, hD, hJ⟩ := h
    have q := hs i acc H hi hl hD hJ (fun y H4 => ∃ acc, H4 D = some (.lst acc) ∧ acc.length < sizeLine ∧ ∃ ac2, ac2.length = i + 1 ∧ (upd H4 D (.lst (acc ++ [y]))) D = some (.lst ac2) ∧ J (i + 1) ac2 (upd H4 D (.lst (acc ++ [y])))) (fun y H4 e j => ⟨acc, e, by rw [hl, sizeLine_eq]; omega, acc ++ [y], by simp [hl], upd_same, j⟩)
    exact q
  · obtain ⟨acc, hl, hD, hJ⟩ := h
    exact hd acc H hl hD hJ
/-- the elements are f i, nothing else changes -/
theorem lc_rangeF {lo : Int} {n : Nat} {g : TG} {te : TE} {vs : List Nat} {σ : L2.St} {H1 : Hp} {D : Addr} {Qd : Hp → Prop} (f : Nat → V) (hn : H1 D = none) (hz : n ≤ 1000000)
    (hs : ∀ (i : Nat) (H : Hp), i < n → Same H1 H → ∀ R : VK, (∀ H4, Same H H4 → R (f i) H4) → g (.int (lo + i)) (wipe σ vs) H fun σ2 H2 => wipe σ2 vs = wipe σ vs ∧ te σ2 H2 R)
    (hd : ∀ H, Same H1 H → H D = some (.lst ((List.range n).map f)) → Qd H) :
    ∃ W : Nat → Nat → Hp → Prop, (∃ m, W 0 m (upd H1 D (.lst []))) ∧ ∀ i m H, W i m H →
      ((Itr lo n).stop i H ∧ Qd H) ∨ ((Itr lo n).go i H ∧ ∃ Nx : Hp → Prop, (∀ H', Nx H' → ∃ m', m' < m ∧ W (i + 1) m' H') ∧ ∀ x H', (Itr lo n).yld i H x H' → g x (wipe σ vs) H' fun σ2 H2 => wipe σ2 vs = wipe σ vs ∧ tYes σ2 H2 fun b H3 =>
        if b = true then te σ2 H3 fun y H4 => ∃ acc, H4 D = some (.lst acc) ∧ acc.length < sizeLine ∧ Nx (upd H4 D (.lst (acc ++ [y]))) else Nx H3) := by
  refine lc_rangeI hz (fun i acc H => acc = (List.range i).map f ∧ Same H1 H) ⟨rfl, Same.upd hn⟩ (fun i acc H hi hl hD hJ R hR => ?_) (fun acc H hl hD hJ => ?_)
  · refine hs i H hi hJ.2 R fun H4 e => hR (f i) H4 (e _ _ hD) ⟨?_, fun b o h => ?_⟩
    · rw [List.range_succ, List.map_append, ← hJ.1]
      rfl
    · rw [upd_ne (ne_of_none h hn)]
      exact e _ _ (hJ.2 _ _ h)
  · exact hd H hJ.2 (by rw [hD, hJ.1])

/-! ### range(a, b) of ints of any size -/
theorem turn_long {P : Program} {w : World} {K : PySem.W.Frag} {tg : Expr} (it : Addr) (lo : Int) (n : Nat) : Turn P w K tg (Itr lo n) [it] it (fun i h => IsLongIter h it (lo + (i : Nat) * 1) ((n : Int) - (i : Nat)) 1) where
  mem := by simp
  obj := fun i h st b hb => by
    obtain rfl : b = it := by simpa using hb
    exact ⟨_, st, fun v z => nomatch z⟩
  keep := fun i h h' st k => k it (by simp) _ st
  item := by
    intro X hP hw hK hc i pins s σ H E I hf st hg
    subst hP hw hK
    obtain ⟨f0, f1, f2, f3, f4, f5⟩ := hf it (by simp)
    have hg2 : i < n := hg
    refine wpAny_pyNext_long_item st (by omega) fun h' st' sb => ?_
    have I1 : L2.Inv X pins σ H { s with heap := h', toks := s.toks + 1 } := I.turned (fun b o hb e => (sb.2 b hb).trans e) f0 f1 f3 f4 f5
    have st2 : IsLongIter h' it (lo + ((i + 1 : Nat) : Int) * 1) ((n : Int) - ((i + 1 : Nat) : Int)) 1 := by
      have e1 : lo + ((i + 1 : Nat) : Int) * 1 = lo + (i : Int) * 1 + 1 := by omega
      have e2 : (n : Int) - ((i + 1 : Nat) : Int) = (n : Int) - (i : Int) - 1 := by omega
      rw [e1, e2]
      exact st'
    refine ⟨_, rfl, go_of (s := { s with heap := h', toks := s.toks + 1 }) (n := "longrange_iterator") st2 rfl rfl (by decide) ⟨.int (lo + i), H, I1, ⟨s.toks, by rw [Int.mul_one]⟩, ⟨rfl, rfl⟩, st2, fun b hb => (hf b hb).1⟩⟩
  done := by
    intro X hP hw hK hc i pins s σ H E I hf st hg
    subst hP hw hK
    obtain ⟨f0, f1, f2, f3, f4, f5⟩ := hf it (by simp)
    have hg2 : n ≤ i := hg
    exact wpAny_pyNext_long_end (I.ok.hd hc) st (by omega) fun h' eb => ⟨rfl, I.turned (t' := s.toks) (fun b o hb e => eb b o hb e) f0 f1 f3 f4 f5⟩
  self := fun _ _ _ _ _ st h => wpAny_pyIter_longiter st h
def iRngL (ta : TA) : TI := fun σ H R => ta σ H fun vs H1 => on2 vs fun x y => onInt x fun i => onInt y fun j => R (Itr i (j - i).toNat) H1
section
variable {X : Cx} {tg : Expr}
theorem rangeL_it {pins : List (Addr × Obj)} {σ : L2.St} {H : Hp} {s : Shared} {R : It → Hp → Prop} {E : Value → Shared → Prop} {lo hi : Int} {t u v : Tok} {tk : Nat} (I : L2.Inv X pins σ H s)
    (q : R (Itr lo (hi - lo).toNat) H) : wpAny (model X.prog X.w) X.A (pyIter (.ref s.heap.objs.size)) (PIE X pins σ tg R) E { s with heap := s.heap.push { cls := .type "range", data := .fields #[.int lo t, .int hi u, .int 1 v] }, toks := tk } := by
  have I1 : L2.Inv X pins σ H { s with heap := s.heap.push { cls := .type "range", data := .fields #[.int lo t, .int hi u, .int 1 v] }, toks := tk } := I.kept fun b o e => Heap.get?_push_of_some _ e
  have e1 : lo + ((0 : Nat) : Int) * 1 = lo := by simp
  have e2 : (((hi - lo).toNat : Nat) : Int) - ((0 : Nat) : Int) = Builtin.Range.rangeSize lo hi 1 := by rw [rangeSize_one]; split <;> omega
  have fp : ∀ b, b ∈ [(s.heap.push { cls := .type "range", data := .fields #[.int lo t, .int hi u, .int 1 v] }).objs.size] → FpOk X pins H b := fun b hb => by
    obtain rfl : b = (s.heap.push { cls := .type "range", data := .fields #[.int lo t, .int hi u, .int 1 v] }).objs.size := by simpa using hb
    exact I1.fpOk (Nat.le_refl _) (I1.hok.fresh (Nat.le_refl _))
  cases hs : Builtin.Range.small lo hi 1 with
  | true =>
    refine wpAny_pyIter_range (IsRange.new ..) hs ⟨_, [(s.heap.push { cls := .type "range", data := .fields #[.int lo t, .int hi u, .int 1 v] }).objs.size], _, _, H, rfl, I1.kept (t' := tk) fun b o e => Heap.get?_push_of_some _ e, turn_range _ lo (hi - lo).toNat, ?_, fp, q⟩
    show IsRangeIter _ _ (lo + ((0 : Nat) : Int) * 1) ((((hi - lo).toNat : Nat) : Int) - ((0 : Nat) : Int)) 1
    rw [e1, e2]
    exact Heap.get?_push_size _ rfl
  | false =>
    refine wpAny_pyIter_longrange (IsRange.new ..) hs ⟨_, [(s.heap.push { cls := .type "range", data := .fields #[.int lo t, .int hi u, .int 1 v] }).objs.size], _, _, H, rfl, I1.kept (t' := tk) fun b o e => Heap.get?_push_of_some _ e, turn_long _ lo (hi - lo).toNat, ?_, fp, q⟩
    show IsLongIter _ _ (lo + ((0 : Nat) : Int) * 1) ((((hi - lo).toNat : Nat) : Int) - ((0 : Nat) : Int)) 1
    rw [e1, e2]
    exact Heap.get?_push_size _ rfl
theorem pi_rangeL {a b : Expr} {ta : TA} {p pos : Pos} (hg : Gl X "range") (hm : X.mg "range" = none) (ha : PA X [a, b] ta) (hs : starEach [a, b] X.env = (false, eval a X.env) :: starEach [b] X.env := by rfl) (hs2 : starEach [b] X.env = [(false, eval b X.env)] := by rfl) :
    PI X tg (.Call (.Name "range" p) [a, b] [] pos) (iRngL ta) := by
  refine ⟨fun pins s σ H R I h => Call_ (ld_blt I hg hm boot_range (PyProof.Rows.callWith_type1 (thn (ha.run pos pins s σ H _ I h) fun us s1 ⟨vs, H1, I1, r1, q1⟩ => ?_) (by rw [hs, hs2]) (by rw [hs2]; rfl)))⟩
  obtain ⟨x, y, rfl, q2⟩ := on2_ex q1
  obtain ⟨i, rfl, q3⟩ := onInt_ex q2
  obtain ⟨j, rfl, q⟩ := onInt_ex q3
  obtain ⟨u, v, rfl, ⟨t, rfl⟩, ⟨t', rfl⟩⟩ := vals2 r1
  exact call_range_2 (rangeL_it I1 q)
end

/-- a comprehension over a list: what holds between the turns -/
theorem lc_listI {K : PySem.W.Frag} {a : Addr} {xs : List V} {g : TG} {te : TE} {vs : List Nat} {σ : L2.St} {H1 : Hp} {D : Addr} {Qd : Hp → Prop} (hz : xs.length ≤ 1000000) (J : Nat → List V → Hp → Prop) (h0 : J 0 [] (upd H1 D (.lst [])))
    (hl : ∀ i acc H, i ≤ xs.length → H D = some (.lst acc) → J i acc H → SqL K H a xs)
    (hs : ∀ (i : Nat) (x : V) (acc : List V) (H : Hp), xs[i]? = some x → acc.length = i → H D = some (.lst acc) → J i acc H → ∀ R : VK, (∀ y H4, H4 D = some (.lst acc) → J (i + 1) (acc ++ [y]) (upd H4 D (.lst (acc ++ [y]))) → R y H4) →
      g x (wipe σ vs) H fun σ2 H2 => wipe σ2 vs = wipe σ vs ∧ te σ2 H2 R)
    (hd : ∀ acc H, acc.length = xs.length → H D = some (.lst acc) → J xs.length acc H → Qd H) :
    ∃ W : Nat → Nat → Hp → Prop, (∃ m, W 0 m (upd H1 D (.lst []))) ∧ ∀ i m H, W i m H →
      ((Itl K a).stop i H ∧ Qd H) ∨ ((Itl K a).go i H ∧ ∃ Nx : Hp → Prop, (∀ H', Nx H' → ∃ m', m' < m ∧ W (i + 1) m' H') ∧ ∀ x H', (Itl K a).yld i H x H' → g x (wipe σ vs) H' fun σ2 H2 => wipe σ2 vs = wipe σ vs ∧ tYes σ2 H2 fun b H3 =>
        if b = true then te σ2 H3 fun y H4 => ∃ acc, H4 D = some (.lst acc) ∧ acc.length < sizeLine ∧ Nx (upd H4 D (.lst (acc ++ [y]))) else Nx H3) := by
  refine lc_list (xs := xs) (fun i H => ∃ acc, acc.length = i ∧ H D = some (.lst acc) ∧ J i acc H) ⟨[], rfl, upd_same, h0⟩ (fun i H hi h => ?_) (fun i x H hx h => ?_) (fun H h => ?_)
  · obtain ⟨acc, _, hD, hJ⟩ := h
    exact hl i acc H hi hD hJ
  · obtain ⟨acc, hac, hD, hJ⟩ := h
    have hi := (List.getElem?_eq_some_iff.mp hx).1
    exact hs i x acc H hx hac hD hJ (fun y H4 => ∃ acc, H4 D = some (.lst acc) ∧ acc.length < sizeLine ∧ ∃ ac2, ac2.length = i + 1 ∧ (upd H4 D (.lst (acc ++ [y]))) D = some (.lst ac2) ∧ J (i + 1) ac2 (upd H4 D (.lst (acc ++ [y])))) (fun y H4 e j => ⟨acc, e, by rw [hac, sizeLine_eq]; omega, acc ++ [y], by simp [hac], upd_same, j⟩)
  · obtain ⟨acc, hac, hD, hJ⟩ := h
    exact hd acc H hac hD hJ
/-- the elements are f of the items, nothing else changes -/
theorem lc_listF {K : PySem.W.Frag} {a : Addr} {xs : List V} {g : TG} {te : TE} {vs : List Nat} {σ : L2.St} {H1 : Hp} {D : Addr} {Qd : Hp → Prop} (f : V → V) (hn : H1 D = none) (hz : xs.length ≤ 1000000) (hS : SqL K H1 a xs)
    (hs : ∀ (i : Nat) (x : V) (H : Hp), xs[i]? = some x → Same H1 H → ∀ R : VK, (∀ H4, Same H H4 → R (f x) H4) → g x (wipe σ vs) H fun σ2 H2 => wipe σ2 vs = wipe σ vs ∧ te σ2 H2 R)
    (hd : ∀ H, Same H1 H → H D = some (.lst (xs.map f)) → Qd H) :
    ∃ W : Nat → Nat → Hp → Prop, (∃ m, W 0 m (upd H1 D (.lst []))) ∧ ∀ i m H, W i m H →
      ((Itl K a).stop i H ∧ Qd H) ∨ ((Itl K a).go i H ∧ ∃ Nx : Hp → Prop, (∀ H', Nx H' → ∃ m', m' < m ∧ W (i + 1) m' H') ∧ ∀ x H', (Itl K a).yld i H x H' → g x (wipe σ vs) H' fun σ2 H2 => wipe σ2 vs = wipe σ vs ∧ tYes σ2 H2 fun b H3 =>
        if b = true then te σ2 H3 fun y H4 => ∃ acc, H4 D = some (.lst acc) ∧ acc.length < sizeLine ∧ Nx (upd H4 D (.lst (acc ++ [y]))) else Nx H3) := by
  refine lc_listI (xs := xs) hz (fun i acc H => acc = (xs.take i).map f ∧ Same H1 H) ⟨rfl, Same.upd hn⟩ (fun i acc H _ _ hJ => hJ.2.seq hS) (fun i x acc H hx hl hD hJ R hR => ?_) (fun acc H hl hD hJ => ?_)
  · refine hs i x H hx hJ.2 R fun H4 e => hR (f x) H4 (e _ _ hD) ⟨?_, fun b o h => ?_⟩
    · have hi := (List.getElem?_eq_some_iff.mp hx).1
      rw [List.take_add_one, hx, List.map_append, ← hJ.1]
      rfl
    · rw [upd_ne (ne_of_none h hn)]
      exact e _ _ (hJ.2 _ _ h)
  · exact hd H hJ.2 (by rw [hD, hJ.1, List.take_length])

/-- keywords where there are no defaults -/
theorem FunD.kbinds0 {K : PySem.W.Frag} {x qual : Str} {params : Arguments} {body : List Stmt} {scope : Scope} {kws : List (Str × V)} {f : Addr} {fd : FuncData} {ps : List Str} (F : FunD K x qual params body scope [] kws f fd) (n : Nat) (ks : List Str) (g : {α : Type} → List α → List α → List α)
    (hrel : ∀ {vs zs : List V} {us ws : List Value}, Vals vs us → Vals zs ws → Vals (g vs zs) (g us ws))
    (h : ∀ (kV doc pm : Value) (an : Option Addr) (cdv ct : Value) (us ws : List Value), us.length = n → ws.length = ks.length → bindArgs (PySem.W.fnOf x qual params body scope .none kV doc pm an cdv ct) ⟨us, ks.zip ws⟩ = pure (ps.zip (g us ws))) :
    KBn K fd ps n ks (fun us ws => g us ws) (fun vs zs => g vs zs) := by
  obtain ⟨oc, od, dV, kV, doc, pm, an, cdv, ct, osl, rfl, lk, hcd, hD, hK⟩ := F.ex
  rcases hD with ⟨_, rfl⟩ | ⟨e, _⟩
  · exact ⟨fun s us ws X l1 l2 => .of_eq (h kV doc pm an cdv ct us ws l1 l2), fun r1 r2 => hrel r1 r2⟩
  · exact absurd rfl e
end Sp
namespace Sp
open PySem PySem.Spec PyProof.Rows L2

/-! ### a def that can be called from below a running body -/
def CallK (X : Cx) (k : Nat) (f : Addr) (sp : L2.Sp) (E : XK) : Prop :=
  ∀ (A : Around) (pins : List (Addr × Obj)) (s : Shared) (σ : L2.St) (H : Hp) (us : List Value) (vs : List V) (Q : VK), Room k A → A.frames = X.A.frames → A.guards = X.A.guards → L2.Inv X pins σ H s → Vals vs us → sp vs H Q E →
    codeAny (model X.prog X.w) A (.call (.ref f) ⟨us, []⟩) (fun r s' => match r with
      | .ok (.ret v) => EP X pins σ Q v s'
      | .ok _ => False
      | .error e => X.xe e s') s
section
variable {X : Cx} {CX : CXT} {k : Nat} {f C : Addr} {fd : FuncData} {ps : List Str} {sp : L2.Sp} {dvs : List V} {ds : List Value} {E : XK} {x m : Str} {p pos apos : Pos} {e o : Expr} {es : List Expr} {ta tf : TE} {t : TA}
theorem env0_at {A : Around} {pins : List (Addr × Obj)} {σ : L2.St} {H : Hp} {s : Shared} (hf : A.frames = X.A.frames) (I : L2.Inv X pins σ H s) : Env0 X.prog X.w X.K X.mg X.base A X.stack s H := by
  have e := I.env0
  exact ⟨by rw [hf]; exact e.frames, e.mod, e.bs, e.bsz, e.funs, e.frf, e.hok, e.bare⟩
theorem ckOk (F : FnOk X.prog X.w X.K X.mg X.base CX k f fd ps sp) (hb : Binds X.K fd ps ds) (hd : Vals dvs ds) (hx : Passes CX X E) : CallK X k f (fun vs => sp (vs ++ dvs)) E := by
  intro A pins s σ H us vs Q hr hf hg I r h
  have r2 : Vals (vs ++ dvs) (us ++ ds) := r.append hd
  refine codeAny_mono (F.run A X.stack s H ⟨us, []⟩ (us ++ ds) (vs ++ dvs) Q E hr (env0_at hf I) (hb s us I.kIn (by rw [← r2.length]; exact F.len _ _ _ _ h)) r2 h) fun res s' hq => ?_
  match res, hq with
  | .error e, hq => exact hx pins σ H s e s' I hq
  | .ok (.ret u), hq => exact I.after hq
  | .ok .next, hq => exact hq.elim
  | .ok .brk, hq => exact hq.elim
  | .ok .cont, hq => exact hq.elim
theorem ckG (hgd : X.A.guards = some []) (F : FnG X.prog X.w X.K X.mg X.base CX k f fd ps sp) (hb : Binds X.K fd ps ds) (hd : Vals dvs ds) (hx : Passes CX X E) : CallK X k f (fun vs => sp (vs ++ dvs)) E := by
  intro A pins s σ H us vs Q hr hf hg I r h
  have r2 : Vals (vs ++ dvs) (us ++ ds) := r.append hd
  refine codeAny_mono (F.run A X.stack s H ⟨us, []⟩ (us ++ ds) (vs ++ dvs) Q E (hg.trans hgd) hr (env0_at hf I) (hb s us I.kIn (by rw [← r2.length]; exact F.len _ _ _ _ h)) r2 h) fun res s' hq => ?_
  match res, hq with
  | .error e, hq => exact hx pins σ H s e s' I hq
  | .ok (.ret u), hq => exact I.after hq
  | .ok .next, hq => exact hq.elim
  | .ok .brk, hq => exact hq.elim
  | .ok .cont, hq => exact hq.elim
theorem CallK.run {A : Around} {pins : List (Addr × Obj)} {σ : L2.St} {H : Hp} {s : Shared} {Q : VK} {us : List Value} {vs : List V} (c : CallK X k f sp E) (hr : Room k A) (hf : A.frames = X.A.frames) (hg : A.guards = X.A.guards) (I : L2.Inv X pins σ H s) (r : Vals vs us) (h : sp vs H Q E) :
    wpAny (model X.prog X.w) A (call (.ref f) us) (EP X pins σ Q) X.xe s := by
  refine wpAny_call (codeAny_mono (c A pins s σ H us vs Q hr hf hg I r h) fun res s' hq => ?_)
  match res, hq with
  | .error e, hq => exact hq
  | .ok (.ret u), hq => exact hq
  | .ok .next, hq => exact hq.elim
  | .ok .brk, hq => exact hq.elim
  | .ok .cont, hq => exact hq.elim

/-- o is an instance of C -/
def InsV (C : Addr) (H : Hp) (a : Addr) : Prop := ∃ dx fs, H a = some (.ins C dx fs)

/-! ### e.f, a property -/
def tPropV (C : Addr) (sp : L2.Sp) (E : XK) (ta : TE) : TE := fun σ H Q => ta σ H fun x H1 => onRef x fun a => InsV C H1 a ∧ sp [.ref a] H1 Q E
theorem e_prop {g pa : Addr} (he : PE X e ta) (c : Cls X.K C) (hp : PropOf X.K C m pa g) (F : CallK X.nox k g sp E) (hr : Room (k + 1) X.A)
    (hab : attributeBase e m X.env (eval e X.env) = eval e X.env := by rfl) : PE X (.Attribute e m pos) (tPropV C sp E ta) := by
  refine ⟨fun pins s σ H Q I h => ?_⟩
  refine attr_of hab (thn (he.run pins s σ H _ I h) fun u s1 ⟨x, H1, I1, rx, q⟩ => ?_)
  obtain ⟨a, rfl, ⟨dx, fs, ea⟩, q⟩ := onRef_ex q
  obtain rfl : u = Value.ref a := rx
  obtain ⟨mA, O, _, _, _, _⟩ := ins_get I1.hok ea
  obtain ⟨od, J, _⟩ := O.look
  obtain ⟨rest, hrec⟩ := hp.rec_
  have I2 := I1.tok (s1.toks + 1)
  have hc : (PySem.W.clsIn X.K C).isSome = true := by
    obtain ⟨cd, hc, _⟩ := PySem.W.any_some c.hd
    rw [hc]
    rfl
  refine PySem.W.get_bind I1.kIn J (PySem.W.plainGet_of (c.get m)).1 (PySem.W.findObj_data hc hp.at_ hp.get hp.tak) (PySem.W.plainGet_of (c.get m)).2 (wpAny_call (PySem.W.prop_get (s := { s1 with toks := s1.toks + 1 }) I1.kIn hrec ?_))
  refine codeAny_mono (F X.A.in1 pins { s1 with toks := s1.toks + 1 } σ H1 [.ref a] [.ref a] Q hr.in1 rfl rfl (I2.wish _) (.cons rfl .nil) q) fun r s' hq => ?_
  match r, hq with
  | .error e, hq => exact False.elim hq
  | .ok (.ret u), hq =>
    obtain ⟨v, H', I3, rv, q3⟩ := hq
    show wpAny _ _ (handedOut u) _ _ _
    rw [PySem.W.handedOut_of (handed_of rv)]
    exact wpAny_pure ⟨v, H', I3.unwish, rv, q3⟩
  | .ok .next, hq => exact hq.elim
  | .ok .brk, hq => exact hq.elim
  | .ok .cont, hq => exact hq.elim

/-! ### o(e, ..), o an instance -/
def tCallV (C : Addr) (sp : L2.Sp) (E : XK) (tf : TE) (t : TA) : TE := fun σ H Q => tf σ H fun y H1 => onRef y fun a => t σ H1 fun vs H2 => InsV C H2 a ∧ sp (.ref a :: vs) H2 Q E
theorem e_callI {g : Addr} {fe : Expr} (hf : PE X fe tf) (c : Meth X.K C "__call__" g) (hfi : PySem.W.fnIn X.K g = true) (F : CallK X k g sp E) (hr : Room k X.A) (ha : PA X (e :: es) t)
    (ht : eval (.Call fe (e :: es) [] pos) X.env = (do callWith pos (← eval fe X.env) [] (backTo pos (starEach (e :: es) X.env)) (backToKw pos (keywordEach [] X.env))) := by rfl)
    (he : starEach (e :: es) X.env = (false, eval e X.env) :: starEach es X.env := by rfl) (hpl : (backTo pos (starEach es X.env)).any (·.1) = false := by rfl) : PE X (.Call fe (e :: es) [] pos) (tCallV C sp E tf t) := by
  refine ⟨fun pins s σ H Q I h => ?_⟩
  refine Call_ (thn (hf.run pins s σ H _ I h) fun u s1 ⟨y, H1, I1, ry, q⟩ => ?_) ht
  obtain ⟨a, rfl, q⟩ := onRef_ex q
  obtain rfl : u = Value.ref a := ry
  refine StX.callO_with (thn (ha.run pos pins s1 σ H1 _ I1 q) fun us s2 ⟨vs, H2, I2, r, ⟨dx, fs, hi⟩, q2⟩ => ?_) he hpl
  obtain ⟨mA, O, _⟩ := ins_get I2.hok hi
  obtain ⟨od, J, _⟩ := O.look
  refine ⟨⟨C, _, _, J, rfl⟩, wpAny_call (PySem.W.kco_code I2.kIn J rfl c.at_ c.fn hfi (codeAny_mono (F X.A pins s2 σ H2 (.ref a :: us) (.ref a :: vs) Q hr rfl rfl I2 (.cons rfl r) q2) fun res s' hq => ?_))⟩
  match res, hq with
  | .error e, hq => exact hq
  | .ok (.ret u), hq => exact hq
  | .ok .next, hq => exact hq.elim
  | .ok .brk, hq => exact hq.elim
  | .ok .cont, hq => exact hq.elim
theorem fnIn_of {K : PySem.W.Frag} {x qual : Str} {params : Arguments} {body : List Stmt} {scope : Scope} {dvs : List V} {kws : List (Str × V)} {f : Addr} {fd : FuncData} (F : FunD K x qual params body scope dvs kws f fd) : PySem.W.fnIn K f = true := by
  obtain ⟨oc, od, dV, kV, doc, pm, an, cdv, ct, osl, rfl, lk, _⟩ := F.ex
  unfold PySem.W.fnIn
  rw [lk]

/-! ### == and != by an own __eq__ -/
def onBl (v : V) (k : Bool → Prop) : Prop := match v with
  | .bl b => k b
  | _ => False
theorem onBl_ex {v : V} {k : Bool → Prop} (h : onBl v k) : ∃ b, v = .bl b ∧ k b := by
  cases v with
  | bl b => exact ⟨b, rfl, h⟩
  | _ => exact h.elim
def fOwnEq (K : PySem.W.Frag) (C : Addr) (sp : L2.Sp) (E : XK) : R2 := fun x y H Q => onRef x fun a => InsV C H a ∧ (∃ t, TyX K H y t ∧ PySem.W.notFirst K C t = true) ∧ sp [x, y] H (fun v H' => onBl v fun b => Q (.bl b) H') E
def fOwnNe (K : PySem.W.Frag) (C : Addr) (sp : L2.Sp) (E : XK) : R2 := fun x y H Q => onRef x fun a => InsV C H a ∧ (∃ t, TyX K H y t ∧ PySem.W.notFirst K C t = true) ∧ sp [x, y] H (fun v H' => onBl v fun b => Q (.bl (!b)) H') E
theorem o_ownEq {g : Addr} (c : Meth X.K C "__eq__" g) (F : CallK X k g sp E) (hr : Room k X.A) : OpR X (compareOp .Eq) (fOwnEq X.K C sp E) := by
  intro pins s σ H x y v u Q I rx ry hq
  obtain ⟨a, rfl, ⟨dx, fs, ea⟩, ⟨t, ty, hn⟩, h⟩ := onRef_ex hq
  cases (show v = Value.ref a from rx)
  obtain ⟨mA, O, _⟩ := ins_get I.hok ea
  obtain ⟨od, J, _⟩ := O.look
  obtain ⟨m, hF⟩ := I.fr
  obtain ⟨P, kx, hP, _⟩ := kit_of I ry ty
  show wpAny (model X.prog X.w) X.A (richCompare .Eq (.ref a) u) (EP X pins σ Q) X.xe s
  refine PySem.W.cmp_K (op := .Eq) (tb := t) hr.units0 hF I.ok.mod.kin J (kx.ty _ _ I.kIn hP) hn c.at_ c.fn ?_
  refine wpAny_mono (F.run hr rfl rfl I (.cons (show RelV (.ref a) (Value.ref a) from rfl) (.cons ry .nil)) h) (fun r s' hs => ?_) fun _ _ x => x
  obtain ⟨z, H', I', rz, hz⟩ := hs
  obtain ⟨b, rfl, q⟩ := onBl_ex hz
  cases rz
  exact ⟨.bl b, H', I', rfl, q⟩

/-- what isinstance, != ask of a class -/
structure InsF (K : PySem.W.Frag) (C : Addr) : Prop where
  ca : PySem.W.findIn K (.ref C) "__class__" = some (some (.builtin "object.__class__"))
  cg : PySem.W.specialIn K (.builtin "object.__class__") "__get__" = some (some (.builtin "getset_descriptor.__get__"))
  ct : PySem.W.takesIn K (.builtin "object.__class__") = some true
  ob : PySem.W.mroIn K C (.type "object") = some true
theorem bind_ne (self : Value) : bindSpecial (.builtin "object.__ne__") self = pure (.builtin "object.__ne__", [self]) :=
  (Slot.of (T := "object") (name := "__ne__") (owner := "object") (n := "__ne__") (by rw [typeLookup_type, builtinLookup_eq_fast]; kernel_rfl) (by decide +kernel) (by decide +kernel) (by decide +kernel)
    (.inl (by decide +kernel)) (by rw [isSubtype_type]; kernel_rfl)).bind self
theorem plain_ne : plainId "object.__ne__" = true := by decide +kernel
theorem ifBound_ne {M : Model} {A : Around} {E : Value → Shared → Prop} {s : Shared} {K : PySem.W.Frag} {x C : Addr} {ox : Obj} {od : Option Obj} {args : List Value} {Q : Option Value → Shared → Prop} (X : K.In s.heap) (I : PySem.W.InstAt s.heap x ox C od)
    (hs : PySem.W.findIn K (.ref C) "__ne__" = some (some (.builtin "object.__ne__")))
    (h : wpAny M A (call (.builtin "object.__ne__") (.ref x :: args)) (fun v => Q (some v)) E s) : wpAny M A (callSpecialIfBound? (.ref x) "__ne__" args) Q E s := by
  simp only [callSpecialIfBound?, bindSpecialIfBound?]
  refine wpAny_holding (wpAny_bind (wpAny_bind (wpAny_bind (I.type.here ((PySem.W.looks_findIn X hs).here ?_)))))
  simp only [bind_ne]
  refine wpAny_bind (wpAny_askSetting (wpAny_ite ?_))
  have fin : wpAny M A (call (.builtin "object.__ne__") ([.ref x] ++ args) >>= fun v => pure (some v)) Q E s := wpAny_bind (wpAny_mono h (fun v s' h' => wpAny_pure h') fun _ _ h' => h')
  split
  · exact wpAny_bind (wpAny_pure (wpAny_pure fin))
  · exact wpAny_tryCatch (wpAny_bind (wpAny_pure (wpAny_pure fin)))
theorem objNe_K {prog : Program} {w : World} {A : Around} {E : Value → Shared → Prop} {s : Shared} {K : PySem.W.Frag} {x C g : Addr} {b : Value} {ox : Obj} {od : Option Obj} {Q : Fin → Shared → Prop} (X : K.In s.heap) (I : PySem.W.InstAt s.heap x ox C od) (hu : A.units < cLine)
    (hs : PySem.W.findIn K (.ref C) "__eq__" = some (some (.ref g))) (hf : PySem.W.isFn K (.ref g) = true)
    (hcall : wpAny (model prog w) A (call (.ref g) [.ref x, b]) (fun v s' => ∃ b, v = .bool b ∧ Q (.done (.ret (.bool (!b)))) s') E s) :
    wpAny (model prog w) A (Builtin.«object.__ne__» ⟨[.ref x, b], []⟩) Q E s := by
  obtain ⟨h, gs, d, t, os⟩ := s
  unfold Builtin.«object.__ne__»
  repeat (first
    | with_reducible refine wpAny_cRoomFor hu ?_
    | (refine wpAny_bind (m := callSpecialIfBound? (.ref x) (Str.ofString "__eq__") [b])
        (PySem.W.ifBound_K X I hs hf (wpAny_mono hcall (fun r s' hr => by
          obtain ⟨b, rfl, hq⟩ := hr
          repeat (first | exact hq | exact wpAny_pure hq | exact wpAny_truthy_bool hq | (refine wpAny_bind (m := truthy (.bool _)) (wpAny_truthy_bool ?_)) | wp_step)) fun _ _ e => e)))
    | wp_step)
theorem o_ownNe {g : Addr} (c : Meth X.K C "__eq__" g) (hne : PySem.W.findIn X.K (.ref C) "__ne__" = some (some (.builtin "object.__ne__"))) (hI : InsF X.K C) (F : CallK X k g sp E) (hr : Room (k + 1) X.A) : OpR X (compareOp .NotEq) (fOwnNe X.K C sp E) := by
  intro pins s σ H x y v u Q I rx ry hq
  obtain ⟨a, rfl, ⟨dx, fs, ea⟩, ⟨t, ty, hn⟩, h⟩ := onRef_ex hq
  cases (show v = Value.ref a from rx)
  obtain ⟨mA, O, _⟩ := ins_get I.hok ea
  obtain ⟨od, J, _⟩ := O.look
  obtain ⟨m, hF⟩ := I.fr
  obtain ⟨P, kx, hP, _⟩ := kit_of I ry ty
  have key : wpAny (model X.prog X.w) X.A.in1 (call (.ref g) [.ref a, u]) (fun v s' => ∃ b, v = .bool b ∧ EP X pins σ Q (.bool (!b)) s') X.xe s := by
    refine wpAny_mono (F.run hr.in1 rfl rfl I (.cons (show RelV (.ref a) (Value.ref a) from rfl) (.cons ry .nil)) h) (fun r s' hs => ?_) fun _ _ x => x
    obtain ⟨z, H', I', rz, hz⟩ := hs
    obtain ⟨b, rfl, q⟩ := onBl_ex hz
    cases rz
    exact ⟨b, rfl, .bl (!b), H', I', rfl, q⟩
  have hi : PySem.W.Looks (model X.prog X.w) s.heap (isInstance (.ref a) (.type "object")) true := by
    unfold isInstance
    exact J.type.andThen (PySem.W.looks_subIn (t := .ref C) I.kIn hI.ob)
  have one : wpAny (model X.prog X.w) X.A (tryCompare (.ref a) (cmpInfo .NotEq).2.1 u) (fun r s' => ∃ v, r = some v ∧ EP X pins σ Q v s') X.xe s := by
    rw [cmpInfo_NotEq]
    dsimp only
    unfold tryCompare
    refine wpAny_bind (ifBound_ne I.kIn J hne (wpAny_call (codeAny_call_builtin plain_ne PySem.F.cmpEntry_ne (PySem.W.check_slot PySem.F.cmpKind_ne PySem.F.cmpSplit_ne hi (PySem.F.cmpArgs_ne _ _) ?_))))
    refine objNe_K (A := X.A.in1) I.kIn J hr.in1.units0 c.at_ c.fn (wpAny_mono key (fun v s' hv => ?_) fun _ _ e => e)
    obtain ⟨b, rfl, hq⟩ := hv
    exact ⟨b, rfl, wpAny_pure ⟨_, rfl, hq⟩⟩
  show wpAny (model X.prog X.w) X.A (richCompare .NotEq (.ref a) u) (EP X pins σ Q) X.xe s
  unfold richCompare
  simp only [oneThing_ref]
  refine wpAny_holding (wpAny_bind (wpAny_cRoomFor hr.units0 ?_))
  refine wpAny_bind (J.type.here (wpAny_bind ((kx.ty _ _ I.kIn hP).here ?_)))
  split
  · rename_i q
    have e : PySem.W.subIn X.K t (.ref C) = some false := by
      rcases Bool.or_eq_true_iff.mp hn with e | e
      · rw [beq_iff_eq.mp e] at q; simp at q
      · exact beq_iff_eq.mp e
    refine wpAny_bind ((PySem.W.looks_subIn I.kIn e).here ?_)
    simp only [Bool.false_eq_true, if_false]
    refine wpAny_bind (wpAny_mono one (fun r s' z => ?_) fun _ _ e => e)
    obtain ⟨v, rfl, hq⟩ := z
    exact wpAny_pure hq
  · refine wpAny_bind (wpAny_pure ?_)
    simp only [Bool.false_eq_true, if_false]
    refine wpAny_bind (wpAny_mono one (fun r s' z => ?_) fun _ _ e => e)
    obtain ⟨v, rfl, hq⟩ := z
    exact wpAny_pure hq

/-! ### repr, str, bool of an instance -/
def fReprI (C : Addr) (sp : L2.Sp) (E : XK) : List V → Hp → VK → Prop := fun xs H Q => on1 xs fun x => onRef x fun a => InsV C H a ∧ sp [x] H (fun v H' => onStr v fun y => Q (.str y) H') E
theorem c_reprI {g : Addr} (c : Meth X.K C "__repr__" g) (F : CallK X k g sp E) (hr : Room (k + 1) X.A) : CallR X (.builtin "repr") (fReprI C sp E) := by
  intro pins s σ H xs us Q I r h
  obtain ⟨x, rfl, h⟩ := on1_ex h
  obtain ⟨a, rfl, ⟨dx, fs, ea⟩, h⟩ := onRef_ex h
  obtain ⟨u, rfl, rx⟩ := vals1 r
  cases (show u = Value.ref a from rx)
  obtain ⟨mA, O, _⟩ := ins_get I.hok ea
  obtain ⟨od, J, _⟩ := O.look
  obtain ⟨m, hF⟩ := I.fr
  refine PySem.W.repr_K hr.in1.units0 hF I.ok.mod.kin J c.at_ c.fn ?_
  refine wpAny_mono (F.run hr.in1 rfl rfl I (.cons (show RelV (.ref a) (Value.ref a) from rfl) .nil) h) (fun r s' hs => ?_) fun _ _ x => x
  obtain ⟨z, H', I', rz, hz⟩ := hs
  obtain ⟨y, rfl, q⟩ := onStr_ex hz
  obtain ⟨tk, rfl⟩ := rz
  exact ⟨.str y, H', I', ⟨tk, rfl⟩, q⟩
/-- str(o) by an own __str__ -/
theorem c_strO {g : Addr} (c : Meth X.K C "__str__" g) (F : CallK X k g sp E) (hr : Room (k + 2) X.A) : CallR X (.type "str") (fReprI C sp E) := by
  intro pins s σ H xs us Q I r h
  obtain ⟨x, rfl, h⟩ := on1_ex h
  obtain ⟨a, rfl, ⟨dx, fs, ea⟩, h⟩ := onRef_ex h
  obtain ⟨u, rfl, rx⟩ := vals1 r
  cases (show u = Value.ref a from rx)
  obtain ⟨mA, O, _⟩ := ins_get I.hok ea
  obtain ⟨od, J, _⟩ := O.look
  refine PySem.W.kso_call hr.in1.in1.units0 I.kIn J c.at_ c.fn ?_
  refine wpAny_mono (F.run hr.in1.in1 rfl rfl I (.cons (show RelV (.ref a) (Value.ref a) from rfl) .nil) h) (fun r s' hs => ?_) fun _ _ x => x
  obtain ⟨z, H', I', rz, hz⟩ := hs
  obtain ⟨y, rfl, q⟩ := onStr_ex hz
  obtain ⟨tk, rfl⟩ := rz
  exact ⟨.str y, H', I', ⟨tk, rfl⟩, q⟩
theorem truthy_I {M : Model} {A : Around} {E : Value → Shared → Prop} {s : Shared} {K : PySem.W.Frag} {x C : Addr} {ox : Obj} {od : Option Obj} {Q : Bool → Shared → Prop} (X : K.In s.heap) (I : PySem.W.InstAt s.heap x ox C od) (hs : NoAttr K C "__bool__") (hl : NoAttr K C "__len__")
    (h : Q true s) : wpAny M A (truthy (.ref x)) Q E s := by
  unfold truthy
  refine wpAny_bind (m := callSpecial? (.ref x) (Str.ofString "__bool__")) (wpAny_bind (wpAny_bind (I.type.here ((PySem.W.looks_findIn X hs).here (wpAny_pure ?_)))))
  refine wpAny_bind (wpAny_bind (I.type.here ((PySem.W.looks_findIn X hl).here ?_)))
  exact wpAny_pure h
theorem meets_bool_I (K : PySem.W.Frag) (x C : Addr) (hb : NoAttr K C "__bool__") (hl : NoAttr K C "__len__") :
    Meets (Builtin.«bool.__new__» ⟨[.type "bool", .ref x], []⟩) (fun _ R s => (K.In s.heap ∧ ∃ ox od, PySem.W.InstAt s.heap x ox C od) ∧ R (.ok (.ret (.bool true))) s) :=
  Meets.of_wp fun prog w A R s hs => by
    obtain ⟨⟨hK, ox, od, J⟩, hs⟩ := hs
    obtain ⟨hp, g, d, tk, os⟩ := s
    have f1 := PySem.F.conv_sub_bool
    repeat (any_goals (first | assumption | (with_reducible refine truthy_I hK J hb hl ?_) | wp_step))
    all_goals first | exact ⟨_, rfl, hs⟩ | exact hs | skip
def fBoolI (C : Addr) : List V → Hp → VK → Prop := fun xs H Q => on1 xs fun x => onRef x fun a => InsV C H a ∧ Q (.bl true) H
theorem c_boolI (hb : NoAttr X.K C "__bool__") (hl : NoAttr X.K C "__len__") : CallR X (.type "bool") (fBoolI C) := by
  intro pins s σ H xs us Q I r h
  obtain ⟨x, rfl, h⟩ := on1_ex h
  obtain ⟨a, rfl, ⟨dx, fs, ea⟩, h⟩ := onRef_ex h
  obtain ⟨u, rfl, rx⟩ := vals1 r
  cases (show u = Value.ref a from rx)
  obtain ⟨mA, O, _⟩ := ins_get I.hok ea
  obtain ⟨od, J, _⟩ := O.look
  exact call_bool_1 (meets_bool_I X.K a C hb hl) ⟨⟨I.kIn, _, _, J⟩, rfl, .bl true, H, I, rfl, h⟩

/-! ### f-strings -/
/-- {x!r} of data -/
def tFmtD (K : PySem.W.Frag) (te : TE) : TE := fun σ H Q => te σ H fun x H1 => fRepr K [x] H1 Q
theorem e_fmtD {pos : Pos} (hg : X.A.guards = some []) (hu : X.A.units + 64 < cLine) (he : PE X e ta) : PE X (.FormattedValue e 114 none pos) (tFmtD X.K ta) := by
  refine ⟨fun pins s σ H Q I h => ?_⟩
  refine wpAny_FormattedValue_repr (thn (he.run pins s σ H _ I h) fun u s1 hv => ?_)
  obtain ⟨x, H1, I1, rx, _, ⟨d, hd, h1, h2, h3, h4, rfl⟩, q⟩ := hv
  obtain ⟨as, rd⟩ := Dp.reads I1 d x u hd rx
  obtain ⟨a, rfl⟩ := isRef_of_reads rd h1
  exact pyReprObj_of_reads rd h2 (PyData.noDict_hsm (dp_noDict _ _ hd)) hg (by omega) (fun _ _ e => e) (fun h' u tk hk => wpAny_formatField_str ⟨.str d.shown, H1, I1.kept hk, ⟨_, rfl⟩, q⟩ ⟨.str d.shown, H1, (I1.kept (t' := tk) hk).tok _, ⟨_, rfl⟩, q⟩ h4) h4
/-- {x} of an int, a text -/
def tFmtV (te : TE) : TE := fun σ H Q => te σ H fun x H1 => match x with
  | .int i => i.natAbs.log2 < 1920 ∧ Q (.str (toString i)) H1
  | .str y => y.length ≤ sizeLine ∧ Q (.str y) H1
  | _ => False
theorem e_fmtV {pos : Pos} (he : PE X e ta) : PE X (.FormattedValue e (-1) none pos) (tFmtV ta) := by
  refine ⟨fun pins s σ H Q I h => ?_⟩
  refine wpAny_FormattedValue_plain (thn (he.run pins s σ H _ I h) fun v s1 hv => ?_)
  obtain ⟨x, H1, I1, r1, q⟩ := hv
  cases x with
  | str y =>
    obtain ⟨t, rfl⟩ := r1
    obtain ⟨hz, q⟩ := q
    exact wpAny_formatField_str ⟨.str y, H1, I1, ⟨t, rfl⟩, q⟩ ⟨.str y, H1, I1.tok _, ⟨_, rfl⟩, q⟩ hz
  | int i =>
    obtain ⟨t, rfl⟩ := r1
    obtain ⟨hz, q⟩ := q
    exact wpAny_formatField_int hz ⟨.str (toString i), H1, I1.tok _, ⟨_, rfl⟩, q⟩
  | _ => exact q.elim
def tJsV : List TE → Str → L2.St → Hp → (Str → Hp → Prop) → Prop
  | [], acc, _, H, Q => Q acc H
  | t :: ts, acc, σ, H, Q => t σ H fun x H1 => onStr x fun y => (acc ++ y).length ≤ sizeLine ∧ tJsV ts (acc ++ y) σ H1 Q
theorem pjV_run {pins : List (Addr × Obj)} {σ : L2.St} {es : List Expr} {ts : List TE} (h : PJ X es ts) : ∀ (acc : Str) (s : Shared) (H : Hp) (Q : Str → Hp → Prop) (R : Str → Shared → Prop), acc.length ≤ sizeLine → L2.Inv X pins σ H s → tJsV ts acc σ H Q →
    (∀ out s1 H1, out.length ≤ sizeLine → L2.Inv X pins σ H1 s1 → Q out H1 → R out s1) → Joins (model X.prog X.w) X.A X.xe (evalEach es X.env) acc R s := by
  induction h with
  | nil =>
    intro acc s H Q R hz I q k
    have e0 : evalEach [] X.env = [] := by first | rfl | simp [evalEach]
    rw [e0]
    exact k acc s H hz I q
  | @cons e t es ts he r ih =>
    intro acc s H Q R hz I q k
    have e0 : evalEach (e :: es) X.env = eval e X.env :: evalEach es X.env := by first | rfl | simp [evalEach]
    rw [e0]
    refine thn (he.run pins s σ H _ I q) fun v s1 hv => ?_
    obtain ⟨x, H1, I1, r1, h1⟩ := hv
    obtain ⟨y, rfl, hy, q1⟩ := onStr_ex h1
    obtain ⟨tk, rfl⟩ := r1
    exact ⟨y, tk, rfl, hy, ih (acc ++ y) s1 H1 Q R hy I1 q1 k⟩
def tJn (ts : List TE) : TE := fun σ H Q => tJsV ts Str.empty σ H fun out H1 => Q (.str out) H1
/-- f'..' of two parts or more -/
theorem e_joined {v1 v2 : Expr} {rest : List Expr} {ts : List TE} {pos : Pos} (h : PJ X (v1 :: v2 :: rest) ts) : PE X (.JoinedStr (v1 :: v2 :: rest) pos) (tJn ts) := by
  refine ⟨fun pins s σ H Q I q => ?_⟩
  exact wpAny_JoinedStr (pjV_run h Str.empty s H (fun out H1 => Q (.str out) H1) _ (Nat.zero_le _) I q fun out s1 H1 hz I1 q1 => ⟨hz, .str out, H1, I1.tok _, ⟨_, rfl⟩, q1⟩)
end

/-! ### a Hook with defs at any place, and any facts -/
def fnAt (K : PySem.W.Frag) (f : Addr) : He.FnW := match K.lookup f with
  | some ⟨_, _, .func fd, _⟩ => some (fd.name, fd.qualname, fd.params, fd.body, fd.scope, fd.globals, fd.closure, fd.builtins)
  | _ => none
structure DefA where
  at_ : PySem.W.Frag → Addr
  name : Str
  qual : Str
  params : Arguments
  body : List Stmt
  scope : Scope
  dfl : List He.Dv := []
  kwd : List (Str × He.Dv) := []
def DefA.val (d : DefA) : He.FnW := some (d.name, d.qual, d.params, .stmts d.body, d.scope, mainGlobals, [], builtinsNs)
def DefA.dvs (K : PySem.W.Frag) (d : DefA) : List V := d.dfl.map (He.Dv.v K)
def DefA.kws (K : PySem.W.Frag) (d : DefA) : List (Str × V) := d.kwd.map fun q => (q.1, q.2.v K)
def DefA.ok (K : PySem.W.Frag) (d : DefA) : Bool := PySem.W.keepIn K (.ref (d.at_ K)) && (match K.lookup (d.at_ K) with
  | some ⟨_, _, .func fd, _⟩ => PySem.W.codeIn K fd.code d.qual && (He.dflB K fd.defaults (d.dvs K) && He.kwdB K fd.kwdefaults (d.kws K))
  | _ => false)
theorem DefA.funD {K : PySem.W.Frag} {d : DefA} (e : fnAt K (d.at_ K) = d.val) (c : d.ok K = true) : ∃ fd, FunD K d.name d.qual d.params d.body d.scope (d.dvs K) (d.kws K) (d.at_ K) fd := by
  obtain ⟨kp, c2⟩ := He.ba c
  unfold fnAt at e
  cases q : K.lookup (d.at_ K) with
  | none =>
    rw [q] at c2
    cases c2
  | some o =>
    obtain ⟨oc, od, dt, osl⟩ := o
    rw [q] at c2 e
    cases dt with
    | func fd =>
      obtain ⟨n1, n2, n3, n4, n5, n6, n7, n8, n9, n10, n11, n12, n13, n14, n15⟩ := fd
      have e2 : (some (n1, n2, n3, n4, n5, n6, n7, n15) : He.FnW) = some (d.name, d.qual, d.params, .stmts d.body, d.scope, mainGlobals, [], builtinsNs) := e
      simp only [Option.some.injEq, Prod.mk.injEq] at e2
      obtain ⟨h1, h2, h3, h4, h5, h6, h7, h8⟩ := e2
      subst h1 h2 h3 h4 h5 h6 h7 h8
      have c3 : (PySem.W.codeIn K n13 d.qual && (He.dflB K n8 (d.dvs K) && He.kwdB K n9 (d.kws K))) = true := c2
      obtain ⟨k1, k2⟩ := He.ba c3
      obtain ⟨k3, k4⟩ := He.ba k2
      exact ⟨_, ⟨oc, od, n8, n9, n10, n11, n12, n13, n14, osl, rfl, q, k1, He.dflB_ok k3, He.kwdB_ok k4⟩, kp⟩
    | _ => cases c2
abbrev AlA : Type := He.AlX × List He.FnW
def allB (da : List DefA) (exs : List (PySem.W.Frag → Bool)) (K : PySem.W.Frag) : Bool := (da.all fun d => d.ok K) && exs.all fun f => f K
def obsA (n : Nat) (fa : List He.Fa) (fn : List He.DefD) (da : List DefA) (exs : List (PySem.W.Frag → Bool)) (g : Addr → Option Obj) : AlA :=
  (He.obsX n fa fn [] [] (allB da exs) g, da.map fun d => fnAt (He.frT g (He.asD g n)) (d.at_ (He.frT g (He.asD g n))))
def valA (fn : List He.DefD) (da : List DefA) (w : World) : AlA := (He.valX fn [] w, da.map DefA.val)
structure SaysA (fa : List He.Fa) (fn : List He.DefD) (da : List DefA) (exs : List (PySem.W.Frag → Bool)) (K : PySem.W.Frag) : Prop where
  d : He.SaysD fa fn K
  ok : allB da exs K = true
  fn : (da.map fun d => fnAt K (d.at_ K)) = da.map DefA.val
theorem SaysA.def_ {fa : List He.Fa} {fn : List He.DefD} {da : List DefA} {exs : List (PySem.W.Frag → Bool)} {K : PySem.W.Frag} (c : SaysA fa fn da exs K) (i : Nat) {d : DefA} (h : da[i]? = some d := by rfl) : ∃ fd, FunD K d.name d.qual d.params d.body d.scope (d.dvs K) (d.kws K) (d.at_ K) fd := by
  have c2 := (He.ba c.ok).1
  have e2 : (da.map fun d => fnAt K (d.at_ K))[i]? = (da.map DefA.val)[i]? := by rw [c.fn]
  rw [List.getElem?_map, List.getElem?_map, h] at e2
  exact DefA.funD (Option.some.inj e2) (List.all_eq_true.mp c2 d (List.mem_of_getElem? h))
theorem SaysA.ex {fa : List He.Fa} {fn : List He.DefD} {da : List DefA} {exs : List (PySem.W.Frag → Bool)} {K : PySem.W.Frag} (c : SaysA fa fn da exs K) (i : Nat) {f : PySem.W.Frag → Bool} (h : exs[i]? = some f := by rfl) : f K = true :=
  List.all_eq_true.mp (He.ba c.ok).2 f (List.mem_of_getElem? h)
def hookA (n : Nat) (fa : List He.Fa) (fn : List He.DefD) (da : List DefA) (exs : List (PySem.W.Frag → Bool)) : PySem.W.Hook where
  α := AlA
  obs := fun s => obsA n fa fn da exs s.heap.get?
  val := fun w => valA fn da w
  says := fun w h => ∃ K : PySem.W.Frag, K.In h ∧ SaysA fa fn da exs K
  of := fun _ _ e => by
    have e1 := congrArg Prod.fst e
    have e2 := congrArg Prod.snd e
    have q := He.saysX_of e1
    exact ⟨_, He.frT_in, q.t.d, q.more, e2⟩
  keeps := fun _ _ _ ⟨K, hK, c⟩ k => ⟨K, PySem.W.Frag.In.keeps hK k, c⟩
theorem obsA_eq {n : Nat} {fa : List He.Fa} {fn : List He.DefD} {da : List DefA} {exs : List (PySem.W.Frag → Bool)} {g : Addr → Option Obj} {s : Shared} (h : ∀ a, g a = s.heap.get? a) : obsA n fa fn da exs g = (hookA n fa fn da exs).obs s := by
  have e : g = s.heap.get? := funext h
  rw [e] <;> rfl
/-! facts for it -/
def pA (C m : Str) (K : PySem.W.Frag) : Addr := He.ma K (He.ga K C) m
def recA (T : String) (C m : Str) (K : PySem.W.Frag) : Addr := match PySem.W.recIn K (pA C m K) T with
  | some (.ref g :: _) => g
  | _ => 0
def propB (C m : Str) (K : PySem.W.Frag) : Bool := He.eqO (PySem.W.findIn K (.ref (He.ga K C)) m) (some (some (.ref (pA C m K)))) && (He.eqO (PySem.W.specialIn K (.ref (pA C m K)) "__get__") (some (some (.builtin "property.__get__"))) &&
  (decide (PySem.W.takesIn K (.ref (pA C m K)) = some true) && (match PySem.W.recIn K (pA C m K) "property" with
    | some (.ref _ :: _) => true
    | _ => false)))
theorem propB_ok {C m : Str} {K : PySem.W.Frag} (h : propB C m K = true) : PropOf K (He.ga K C) m (pA C m K) (recA "property" C m K) := by
  obtain ⟨h1, h⟩ := He.ba h
  obtain ⟨h2, h⟩ := He.ba h
  obtain ⟨h3, h⟩ := He.ba h
  refine ⟨He.eqO_ok h1, He.eqO_ok h2, of_decide_eq_true h3, ?_⟩
  unfold recA
  cases e : PySem.W.recIn K (pA C m K) "property" with
  | none => rw [e] at h; cases h
  | some r =>
    rw [e] at h
    cases r with
    | nil => cases h
    | cons u rest =>
      cases u with
      | ref g => exact ⟨rest, rfl⟩
      | _ => cases h
def insB (C : Str) (K : PySem.W.Frag) : Bool := He.eqO (PySem.W.findIn K (.ref (He.ga K C)) "__class__") (some (some (.builtin "object.__class__"))) && (He.eqO (PySem.W.specialIn K (.builtin "object.__class__") "__get__") (some (some (.builtin "getset_descriptor.__get__"))) &&
  (decide (PySem.W.takesIn K (.builtin "object.__class__") = some true) && decide (PySem.W.mroIn K (He.ga K C) (.type "object") = some true)))
theorem insB_ok {C : Str} {K : PySem.W.Frag} (h : insB C K = true) : InsF K (He.ga K C) := by
  obtain ⟨h1, h⟩ := He.ba h
  obtain ⟨h2, h⟩ := He.ba h
  obtain ⟨h3, h4⟩ := He.ba h
  exact ⟨He.eqO_ok h1, He.eqO_ok h2, of_decide_eq_true h3, of_decide_eq_true h4⟩
def blB (C m : Str) (id : String) (K : PySem.W.Frag) : Bool := He.eqO (PySem.W.findIn K (.ref (He.ga K C)) m) (some (some (.builtin id)))
theorem blB_ok {C m : Str} {id : String} {K : PySem.W.Frag} (h : blB C m id K = true) : PySem.W.findIn K (.ref (He.ga K C)) m = some (some (.builtin id)) := He.eqO_ok h
def sfB (C : Str) (K : PySem.W.Frag) : Bool := PySem.W.selfFirst K (He.ga K C)
/-- the class of an instance by its name is another one than that -/
def unB (C D : Str) (K : PySem.W.Frag) : Bool := decide (PySem.W.subIn K (.ref (He.ga K C)) (.ref (He.ga K D)) = some false)
theorem InsF.ty {K : PySem.W.Frag} {C a dx : Addr} {fs : List (Str × V)} {H : Hp} (I : InsF K C) (c : Cls K C) (e : H a = some (.ins C dx fs)) : TyX K H (.ref a) (.ref C) := .base (.ins e c I.ca I.cg I.ct I.ob)
theorem nf_self {K : PySem.W.Frag} {C : Addr} : PySem.W.notFirst K C (.ref C) = true := by simp [PySem.W.notFirst]

/-! ### calls without defaults; isinstance of an own class -/
section
variable {X : Cx} {CX : CXT} {k : Nat} {f C : Addr} {fd : FuncData} {ps : List Str} {sp : L2.Sp} {E : XK}
theorem ck0 (F : FnOk X.prog X.w X.K X.mg X.base CX k f fd ps sp) (hb : Binds X.K fd ps []) (hx : Passes CX X E) : CallK X k f sp E := by
  have h := ckOk F hb .nil hx
  simp only [List.append_nil] at h
  exact h
theorem ckG0 (hgd : X.A.guards = some []) (F : FnG X.prog X.w X.K X.mg X.base CX k f fd ps sp) (hb : Binds X.K fd ps []) (hx : Passes CX X E) : CallK X k f sp E := by
  have h := ckG hgd F hb .nil hx
  simp only [List.append_nil] at h
  exact h
end
/-- is it of this own class -/
def ownB (C : Str) (K : PySem.W.Frag) : Bool := (["NoneType", "bool", "int", "str", "list", "tuple", "dict", "float", "set", "bytes"] : List String).all fun T => decide (PySem.W.kitOne K (.type T) (.ref (He.ga K C)) = some false) && PySem.W.notFirst K (He.ga K C) (.type T)
/-- a value of a built-in type -/
structure OwnF (K : PySem.W.Frag) (C : Addr) : Prop where
  isi : ∀ T ∈ (["NoneType", "bool", "int", "str", "list", "tuple", "dict", "float", "set", "bytes"] : List String), PySem.W.kitOne K (.type T) (.ref C) = some false
  nf : ∀ T ∈ (["NoneType", "bool", "int", "str", "list", "tuple", "dict", "float", "set", "bytes"] : List String), PySem.W.notFirst K C (.type T) = true
theorem ownB_ok {C : Str} {K : PySem.W.Frag} (h : ownB C K = true) : OwnF K (He.ga K C) :=
  ⟨fun T hT => of_decide_eq_true (He.ba (List.all_eq_true.mp h T hT)).1, fun T hT => (He.ba (List.all_eq_true.mp h T hT)).2⟩
theorem kit_self {K : PySem.W.Frag} {C : Addr} : PySem.W.kitOne K (.ref C) (.ref C) = some true := by simp [PySem.W.kitOne]
/-- two own classes -/
def isoB (C D : Str) (b : Bool) (K : PySem.W.Frag) : Bool := decide (PySem.W.kitOne K (.ref (He.ga K C)) (.ref (He.ga K D)) = some b)

/-! ### the end, where the law's def may show things -/
theorem lawG {P : Program} {w : World} {K : PySem.W.Frag} {mg mb : Str → Option Value} {CX : CXT} {k : Nat} {fa a : Addr} {fd : FuncData} {x : Str} {sp : L2.Sp} {s : Shared} {vs : List Value} {ns : List Int}
    (KX : K.In s.heap) (hns : s.heap.Ns mainGlobals mg) (hb : s.heap.Ns builtinsNs mb) (hbb : ∀ x : Str, x ≠ "__name__" → mb x = bootBuiltins x) (hlim : s.heap.NoLimit) (hg : s.gens = #[])
    (ha : s.heap.get? a = some { cls := .type "list", data := .seq vs.toArray }) (hi : IntsAre vs ns) (hl : ns.length ≤ sizeLine) (hr : Room k callerA)
    (F : ∀ base : Heap, FnG P w K mg base CX k fa fd [x] sp) (hbind : ∀ (s : Shared) (u : Value), BindsTo s fd ⟨[u], []⟩ [(x, u)])
    (hsp : ∀ H : Hp, SqL K H a (ns.map V.int) → sp [.ref a] H (fun v _ => v = .bl true) fun _ _ _ => False)
    (hCX : ∀ H e s', CX [] H s (fun _ _ _ => False) e s' → False) :
    codeAny (model P w) callerA (.call (.ref fa) ⟨[.ref a], []⟩) (fun r s' => r = .ok (.ret (.bool true)) ∧ OldK s.heap s'.heap ∧ s'.os = s.os ∧ AllBare s'.gens) s := by
  have rv := vals_ints hi
  have lenV := hi.length
  -- what is tracked is the script or nothing
  have go : ∀ H : Hp, SqL K H a (ns.map V.int) → HOk P w H s.heap → (∀ b u, H b = some u → b = a ∧ K.lookup a = none ∧ ∃ o xs, u = .frz o (.lst xs)) →
      codeAny (model P w) callerA (.call (.ref fa) ⟨[.ref a], []⟩) (fun r s' => r = .ok (.ret (.bool true)) ∧ OldK s.heap s'.heap ∧ s'.os = s.os ∧ AllBare s'.gens) s := by
    intro H hS hok hA
    have none_of : ∀ {b : Addr}, b ≠ a → H b = none := fun {b} hne => by
      cases q : H b with
      | none => rfl
      | some u => exact absurd (hA b u q).1 hne
    have ns_of : ∀ {b : Addr} {m : Str → Option Value}, s.heap.Ns b m → (hidT s.heap H).Ns b m := fun {b m} ⟨o, es, ep, e, d, r⟩ => by
      refine ⟨o, es, ep, hidT_get e (none_of fun z => ?_), d, r⟩
      rw [z, ha] at e
      cases e
      cases d
    have hK : K.In (hidT s.heap H) := fun b o e => by
      refine hidT_get (KX b o e) ?_
      cases q : H b with
      | none => rfl
      | some u =>
        obtain ⟨z, l, _⟩ := hA b u q
        rw [z, l] at e
        cases e
    obtain ⟨mc, l1, l2⟩ := hlim
    have e0 : Env0 P w K mg (hidT s.heap H) callerA [] s H := ⟨rfl, ⟨hK, ns_of hns, ⟨mb, ns_of hb, hbb⟩, ⟨mc, ns_of l1, l2⟩⟩, fun b o e => of_hidT e, Nat.le_of_eq (hidT_size _ _), trivial, fun b hb => absurd (show b ∈ ([] : List Addr) from hb) (by simp), hok, .of_eq hg⟩
    refine codeAny_mono ((F _).run callerA [] s H ⟨[.ref a], []⟩ [.ref a] [.ref a] _ _ rfl hr e0 (hbind s (.ref a)) (.cons rfl .nil) (hsp H hS)) fun r s' h => ?_
    match r, h with
    | .error e, h => exact (hCX H e s' h).elim
    | .ok .next, h => exact False.elim h
    | .ok .brk, h => exact False.elim h
    | .ok .cont, h => exact False.elim h
    | .ok (.ret u), h =>
      obtain ⟨v, H', os, bare, un, hok', r', q⟩ := h
      cases (show v = .bl true from q)
      obtain rfl : u = Value.bool true := r'
      refine ⟨rfl, OldK.of_keep fun b o e => ?_, os, bare⟩
      cases q : H b with
      | none => exact un.keep b o e q (by intro z; exact absurd (show b ∈ ([] : List Addr) from z) (by simp)) (by simp)
      | some u =>
        obtain ⟨_, _, ob, xs, rfl⟩ := hA b u q
        have e1 := (hok b _ q).1
        have e2 := (hok' b _ (un.frzs b ob _ q)).1
        rw [e] at e1
        cases e1
        exact e2
  cases hk : K.lookup a with
  | some o =>
    have e := KX a o hk
    rw [ha] at e
    cases e
    exact go (fun _ => none) (.inr ⟨_, vs.toArray, _, hk, rfl, rfl, rfl, by rw [List.size_toArray, lenV]; exact hl, by simpa using rv⟩) (fun b u z => by cases z) fun b u z => by cases z
  | none =>
    refine go (fun b => if b = a then some (.frz { cls := .type "list", data := .seq vs.toArray } (.lst (ns.map V.int))) else none) (.inl (.inr ⟨{ cls := .type "list", data := .seq vs.toArray }, if_pos rfl⟩)) (fun b u z => ?_) (fun b u z => ?_)
    · by_cases hb : b = a
      · cases (if_pos hb).symm.trans z
        rw [hb]
        exact ⟨ha, by rw [List.length_map]; exact hl, vs, _, rv, ha⟩
      · cases (if_neg hb).symm.trans z
    · by_cases hb : b = a
      · cases (if_pos hb).symm.trans z
        exact ⟨hb, hk, _, _, rfl⟩
      · cases (if_neg hb).symm.trans z
theorem walkG {l : PySem.W.OpenLaw} {n k : Nat} {q : Program} {loose : List Str} {XP : (Str → Option Value) → Heap → Prop} {YP : World → Heap → Prop} {d : DefRec} {x : Str}
    (hn : l.most = some n) (hn2 : n ≤ sizeLine) (hdf : d.params.defaults = []) (hr : Room k callerA)
    (F : ∀ (w : World) (mg : Str → Option Value) (fa : Addr) (h : Heap), YP w h → h.Ns mainGlobals mg → mg d.name = some (.ref fa) → ∃ K : PySem.W.Frag, K.In h ∧ ∃ fd sp, (∀ (s : Shared) (u : Value), BindsTo s fd ⟨[u], []⟩ [(x, u)]) ∧
      (∀ (H : Hp) (a : Addr) (ns : List Int), ns.length ≤ n → SqL K H a (ns.map V.int) → sp [.ref a] H (fun v _ => v = .bl true) fun _ _ _ => False) ∧ ∀ base : Heap, FnG l.prog w K mg base CX0 k fa fd [x] sp) :
    PySem.W.WalkO q loose XP YP l.row.toRowW d [] (fun f vs => PySem.call f vs) := by
  refine Att.attach_callB hn hdf fun w s₀ s₁ mg mb fa o pm cd doc a vs ns G Y ho hd hcd hmg hobj hints hlen hbits hg => ?_
  obtain ⟨K, KX, fd, sp, hb, hsp, hF⟩ := F w mg fa _ Y G.T.g hmg
  exact lawG KX G.T.g G.T.b G.T.builtins G.T.nolimit hg hobj hints (Nat.le_trans hlen hn2) hr hF hb (fun H hS => hsp H a ns hlen hS) fun _ _ _ z => z

/-! ### how long what is shown is -/
mutual
def cells : PyData → Nat
  | .none | .bool _ | .int _ => 1
  | .str x => 1 + (reprText x).length
  | .list xs | .tuple xs => 1 + cellsAll xs
  | .dict _ => 0
def cellsAll : List PyData → Nat
  | [] => 0
  | x :: xs => cells x + cellsAll xs
end
theorem shownAll_len (xs : List PyData) : (PyData.shownAll xs).length = xs.length := by
  induction xs with
  | nil => rfl
  | cons x r ih => simp [PyData.shownAll, ih]
mutual
theorem shownAll_le : ∀ (xs : List PyData), PyData.showableAll xs = true → PyData.hasDictAll xs = false → ((PyData.shownAll xs).map (·.length)).sum + 2 * xs.length ≤ 2000 * cellsAll xs
  | [], _, _ => by simp [PyData.shownAll, cellsAll]
  | x :: xs, h, hd => by
    simp only [PyData.showableAll, Bool.and_eq_true] at h
    simp only [PyData.hasDictAll, Bool.or_eq_false_iff] at hd
    have a := shown_le' x h.1 hd.1
    have b := shownAll_le xs h.2 hd.2
    simp only [PyData.shownAll, List.map_cons, List.sum_cons, cellsAll, List.length_cons]
    omega
theorem shown_le' : ∀ (d : PyData), d.showable = true → d.hasDict = false → d.shown.length + 2 ≤ 2000 * cells d
  | .none, _, _ => by show (4 : Nat) + 2 ≤ 2000 * 1; decide
  | .bool b, _, _ => by cases b <;> (show _ + 2 ≤ 2000 * 1; decide)
  | .int i, h, _ => by
    have e := int_text_length_le (a := i) (k := 1920) (by decide) (by simpa [PyData.showable] using h)
    simp only [PyData.shown, cells, PySem.ofString_length]
    omega
  | .str x, _, _ => by
    simp only [PyData.shown, cells]
    omega
  | .list xs, h, hd => by
    have e := shownAll_le xs (by simpa [PyData.showable] using h) (by simpa [PyData.hasDict] using hd)
    have e2 := listText_len_le (PyData.shownAll xs)
    rw [shownAll_len] at e2
    simp only [PyData.shown, cells]
    omega
  | .tuple xs, h, hd => by
    have e := shownAll_le xs (by simpa [PyData.showable] using h) (by simpa [PyData.hasDict] using hd)
    have e2 := tupleText_len_le (PyData.shownAll xs)
    rw [shownAll_len] at e2
    simp only [PyData.shown, cells]
    omega
  | .dict kvs, _, hd => by simp [PyData.hasDict] at hd
end
theorem shown_le (d : PyData) (h : d.showable = true) (hd : d.hasDict = false) : d.shown.length ≤ 2000 * cells d := by
  have := shown_le' d h hd
  omega
theorem log_of {i : Int} (h : i.natAbs ≤ 10 ^ 100) : i.natAbs.log2 < 1920 := by
  rcases Nat.eq_zero_or_pos i.natAbs with z | z
  · rw [z]
    decide
  · refine (Nat.log2_lt (by omega)).mpr (Nat.lt_of_le_of_lt h ?_)
    have e : (10 : Nat) ^ 100 < 2 ^ 400 := by decide +kernel
    exact Nat.lt_trans e (Nat.pow_lt_pow_right (by decide) (by decide))
theorem showInts : ∀ {ns : List Int}, (∀ z ∈ ns, z.natAbs ≤ 10 ^ 100) → PyData.showableAll (ns.map PyData.int) = true
  | [], _ => rfl
  | n :: ns, h => by
    rw [List.map_cons]
    simp only [PyData.showableAll, PyData.showable, Bool.and_eq_true]
    exact ⟨decide_eq_true (log_of (h n (List.mem_cons_self ..))), showInts fun z hz => h z (List.mem_cons_of_mem _ hz)⟩
theorem cellsInts : ∀ (ns : List Int), cellsAll (ns.map PyData.int) = ns.length
  | [] => rfl
  | n :: ns => by rw [List.map_cons]; simp only [cellsAll, cells, cellsInts ns, List.length_cons]; omega
theorem depthInts : ∀ (ns : List Int), PyData.depthAll (ns.map PyData.int) ≤ 1
  | [] => by simp [PyData.depthAll]
  | n :: ns => by have := depthInts ns; simp [PyData.depthAll, PyData.depth]; omega
theorem hdInts : ∀ (ns : List Int), PyData.hasDictAll (ns.map PyData.int) = false
  | [] => rfl
  | n :: ns => by have := hdInts ns; simp [PyData.hasDictAll, PyData.hasDict]; simpa using this
end Sp
namespace Sp
open PySem PySem.Spec PyProof.Rows L2

theorem intAdd_ref {prog : Program} {w : World} {A : Around} {E : Value → Shared → Prop} {s : Shared} {Q : Fin → Shared → Prop} {i : Int} {t : Tok} {x C dx : Addr} (hx : s.heap.get? x = some (PySem.W.instObj C dx)) (h : Q (.done (.ret .notImplemented)) s) :
    wpAny (model prog w) A (Builtin.«int.__add__» ⟨[.int i t, .ref x], []⟩) Q E s := by
  obtain ⟨hp, g, d, tk, os⟩ := s
  unfold Builtin.«int.__add__» Builtin.Int.intBinary
  repeat (first
    | exact h
    | (with_reducible refine wpAny_load hx ?_)
    | wp_step)
theorem intAdd_call {prog : Program} {w : World} {A : Around} {E : Value → Shared → Prop} {s : Shared} {P : Shared → Prop} {i : Int} {t : Tok} {x C dx : Addr} (hx : s.heap.get? x = some (PySem.W.instObj C dx)) (h : P s) :
    wpAny (model prog w) A (call (.builtin "int.__add__") [.int i t, .ref x]) (fun v s' => v = .notImplemented ∧ P s') E s :=
  wpAny_call (codeAny_call_builtin (id := "int.__add__") F.slot_int_add.plain F.entry_int_add (F.slot_int_add.check _ _ _ _ _ _ _ _ (typeIs_int s i t) (F.args_int_add_2 _ _) (intAdd_ref hx ⟨rfl, h⟩)))
theorem intAdd_try {prog : Program} {w : World} {A : Around} {E : Value → Shared → Prop} {s : Shared} {R : Option Value → Shared → Prop} {i : Int} {t : Tok} {x C dx : Addr} (hx : s.heap.get? x = some (PySem.W.instObj C dx)) (h : R none s) :
    wpAny (model prog w) A (tryMethod (.int i t) (PySem.dunder "add") (.ref x)) R E s :=
  wpAny_tryMethod_declines (self := .int i t) (name := PySem.dunder "add") (id := "int.__add__") (T := "int") (Q := R) (typeIs_int s i t) F.slot_int_add (intAdd_call (P := fun s' => R none s') hx h)
theorem relNI {v : V} {u : Value} (r : RelV v u) : u ≠ .notImplemented := by
  intro z
  cases v <;> subst z <;> first | (obtain ⟨_, r⟩ := r; cases r) | cases r
theorem backNI {Q : Value → Shared → Prop} {u : Value} {s' : Shared} (h : u ≠ .notImplemented) (q : Q u s') : PySem.W.CmpBack Q u s' := by
  cases u <;> first | exact absurd rfl h | exact q
section
variable {prog : Program} {w : World} {A : Around} {E : Value → Shared → Prop} {s : Shared} {K : PySem.W.Frag} {x C dx f g : Addr} {od : Option Obj}
theorem radd_K {i : Int} {t : Tok} {Q : Value → Shared → Prop} (X : K.In s.heap) (I : PySem.W.InstAt s.heap x (PySem.W.instObj C dx) C od) (hx : s.heap.get? x = some (PySem.W.instObj C dx)) (hc : PySem.W.selfFirst K C = true)
    (ha : PySem.W.findIn K (.ref C) "__add__" = some (some (.ref g))) (hs : PySem.W.findIn K (.ref C) "__radd__" = some (some (.ref f))) (hf : PySem.W.isFn K (.ref f) = true) (hsub : PySem.W.subIn K (.ref C) (.type "int") = some false)
    (h : wpAny (model prog w) A (call (.ref f) [.ref x, .int i t]) (PySem.W.CmpBack Q) E s) : wpAny (model prog w) A (binaryOp .Add (.int i t) (.ref x)) Q E s := by
  obtain ⟨cd, rest, hcd, hm⟩ := PySem.W.ksp_first hc
  have er : ("__radd__" : Str) = PySem.dunderR "add" := by decide +kernel
  rw [er] at hs
  have one := PySem.W.ksp_try X I hs hf h
  have L3 : PySem.W.Looks (model prog w) s.heap (fillsNumberSlot (.ref C) "add") true := PySem.W.fills_K X hcd hm ha
  have L5 : PySem.W.Looks (model prog w) s.heap (isSubtype (.ref C) (.type "int")) false := PySem.W.looks_subIn X hsub
  simp only [binaryOp, Operator.info]
  refine wpAny_holding (wpAny_bind ?_)
  unfold binaryOp1
  refine wpAny_bind (wpAny_typeOf (typeIs_int s i t) ?_)
  refine wpAny_bind (I.type.here ?_)
  refine wpAny_bind ?_
  refine wpAny_of_eq F.fills_int_add ?_
  have hne : (Value.type "int" == Value.ref C) = false := Bool.eq_false_iff.mpr fun q => by cases beq_iff_eq.mp q
  simp only [hne, Bool.false_eq_true, if_false]
  refine wpAny_bind (L3.here ?_)
  simp only [Bool.and_self, if_true]
  refine wpAny_bind (L5.here ?_)
  have hpy : numberSlotInPython (.type "int") "add" = pure false := rfl
  simp only [Bool.false_eq_true, if_false, pure_bind, Bool.not_false, Bool.and_self, if_true, hpy]
  refine wpAny_bind (m := tryMethod (.int i t) (PySem.dunder "add") (.ref x)) ?_
  refine intAdd_try hx ?_
  refine wpAny_bind (wpAny_mono one (fun r s' hr => ?_) fun _ _ e => e)
  obtain ⟨v, rfl, hq⟩ := hr
  exact wpAny_bind (wpAny_rule (wpAny_pure (wpAny_pure hq)))
end
/-- what + asks of a class -/
structure AddF (K : PySem.W.Frag) (C : Addr) : Prop where
  ia : (PySem.W.findIn K (.type "int") "__add__").isSome = true
  ir : (PySem.W.findIn K (.type "int") "__radd__").isSome = true
  s1 : PySem.W.subIn K (.type "int") (.ref C) = some false
  s2 : PySem.W.subIn K (.ref C) (.type "int") = some false
def addB (C : Str) (K : PySem.W.Frag) : Bool := (PySem.W.findIn K (.type "int") "__add__").isSome && ((PySem.W.findIn K (.type "int") "__radd__").isSome && (decide (PySem.W.subIn K (.type "int") (.ref (He.ga K C)) = some false) && decide (PySem.W.subIn K (.ref (He.ga K C)) (.type "int") = some false)))
theorem addB_ok {C : Str} {K : PySem.W.Frag} (h : addB C K = true) : AddF K (He.ga K C) := by
  obtain ⟨h1, h⟩ := He.ba h
  obtain ⟨h2, h⟩ := He.ba h
  obtain ⟨h3, h4⟩ := He.ba h
  exact ⟨h1, h2, of_decide_eq_true h3, of_decide_eq_true h4⟩
/-- o + p by own methods: p an instance of the same class, or an int; or o an int -/
def fOwnAdd (C : Addr) (sp spR : L2.Sp) (E : XK) : R2 := fun x y H Q => match x, y with
  | .ref a, .ref b => InsV C H a ∧ InsV C H b ∧ sp [x, y] H Q E
  | .ref a, .int _ => InsV C H a ∧ sp [x, y] H Q E
  | .int _, .ref b => InsV C H b ∧ spR [y, x] H Q E
  | _, _ => False
section
variable {X : Cx} {k : Nat} {C : Addr} {sp spR : L2.Sp} {E : XK}
theorem o_ownAdd {g g' : Addr} (c : Meth X.K C "__add__" g) (c' : Meth X.K C "__radd__" g') (hsf : PySem.W.selfFirst X.K C = true) (hA : AddF X.K C) (F : CallK X k g sp E) (F' : CallK X k g' spR E) (hr : Room k X.A) : OpR X (binaryOp .Add) (fOwnAdd C sp spR E) := by
  intro pins s σ H x y v u Q I rx ry hq
  have back : ∀ {M : Sem Value}, wpAny (model X.prog X.w) X.A M (EP X pins σ Q) X.xe s → wpAny (model X.prog X.w) X.A M (PySem.W.CmpBack (EP X pins σ Q)) X.xe s := fun h => by
    refine wpAny_mono h (fun r s' hs => ?_) fun _ _ e => e
    obtain ⟨z, H', I', rz, hz⟩ := id hs
    exact backNI (relNI rz) hs
  obtain ⟨m, hF⟩ := I.fr
  match x, y, rx, ry, hq with
  | .ref a, .ref b, rx, ry, hq =>
    obtain ⟨⟨dx, fs, ea⟩, ⟨dx', fs', eb⟩, h⟩ := hq
    cases (show v = Value.ref a from rx)
    cases (show u = Value.ref b from ry)
    obtain ⟨mA, O, _⟩ := ins_get I.hok ea
    obtain ⟨od, J, _⟩ := O.look
    obtain ⟨mB, O', _⟩ := ins_get I.hok eb
    obtain ⟨od', J', _⟩ := O'.look
    exact PySem.W.binop_K hF I.ok.mod.kin J J'.type hsf c.at_ c.fn (back (F.run hr rfl rfl I (.cons (show RelV (.ref a) (Value.ref a) from rfl) (.cons ry .nil)) h))
  | .ref a, .int i, rx, ry, hq =>
    obtain ⟨⟨dx, fs, ea⟩, h⟩ := hq
    cases (show v = Value.ref a from rx)
    obtain ⟨tk, rfl⟩ := id ry
    obtain ⟨mA, O, _⟩ := ins_get I.hok ea
    obtain ⟨od, J, _⟩ := O.look
    obtain ⟨fo, h1⟩ := Option.isSome_iff_exists.mp hA.ia
    obtain ⟨ro, h2⟩ := Option.isSome_iff_exists.mp hA.ir
    exact PySem.W.ksp_binT (T := "int") (op := .Add) hF I.ok.mod.kin J rfl hsf c.at_ c.fn c'.at_ (.inr ⟨_, rfl⟩) h1 h2 hA.s1 (back (F.run hr rfl rfl I (.cons (show RelV (.ref a) (Value.ref a) from rfl) (.cons ry .nil)) h))
  | .int i, .ref b, rx, ry, hq =>
    obtain ⟨⟨dx, fs, eb⟩, h⟩ := hq
    cases (show u = Value.ref b from ry)
    obtain ⟨tk, rfl⟩ := id rx
    obtain ⟨mA, O, _⟩ := ins_get I.hok eb
    obtain ⟨od, J, _⟩ := O.look
    exact radd_K I.kIn J O.1 hsf c.at_ c'.at_ c'.fn hA.s2 (back (F'.run hr rfl rfl I (.cons (show RelV (.ref b) (Value.ref b) from rfl) (.cons rx .nil)) h))
  | .non, _, _, _, hq => exact hq.elim
  | .bl _, _, _, _, hq => exact hq.elim
  | .str _, _, _, _, hq => exact hq.elim
  | .int _, .non, _, _, hq => exact hq.elim
end

/-- a comprehension over zip of two lists of one length: the elements are f of the items, nothing else changes -/
theorem lc_zipF {K : PySem.W.Frag} {a b : Addr} {xs ys : List V} {g : TG} {te : TE} {vs : List Nat} {σ : L2.St} {H1 : Hp} {D : Addr} {Qd : Hp → Prop} (f : V → V → V) (hn : H1 D = none) (hl : xs.length = ys.length) (hz : xs.length ≤ 1000000) (hA : SqL K H1 a xs) (hB : SqL K H1 b ys)
    (hs : ∀ (i : Nat) (x y : V) (T : Addr) (H : Hp), xs[i]? = some x → ys[i]? = some y → Same H1 H → H T = none → ∀ R : VK, (∀ H4, Same (upd H T (.tup [x, y])) H4 → R (f x y) H4) → g (.ref T) (wipe σ vs) (upd H T (.tup [x, y])) fun σ2 H2 => wipe σ2 vs = wipe σ vs ∧ te σ2 H2 R)
    (hd : ∀ H, Same H1 H → H D = some (.lst (List.zipWith f xs ys)) → Qd H) :
    ∃ W : Nat → Nat → Hp → Prop, (∃ m, W 0 m (upd H1 D (.lst []))) ∧ ∀ i m H, W i m H →
      ((Itz K a b).stop i H ∧ Qd H) ∨ ((Itz K a b).go i H ∧ ∃ Nx : Hp → Prop, (∀ H', Nx H' → ∃ m', m' < m ∧ W (i + 1) m' H') ∧ ∀ x H', (Itz K a b).yld i H x H' → g x (wipe σ vs) H' fun σ2 H2 => wipe σ2 vs = wipe σ vs ∧ tYes σ2 H2 fun b H3 =>
        if b = true then te σ2 H3 fun y H4 => ∃ acc, H4 D = some (.lst acc) ∧ acc.length < sizeLine ∧ Nx (upd H4 D (.lst (acc ++ [y]))) else Nx H3) := by
  have hzl : (List.zipWith f xs ys).length = xs.length := by rw [List.length_zipWith]; omega
  refine ⟨fun i m H => m = xs.length - i ∧ i ≤ xs.length ∧ Same H1 H ∧ H D = some (.lst ((List.zipWith f xs ys).take i)), ⟨xs.length, rfl, Nat.zero_le _, Same.upd hn, upd_same⟩, ?_⟩
  rintro i m H ⟨rfl, hi, e1, hD⟩
  have qx := e1.seq hA
  have qy := e1.seq hB
  by_cases hlt : i < xs.length
  · have hx : xs[i]? = some xs[i] := List.getElem?_eq_getElem hlt
    have hlt2 : i < ys.length := by omega
    have hy : ys[i]? = some ys[i] := List.getElem?_eq_getElem hlt2
    refine .inr ⟨⟨xs, ys, _, _, qx, qy, hx, hy⟩, fun H' => Same H1 H' ∧ H' D = some (.lst ((List.zipWith f xs ys).take (i + 1))), fun H' p' => ⟨xs.length - (i + 1), by omega, rfl, hlt, p'⟩, fun v H' y => ?_⟩
    obtain ⟨T, x', y', rfl, hT, rfl, f1, f2⟩ := y
    have hx' := f1 xs qx
    have hy' := f2 ys qy
    refine hs i x' y' T H hx' hy' e1 hT _ fun H4 e4 => ?_
    have hTD : D ≠ T := ne_of_none hD hT
    have hD4 : H4 D = some (.lst ((List.zipWith f xs ys).take i)) := e4 _ _ (by rw [upd_ne hTD]; exact hD)
    have hget : (List.zipWith f xs ys)[i]? = some (f x' y') := by rw [List.getElem?_zipWith, hx', hy']
    refine ⟨_, hD4, by rw [List.length_take, sizeLine_eq]; omega, fun b o hb => ?_, ?_⟩
    · rw [upd_ne (ne_of_none hb hn)]
      exact e4 _ _ (by rw [upd_ne (ne_of_none (e1 _ _ hb) hT)]; exact e1 _ _ hb)
    · rw [upd_same, List.take_add_one, hget]
      rfl
  · have e : i = xs.length := by omega
    subst e
    refine .inl ⟨⟨xs, ys, qx, qy, Or.inl (Nat.le_refl _)⟩, hd H e1 ?_⟩
    rw [hD, List.take_of_length_le (by omega)]
end Sp
namespace Sp
open PySem PySem.Spec PyProof.Rows L2
/-- a comprehension over a list: the elements are f of the places, nothing else changes -/
theorem lc_listN {K : PySem.W.Frag} {a : Addr} {xs : List V} {g : TG} {te : TE} {vs : List Nat} {σ : L2.St} {H1 : Hp} {D : Addr} {Qd : Hp → Prop} (f : Nat → V) (hn : H1 D = none) (hz : xs.length ≤ 1000000) (hS : SqL K H1 a xs)
    (hs : ∀ (i : Nat) (x : V) (H : Hp), xs[i]? = some x → Same H1 H → ∀ R : VK, (∀ H4, Same H H4 → R (f i) H4) → g x (wipe σ vs) H fun σ2 H2 => wipe σ2 vs = wipe σ vs ∧ te σ2 H2 R)
    (hd : ∀ H, Same H1 H → H D = some (.lst ((List.range xs.length).map f)) → Qd H) :
    ∃ W : Nat → Nat → Hp → Prop, (∃ m, W 0 m (upd H1 D (.lst []))) ∧ ∀ i m H, W i m H →
      ((Itl K a).stop i H ∧ Qd H) ∨ ((Itl K a).go i H ∧ ∃ Nx : Hp → Prop, (∀ H', Nx H' → ∃ m', m' < m ∧ W (i + 1) m' H') ∧ ∀ x H', (Itl K a).yld i H x H' → g x (wipe σ vs) H' fun σ2 H2 => wipe σ2 vs = wipe σ vs ∧ tYes σ2 H2 fun b H3 =>
        if b = true then te σ2 H3 fun y H4 => ∃ acc, H4 D = some (.lst acc) ∧ acc.length < sizeLine ∧ Nx (upd H4 D (.lst (acc ++ [y]))) else Nx H3) := by
  refine lc_listI (xs := xs) hz (fun i acc H => acc = (List.range i).map f ∧ Same H1 H) ⟨rfl, Same.upd hn⟩ (fun i acc H _ _ hJ => hJ.2.seq hS) (fun i x acc H hx hl hD hJ R hR => ?_) (fun acc H hl hD hJ => ?_)
  · refine hs i x H hx hJ.2 R fun H4 e => hR (f i) H4 (e _ _ hD) ⟨?_, fun b o h => ?_⟩
    · rw [List.range_succ, List.map_append, ← hJ.1]
      rfl
    · rw [upd_ne (ne_of_none h hn)]
      exact e _ _ (hJ.2 _ _ h)
  · exact hd H hJ.2 (by rw [hD, hJ.1])
/-! ### where ways meet again -/
def tCut (t u : TS) : TS := fun D σ H => ∃ Mid : L2.St → Hp → Prop, t { D with nx := Mid } σ H ∧ ∀ σ' H', Mid σ' H' → u D σ' H'
theorem pss_cut {X : Cx} {st : Stmt} {rest : List Stmt} {t u : TS} (h1 : PS X st t) (h2 : PSs X rest u) : PSs X (st :: rest) (tCut t u) := by
  refine ⟨fun pins s σ H D I h => ?_⟩
  obtain ⟨Mid, hm, hu⟩ := h
  refine wpAny_execs_cons (thn (h1.run pins s σ H { D with nx := Mid } I hm) fun f s1 q => ?_)
  cases f with
  | next =>
    obtain ⟨σ', H', I', q⟩ := q
    exact h2.run pins s1 σ' H' D I' (hu σ' H' q)
  | ret v => exact q
  | brk => exact q
  | cont => exact q
end Sp
namespace Sp
open PySem PySem.Spec PyProof.Rows L2

/-- a number: an int, or a truth that counts as 1 or 0 -/
def isN : Int → Value → Bool
  | k, .int i _ => i == k
  | k, .bool b => PpSet.b2 b == k
  | _, _ => false
theorem isN_shape {k : Int} {v : Value} (h : isN k v = true) : (∃ t, v = .int k t) ∨ ∃ b, v = .bool b ∧ PpSet.b2 b = k := by
  cases v with
  | int i t => exact .inl ⟨t, by rw [show i = k from eq_of_beq h]⟩
  | bool b => exact .inr ⟨b, rfl, eq_of_beq h⟩
  | _ => exact absurd h Bool.false_ne_true
theorem beq_decI (a b : Int) : (a == b) = decide (a = b) := by
  by_cases h : a = b
  · rw [h, decide_eq_true rfl, beq_self_eq_true]
  · rw [decide_eq_false h, beq_eq_false_iff_ne.mpr h]
def numK (prog : Program) (w : World) : PySem.KeyKind prog w Int where
  is := isN
  hash := hashInt
  inj := fun v a b ha hb => by
    rcases isN_shape ha with ⟨t, rfl⟩ | ⟨x, rfl, rfl⟩
    · exact eq_of_beq hb
    · exact eq_of_beq hb
  byValue := fun k v h => by
    rcases isN_shape h with ⟨t, rfl⟩ | ⟨x, rfl, rfl⟩ <;> rfl
  pyHash := fun hv h => by
    rcases isN_shape hv with ⟨t, rfl⟩ | ⟨x, rfl, rfl⟩
    · exact wpAny_pyHash_int h
    · exact PpSet.pyHash_bool h
  eqBool := fun {A E s a b u v Q} hu hv h => by
    rcases isN_shape hu with ⟨t, rfl⟩ | ⟨x, rfl, rfl⟩
    · rcases isN_shape hv with ⟨t', rfl⟩ | ⟨y, rfl, rfl⟩
      · rw [← beq_decI] at h
        exact SeqAt.EqAt.int_int a t b t' _ _ _ _ h
      · rw [← beq_decI] at h
        exact SeqAt.EqAt.int_bool a t y _ _ _ _ h
    · rcases isN_shape hv with ⟨t', rfl⟩ | ⟨y, rfl, rfl⟩
      · rw [← beq_decI] at h
        exact SeqAt.EqAt.bool_int x b t' _ _ _ _ h
      · refine SeqAt.EqAt.bool_bool x y _ _ _ _ ?_
        have e : decide (PpSet.b2 x = PpSet.b2 y) = (x == y) := by cases x <;> cases y <;> decide
        rw [← e]
        exact h
  «strs» := fun k x t v h => absurd h Bool.false_ne_true

/-- the number of a value -/
def numV : V → Option Int
  | .int i => some i
  | .bl b => some (PpSet.b2 b)
  | _ => none
theorem isN_of {x : V} {k : Int} {u : Value} (h : numV x = some k) (r : RelV x u) : isN k u = true := by
  cases x with
  | int i =>
    obtain ⟨t, rfl⟩ := r
    cases h
    exact beq_self_eq_true _
  | bl b =>
    cases (show u = Value.bool b from r)
    cases h
    exact beq_self_eq_true _
  | _ => cases h
theorem itemsAre_of {prog : Program} {w : World} : ∀ {vs : List V} {ks : List Int} {us : List Value}, vs.map numV = ks.map some → Vals vs us → ItemsAre (numK prog w) ks us
  | [], ks, _, h, .nil => by
    cases ks with
    | nil => exact .nil
    | cons _ _ => cases h
  | x :: vs, ks, _, h, .cons r t => by
    cases ks with
    | nil => cases h
    | cons k ks =>
      rw [List.map_cons, List.map_cons] at h
      injection h with h1 h2
      exact .cons (isN_of h1 r) (itemsAre_of h2 t)
/-- a tuple of these numbers at a -/
def KeyT (K : PySem.W.Frag) (H : Hp) (k : List Int) (a : Addr) : Prop := ∃ vs, SqT K H a vs ∧ vs.map numV = k.map some
theorem KeyT.same {K : PySem.W.Frag} {H H' : Hp} {k : List Int} {a : Addr} (e : Same H H') (h : KeyT K H k a) : KeyT K H' k a := by
  obtain ⟨vs, h1, h2⟩ := h
  exact ⟨vs, sameT e h1, h2⟩
theorem keyT_is {X : Cx} {pins : List (Addr × Obj)} {σ : L2.St} {H : Hp} {s : Shared} {k : List Int} {a : Addr} (I : L2.Inv X pins σ H s) (h : KeyT X.K H k a) : (tupleKind (numK X.prog X.w)).is s.heap k a := by
  obtain ⟨vs, hs, e⟩ := h
  obtain ⟨its, rv, ⟨o, h1, h2, n, h3⟩, hz⟩ := I.tuple hs
  exact ⟨o, its.toArray, n, h1, h2, h3, by simpa using itemsAre_of e rv⟩
def ctH (k : List Int) : Int := reduceHash (Builtin.Tuple.tupleHashOf (k.map hashInt))
def ctE (x : List Int × Addr × Value) : DictEntry := ⟨ctH x.1, .ref x.2.1, x.2.2⟩
/-- the dict at d: its entries -/
def CD (d : Addr) (xs : List (List Int × Addr × Value)) : HO := .ext fun h => ∃ o es ep, h.get? d = some o ∧ o.ExactDict ∧ o.data = .dict es ep ∧ es.toList = xs.map ctE ∧ (xs.map (·.1)).Nodup
/-- a dict with these keys -/
def CDict (K : PySem.W.Frag) (H : Hp) (d : Addr) (ks : List (List Int)) : Prop := ∃ xs, H d = some (CD d xs) ∧ (∀ x ∈ xs, KeyT K H x.1 x.2.1) ∧ xs.map (·.1) = ks ∧ xs.length ≤ sizeLine ∧ (d == sysModules) = false
theorem CDict.same {K : PySem.W.Frag} {H H' : Hp} {d : Addr} {ks : List (List Int)} (e : Same H H') (h : CDict K H d ks) : CDict K H' d ks := by
  obtain ⟨xs, h1, h2, h3⟩ := h
  exact ⟨xs, e _ _ h1, fun x hx => (h2 x hx).same e, h3⟩
section
variable {X : Cx} {pins : List (Addr × Obj)} {σ : L2.St} {H : Hp} {s : Shared} {d : Addr} {xs : List (List Int × Addr × Value)}
theorem cd_at (I : L2.Inv X pins σ H s) (h : H d = some (CD d xs)) (hk : ∀ x ∈ xs, KeyT X.K H x.1 x.2.1) : s.heap.DictOfH (tupleKind (numK X.prog X.w)) d xs := by
  obtain ⟨⟨o, es, ep, h1, h2, h3, h4, h5⟩, _⟩ := (show ObjOk X.prog X.w H s.heap d (CD d xs) from I.hok d _ h)
  exact ⟨o, es, ep, h1, h2, h3, h4, fun x hx => keyT_is I (hk x hx), h5⟩
theorem cd_ok {P : Program} {w : World} {H : Hp} {h : Heap} (x : h.DictOfH (tupleKind (numK P w)) d xs) : ObjOk P w H h d (CD d xs) := by
  obtain ⟨o, es, ep, h1, h2, h3, h4, _, h5⟩ := x
  refine ⟨⟨o, es, ep, h1, h2, h3, h4, h5⟩, ⟨o, h1⟩, ?_⟩
  rintro ha hb ⟨o, es, ep, h1, h2⟩ k
  exact ⟨o, es, ep, k o h1, h2⟩
end
theorem atKey_iff {α : Type} [DecidableEq α] {xs : List (α × Addr × Value)} {k : α} : (atKey xs k).isSome = true ↔ k ∈ xs.map (·.1) := by
  induction xs with
  | nil => simp [atKey]
  | cons x r ih =>
    obtain ⟨a, b⟩ := x
    unfold atKey at ih ⊢
    rw [List.find?_cons, List.map_cons]
    by_cases h : a = k
    · simp [h]
    · have h2 : ¬ k = a := fun z => h z.symm
      rw [show decide ((a, b).1 = k) = false from decide_eq_false h]
      simp only [List.mem_cons, h2, false_or]
      exact ih
/-- k in d, k not in d -/
def fInC (K : PySem.W.Frag) (neg : Bool) : R2 := fun x y H Q => onRef x fun a => onRef y fun d => ∃ k ks, KeyT K H k a ∧ CDict K H d ks ∧ ∀ b : Bool, (b = true ↔ k ∈ ks) → Q (.bl (neg != b)) H
section
variable {X : Cx}
theorem o_inC (hu : X.A.units + 64 < cLine) : OpR X (compareOp .In) (fInC X.K false) := by
  intro pins s σ H x y v u Q I rx ry hq
  obtain ⟨a, rfl, hq2⟩ := onRef_ex hq
  obtain ⟨d, rfl, k, ks, hk, ⟨xs, h1, h2, h3, h4, h5⟩, q⟩ := onRef_ex hq2
  cases (show v = Value.ref a from rx)
  cases (show u = Value.ref d from ry)
  refine wpAny_in_heap (tupleKind_room_in1 (by omega)) (keyT_is I hk) h5 (cd_at I h1 h2) ?_
  refine ⟨.bl _, H, I.tok _, rfl, ?_⟩
  have z := q (atKey xs k).isSome (by rw [atKey_iff, h3])
  simpa using z
theorem o_notInC (hu : X.A.units + 64 < cLine) : OpR X (compareOp .NotIn) (fInC X.K true) := by
  intro pins s σ H x y v u Q I rx ry hq
  obtain ⟨a, rfl, hq2⟩ := onRef_ex hq
  obtain ⟨d, rfl, k, ks, hk, ⟨xs, h1, h2, h3, h4, h5⟩, q⟩ := onRef_ex hq2
  cases (show v = Value.ref a from rx)
  cases (show u = Value.ref d from ry)
  refine wpAny_notIn_heap (tupleKind_room_in1 (by omega)) (keyT_is I hk) h5 (cd_at I h1 h2) ?_
  refine ⟨.bl _, H, I.tok _, rfl, ?_⟩
  have z := q (atKey xs k).isSome (by rw [atKey_iff, h3])
  simpa using z
/-- d[k] = v, k new -/
def fSetC (K : PySem.W.Frag) : V → V → V → Hp → (Hp → Prop) → Prop := fun o i v H Q => onRef o fun d => onRef i fun a => ∃ k ks, KeyT K H k a ∧ CDict K H d ks ∧ k ∉ ks ∧ ks.length < 100000 ∧ ∀ H', (∀ b u, b ≠ d → H b = some u → H' b = some u) → (∀ b, b ≠ d → H b = none → H' b = none) → CDict K H' d (ks ++ [k]) → Q H'
theorem s_cd (hu : X.A.units + 64 < cLine) : PSet X (fSetC X.K) := by
  intro pins s σ H o i v uo ui uv Q I ro ri rv hq
  obtain ⟨d, rfl, hq2⟩ := onRef_ex hq
  obtain ⟨a, rfl, k, ks, hk, ⟨xs, h1, h2, h3, h4, h5⟩, hn, hl, q⟩ := onRef_ex hq2
  cases (show uo = Value.ref d from ro)
  cases (show ui = Value.ref a from ri)
  have hat : atKey xs k = none := by
    have e := atKey_iff (xs := xs) (k := k)
    rw [h3] at e
    cases z : atKey xs k with
    | none => rfl
    | some p => rw [z] at e; exact absurd (e.mp rfl) hn
  have hlx : xs.length < 100000 := by
    rw [← h3, List.length_map] at hl
    exact hl
  refine wpAny_setItem_heap (tupleKind_room_in1 (by omega)) (keyT_is I hk) (cd_at I h1 h2) (fun h' hd hs => ?_) h4
  rw [storedH_new hat] at hd
  have he : ∃ q, h'.get? d = some q := let ⟨q, _, _, hq, _⟩ := hd; ⟨q, hq⟩
  have nd : ∀ {b : Addr} {ys : List V}, SqT X.K H b ys → SqT X.K (upd H d (CD d (xs ++ [(k, a, uv)]))) b ys := fun {b ys} hb => by
    rcases hb with (hb | ⟨ob, hb⟩) | hb
    · exact .inl (.inl (by rw [upd_ne (ne_of hb h1 (fun z => by cases z))]; exact hb))
    · exact .inl (.inr ⟨ob, by rw [upd_ne (ne_of hb h1 (fun z => by cases z))]; exact hb⟩)
    · exact .inr hb
  have nk : ∀ {k : List Int} {b : Addr}, KeyT X.K H k b → KeyT X.K (upd H d (CD d (xs ++ [(k, a, uv)]))) k b := fun {k b} ⟨vs, hb, e⟩ => by
    refine ⟨vs, ?_, e⟩
    rcases hb with (hb | ⟨ob, hb⟩) | hb
    · exact .inl (.inl (by rw [upd_ne (ne_of hb h1 (fun z => by cases z))]; exact hb))
    · exact .inl (.inr ⟨ob, by rw [upd_ne (ne_of hb h1 (fun z => by cases z))]; exact hb⟩)
    · exact .inr hb
  have I2 : L2.Inv X pins σ (upd H d (CD d (xs ++ [(k, a, uv)]))) { s with heap := h', toks := s.toks + (tupleKind (numK X.prog X.w)).draws k } := d_write I (by rw [h1]; exact True.intro) hs he (cd_ok hd)
  refine ⟨_, I2, q _ (fun b u hb hbu => by rw [upd_ne hb]; exact hbu) (fun b hb hbu => by rw [upd_ne hb]; exact hbu) ⟨xs ++ [(k, a, uv)], upd_same, fun x hx => ?_, ?_, ?_, h5⟩⟩
  · rcases List.mem_append.mp hx with hx | hx
    · obtain ⟨vs, hb, e⟩ := h2 x hx
      exact ⟨vs, nd hb, e⟩
    · rw [List.mem_singleton.mp hx]
      obtain ⟨vs, hb, e⟩ := hk
      exact ⟨vs, nd hb, e⟩
  · rw [List.map_append, h3]
    rfl
  · rw [List.length_append, sizeLine_eq]
    show xs.length + 1 ≤ _
    omega
/-- {k: v}, k a tuple of numbers -/
def tDispC (K : PySem.W.Frag) (tk tv : TE) : TE := fun σ H Q => ∀ d, H d = none → tk σ (upd H d (.dK [])) fun x H1 => tv σ H1 fun _ H2 => onRef x fun a => H2 d = some (.dK []) ∧ ∃ k, KeyT K H2 k a ∧
  ∀ H', (∀ b u, b ≠ d → H2 b = some u → H' b = some u) → (∀ b, b ≠ d → H2 b = none → H' b = none) → CDict K H' d [k] → Q (.ref d) H'
theorem e_dispC {k v : Expr} {tk tv : TE} {pos : Pos} (hk : PE X k tk) (hv : PE X v tv) (hu : X.A.units + 64 < cLine) : PE X (.Dict [some k] [v] pos) (tDispC X.K tk tv) := by
  refine ⟨fun pins s σ H Q I q => ?_⟩
  have hn := I.hok.fresh (Nat.le_refl s.heap.objs.size)
  have I1 := I.laid (a := s.heap.objs.size) (o := .dK []) (h' := s.heap.push { cls := .type "dict", data := .dict #[] }) (t' := s.toks) (fun _ _ q => Heap.get?_push_of_some _ q) (Nat.le_refl _) (dk_empty s.heap I.big)
  have hshape := zip_pairTrees [some k] [v] X.env pos rfl rfl
  have hlen := pairTrees_length [some k] [v] X.env pos rfl rfl
  have h0 : pairTrees [some k] [v] X.env pos ≠ [] := fun z => by rw [z] at hlen; cases hlen
  have hlen2 : (pairTrees [some k] [v] X.env pos).length = 1 := hlen
  rw [arm_eval_Dict, hshape, dictDisplay_pairs _ h0 (by rw [hlen2]; decide)]
  refine wpAny_bind (wpAny_standAt (wpAny_bind (wpAny_subDictH (knd := tupleKind (numK X.prog X.w)) (Q := fun d s' => wpAny (model X.prog X.w) X.A (pure (Value.ref d)) (EP X pins σ Q) X.xe s') (show X.A.units < cLine by omega) (by rw [hlen2]; decide) ?_)))
  refine pairTrees_cons_walk (thn (hk.run pins _ σ _ _ I1 (q _ hn)) fun kv s1 ⟨x, H1, J1, rx, q1⟩ => thn (hv.run pins s1 σ H1 _ J1 q1) fun vv s2 ⟨y, H2, J2, ry, q2⟩ => pairTrees_nil_walk ?_)
  obtain ⟨a, rfl, e, kk, hkey, q3⟩ := onRef_ex q2
  cases (show kv = Value.ref a from rx)
  obtain ⟨z, hd0, vs0, r0, dd⟩ := dk_of J2.hok e
  cases r0
  refine ⟨[(kk, a, vv)], ⟨rfl, rfl, keyT_is J2 hkey, trivial⟩, ?_, fun h' tk' hd hs => wpAny_pure ?_⟩
  · obtain ⟨o, es, ep, h1, h2, h3, h4, h5, _⟩ := dd
    refine ⟨o, es, ep, h1, h2, h3, ?_, fun x hx => (by cases hx), List.nodup_nil⟩
    cases q : es.toList with
    | nil => rfl
    | cons a r =>
      rw [q] at h5
      first
        | exact h5.elim
        | cases h5
  · have he : ∃ q, h'.get? s.heap.objs.size = some q := let ⟨q, _, _, hq, _⟩ := hd; ⟨q, hq⟩
    have hd2 : h'.DictOfH (tupleKind (numK X.prog X.w)) s.heap.objs.size [(kk, a, vv)] := hd
    have I2 : L2.Inv X pins σ (upd H2 s.heap.objs.size (CD s.heap.objs.size [(kk, a, vv)])) { s2 with heap := h', toks := tk' } := d_write J2 (by rw [e]; exact True.intro) hs he (cd_ok hd2)
    refine ⟨.ref s.heap.objs.size, _, I2, rfl, q3 _ (fun b u hb hbu => by rw [upd_ne hb]; exact hbu) (fun b hb hbu => by rw [upd_ne hb]; exact hbu) ⟨[(kk, a, vv)], upd_same, fun x hx => ?_, rfl, by show 1 ≤ sizeLine; decide, hd0⟩⟩
    rw [List.mem_singleton.mp hx]
    obtain ⟨vs, hb, e2⟩ := hkey
    refine ⟨vs, ?_, e2⟩
    rcases hb with (hb | ⟨ob, hb⟩) | hb
    · exact .inl (.inl (by rw [upd_ne (ne_of hb e (fun z => by cases z))]; exact hb))
    · exact .inl (.inr ⟨ob, by rw [upd_ne (ne_of hb e (fun z => by cases z))]; exact hb⟩)
    · exact .inr hb
end
end Sp
namespace Sp
open PySem PySem.Spec PyProof.Rows L2
open PySem.StrLaws PySem.Builtin PySem.Builtin.Str
/-- the codes of a text -/
abbrev cl (x : Str) : List Nat := x.cps.toList
theorem cl_ext {x y : Str} (h : cl x = cl y) : x = y := PySem.Str.ext' (Array.ext' h)
theorem cl_app (x y : Str) : cl (x ++ y) = cl x ++ cl y := by
  show (x ++ y).cps.toList = _
  rw [PySem.Str.cps_append, Array.toList_append]
theorem cl_len (x : Str) : (cl x).length = x.length := by
  show x.cps.toList.length = x.cps.size
  exact Array.length_toList
theorem at_head {x y : Str} {c : Nat} {t : List Nat} {hi i : Nat} (hy : cl y = c :: t) (h : At x y hi i) : (cl x)[i]? = some c := by
  have h2 := h.2
  rw [subAt_eq, beq_iff_eq] at h2
  have e : ((cl x).drop i).take y.length = c :: t := h2.trans hy
  have e2 : (((cl x).drop i).take y.length)[0]? = some c := by rw [e]; rfl
  rw [List.getElem?_take] at e2
  split at e2
  · rw [List.getElem?_drop, Nat.add_zero] at e2
    exact e2
  · cases e2
theorem at_of {x y : Str} {p q : List Nat} (h : cl x = p ++ cl y ++ q) : At x y x.length p.length := by
  have hl : x.length = p.length + y.length + q.length := by
    rw [← cl_len x, h, List.length_append, List.length_append, cl_len]
  refine ⟨by omega, ?_⟩
  rw [subAt_eq, beq_iff_eq]
  show ((cl x).drop p.length).take y.length = cl y
  rw [h, List.append_assoc, List.drop_left, ← cl_len y, List.take_left]
theorem sub_cl (x : Str) (i j : Nat) : cl (strSub x i j) = ((cl x).drop i).take (j - i) := strSub_toList x i j
theorem join_cons2 (y p q : Str) (r : List Str) : Str.join y (p :: q :: r) = p ++ y ++ Str.join y (q :: r) := rfl
theorem split_aux {x y : Str} {c : Nat} {t : List Nat} (hy : cl y = c :: t) : ∀ (cs : List Str) (pre : List Nat) (cuts : List Nat) (f : Nat), cs ≠ [] → (∀ p ∈ cs, c ∉ cl p) → cl x = pre ++ cl (Str.join y cs) → ChainG x y x.length pre.length cuts f →
    (∀ k, f ≤ k → ¬ At x y x.length k) → partsFrom x y.length pre.length cuts = cs
  | [], _, _, _, h, _, _, _, _ => absurd rfl h
  | [p], pre, cuts, f, _, hf, hx, hc, hn => by
    have hx2 : cl x = pre ++ cl p := hx
    have no : ∀ k, pre.length ≤ k → ¬ At x y x.length k := fun k hk ha => by
      have e := at_head hy ha
      rw [hx2, List.getElem?_append_right hk] at e
      exact hf p (List.mem_singleton.mpr rfl) (List.mem_of_getElem? e)
    cases cuts with
    | cons c' r => exact absurd hc.2.1 (no c' hc.1)
    | nil =>
      show [strSub x pre.length x.length] = [p]
      refine congrArg (fun z => [z]) (cl_ext ?_)
      rw [sub_cl, hx2, List.drop_left, ← cl_len x, hx2, List.length_append, Nat.add_sub_cancel_left, List.take_length]
  | p :: q :: r, pre, cuts, f, _, hf, hx, hc, hn => by
    have hx2 : cl x = pre ++ cl p ++ cl y ++ cl (Str.join y (q :: r)) := by
      rw [hx, join_cons2, cl_app, cl_app]
      simp only [List.append_assoc]
    have hat : At x y x.length (pre ++ cl p).length := at_of (by rw [hx2, List.append_assoc])
    have hlen : (pre ++ cl p).length = pre.length + p.length := by rw [List.length_append, cl_len]
    have no : ∀ k, pre.length ≤ k → k < pre.length + p.length → ¬ At x y x.length k := fun k h1 h2 ha => by
      have e := at_head hy ha
      rw [hx2, List.append_assoc, List.append_assoc, List.getElem?_append_right h1, List.getElem?_append_left (by rw [cl_len]; omega)] at e
      exact hf p (List.mem_cons_self ..) (List.mem_of_getElem? e)
    cases cuts with
    | nil =>
      have e : f = pre.length := hc
      exact absurd hat (hn _ (by rw [hlen, e]; omega))
    | cons c' r' =>
      obtain ⟨h1, h2, h3, h4⟩ := hc
      have ec : c' = pre.length + p.length := by
        rcases Nat.lt_trichotomy c' (pre.length + p.length) with z | z | z
        · exact absurd h2 (no c' h1 z)
        · exact z
        · exact absurd (hlen ▸ hat) (h3 _ (by omega) z)
      subst ec
      have ih := split_aux hy (q :: r) (pre ++ cl p ++ cl y) r' f (by simp) (fun z hz => hf z (List.mem_cons_of_mem _ hz)) hx2 (by rw [List.length_append, hlen, cl_len]; exact h4) hn
      rw [List.length_append, hlen, cl_len] at ih
      show strSub x pre.length (pre.length + p.length) :: partsFrom x y.length (pre.length + p.length + y.length) r' = p :: q :: r
      rw [ih]
      refine congrArg (fun z => z :: q :: r) (cl_ext ?_)
      rw [sub_cl, hx2, List.append_assoc, List.append_assoc, List.drop_left, Nat.add_sub_cancel_left, ← cl_len p, List.take_left]
theorem split_join {y : Str} {c : Nat} {t : List Nat} (hy : cl y = c :: t) {cs : List Str} (hne : cs ≠ []) (hf : ∀ p ∈ cs, c ∉ cl p) (hk : ¬ strKind (Str.join y cs) < strKind y) : Txt.split (Str.join y cs) y = cs := by
  have hyl : y.length = t.length + 1 := by rw [← cl_len, hy]; rfl
  unfold Txt.split
  split
  · rename_i h
    rw [Bool.or_eq_true, decide_eq_true_eq, decide_eq_true_eq] at h
    rcases h with h | h
    · cases cs with
      | nil => exact absurd rfl hne
      | cons p r =>
        cases r with
        | nil => rfl
        | cons q r =>
          rw [join_cons2, PySem.Str.length_append, PySem.Str.length_append] at h
          omega
    · exact absurd h hk
  · obtain ⟨f, hG, hn⟩ := occ_tight (Str.join y cs) y (by omega)
    have key := split_aux hy cs [] _ f hne hf rfl hG hn
    split
    · rename_i h
      have e : occurrences (Str.join y cs) y 0 (Str.join y cs).length ((Str.join y cs).length + 1) = [] := by
        cases q : occurrences (Str.join y cs) y 0 (Str.join y cs).length ((Str.join y cs).length + 1) with
        | nil => rfl
        | cons _ _ => rw [q] at h; cases h
      rw [e] at key
      have key2 : [strSub (Str.join y cs) 0 (Str.join y cs).length] = cs := key
      rw [sub_whole] at key2
      exact key2
    · rw [partsBetween_eq]
      exact key
/-- cut at the last place -/
theorem rpart_found {y h d : Str} {c : Nat} {t : List Nat} (hy : cl y = c :: t) (ht : c ∉ t) (hd : c ∉ cl d) : Txt.rpartition (h ++ y ++ d) y = (h, y, d) := by
  have hx : cl (h ++ y ++ d) = cl h ++ cl y ++ cl d := by rw [cl_app, cl_app]
  have hat : At (h ++ y ++ d) y (h ++ y ++ d).length (cl h).length := at_of hx
  have no : ∀ k, (cl h).length < k → ¬ At (h ++ y ++ d) y (h ++ y ++ d).length k := fun k hk ha => by
    have e := at_head hy ha
    rw [hx, hy] at e
    obtain ⟨j, rfl⟩ : ∃ j, k = (cl h).length + 1 + j := ⟨k - (cl h).length - 1, by omega⟩
    rw [List.append_assoc, List.getElem?_append_right (by omega), show (cl h).length + 1 + j - (cl h).length = j + 1 by omega, List.cons_append, List.getElem?_cons_succ] at e
    rcases List.mem_append.mp (List.mem_of_getElem? e) with z | z
    · exact ht z
    · exact hd z
  rcases last_spec (h ++ y ++ d) y with ⟨_, z⟩ | ⟨i, e, ha, hz⟩
  · exact absurd hat (z _)
  · have ei : i = (cl h).length := by
      rcases Nat.lt_trichotomy i (cl h).length with z | z | z
      · exact absurd hat (hz _ z)
      · exact z
      · exact absurd ha (no i z)
    unfold Txt.rpartition
    rw [e]
    dsimp only
    rw [ei]
    have l1 : (cl h).length = h.length := cl_len h
    have e1 : strSub (h ++ y ++ d) 0 (cl h).length = h := cl_ext (by rw [sub_cl, hx, List.drop_zero, Nat.sub_zero, List.append_assoc, List.take_left])
    have e2 : strSub (h ++ y ++ d) ((cl h).length + y.length) (h ++ y ++ d).length = d := cl_ext (by
      rw [sub_cl, hx, ← cl_len y, ← List.length_append, List.drop_left, ← cl_len (h ++ y ++ d), hx, List.length_append, Nat.add_sub_cancel_left, List.take_length])
    rw [e1, e2]
theorem rpart_none {y x : Str} {c : Nat} {t : List Nat} (hy : cl y = c :: t) (hx : c ∉ cl x) : Txt.rpartition x y = (Str.empty, Str.empty, x) := by
  rcases last_spec x y with ⟨e, _⟩ | ⟨i, _, ha, _⟩
  · unfold Txt.rpartition
    rw [e]
  · exact absurd (List.mem_of_getElem? (at_head hy ha)) hx
section
variable {X : Cx}
theorem mt_rpartition : MtR X "str.rpartition" (fun x xs H Q => ∃ a b, x = .str a ∧ xs = [.str b] ∧ (b.length == 0) = false ∧ a.length ≤ sizeLine ∧
    ∀ p, H p = none → Q (.ref p) (upd H p (.tup [.str (Txt.rpartition a b).1, .str (Txt.rpartition a b).2.1, .str (Txt.rpartition a b).2.2]))) := by
  intro pins s σ H x xs v us Q I rx rs h
  obtain ⟨a, b, rfl, rfl, hb, hz, h⟩ := h
  obtain ⟨t, rfl⟩ := rx
  cases rs with
  | cons r1 rs =>
    cases rs
    obtain ⟨u, rfl⟩ := r1
    refine call_meets F.slot_str_rpartition (typeIs_str _ _ _) F.entry_str_rpartition (F.args_str_rpartition_2 _ _) (meets_str_rpartition a b t u hb hz) ?_
    unfold Txt.rpartition at h
    revert h
    cases lastOccurrence a b 0 a.length with
    | none => intro h; exact laid_parts I h
    | some i => intro h; exact laid_parts I h
end
end Sp
namespace Sp
open PySem PySem.Spec PyProof.Rows L2
/-- the tuple at a place of the written part -/
def tupB (p : PySem.W.Frag → Addr) (vs : List V) (K : PySem.W.Frag) : Bool := match K.lookup (p K) with
  | some ⟨.type "tuple", _, .seq its _, _⟩ => decide (its.size ≤ sizeLine) && He.relAll vs its.toList
  | _ => false
theorem tupB_ok {p : PySem.W.Frag → Addr} {vs : List V} {K : PySem.W.Frag} (h : tupB p vs K = true) : ∀ H : Hp, SqT K H (p K) vs := by
  intro H
  unfold tupB at h
  split at h
  · rename_i e
    obtain ⟨h1, h2⟩ := He.ba h
    exact .inr ⟨_, _, _, e, rfl, rfl, of_decide_eq_true h1, He.relAll_ok h2⟩
  · cases h
def fInT (K : PySem.W.Frag) : R2 := fun x y H Q => ∃ d ds, Dp K H x d ∧ Dp K H y (.tuple ds) ∧ SeqAt.shaped d = true ∧ SeqAt.shaped (.tuple ds) = true ∧ Q (.bl (ds.any fun z => PyData.eqv z d)) H
section
variable {X : Cx}
theorem o_inT (hu : X.A.units + 65 < cLine) : OpR X (compareOp .In) (fInT X.K) := by
  intro pins s σ H x y v u Q I rx ry h
  obtain ⟨d, ds, hd, he, sd, se, q⟩ := h
  obtain ⟨as, r1⟩ := Dp.reads I d x v hd rx
  obtain ⟨bs, r2⟩ := Dp.reads I (.tuple ds) y u he ry
  exact SeqAt.in_tuple_reads r2 r1 (SeqAt.canLay_of_shaped se) (SeqAt.canLay_of_shaped sd) (room_in_shaped sd hu) ⟨.bl _, H, I, rfl, q⟩
end
/-- x in xs, x not in xs of plain things -/
def fIn (K : PySem.W.Frag) (neg : Bool) : R2 := fun x y H Q => onRef y fun p => ∃ xs, (SqL K H p xs ∨ SqT K H p xs) ∧ flatV x = true ∧ xs.all flatV = true ∧ ∃ b, inV x xs = b ∧ Q (.bl (neg != b)) H
section
variable {X : Cx}
theorem o_inS : OpR X (compareOp .In) (fIn X.K false) := OpR.imp op_in_seq fun x y H Q h => by
  obtain ⟨p, rfl, xs, h1, h2, h3, b, rfl, q⟩ := onRef_ex h
  refine ⟨p, xs, rfl, h1, h2, h3, ?_⟩
  cases e : inV x xs <;> rw [e] at q <;> exact q
theorem o_notInS : OpR X (compareOp .NotIn) (fIn X.K true) := OpR.imp op_notIn_seq fun x y H Q h => by
  obtain ⟨p, rfl, xs, h1, h2, h3, b, rfl, q⟩ := onRef_ex h
  refine ⟨p, xs, rfl, h1, h2, h3, ?_⟩
  cases e : inV x xs <;> rw [e] at q <;> exact q
end
/-- a comprehension over a tuple: what holds between the turns -/
theorem lc_tupI {K : PySem.W.Frag} {a : Addr} {xs : List V} {g : TG} {te : TE} {vs : List Nat} {σ : L2.St} {H1 : Hp} {D : Addr} {Qd : Hp → Prop} (hz : xs.length ≤ 1000000) (J : Nat → List V → Hp → Prop) (h0 : J 0 [] (upd H1 D (.lst [])))
    (hl : ∀ i acc H, i ≤ xs.length → H D = some (.lst acc) → J i acc H → SqT K H a xs)
    (hs : ∀ (i : Nat) (x : V) (acc : List V) (H : Hp), xs[i]? = some x → acc.length = i → H D = some (.lst acc) → J i acc H → ∀ R : VK, (∀ y H4, H4 D = some (.lst acc) → J (i + 1) (acc ++ [y]) (upd H4 D (.lst (acc ++ [y]))) → R y H4) →
      g x (wipe σ vs) H fun σ2 H2 => wipe σ2 vs = wipe σ vs ∧ te σ2 H2 R)
    (hd : ∀ acc H, acc.length = xs.length → H D = some (.lst acc) → J xs.length acc H → Qd H) :
    ∃ W : Nat → Nat → Hp → Prop, (∃ m, W 0 m (upd H1 D (.lst []))) ∧ ∀ i m H, W i m H →
      ((Itt K a).stop i H ∧ Qd H) ∨ ((Itt K a).go i H ∧ ∃ Nx : Hp → Prop, (∀ H', Nx H' → ∃ m', m' < m ∧ W (i + 1) m' H') ∧ ∀ x H', (Itt K a).yld i H x H' → g x (wipe σ vs) H' fun σ2 H2 => wipe σ2 vs = wipe σ vs ∧ tYes σ2 H2 fun b H3 =>
        if b = true then te σ2 H3 fun y H4 => ∃ acc, H4 D = some (.lst acc) ∧ acc.length < sizeLine ∧ Nx (upd H4 D (.lst (acc ++ [y]))) else Nx H3) := by
  refine lc_tup (xs := xs) (fun i H => ∃ acc, acc.length = i ∧ H D = some (.lst acc) ∧ J i acc H) ⟨[], rfl, upd_same, h0⟩ (fun i H hi h => ?_) (fun i x H hx h => ?_) (fun H h => ?_)
  · obtain ⟨acc, _, hD, hJ⟩ := h
    exact hl i acc H hi hD hJ
  · obtain ⟨acc, hac, hD, hJ⟩ := h
    have hi := (List.getElem?_eq_some_iff.mp hx).1
    exact hs i x acc H hx hac hD hJ (fun y H4 => ∃ acc, H4 D = some (.lst acc) ∧ acc.length < sizeLine ∧ ∃ ac2, ac2.length = i + 1 ∧ (upd H4 D (.lst (acc ++ [y]))) D = some (.lst ac2) ∧ J (i + 1) ac2 (upd H4 D (.lst (acc ++ [y])))) (fun y H4 e j => ⟨acc, e, by rw [hac, sizeLine_eq]; omega, acc ++ [y], by simp [hac], upd_same, j⟩)
  · obtain ⟨acc, hac, hD, hJ⟩ := h
    exact hd acc H hac hD hJ
/-- the elements are f of the places, nothing else changes -/
theorem lc_tupN {K : PySem.W.Frag} {a : Addr} {xs : List V} {g : TG} {te : TE} {vs : List Nat} {σ : L2.St} {H1 : Hp} {D : Addr} {Qd : Hp → Prop} (f : Nat → V) (hn : H1 D = none) (hz : xs.length ≤ 1000000) (hS : SqT K H1 a xs)
    (hs : ∀ (i : Nat) (x : V) (H : Hp), xs[i]? = some x → Same H1 H → ∀ R : VK, (∀ H4, Same H H4 → R (f i) H4) → g x (wipe σ vs) H fun σ2 H2 => wipe σ2 vs = wipe σ vs ∧ te σ2 H2 R)
    (hd : ∀ H, Same H1 H → H D = some (.lst ((List.range xs.length).map f)) → Qd H) :
    ∃ W : Nat → Nat → Hp → Prop, (∃ m, W 0 m (upd H1 D (.lst []))) ∧ ∀ i m H, W i m H →
      ((Itt K a).stop i H ∧ Qd H) ∨ ((Itt K a).go i H ∧ ∃ Nx : Hp → Prop, (∀ H', Nx H' → ∃ m', m' < m ∧ W (i + 1) m' H') ∧ ∀ x H', (Itt K a).yld i H x H' → g x (wipe σ vs) H' fun σ2 H2 => wipe σ2 vs = wipe σ vs ∧ tYes σ2 H2 fun b H3 =>
        if b = true then te σ2 H3 fun y H4 => ∃ acc, H4 D = some (.lst acc) ∧ acc.length < sizeLine ∧ Nx (upd H4 D (.lst (acc ++ [y]))) else Nx H3) := by
  refine lc_tupI (xs := xs) hz (fun i acc H => acc = (List.range i).map f ∧ Same H1 H) ⟨rfl, Same.upd hn⟩ (fun i acc H _ _ hJ => sameT hJ.2 hS) (fun i x acc H hx hl hD hJ R hR => ?_) (fun acc H hl hD hJ => ?_)
  · refine hs i x H hx hJ.2 R fun H4 e => hR (f i) H4 (e _ _ hD) ⟨?_, fun b o h => ?_⟩
    · rw [List.range_succ, List.map_append, ← hJ.1]
      rfl
    · rw [upd_ne (ne_of_none h hn)]
      exact e _ _ (hJ.2 _ _ h)
  · exact hd H hJ.2 (by rw [hD, hJ.1])
/-- a comprehension whose elements are new things: by places -/
theorem newL {H1 H4 : Hp} {D : Addr} {acc : List V} {y : V} (hn : H1 D = none) (e : Same H1 H4) : Same H1 (upd H4 D (.lst (acc ++ [y]))) := fun b o h => by
  rw [upd_ne (ne_of_none h hn)]
  exact e _ _ h
/-! ### texts by methods -/
def rSplit : V → List V → Hp → VK → Prop := fun x xs H Q => ∃ a b, x = .str a ∧ xs = [.str b] ∧ (b.length == 0) = false ∧ a.length + 2 ≤ sizeLine ∧ rNewStrs (Txt.split a b) H Q
def rPart : V → List V → Hp → VK → Prop := fun x xs H Q => ∃ a b, x = .str a ∧ xs = [.str b] ∧ (b.length == 0) = false ∧ a.length ≤ sizeLine ∧
    ∀ p, H p = none → Q (.ref p) (upd H p (.tup [.str (Txt.partition a b).1, .str (Txt.partition a b).2.1, .str (Txt.partition a b).2.2]))
def rRPart : V → List V → Hp → VK → Prop := fun x xs H Q => ∃ a b, x = .str a ∧ xs = [.str b] ∧ (b.length == 0) = false ∧ a.length ≤ sizeLine ∧
    ∀ p, H p = none → Q (.ref p) (upd H p (.tup [.str (Txt.rpartition a b).1, .str (Txt.rpartition a b).2.1, .str (Txt.rpartition a b).2.2]))
def rStarts : V → List V → Hp → VK → Prop := fun x xs H Q => ∃ a b, x = .str a ∧ xs = [.str b] ∧ Q (.bl (Txt.startswith a b)) H
def rJoin (K : PySem.W.Frag) : V → List V → Hp → VK → Prop := fun x xs H Q => ∃ a p, ∃ ys : List Str, x = .str a ∧ xs = [.ref p] ∧ (SqL K H p (ys.map V.str) ∨ SqT K H p (ys.map V.str)) ∧
    (ys.map (·.length)).sum + ys.length * a.length ≤ 16777216 ∧ Q (.str (Txt.join a ys)) H
def fIntS : List V → Hp → VK → Prop := fun xs H Q => ∃ a n, xs = [.str a] ∧ PySem.intText? a = some n ∧ a.length ≤ 640 ∧ Q (.int n) H
end Sp
namespace Sp
open PySem PySem.Spec PyProof.Rows L2
theorem room65 {k : Nat} {A : Around} (r : Room k A) : A.units + 65 < cLine := by have := r.un; omega
def on6 (xs : List V) (k : V → V → V → V → V → V → Prop) : Prop := match xs with
  | [x, y, z, u, t, w] => k x y z u t w
  | _ => False
theorem on6_ex {xs : List V} {k : V → V → V → V → V → V → Prop} (h : on6 xs k) : ∃ x y z u t w, xs = [x, y, z, u, t, w] ∧ k x y z u t w := by
  match xs, h with
  | [x, y, z, u, t, w], h => exact ⟨x, y, z, u, t, w, rfl, h⟩
  | [], h => exact h.elim
  | [_], h => exact h.elim
  | [_, _], h => exact h.elim
  | [_, _, _], h => exact h.elim
  | [_, _, _, _], h => exact h.elim
  | [_, _, _, _, _], h => exact h.elim
  | _ :: _ :: _ :: _ :: _ :: _ :: _ :: _, h => exact h.elim
theorem on6_len {xs : List V} {k : V → V → V → V → V → V → Prop} (h : on6 xs k) : xs.length = 6 := by
  obtain ⟨_, _, _, _, _, _, rfl, _⟩ := on6_ex h
  rfl
/-- all but one thing stays -/
def KpX (x : Addr) (H H' : Hp) : Prop := ∀ b o, b ≠ x → H b = some o → H' b = some o
theorem KpX.refl (x : Addr) (H : Hp) : KpX x H H := fun _ _ _ h => h
theorem KpX.trans {x : Addr} {H H1 H2 : Hp} (a : KpX x H H1) (b : KpX x H1 H2) : KpX x H H2 := fun c o n h => b c o n (a c o n h)
theorem KpX.of {x : Addr} {H H' : Hp} (e : Same H H') : KpX x H H' := fun b o _ h => e b o h
theorem KpX.upd {x : Addr} {H : Hp} {o : HO} : KpX x H (upd H x o) := fun b u n h => by rw [upd_ne n]; exact h
theorem KpX.T {K : PySem.W.Frag} {x l C dx : Addr} {fs : List (Str × V)} {H H' : Hp} {xs : List V} (k : KpX x H H') (hx : H x = some (.ins C dx fs)) (h : SqT K H l xs) : SqT K H' l xs := by
  rcases h with (h | ⟨ob, h⟩) | h
  · exact .inl (.inl (k _ _ (ne_of h hx (fun z => by cases z)) h))
  · exact .inl (.inr ⟨ob, k _ _ (ne_of h hx (fun z => by cases z)) h⟩)
  · exact .inr h
/-- a list is changed: the tuples stay -/
theorem setL_T {K : PySem.W.Frag} {H : Hp} {l b : Addr} {xs zs ys : List V} (hl : H l = some (.lst xs)) (h : SqT K H b ys) : SqT K (upd H l (.lst zs)) b ys := by
  rcases h with (hb | ⟨ob, hb⟩) | hb
  · exact .inl (.inl (by rw [upd_ne (ne_of hb hl (fun z => by cases z))]; exact hb))
  · exact .inl (.inr ⟨ob, by rw [upd_ne (ne_of hb hl (fun z => by cases z))]; exact hb⟩)
  · exact .inr hb
theorem newO {H1 H4 : Hp} {D : Addr} {o : HO} (hn : H1 D = none) (e : Same H1 H4) : Same H1 (upd H4 D o) := fun b o h => by
  rw [upd_ne (ne_of_none h hn)]
  exact e _ _ h
end Sp
namespace Sp
open PySem PySem.Spec PyProof.Rows L2
abbrev PK := List Nat × Option Bool
def uV : Option Bool → V
  | none => .non
  | some b => .bl b
def uK : Option Bool → NestedKey
  | none => .none
  | some b => .num (if b = true then 1 else 0)
def nk (p : PK) : NestedKey := .tup [.tup (p.1.map fun i : Nat => NestedKey.num (i : Int)), uK p.2]
theorem nums_inj : ∀ {a b : List Nat}, (a.map fun i : Nat => NestedKey.num (i : Int)) = (b.map fun i : Nat => NestedKey.num (i : Int)) → a = b
  | [], [], _ => rfl
  | [], _ :: _, h => by cases h
  | _ :: _, [], h => by cases h
  | x :: a, y :: b, h => by
    rw [List.map_cons, List.map_cons] at h
    injection h with h1 h2
    injection h1 with h1
    rw [nums_inj h2, show x = y by omega]
theorem nk_inj {p q : PK} (h : nk p = nk q) : p = q := by
  obtain ⟨a, u⟩ := p
  obtain ⟨b, v⟩ := q
  unfold nk at h
  injection h with h
  injection h with h1 h2
  injection h1 with h1
  injection h2 with h2 _
  have e1 := nums_inj h1
  have e1 : a = b := e1
  have h2 : uK u = uK v := h2
  have e2 : u = v := by
    cases u with
    | none =>
      cases v with
      | none => rfl
      | some y => unfold uK at h2; cases h2
    | some x =>
      cases v with
      | none => unfold uK at h2; cases h2
      | some y =>
        unfold uK at h2
        injection h2 with h2
        cases x <;> cases y <;> first | rfl | (simp at h2)
  rw [e1, e2]
def uH : Option Bool → Int
  | none => reduceHash 0xFCA86420
  | some b => hashInt (if b = true then 1 else 0)
def pkH (p : PK) : Int := reduceHash (Builtin.Tuple.tupleHashOf [reduceHash (Builtin.Tuple.tupleHashOf (p.1.map fun i : Nat => hashInt (i : Int))), uH p.2])
theorem nums_hash (w : World) : ∀ a : List Nat, NestedKey.hashes w (a.map fun i : Nat => NestedKey.num (i : Int)) = a.map fun i : Nat => hashInt (i : Int)
  | [] => by simp [NestedKey.hashes]
  | x :: a => by
    rw [List.map_cons, List.map_cons, NestedKey.hashes, NestedKey.hash, nums_hash w a]
theorem uK_hash (w : World) (u : Option Bool) : (uK u).hash w = uH u := by
  cases u <;> simp [uK, uH, NestedKey.hash]
theorem nk_hash (w : World) (p : PK) : (nk p).hash w = pkH p := by
  unfold nk pkH
  rw [NestedKey.hash, NestedKey.hashes, NestedKey.hashes, NestedKey.hashes, NestedKey.hash, nums_hash, uK_hash]
theorem nums_depth : ∀ a : List Nat, NestedKey.depthAll (a.map fun i : Nat => NestedKey.num (i : Int)) = 0
  | [] => by simp [NestedKey.depthAll]
  | x :: a => by
    rw [List.map_cons, NestedKey.depthAll, nums_depth a, NestedKey.depth]
    rfl
theorem nk_depth (p : PK) : (nk p).depth ≤ 8 := by
  unfold nk
  rw [NestedKey.depth, NestedKey.depthAll, NestedKey.depthAll, NestedKey.depthAll, NestedKey.depth, nums_depth]
  have : (uK p.2).depth = 0 := by cases p.2 <;> simp [uK, NestedKey.depth]
  rw [this]
  decide
/-- the key at a -/
def KeyAt (K : PySem.W.Frag) (H : Hp) (p : PK) (a : Addr) : Prop := ∃ b, SqT K H a [.ref b, uV p.2] ∧ SqT K H b (p.1.map fun i : Nat => V.int (i : Int))
/-- tuples stay -/
def TK (K : PySem.W.Frag) (H H' : Hp) : Prop := ∀ l xs, SqT K H l xs → SqT K H' l xs
theorem TK.refl {K : PySem.W.Frag} {H : Hp} : TK K H H := fun _ _ h => h
theorem TK.trans {K : PySem.W.Frag} {H H1 H2 : Hp} (a : TK K H H1) (b : TK K H1 H2) : TK K H H2 := fun l xs h => b l xs (a l xs h)
theorem TK.of {K : PySem.W.Frag} {H H' : Hp} (e : Same H H') : TK K H H' := fun _ _ h => sameT e h
theorem TK.lst {K : PySem.W.Frag} {H : Hp} {l : Addr} {xs zs : List V} (hl : H l = some (.lst xs)) : TK K H (upd H l (.lst zs)) := fun _ _ h => setL_T hl h
theorem KeyAt.tk {K : PySem.W.Frag} {H H' : Hp} {p : PK} {a : Addr} (e : TK K H H') (h : KeyAt K H p a) : KeyAt K H' p a := by
  obtain ⟨b, h1, h2⟩ := h
  exact ⟨b, e _ _ h1, e _ _ h2⟩
theorem nums_is {h : Heap} : ∀ {a : List Nat} {us : List Value}, Vals (a.map fun i : Nat => V.int (i : Int)) us → NestedAll h (a.map fun i : Nat => NestedKey.num (i : Int)) us
  | [], _, .nil => .nil
  | x :: a, _, .cons r t => by
    obtain ⟨tk, rfl⟩ := (show ∃ t, _ = Value.int (x : Int) t from r)
    exact .cons (.int _ tk) (nums_is t)
theorem uK_is {h : Heap} {u : Option Bool} {v : Value} (r : RelV (uV u) v) : NestedIs h (uK u) v := by
  cases u with
  | none =>
    cases (show v = Value.none from r)
    exact .none
  | some b =>
    cases (show v = Value.bool b from r)
    exact .bool rfl
theorem keyAt_is {X : Cx} {pins : List (Addr × Obj)} {σ : L2.St} {H : Hp} {s : Shared} {p : PK} {a : Addr} (I : L2.Inv X pins σ H s) (h : KeyAt X.K H p a) : (nestedKind X.prog X.w).is s.heap (nk p) a := by
  obtain ⟨b, h1, h2⟩ := h
  obtain ⟨its, rv, ⟨o, e1, e2, n, e3⟩, hz⟩ := I.tuple h1
  obtain ⟨its2, rv2, ⟨o2, f1, f2, n2, f3⟩, hz2⟩ := I.tuple h2
  refine ⟨?_, nk_depth p⟩
  refine NestedIs.tup e1 e2 e3 ?_
  cases rv with
  | cons r t =>
    cases t with
    | cons r2 t2 =>
      cases t2
      rw [show _ = Value.ref b from r]
      exact .cons (NestedIs.tup f1 f2 f3 (nums_is rv2)) (.cons (uK_is r2) .nil)
def pdE (x : PK × Addr × Addr) : DictEntry := ⟨pkH x.1, .ref x.2.1, .ref x.2.2⟩
/-- the dict at d: its epoch, its entries -/
def PD (d : Addr) (ep : Nat) (xs : List (PK × Addr × Addr)) : HO := .ext fun h => ∃ o es, h.get? d = some o ∧ o.ExactDict ∧ o.data = .dict es ep ∧ es.toList = xs.map pdE ∧ (xs.map (·.1)).Nodup
/-- a dict with these keys and things -/
def PDict (K : PySem.W.Frag) (H : Hp) (d : Addr) (xs : List (PK × Addr × Addr)) : Prop := (∃ ep, H d = some (PD d ep xs)) ∧ (∀ x ∈ xs, KeyAt K H x.1 x.2.1) ∧ xs.length ≤ sizeLine ∧ (d == sysModules) = false
theorem PDict.to {K : PySem.W.Frag} {H H' : Hp} {d : Addr} {xs : List (PK × Addr × Addr)} (e : H' d = H d) (t : TK K H H') (h : PDict K H d xs) : PDict K H' d xs := by
  obtain ⟨⟨ep, h1⟩, h2, h3⟩ := h
  exact ⟨⟨ep, e.trans h1⟩, fun x hx => (h2 x hx).tk t, h3⟩
theorem PDict.same {K : PySem.W.Frag} {H H' : Hp} {d : Addr} {xs : List (PK × Addr × Addr)} (e : Same H H') (h : PDict K H d xs) : PDict K H' d xs := by
  obtain ⟨⟨ep, h1⟩, h2⟩ := id h
  exact h.to ((e _ _ h1).trans h1.symm) (TK.of e)
def upK (xs : List (PK × Addr × Addr)) : List (NestedKey × Addr × Value) := xs.map fun x => (nk x.1, x.2.1, .ref x.2.2)
theorem upK_keys (xs : List (PK × Addr × Addr)) : (upK xs).map (·.1) = (xs.map (·.1)).map nk := by
  unfold upK
  rw [List.map_map, List.map_map]
  rfl
theorem upK_ent (w : World) {prog : Program} (xs : List (PK × Addr × Addr)) : (upK xs).map (entryOfKey (nestedKind prog w)) = xs.map pdE := by
  unfold upK
  rw [List.map_map]
  refine List.map_congr_left fun x _ => ?_
  show (⟨(nk x.1).hash w, _, _⟩ : DictEntry) = ⟨pkH x.1, _, _⟩
  rw [nk_hash]
section
variable {X : Cx} {pins : List (Addr × Obj)} {σ : L2.St} {H : Hp} {s : Shared} {d : Addr} {ep : Nat} {xs : List (PK × Addr × Addr)}
theorem pd_at (I : L2.Inv X pins σ H s) (h : H d = some (PD d ep xs)) (hk : ∀ x ∈ xs, KeyAt X.K H x.1 x.2.1) : s.heap.DictOfH (nestedKind X.prog X.w) d (upK xs) := by
  obtain ⟨⟨o, es, h1, h2, h3, h4, h5⟩, _⟩ := (show ObjOk X.prog X.w H s.heap d (PD d ep xs) from I.hok d _ h)
  refine ⟨o, es, ep, h1, h2, h3, ?_, fun x hx => ?_, ?_⟩
  · rw [h4, upK_ent]
  · obtain ⟨y, hy, rfl⟩ := List.mem_map.mp hx
    exact keyAt_is I (hk y hy)
  · rw [upK_keys]
    exact List.Pairwise.map _ (fun a b z e => z (nk_inj e)) h5
theorem pd_ok {P : Program} {w : World} {H : Hp} {h : Heap} (x : h.DictOfH (nestedKind P w) d (upK xs)) : ∃ ep, ObjOk P w H h d (PD d ep xs) := by
  obtain ⟨o, es, ep, h1, h2, h3, h4, _, h5⟩ := x
  refine ⟨ep, ⟨o, es, h1, h2, h3, ?_, ?_⟩, ⟨o, h1⟩, ?_⟩
  · rw [h4, upK_ent]
  · rw [upK_keys] at h5
    exact (List.pairwise_map.mp h5).imp fun z e => z (congrArg nk e)
  · rintro ha hb ⟨o, es, h1, h2⟩ k
    exact ⟨o, es, k o h1, h2⟩
end
def valP (xs : List (PK × Addr × Addr)) (p : PK) : Option Addr := (xs.find? fun x => decide (x.1 = p)).map (·.2.2)
def putP (xs : List (PK × Addr × Addr)) (p : PK) (a v : Addr) : List (PK × Addr × Addr) :=
  if p ∈ xs.map (·.1) then xs.map (fun x => if x.1 = p then (x.1, x.2.1, v) else x) else xs ++ [(p, a, v)]
theorem upK_at (xs : List (PK × Addr × Addr)) (p : PK) : (atKey (upK xs) (nk p)).map (·.2) = (valP xs p).map Value.ref := by
  unfold atKey valP upK
  induction xs with
  | nil => rfl
  | cons x r ih =>
    rw [List.map_cons, List.find?_cons, List.find?_cons]
    by_cases h : x.1 = p
    · have h2 : nk x.1 = nk p := congrArg nk h
      simp [h, h2]
    · have h2 : ¬ nk x.1 = nk p := fun z => h (nk_inj z)
      simp only [decide_eq_false h, decide_eq_false h2]
      exact ih
theorem upK_some (xs : List (PK × Addr × Addr)) (p : PK) : (atKey (upK xs) (nk p)).isSome = decide (p ∈ xs.map (·.1)) := by
  rw [Bool.eq_iff_iff, atKey_iff, upK_keys, decide_eq_true_iff]
  constructor
  · intro h
    obtain ⟨q, hq, e⟩ := List.mem_map.mp h
    rw [← nk_inj e]
    exact hq
  · exact fun h => List.mem_map.mpr ⟨p, h, rfl⟩
theorem upK_put (xs : List (PK × Addr × Addr)) (p : PK) (a v : Addr) : storedH (upK xs) (nk p) a (.ref v) = upK (putP xs p a v) := by
  unfold storedH putP
  rw [upK_some]
  by_cases h : p ∈ xs.map (·.1)
  · rw [if_pos (decide_eq_true h), if_pos h]
    unfold upK
    rw [List.map_map, List.map_map]
    refine List.map_congr_left fun x _ => ?_
    show putAt (nk p) (Value.ref v) (nk x.1, x.2.1, Value.ref x.2.2) = _
    unfold putAt
    by_cases e : x.1 = p
    · have e2 : nk x.1 = nk p := congrArg nk e
      simp [e, e2]
    · have e2 : ¬ nk x.1 = nk p := fun z => e (nk_inj z)
      simp [e, e2]
  · rw [if_neg (by rw [decide_eq_false h]; exact Bool.false_ne_true), if_neg h]
    unfold upK
    rw [List.map_append]
    rfl
theorem putP_len {xs : List (PK × Addr × Addr)} {p : PK} {a v : Addr} : (putP xs p a v).length ≤ xs.length + 1 := by
  unfold putP
  split
  · rw [List.length_map]; omega
  · rw [List.length_append]; exact Nat.le_refl _
theorem putP_mem {xs : List (PK × Addr × Addr)} {p : PK} {a v : Addr} {x : PK × Addr × Addr} (h : x ∈ putP xs p a v) : (∃ y ∈ xs, x.1 = y.1 ∧ x.2.1 = y.2.1) ∨ (x.1 = p ∧ x.2.1 = a) := by
  unfold putP at h
  split at h
  · obtain ⟨y, hy, rfl⟩ := List.mem_map.mp h
    refine .inl ⟨y, hy, ?_⟩
    split <;> exact ⟨rfl, rfl⟩
  · rcases List.mem_append.mp h with h | h
    · exact .inl ⟨x, h, rfl, rfl⟩
    · rw [List.mem_singleton.mp h]
      exact .inr ⟨rfl, rfl⟩
/-- k in d, k not in d -/
def fInP (K : PySem.W.Frag) (neg : Bool) : R2 := fun x y H Q => onRef x fun a => onRef y fun d => ∃ p xs, KeyAt K H p a ∧ PDict K H d xs ∧ Q (.bl (neg != decide (p ∈ xs.map (·.1)))) H
def fGetP (K : PySem.W.Frag) : R2 := fun x y H Q => onRef x fun d => onRef y fun a => ∃ p xs v, KeyAt K H p a ∧ PDict K H d xs ∧ valP xs p = some v ∧ Q (.ref v) H
def fSetP (K : PySem.W.Frag) : V → V → V → Hp → (Hp → Prop) → Prop := fun o i v H Q => onRef o fun d => onRef i fun a => onRef v fun v => ∃ p xs, KeyAt K H p a ∧ PDict K H d xs ∧ xs.length < 100000 ∧ ∀ H', (∀ b u, b ≠ d → H b = some u → H' b = some u) → (∀ b, b ≠ d → H b = none → H' b = none) → TK K H H' → PDict K H' d (putP xs p a v) → Q H'
section
variable {X : Cx}
theorem room_nk {A : Around} (hu : A.units + 64 < cLine) {prog : Program} {w : World} : (nestedKind prog w).room A.in1 := by
  show A.units + 1 + 8 < cLine
  omega
theorem o_inP (hu : X.A.units + 64 < cLine) : OpR X (compareOp .In) (fInP X.K false) := by
  intro pins s σ H x y v u Q I rx ry hq
  obtain ⟨a, rfl, hq2⟩ := onRef_ex hq
  obtain ⟨d, rfl, p, xs, hk, ⟨⟨ep, h1⟩, h2, h4, h5⟩, q⟩ := onRef_ex hq2
  cases (show v = Value.ref a from rx)
  cases (show u = Value.ref d from ry)
  refine wpAny_in_heap (room_nk hu) (keyAt_is I hk) h5 (pd_at I h1 h2) ?_
  refine ⟨.bl _, H, I.tok _, rfl, ?_⟩
  rw [upK_some]
  simpa using q
theorem o_notInP (hu : X.A.units + 64 < cLine) : OpR X (compareOp .NotIn) (fInP X.K true) := by
  intro pins s σ H x y v u Q I rx ry hq
  obtain ⟨a, rfl, hq2⟩ := onRef_ex hq
  obtain ⟨d, rfl, p, xs, hk, ⟨⟨ep, h1⟩, h2, h4, h5⟩, q⟩ := onRef_ex hq2
  cases (show v = Value.ref a from rx)
  cases (show u = Value.ref d from ry)
  refine wpAny_notIn_heap (room_nk hu) (keyAt_is I hk) h5 (pd_at I h1 h2) ?_
  refine ⟨.bl _, H, I.tok _, rfl, ?_⟩
  rw [upK_some]
  simpa using q
theorem x_pd (hu : X.A.units + 64 < cLine) : IxR X (fGetP X.K) := by
  intro value slice pins s σ H x y v u Q I rx ry hq hs
  obtain ⟨d, rfl, hq2⟩ := onRef_ex hq
  obtain ⟨a, rfl, p, xs, val, hk, ⟨⟨ep, h1⟩, h2, h4, h5⟩, hv, q⟩ := onRef_ex hq2
  cases (show v = Value.ref d from rx)
  cases (show u = Value.ref a from ry)
  have hm := pd_at I h1 h2
  have e := upK_at xs p
  rw [hv] at e
  obtain ⟨⟨b, z⟩, ez, rfl⟩ : ∃ z, atKey (upK xs) (nk p) = some z ∧ z.2 = Value.ref val := by
    cases z : atKey (upK xs) (nk p) with
    | none => rw [z] at e; cases e
    | some z' => rw [z] at e; exact ⟨z', rfl, by simpa using e⟩
  exact tail_any hm.typeIs slot_dict_getitem.lookup (wpAny_getItem_heap (room_nk hu) (keyAt_is I hk) hm ez ⟨.ref val, H, I.tok _, rfl, q⟩) hs
theorem s_pd (hu : X.A.units + 64 < cLine) : PSet X (fSetP X.K) := by
  intro pins s σ H o i v uo ui uv Q I ro ri rv hq
  obtain ⟨d, rfl, hq2⟩ := onRef_ex hq
  obtain ⟨a, rfl, hq3⟩ := onRef_ex hq2
  obtain ⟨val, rfl, p, xs, hk, ⟨⟨ep, h1⟩, h2, h4, h5⟩, hl, q⟩ := onRef_ex hq3
  cases (show uo = Value.ref d from ro)
  cases (show ui = Value.ref a from ri)
  cases (show uv = Value.ref val from rv)
  refine wpAny_setItem_heap (room_nk hu) (keyAt_is I hk) (pd_at I h1 h2) (fun h' hd hs => ?_) (by unfold upK; rw [List.length_map]; exact h4)
  rw [upK_put] at hd
  have he : ∃ q, h'.get? d = some q := let ⟨q, _, _, hq, _⟩ := hd; ⟨q, hq⟩
  obtain ⟨ep', hok⟩ := pd_ok (H := H) hd
  have nd : ∀ {ob : HO}, TK X.K H (upd H d ob) := fun {ob} b ys hb => by
    rcases hb with (hb | ⟨o2, hb⟩) | hb
    · exact .inl (.inl (by rw [upd_ne (ne_of hb h1 (fun z => by cases z))]; exact hb))
    · exact .inl (.inr ⟨o2, by rw [upd_ne (ne_of hb h1 (fun z => by cases z))]; exact hb⟩)
    · exact .inr hb
  obtain ⟨ep', hok⟩ := pd_ok (H := upd H d (PD d ep' (putP xs p a val))) hd
  obtain ⟨ep2, hok⟩ : ∃ ep2, ObjOk X.prog X.w (upd H d (PD d ep2 (putP xs p a val))) h' d (PD d ep2 (putP xs p a val)) := by
    obtain ⟨o, es, ep, h1, h2, h3, h4, _, h5⟩ := hd
    refine ⟨ep, ⟨o, es, h1, h2, h3, ?_, ?_⟩, ⟨o, h1⟩, ?_⟩
    · rw [h4, upK_ent]
    · rw [upK_keys] at h5
      exact (List.pairwise_map.mp h5).imp fun z e => z (congrArg nk e)
    · rintro ha hb ⟨o, es, h1, h2⟩ k
      exact ⟨o, es, k o h1, h2⟩
  have I2 : L2.Inv X pins σ (upd H d (PD d ep2 (putP xs p a val))) { s with heap := h', toks := s.toks + (nestedKind X.prog X.w).draws (nk p) } := d_write I (by rw [h1]; exact True.intro) hs he hok
  refine ⟨_, I2, q _ (fun b u hb hbu => by rw [upd_ne hb]; exact hbu) (fun b hb hbu => by rw [upd_ne hb]; exact hbu) nd ⟨⟨ep2, upd_same⟩, fun x hx => ?_, ?_, h5⟩⟩
  · rcases putP_mem hx with ⟨y, hy, e1, e2⟩ | ⟨e1, e2⟩
    · rw [e1, e2]
      exact (h2 y hy).tk nd
    · rw [e1, e2]
      exact hk.tk nd
  · have := putP_len (xs := xs) (p := p) (a := a) (v := val)
    rw [sizeLine_eq]
    omega
/-- {} to be such a dict -/
def tNewP (K : PySem.W.Frag) : TE := fun _ H Q => ∀ d, H d = none → ∀ H', Same H H' → PDict K H' d [] → (∀ b, b ≠ d → H b = none → H' b = none) → Q (.ref d) H'
theorem e_newP {pos : Pos} : PE X (.Dict [] [] pos) (tNewP X.K) := ⟨fun pins s σ H Q I h => by
  have hn := I.hok.fresh (Nat.le_refl s.heap.objs.size)
  have big := I.big
  refine wpAny_Dict_empty ⟨.ref s.heap.objs.size, upd H s.heap.objs.size (PD s.heap.objs.size 0 []), I.laid (a := s.heap.objs.size) (o := PD s.heap.objs.size 0 []) (t' := s.toks) (fun _ _ q => Heap.get?_push_of_some _ q) (Nat.le_refl _) ?_, rfl, h _ hn _ (Same.upd hn) ⟨⟨0, upd_same⟩, fun x hx => (by cases hx), Nat.zero_le _, ?_⟩ (fun b hb hbu => by rw [upd_ne hb]; exact hbu)⟩
  · refine ⟨⟨_, #[], Heap.get?_push_size _ rfl, ⟨rfl, rfl, rfl⟩, rfl, rfl, List.nodup_nil⟩, ⟨_, Heap.get?_push_size _ rfl⟩, ?_⟩
    rintro ha hb ⟨o, es, h1, h2⟩ k
    exact ⟨o, es, k o h1, h2⟩
  · exact beq_eq_false_iff_ne.mpr (Nat.ne_of_gt big)⟩
/-- {k: v} -/
def tDispP (K : PySem.W.Frag) (tk tv : TE) : TE := fun σ H Q => ∀ d, H d = none → tk σ (upd H d (.dK [])) fun x H1 => tv σ H1 fun y H2 => onRef x fun a => onRef y fun v => H2 d = some (.dK []) ∧ ∃ p, KeyAt K H2 p a ∧
  ∀ H', (∀ b u, b ≠ d → H2 b = some u → H' b = some u) → (∀ b, b ≠ d → H2 b = none → H' b = none) → TK K H2 H' → PDict K H' d [(p, a, v)] → Q (.ref d) H'
theorem e_dispP {k v : Expr} {tk tv : TE} {pos : Pos} (hk : PE X k tk) (hv : PE X v tv) (hu : X.A.units + 64 < cLine) : PE X (.Dict [some k] [v] pos) (tDispP X.K tk tv) := by
  refine ⟨fun pins s σ H Q I q => ?_⟩
  have hn := I.hok.fresh (Nat.le_refl s.heap.objs.size)
  have I1 := I.laid (a := s.heap.objs.size) (o := .dK []) (h' := s.heap.push { cls := .type "dict", data := .dict #[] }) (t' := s.toks) (fun _ _ q => Heap.get?_push_of_some _ q) (Nat.le_refl _) (dk_empty s.heap I.big)
  have hshape := zip_pairTrees [some k] [v] X.env pos rfl rfl
  have hlen := pairTrees_length [some k] [v] X.env pos rfl rfl
  have h0 : pairTrees [some k] [v] X.env pos ≠ [] := fun z => by rw [z] at hlen; cases hlen
  have hlen2 : (pairTrees [some k] [v] X.env pos).length = 1 := hlen
  rw [arm_eval_Dict, hshape, dictDisplay_pairs _ h0 (by rw [hlen2]; decide)]
  refine wpAny_bind (wpAny_standAt (wpAny_bind (wpAny_subDictH (knd := nestedKind X.prog X.w) (Q := fun d s' => wpAny (model X.prog X.w) X.A (pure (Value.ref d)) (EP X pins σ Q) X.xe s') (show X.A.units + 8 < cLine by omega) (by rw [hlen2]; decide) ?_)))
  refine pairTrees_cons_walk (thn (hk.run pins _ σ _ _ I1 (q _ hn)) fun kv s1 ⟨x, H1, J1, rx, q1⟩ => thn (hv.run pins s1 σ H1 _ J1 q1) fun vv s2 ⟨y, H2, J2, ry, q2⟩ => pairTrees_nil_walk ?_)
  obtain ⟨a, ea, q2b⟩ := onRef_ex q2
  subst ea
  obtain ⟨val, ev, e, p, hkey, q3⟩ := onRef_ex (show onRef y _ from q2b)
  subst ev
  cases (show kv = Value.ref a from rx)
  cases (show vv = Value.ref val from ry)
  obtain ⟨z, hd0, vs0, r0, dd⟩ := dk_of J2.hok e
  cases r0
  refine ⟨[(nk p, a, .ref val)], ⟨rfl, rfl, keyAt_is J2 hkey, trivial⟩, ?_, fun h' tk' hd hs => wpAny_pure ?_⟩
  · obtain ⟨o, es, ep, h1, h2, h3, h4, h5, _⟩ := dd
    refine ⟨o, es, ep, h1, h2, h3, ?_, fun x hx => (by cases hx), List.nodup_nil⟩
    cases q : es.toList with
    | nil => rfl
    | cons a r =>
      rw [q] at h5
      first
        | exact h5.elim
        | cases h5
  · have he : ∃ q, h'.get? s.heap.objs.size = some q := let ⟨q, _, _, hq, _⟩ := hd; ⟨q, hq⟩
    have hd2 : h'.DictOfH (nestedKind X.prog X.w) s.heap.objs.size (upK [(p, a, val)]) := hd
    obtain ⟨ep2, hok⟩ : ∃ ep2, ObjOk X.prog X.w (upd H2 s.heap.objs.size (PD s.heap.objs.size ep2 [(p, a, val)])) h' s.heap.objs.size (PD s.heap.objs.size ep2 [(p, a, val)]) := by
      obtain ⟨o, es, ep, h1, h2, h3, h4, _, h5⟩ := hd2
      refine ⟨ep, ⟨o, es, h1, h2, h3, ?_, ?_⟩, ⟨o, h1⟩, ?_⟩
      · rw [h4, upK_ent]
      · rw [upK_keys] at h5
        exact (List.pairwise_map.mp h5).imp fun z e => z (congrArg nk e)
      · rintro ha hb ⟨o, es, h1, h2⟩ k
        exact ⟨o, es, k o h1, h2⟩
    have nd : ∀ {ob : HO}, TK X.K H2 (upd H2 s.heap.objs.size ob) := fun {ob} b ys hb => by
      rcases hb with (hb | ⟨o2, hb⟩) | hb
      · exact .inl (.inl (by rw [upd_ne (ne_of hb e (fun z => by cases z))]; exact hb))
      · exact .inl (.inr ⟨o2, by rw [upd_ne (ne_of hb e (fun z => by cases z))]; exact hb⟩)
      · exact .inr hb
    have I2 : L2.Inv X pins σ (upd H2 s.heap.objs.size (PD s.heap.objs.size ep2 [(p, a, val)])) { s2 with heap := h', toks := tk' } := d_write J2 (by rw [e]; exact True.intro) hs he hok
    refine ⟨.ref s.heap.objs.size, _, I2, rfl, q3 _ (fun b u hb hbu => by rw [upd_ne hb]; exact hbu) (fun b hb hbu => by rw [upd_ne hb]; exact hbu) nd ⟨⟨ep2, upd_same⟩, fun x hx => ?_, by show 1 ≤ sizeLine; decide, hd0⟩⟩
    rw [List.mem_singleton.mp hx]
    exact hkey.tk nd
end
/-! ### walks over such a dict -/
def ItP (d : Addr) (ep : Nat) (xs : List (PK × Addr × Addr)) : It :=
  ⟨fun i H => (H d = some (PD d ep xs) ∧ (d == sysModules) = false) ∧ i < xs.length, fun i H x H' => H' = H ∧ ∃ e, xs[i]? = some e ∧ x = .ref e.2.1, fun i H => (H d = some (PD d ep xs) ∧ (d == sysModules) = false) ∧ xs.length ≤ i⟩
theorem pd_raw {X : Cx} {pins : List (Addr × Obj)} {σ : L2.St} {H : Hp} {s : Shared} {d : Addr} {ep : Nat} {xs : List (PK × Addr × Addr)} (I : L2.Inv X pins σ H s) (h : H d = some (PD d ep xs)) :
    ∃ o es, s.heap.get? d = some o ∧ o.ExactDict ∧ o.data = .dict es ep ∧ es.size = xs.length ∧ ∀ (i : Nat) (e : PK × Addr × Addr), xs[i]? = some e → es[i]? = some (pdE e) := by
  obtain ⟨⟨o, es, h1, h2, h3, h4, h5⟩, _⟩ := (show ObjOk X.prog X.w H s.heap d (PD d ep xs) from I.hok d _ h)
  refine ⟨o, es, h1, h2, h3, ?_, fun i e he => ?_⟩
  · rw [← Array.length_toList, h4, List.length_map]
  · rw [← Array.getElem?_toList, h4, List.getElem?_map, he]
    rfl
theorem turn_pd {P : Program} {w : World} {K : PySem.W.Frag} {tg : Expr} {d : Addr} {ep : Nat} {xs : List (PK × Addr × Addr)} (it : Addr) : Turn P w K tg (ItP d ep xs) [it] it (fun i h => h.IsKeyIter it d i xs.length ep) where
  mem := by simp
  obj := fun i h st b hb => by
    have e : b = it := by simpa using hb
    subst e
    obtain ⟨oi, e, c, dd⟩ := st
    exact ⟨oi, e, fun v z => by rw [dd] at z; cases z⟩
  keep := fun i h h' st k => st.at fun oi e => k it (by simp) oi e
  item := by
    intro X hP hw hK hc i pins s σ H E I hf st hg
    subst hP hw hK
    obtain ⟨⟨hd, hs⟩, hi⟩ := hg
    obtain ⟨f0, f1, f2, f3, f4, f5⟩ := hf it (by simp)
    obtain ⟨o, es, hgd, hx, hdt, hsz, ent⟩ := pd_raw I hd
    have hkv : xs[i]? = some xs[i] := List.getElem?_eq_getElem hi
    have hen := ent i _ hkv
    refine next_key_item st hgd hdt hsz hen fun h' st' sb => ?_
    have I1 : L2.Inv X pins σ H { s with heap := h' } := I.turned (t' := s.toks) (fun b ob hb e => (sb.2 b hb).trans e) f0 f1 f3 f4 f5
    obtain ⟨oi, e, c, dd⟩ := id st'
    exact ⟨_, rfl, go_of (s := { s with heap := h' }) e c dd (by decide) ⟨.ref xs[i].2.1, H, I1, rfl, ⟨rfl, _, hkv, rfl⟩, st', fun b hb => (hf b hb).1⟩⟩
  done := by
    intro X hP hw hK hc i pins s σ H E I hf st hg
    subst hP hw hK
    obtain ⟨⟨hd, hs⟩, hi⟩ := hg
    obtain ⟨f0, f1, f2, f3, f4, f5⟩ := hf it (by simp)
    obtain ⟨o, es, hgd, hx, hdt, hsz, ent⟩ := pd_raw I hd
    exact next_key_end (I.ok.hd hc) st hgd hdt hsz hi fun h' eb => ⟨rfl, I.turned (t' := s.toks) (fun b ob hb e => eb b ob hb e) f0 f1 f3 f4 f5⟩
  self := fun A i s Q E st h => wpAny_pyIter_keyiter st h
def iPD (K : PySem.W.Frag) (td : TE) : TI := fun σ H R => td σ H fun x H1 => onRef x fun d => ∃ ep xs, (H1 d = some (PD d ep xs) ∧ (d == sysModules) = false) ∧ R (ItP d ep xs) H1
theorem pi_pd {X : Cx} {tg e : Expr} {td : TE} (he : PE X e td) : PI X tg e (iPD X.K td) := by
  refine ⟨fun pins s σ H R I h => ?_⟩
  refine thn (he.run pins s σ H _ I h) fun u s1 ⟨x, H1, I1, rx, q⟩ => ?_
  obtain ⟨d, rfl, ep, xs, ⟨hd, hs⟩, q⟩ := onRef_ex q
  obtain rfl : u = Value.ref d := rx
  obtain ⟨o, es, hgd, hx, hdt, hsz, ent⟩ := pd_raw I1 hd
  refine iter_keys hs hgd hx hdt (pi_one (tk := s1.toks) I1 _ (turn_pd _) ⟨_, Heap.get?_push_size _ rfl, rfl, ?_⟩ q)
  rw [hsz] <;> rfl
theorem for_pd {d : Addr} {ep : Nat} {xs : List (PK × Addr × Addr)} {g : TG} {tb : TS} {D : Ends} {σ : L2.St} {H : Hp} (Pv : Nat → L2.St → Hp → Prop) (h0 : Pv 0 σ H) (hl : ∀ i σ H, i ≤ xs.length → Pv i σ H → H d = some (PD d ep xs) ∧ (d == sysModules) = false)
    (hs : ∀ i e σ H, xs[i]? = some e → Pv i σ H → g (.ref e.2.1) σ H fun σ2 H2 => tb { D with nx := Pv (i + 1), ct := Pv (i + 1), bk := D.nx } σ2 H2) (hd : ∀ σ H, Pv xs.length σ H → D.nx σ H) :
    ∃ W : Nat → Nat → L2.St → Hp → Prop, (∃ m, W 0 m σ H) ∧ ∀ i m σ H, W i m σ H →
      ((ItP d ep xs).stop i H ∧ D.nx σ H) ∨ ((ItP d ep xs).go i H ∧ ∃ N : L2.St → Hp → Prop, (∀ σ' H', N σ' H' → ∃ m', m' < m ∧ W (i + 1) m' σ' H') ∧ ∀ x H', (ItP d ep xs).yld i H x H' → g x σ H' fun σ2 H2 => tb { D with nx := N, ct := N, bk := D.nx } σ2 H2) := by
  refine ⟨fun i m σ H => m = xs.length - i ∧ i ≤ xs.length ∧ Pv i σ H, ⟨xs.length, by simp, Nat.zero_le _, h0⟩, ?_⟩
  rintro i m σ H ⟨rfl, hi, p⟩
  have q := hl i σ H hi p
  by_cases hlt : i < xs.length
  · refine .inr ⟨⟨q, hlt⟩, Pv (i + 1), fun σ' H' p' => ⟨xs.length - (i + 1), by omega, rfl, hlt, p'⟩, fun x H' y => ?_⟩
    obtain ⟨e, e', hy, rfl⟩ := y
    subst e
    exact hs i e' σ _ hy p
  · have e : i = xs.length := by omega
    subst e
    exact .inl ⟨⟨q, Nat.le_refl _⟩, hd σ H p⟩
end Sp
namespace Sp
open PySem PySem.Spec PyProof.Rows L2
section
variable {prog : Program} {w : World} {A : Around} {R : Result → Shared → Prop} {I : Addr} {fp wr : List Addr} {n : Nat} {P : Nat → Value → Prop} {St : Nat → Heap → Prop}
def lessV (val : Nat → Int) (i j : Nat) : Bool := decide (val i < val j)
theorem minK_loop (W : Walks prog w A.in1 I fp wr n P St) (val : Nat → Int) (S : Addr) (hSf : S ∉ fp) (Ok : Heap → Prop) (hok : ∀ h h', Ok h → (∀ b o, b ∉ wr → b ≠ S → h.get? b = some o → h'.get? b = some o) → Ok h')
    (hkey : ∀ i v (s : Shared) (Q : Value → Shared → Prop) (E : Value → Shared → Prop), P i v → Ok s.heap → (∀ t tk, Q (.int (val i) t) { s with toks := tk }) → wpAny (model prog w) A.in1 (call (.builtin "len") [v]) Q E s) :
    ∀ (k j : Nat) (s : Shared) (vb : Value) (tb : Tok) (c : Nat), n - (j + 1) = k → j + 1 ≤ n → St (j + 1) s.heap → Ok s.heap → P (argBest (lessV val) j) vb →
    s.heap.get? S = some { cls := .type "list", dict := none, data := .seq #[vb, .int (val (argBest (lessV val) j)) tb] c, slots := #[] } →
    (∀ v h' tk, P (argBest (lessV val) (n - 1)) v → (∀ b o, b ∉ wr → b ≠ S → s.heap.get? b = some o → h'.get? b = some o) → R (.ok (.ret v)) { s with heap := h', toks := tk }) →
    codeAny (model prog w) A (.builtin "min.loop" ⟨[.ref I, .builtin "len", .ref S], []⟩) R s := by
  have hSw : S ∉ wr := fun h => hSf (W.sub _ h)
  have hname : (toString "min" ++ toString ".loop" : String) = "min.loop" := by decide
  have hcmp := CmpOf.ints_lt (prog := prog) (w := w) (A := A.in1) (P := fun i v => ∃ t, v = .int (val i) t) val (fun _ _ h => h)
  intro k
  induction k with
  | zero =>
    intro j s vb tb c hk hj hst hO hPb hS hR
    have hin : j + 1 = n := by omega
    refine codeAny_builtin F.entry_min_loop ?_
    rw [Around.under_plainId F.plain_min_loop _]
    show wpAny _ A.in1 (seqItems? (.ref S) >>= _) _ _ s
    refine wpAny_bind (wpAny_seqItems hS rfl ?_)
    show wpAny _ A.in1 (tryCatch (pyNext (.ref I)) _ >>= _) _ _ s
    refine wpAny_bind (wpAny_tryCatch (W.done s _ _ (hin ▸ hst) fun h' tk hk' => ?_))
    have hS' := hk' S _ hSw hS
    show wpAny _ A.in1 (updateSeq S (fun _ => #[]) >>= _) _ _ _
    refine wpAny_bind ?_
    refine wpAny_updateSeq hS' rfl (wpAny_bind (wpAny_letGo (wpAny_pure ?_)))
    refine hR vb _ tk (by rw [← hin]; exact hPb) fun b o hbw hbS e => (Heap.get?_update_other _ _ (Ne.symm hbS)).trans (hk' b o hbw e)
  | succ k ih =>
    intro j s vb tb c hk hj hst hO hPb hS hR
    have hlt : j + 1 < n := by omega
    refine codeAny_builtin F.entry_min_loop ?_
    rw [Around.under_plainId F.plain_min_loop _]
    show wpAny _ A.in1 (seqItems? (.ref S) >>= _) _ _ s
    refine wpAny_bind (wpAny_seqItems hS rfl ?_)
    show wpAny _ A.in1 (tryCatch (pyNext (.ref I)) _ >>= _) _ _ s
    refine wpAny_bind (wpAny_tryCatch (W.item (j + 1) s _ _ hlt hst fun v h' tk hP hst' hk' => ?_))
    have hS' := hk' S _ hSw hS
    have hO' : Ok h' := hok _ _ hO fun b o hb _ e => hk' b o hb e
    show wpAny _ A.in1 (tryCatch (holding [v] (call (.builtin "len") [v])) _ >>= _) _ _ _
    refine wpAny_bind (wpAny_tryCatch (wpAny_holding (hkey (j + 1) v _ _ _ hP hO' fun t tk2 => ?_)))
    show wpAny _ A.in1 (tryCatch (holding [v, .int (val (j + 1)) t] (richCompare .Lt (.int (val (j + 1)) t) (.int (val (argBest (lessV val) j)) tb) >>= _)) _ >>= _) _ _ _
    refine wpAny_bind (wpAny_tryCatch (wpAny_holding (wpAny_bind (hcmp (j + 1) (argBest (lessV val) j) _ _ _ _ _ ⟨t, rfl⟩ ⟨tb, rfl⟩ ?_))))
    refine wpAny_bind (wpAny_holding (wpAny_truthy_bool ?_))
    refine wpAny_bind (wpAny_letGo (wpAny_pure ?_))
    cases hb : lessV val (j + 1) (argBest (lessV val) j) with
    | true =>
      have hb2 : decide (val (j + 1) < val (argBest (lessV val) j)) = true := hb
      simp only [hb2, if_true]
      refine wpAny_bind ?_
      refine wpAny_updateSeq hS' rfl (wpAny_bind (wpAny_letGo ?_))
      rw [hname]
      refine wpAny_pure ⟨plainId_quiet F.plain_min_loop _, ih (j + 1) _ v t _ (by omega) hlt (W.frame _ _ _ hst' fun b hbf o e => ?_) (hok _ _ hO' fun b o hbw hbS e => (Heap.get?_update_other _ _ (Ne.symm hbS)).trans e) (by simp only [argBest, hb, if_true]; exact hP) (by simp only [argBest, hb, if_true]; exact Heap.get?_update_self _ hS' rfl)
        fun v' h'' tk'' hP' hk'' => ?_⟩
      · exact (Heap.get?_update_other _ _ (fun h : S = b => hSf (by rw [h]; exact hbf))).trans e
      · exact hR v' h'' tk'' hP' fun b o hbw hbS e => hk'' b o hbw hbS ((Heap.get?_update_other _ _ (Ne.symm hbS)).trans (hk' b o hbw e))
    | false =>
      have hb2 : decide (val (j + 1) < val (argBest (lessV val) j)) = false := hb
      simp only [hb2, Bool.false_eq_true, if_false]
      refine wpAny_bind (wpAny_letGo ?_)
      rw [hname]
      refine wpAny_pure ⟨plainId_quiet F.plain_min_loop _, ih (j + 1) _ vb tb c (by omega) hlt hst' hO' (by simp only [argBest, hb, Bool.false_eq_true, if_false]; exact hPb) (by simp only [argBest, hb, Bool.false_eq_true, if_false]; exact hS') fun v' h'' tk'' hP' hk'' => ?_⟩
      exact hR v' h'' tk'' hP' fun b o hbw hbS e => hk'' b o hbw hbS (hk' b o hbw e)
theorem minK_first (W : Walks prog w A.in1 I fp wr n P St) (val : Nat → Int) (S : Addr) (hSf : S ∉ fp) (Ok : Heap → Prop) (hok : ∀ h h', Ok h → (∀ b o, b ∉ wr → b ≠ S → h.get? b = some o → h'.get? b = some o) → Ok h')
    (hkey : ∀ i v (s : Shared) (Q : Value → Shared → Prop) (E : Value → Shared → Prop), P i v → Ok s.heap → (∀ t tk, Q (.int (val i) t) { s with toks := tk }) → wpAny (model prog w) A.in1 (call (.builtin "len") [v]) Q E s) (hn : 0 < n) {s : Shared} {c : Nat} (hst : St 0 s.heap) (hO : Ok s.heap)
    (hS : s.heap.get? S = some { cls := .type "list", dict := none, data := .seq #[] c, slots := #[] })
    (hR : ∀ v h' tk, P (argBest (lessV val) (n - 1)) v → (∀ b o, b ∉ wr → b ≠ S → s.heap.get? b = some o → h'.get? b = some o) → R (.ok (.ret v)) { s with heap := h', toks := tk }) :
    codeAny (model prog w) A (.builtin "min.loop" ⟨[.ref I, .builtin "len", .ref S], []⟩) R s := by
  have hSw : S ∉ wr := fun h => hSf (W.sub _ h)
  have hname : (toString "min" ++ toString ".loop" : String) = "min.loop" := by decide
  refine codeAny_builtin F.entry_min_loop ?_
  rw [Around.under_plainId F.plain_min_loop _]
  show wpAny _ A.in1 (seqItems? (.ref S) >>= _) _ _ s
  refine wpAny_bind (wpAny_seqItems hS rfl ?_)
  show wpAny _ A.in1 (tryCatch (pyNext (.ref I)) _ >>= _) _ _ s
  refine wpAny_bind (wpAny_tryCatch (W.item 0 s _ _ hn hst fun v h' tk hP hst' hk' => ?_))
  have hS' := hk' S _ hSw hS
  have hO' : Ok h' := hok _ _ hO fun b o hb _ e => hk' b o hb e
  show wpAny _ A.in1 (tryCatch (holding [v] (call (.builtin "len") [v])) _ >>= _) _ _ _
  refine wpAny_bind (wpAny_tryCatch (wpAny_holding (hkey 0 v _ _ _ hP hO' fun t tk2 => ?_)))
  show wpAny _ A.in1 (updateSeq S (fun _ => #[v, .int (val 0) t]) >>= _) _ _ _
  refine wpAny_bind ?_
  refine wpAny_updateSeq hS' rfl ?_
  rw [hname]
  refine wpAny_pure ⟨plainId_quiet F.plain_min_loop _, minK_loop W val S hSf Ok hok hkey _ 0 _ v t _ rfl hn (W.frame _ _ _ hst' fun b hbf o e => ?_) (hok _ _ hO' fun b o hbw hbS e => (Heap.get?_update_other _ _ (Ne.symm hbS)).trans e) hP (Heap.get?_update_self _ hS' rfl) fun v' h'' tk'' hP' hk'' => ?_⟩
  · exact (Heap.get?_update_other _ _ (fun h : S = b => hSf (by rw [h]; exact hbf))).trans e
  · exact hR v' h'' tk'' hP' fun b o hbw hbS e => hk'' b o hbw hbS ((Heap.get?_update_other _ _ (Ne.symm hbS)).trans (hk' b o hbw e))
end
/-! ### min(xs, key=len) of a list of tuples -/
theorem fn_treeK {prog : Program} {w : World} {A : Around} {E : Value → Shared → Prop} {s : Shared} {id : String} {b : Builtin} {args : List Value} {kw : List (Str × Value)} {Q : Value → Shared → Prop} (hk : builtinKind id = none) (hp : plainId id = true)
    (hb : entryFor table id = some b) (ha : argsOk id ⟨args, kw⟩)
    (hc : wpAny (model prog w) A.in1 (b ⟨args, kw⟩) (fun fin s' => match fin with
      | .done f => (match (Except.ok f : Result) with | .ok (.ret v) => Q v s' | .ok _ => False | .error e => E e s')
      | .again c' => c'.quiet = true ∧ codeAny (model prog w) A c' (fun r s' => match r with | .ok (.ret v) => Q v s' | .ok _ => False | .error e => E e s') s') E s) :
    wpAny (model prog w) A (call (.builtin id) args kw) Q E s := by
  refine wpAny_call (codeAny_call_builtin hp hb ?_)
  simp only [checkBuiltinCall, hk]
  cases hsig : Manifest.signature? id with
  | none => exact wpAny_pure hc
  | some sig =>
    simp only [argsOk, hsig] at ha
    have h2 : Bind.checkArgs id sig ⟨args, kw⟩ = pure () := ha
    show wpAny _ A.in1 (Bind.checkArgs id sig ⟨args, kw⟩) _ _ s
    rw [h2]; exact wpAny_pure hc
section
variable {X : Cx}
/-- the first of the shortest -/
def rMinLen (K : PySem.W.Frag) : List V → Hp → VK → Prop := fun xs H Q => on1 xs fun x => onRef x fun a => ∃ (as : List Addr) (ns : List Nat), SqL K H a (as.map V.ref) ∧ 0 < as.length ∧ as.length = ns.length ∧
  (∀ (i : Nat) (b : Addr) (n : Nat), as[i]? = some b → ns[i]? = some n → ∃ ys, SqT K H b ys ∧ ys.length = n) ∧ ∀ b, as[argBest (lessV fun i => ((ns.getD i 0 : Nat) : Int)) (as.length - 1)]? = some b → Q (.ref b) H
theorem minLen_ok {pins : List (Addr × Obj)} {s : Shared} {σ : L2.St} {H : Hp} {Q : VK} {a : Addr} (hc : X.calm = true) (I : L2.Inv X pins σ H s) (h : rMinLen X.K [.ref a] H Q) :
    wpAny (model X.prog X.w) X.A (call (.builtin "min") [.ref a] [(Str.ofString "key", .builtin "len")]) (EP X pins σ Q) X.xe s := by
  obtain ⟨as, ns, hl, h0, hn, ht, q⟩ := h
  obtain ⟨its, rv, pl, hz⟩ := I.list hl
  have hh : X.A.handled = none := I.ok.hd hc
  have hlist : s.heap.IsList a its.toArray := pl.isList
  obtain ⟨ol, hol, _⟩ := id hlist
  have hlen : its.length = as.length := by rw [← rv.length, List.length_map]
  have hat : ∀ (i : Nat) (v : Value), its.toArray[i]? = some v → ∃ b, as[i]? = some b ∧ v = .ref b := fun i v e => by
    have e2 : its[i]? = some v := by simpa using e
    have hi := (List.getElem?_eq_some_iff.mp e2).1
    have hb : as[i]? = some as[i] := List.getElem?_eq_getElem (by omega)
    obtain ⟨u, hu, ru⟩ := rv.get (show (as.map V.ref)[i]? = some (V.ref as[i]) by rw [List.getElem?_map, hb]; rfl)
    rw [e2] at hu
    cases hu
    exact ⟨_, hb, ru⟩
  have hname : (toString "min" ++ toString ".loop" : String) = "min.loop" := by decide
  refine fn_treeK F.kind_min F.plain_min F.entry_min (by unfold argsOk; kernel_rfl) ?_
  show wpAny _ X.A.in1 (Builtin.Builtins.bindParams "min" ["key", "default"] 0 ⟨[], [(Str.ofString "key", .builtin "len")]⟩ >>= _) _ _ s
  refine wpAny_bind (wpAny_of_eq (show Builtin.Builtins.bindParams "min" ["key", "default"] 0 ⟨[], [(Str.ofString "key", .builtin "len")]⟩ = pure [some (.builtin "len"), none] from rfl) ?_)
  refine wpAny_bind (wpAny_pure ?_)
  have hlt : a < s.heap.objs.size := Heap.lt_size hol
  refine wpAny_bind (wpAny_pyIter_list hlist ?_)
  refine wpAny_bind (wpAny_newObj_type ?_)
  rw [hname]
  have hsz : (s.heap.push { cls := .type "list_iterator", data := .fields #[.ref a, .int 0 0] }).objs.size = s.heap.objs.size + 1 := Heap.size_push _ _
  have hSf : (s.heap.push { cls := .type "list_iterator", data := .fields #[.ref a, .int 0 0] }).objs.size ∉ [s.heap.objs.size, a] := fun hm => by
    rw [hsz] at hm
    rcases List.mem_cons.mp hm with e | hm
    · exact Nat.succ_ne_self _ e
    · rcases List.mem_cons.mp hm with e | hm
      · rw [← e] at hlt
        exact Nat.lt_irrefl _ (Nat.lt_trans (Nat.lt_succ_self _) hlt)
      · cases hm
  refine wpAny_pure ⟨plainId_quiet F.plain_min_loop _, minK_first (Walks.list (A := X.A.in1) hh s.heap.objs.size a (Nat.ne_of_lt hlt) its.toArray) (fun i => ((ns.getD i 0 : Nat) : Int)) _ hSf (fun h => ∀ b o, s.heap.get? b = some o → h.get? b = some o)
    (fun h h' hO hk b o e => hk b o (fun hm => ?_) (fun hm => ?_) (hO b o e)) (fun i v s2 Q2 E2 hP hO hq => ?_) (by simpa [hlen] using h0) ⟨⟨_, Heap.get?_push_of_some _ (Heap.get?_push_size _ rfl), rfl, rfl⟩, (hlist.push _).push _⟩ (fun b o e => Heap.get?_push_of_some _ (Heap.get?_push_of_some _ e)) (Heap.get?_push_size _ rfl) fun v h' tk hP hk => ?_⟩
  · rw [List.mem_singleton.mp hm] at e
    exact absurd (Heap.lt_size e) (Nat.lt_irrefl _)
  · rw [hm] at e
    have := Heap.lt_size e
    rw [hsz] at this
    exact Nat.lt_irrefl _ (Nat.lt_trans (Nat.lt_succ_self _) this)
  · obtain ⟨b, hb, rfl⟩ := hat i v hP
    have hi := (List.getElem?_eq_some_iff.mp hb).1
    have hnb : ns[i]? = some ns[i] := List.getElem?_eq_getElem (by omega)
    obtain ⟨ys, hy, hyl⟩ := ht i b _ hb hnb
    obtain ⟨it2, r2, pl2, hz2⟩ := I.tuple hy
    have pl3 : IsTup s2.heap b it2.toArray := by
      obtain ⟨o, ho, r⟩ := pl2
      exact ⟨o, hO b o ho, r⟩
    have hl2 := r2.length
    have hsl : sizeLine = 16777216 := sizeLine_eq
    refine len_tuple pl3 (by simp only [List.size_toArray]; omega) ?_
    have e1 : ((ns.getD i 0 : Nat) : Int) = (it2.toArray.size : Int) := by
      rw [List.getD_eq_getElem?_getD, hnb, List.size_toArray, ← hl2, hyl]
      rfl
    rw [← e1]
    exact hq _ _
  · have hk' : ∀ b o, s.heap.get? b = some o → h'.get? b = some o := fun b o e => hk b o (fun hm => by rw [List.mem_singleton.mp hm] at e; exact absurd (Heap.lt_size e) (Nat.lt_irrefl _)) (fun hm => by
      rw [hm] at e
      have := Heap.lt_size e
      rw [hsz] at this
      exact Nat.lt_irrefl _ (Nat.lt_trans (Nat.lt_succ_self _) this)) (Heap.get?_push_of_some _ (Heap.get?_push_of_some _ e))
    obtain ⟨b, hb, rfl⟩ := hat _ v hP
    refine ⟨.ref b, H, I.kept (t' := tk) hk', rfl, q b ?_⟩
    rw [← hlen]
    simpa using hb
def tMinLen (K : PySem.W.Frag) (te : TE) : TE := fun σ H Q => te σ H fun x H1 => rMinLen K [x] H1 Q
theorem e_minLen {e : Expr} {te : TE} {p p2 kp pos : Pos} (hc : X.calm = true) (hg : Gl X "min") (hm : X.mg "min" = none) (hg2 : Gl X "len") (hm2 : X.mg "len" = none) (he : PE X e te)
    (hst : starEach [e] X.env = [(false, eval e X.env)] := by rfl) : PE X (.Call (.Name "min" p) [e] [⟨some "key", .Name "len" p2, kp⟩] pos) (tMinLen X.K te) := by
  refine ⟨fun pins s σ H Q I h => ?_⟩
  refine wpAny_Call_Name_kw (ld_blt I hg hm (u := .builtin "min") boot_min ?_)
  have ha : PA X [e] (tCons te tNil) := pa_cons he pa_nil (hs := hst)
  refine PyProof.Rows.callWith_kw (thn (ha.run pos pins s σ H (fun vs H1 => on1 vs fun x => rMinLen X.K [x] H1 Q) I h) fun us s1 ⟨vs, H1, I1, r1, q1⟩ => ?_) (by rw [hst]; rfl) (by rw [hst]; rfl) rfl rfl
  obtain ⟨x, rfl, q1⟩ := on1_ex q1
  show wpAny _ _ (evalAll [(do let v ← eval (.Name "len" p2) X.env; standAt pos; pure v)]) _ _ s1
  refine wpAny_evalAll_cons (wpAny_bind (ld_blt I1 hg2 hm2 (u := .builtin "len") boot_len (wpAny_bind (wpAny_standAt (wpAny_pure (wpAny_evalAll_nil ?_))))))
  obtain ⟨u, rfl, rx⟩ := vals1 r1
  obtain ⟨x', e1, q2⟩ := on1_ex q1
  cases e1
  obtain ⟨a, rfl, q3⟩ := onRef_ex q2
  obtain rfl : u = Value.ref a := rx
  exact minLen_ok hc I1 q1
end
/-! ### t[::-1] -/
theorem fm_congr {α β : Type} {f g : α → Option β} : ∀ {l : List α}, (∀ x ∈ l, f x = g x) → l.filterMap f = l.filterMap g
  | [], _ => rfl
  | x :: l, h => by
    rw [List.filterMap_cons, List.filterMap_cons, h x (List.mem_cons_self ..), fm_congr fun y hy => h y (List.mem_cons_of_mem _ hy)]
theorem pick_rev (xs : Array Value) : ((List.range xs.size).filterMap fun (k : Nat) => xs[(((xs.size : Int) - 1) + (k : Int) * (-1)).toNat]?).toArray = xs.toList.reverse.toArray := by
  have e := HT.pick_gen xs.toList.reverse.toArray 0 xs.size
  have e2 : ((List.range xs.size).filterMap fun (k : Nat) => xs[(((xs.size : Int) - 1) + (k : Int) * (-1)).toNat]?) = ((List.range xs.size).filterMap fun (m : Nat) => xs.toList.reverse.toArray[(((0 : Nat) : Int) + (m : Int) * 1).toNat]?) := by
    refine fm_congr fun k hk => ?_
    have hk := List.mem_range.mp hk
    have h1 : (((xs.size : Int) - 1) + (k : Int) * (-1)).toNat = xs.size - 1 - k := by omega
    have h2 : (((0 : Nat) : Int) + (k : Int) * 1).toNat = k := by omega
    rw [h1, h2, ← Array.getElem?_toList]
    simp only [List.getElem?_toArray]
    rw [List.getElem?_reverse (by rw [Array.length_toList]; exact hk), Array.length_toList]
  rw [e2, e, List.drop_zero, List.take_of_length_le]
  rw [List.length_reverse, Array.length_toList]
  exact Nat.le_refl _
section
variable {prog : Program} {w : World} {A : Around} {E : Value → Shared → Prop} {s : Shared}
theorem getItem_tuple_rev {t sl : Addr} {items : Array Value} {vs : Value} {Q : Value → Shared → Prop} (ht : IsTup s.heap t items) (hs : s.heap.IsSliceOf sl .none .none vs) (ps : IsPart vs (some (-1)))
    (h : Q (.ref s.heap.objs.size) { s with heap := s.heap.push { cls := .type "tuple", data := .seq items.toList.reverse.toArray } }) (hsz : items.size ≤ sizeLine) : wpAny (model prog w) A (getItem (.ref t) (.ref sl)) Q E s := by
  obtain ⟨os, hos, hcs, hds⟩ := id hs
  have hTs : s.TypeIs (.ref sl) "slice" := ⟨os, hos, hcs⟩
  have htake : sizeOk (.seq items.toList.reverse.toArray) := by
    show items.toList.reverse.toArray.size ≤ sizeLine
    rw [List.size_toArray, List.length_reverse, Array.length_toList]
    exact hsz
  unfold getItem
  try with_reducible refine wpAny_holding ?_
  first | refine wpAny_bind (wpAny_pure ?_) | skip
  refine wpAny_bind (wpAny_sequenceKey ht.typeIs (by decide) ?_)
  refine wpAny_bind (wpAny_callSpecial?_slot (name := Str.ofString "__getitem__") ht.typeIs PyProof.Rows.slot_tuple_getitem
    (wpAny_call_entry PyProof.Rows.slot_tuple_getitem ht.typeIs entry_tuple_getitem ?_ (args_tuple_getitem _ _)))
  show wpAny _ _ (Builtin.Tuple.tupleItemsOf (.ref t) >>= _) _ _ s
  refine wpAny_bind (tupleItemsOf_ ht ?_)
  refine wpAny_bind (wpAny_typeOf hTs ?_)
  rw [if_pos (by decide)]
  refine wpAny_bind (?_ : wpAny _ _ (Builtin.Slice.sliceApplied (.ref sl) (pure (items.size : Int))) _ _ s)
  unfold Builtin.Slice.sliceApplied Builtin.Slice.sliceFields
  refine wpAny_bind (wpAny_bind (wpAny_field hos hds (x := .none) rfl (wpAny_bind (wpAny_field hos hds (x := .none) rfl (wpAny_bind (wpAny_field hos hds (x := vs) rfl (wpAny_pure ?_)))))))
  refine wpAny_bind (HT.slicePart_ ps ?_)
  show wpAny _ _ (if ((-1 : Int) == 0) = true then _ else _) _ _ s
  rw [if_neg (by decide)]
  refine wpAny_bind (PyProof.Rows.slicePart_none (wpAny_bind (PyProof.Rows.slicePart_none (wpAny_bind (wpAny_pure ?_)))))
  have e1 : Builtin.Slice.sliceAdjust none none (-1) (items.size : Int) = ((items.size : Int) - 1, -1) := rfl
  have e2 : Builtin.Slice.slicePlaces ((items.size : Int) - 1) (-1) (-1) = items.size := by
    unfold Builtin.Slice.slicePlaces
    rw [if_neg (by decide)]
    split
    · rw [show (-(-1 : Int)) = 1 by decide, Int.ediv_one]; omega
    · omega
  show wpAny _ _ (match Builtin.Slice.sliceAdjust none none (-1) (items.size : Int) with | (lo, hi) => pure (lo, (-1 : Int), Builtin.Slice.slicePlaces lo hi (-1))) _ _ s
  rw [e1]
  show wpAny _ _ (pure ((items.size : Int) - 1, (-1 : Int), Builtin.Slice.slicePlaces ((items.size : Int) - 1) (-1) (-1))) _ _ s
  rw [e2]
  refine wpAny_pure ?_
  show wpAny _ _ (if (((items.size : Int) - 1) == 0 && (-1 : Int) == 1 && items.size == items.size) = true then _ else _) _ _ s
  rw [if_neg (by rw [show ((-1 : Int) == 1) = false by decide, Bool.and_false, Bool.false_and]; exact Bool.false_ne_true), pick_rev]
  first
    | exact wpAny_bind (m := Builtin.Tuple.tupleExact _) (wpAny_newObj_type (wpAny_pure ⟨_, rfl, wpAny_pure h⟩) htake)
    | exact wpAny_bind (m := Builtin.Tuple.tupleExact _) (wpAny_newObj_type (wpAny_bind (wpAny_pure (wpAny_pure ⟨_, rfl, wpAny_pure h⟩))) htake)
    | exact wpAny_bind (wpAny_bind (m := Builtin.Tuple.tupleExact _) (wpAny_newObj_type (wpAny_pure (wpAny_pure ⟨_, rfl, wpAny_pure h⟩)) htake))
    | exact wpAny_bind (wpAny_bind (m := Builtin.Tuple.tupleExact _) (wpAny_newObj_type (wpAny_pure ⟨_, rfl, wpAny_pure h⟩) htake))
end
section
variable {X : Cx}
def tRevT (K : PySem.W.Frag) (te : TE) : TE := fun σ H Q => te σ H fun x H1 => onRef x fun a => ∃ xs, SqT K H1 a xs ∧ ∀ p, H1 p = none → Q (.ref p) (upd H1 p (.tup xs.reverse))
theorem e_revT {e : Expr} {te : TE} {k : Nat} {p1 p2 p3 pos : Pos} (he : PE X e te) : PE X (.Subscript e (.Slice none none (some (.UnaryOp .USub (.Constant (.int 1) k p1) p2)) p3) pos) (tRevT X.K te) := by
  refine ⟨fun pins s σ H Q I h => ?_⟩
  refine Subscript_ (thn (he.run pins s σ H _ I h) fun v s1 ⟨x, H1, I1, r1, q1⟩ => ?_)
  obtain ⟨a, rfl, xs, hx, q⟩ := onRef_ex q1
  cases r1
  have hst : PO X (some (.UnaryOp .USub (.Constant (.int 1) k p1) p2)) (tPart (tUn (rU fun i => .int (-i)) (tC (.int 1)))) := po_some (pe_un un_neg pe_int)
  refine wpAny_Slice (thn (po_none.run pins s1 σ H1 (fun o H2 => o = none ∧ H2 = H1) I1 ⟨rfl, rfl⟩) fun vl s2 ⟨l, H2, I2, pl, el, e2⟩ => ?_)
  subst el e2
  refine thn (po_none.run pins s2 σ H2 (fun o H3 => o = none ∧ H3 = H2) I2 ⟨rfl, rfl⟩) fun vu s3 ⟨u, H3, I3, pu, eu, e3⟩ => ?_
  subst eu e3
  refine thn (hst.run pins s3 σ H3 (fun o H4 => o = some (-1) ∧ H4 = H3) I3 ⟨1, rfl, -1, rfl, rfl, rfl⟩) fun vs s4 ⟨o, H4, I4, ps, eo, e4⟩ => ?_
  subst eo e4
  cases pl
  cases pu
  have I5 : L2.Inv X pins σ H4 { s4 with heap := s4.heap.push { cls := .type "slice", data := .fields #[.none, .none, vs] } } := I4.kept (t' := s4.toks) fun b ob q => Heap.get?_push_of_some _ q
  obtain ⟨its, r, ht, hz⟩ := I5.tuple hx
  have hlen := r.length
  show wpAny (model X.prog X.w) X.A (subscriptTail e (.Slice none none (some (.UnaryOp .USub (.Constant (.int 1) k p1) p2)) p3) (.ref a) (.ref s4.heap.objs.size)) (EP X pins σ Q) X.xe { s4 with heap := s4.heap.push { cls := .type "slice", data := .fields #[.none, .none, vs] } }
  refine tail_any (ops := [.ref a, .ref s4.heap.objs.size]) ht.typeIs (PyProof.Rows.slot_tuple_getitem.lookup) ?_ (by with_unfolding_all rfl)
  refine getItem_tuple_rev ht (Heap.IsSliceOf.new _ .none .none vs) ps ?_ (by rw [List.size_toArray]; omega)
  refine ⟨.ref _, _, I5.laid (t' := s4.toks) (o := .tup xs.reverse) (fun b ob q => Heap.get?_push_of_some _ q) (Nat.le_refl _) ?_, rfl, q _ (I5.hok.fresh (Nat.le_refl _))⟩
  exact ⟨by rw [List.length_reverse]; exact hz, _, r.reverse, ⟨_, Heap.get?_push_size _ rfl, rfl, _, rfl⟩⟩
end
/-! ### comprehensions over a dict of plans; with a test -/
theorem lc_pdI {d : Addr} {ep : Nat} {xs : List (PK × Addr × Addr)} {g : TG} {te : TE} {vs : List Nat} {σ : L2.St} {H1 : Hp} {D : Addr} {Qd : Hp → Prop} (hz : xs.length ≤ 1000000) (J : Nat → List V → Hp → Prop) (h0 : J 0 [] (upd H1 D (.lst [])))
    (hl : ∀ i acc H, i ≤ xs.length → H D = some (.lst acc) → J i acc H → H d = some (PD d ep xs) ∧ (d == sysModules) = false)
    (hs : ∀ (i : Nat) (e : PK × Addr × Addr) (acc : List V) (H : Hp), xs[i]? = some e → acc.length = i → H D = some (.lst acc) → J i acc H → ∀ R : VK, (∀ y H4, H4 D = some (.lst acc) → J (i + 1) (acc ++ [y]) (upd H4 D (.lst (acc ++ [y]))) → R y H4) →
      g (.ref e.2.1) (wipe σ vs) H fun σ2 H2 => wipe σ2 vs = wipe σ vs ∧ te σ2 H2 R)
    (hd : ∀ acc H, acc.length = xs.length → H D = some (.lst acc) → J xs.length acc H → Qd H) :
    ∃ W : Nat → Nat → Hp → Prop, (∃ m, W 0 m (upd H1 D (.lst []))) ∧ ∀ i m H, W i m H →
      ((ItP d ep xs).stop i H ∧ Qd H) ∨ ((ItP d ep xs).go i H ∧ ∃ Nx : Hp → Prop, (∀ H', Nx H' → ∃ m', m' < m ∧ W (i + 1) m' H') ∧ ∀ x H', (ItP d ep xs).yld i H x H' → g x (wipe σ vs) H' fun σ2 H2 => wipe σ2 vs = wipe σ vs ∧ tYes σ2 H2 fun b H3 =>
        if b = true then te σ2 H3 fun y H4 => ∃ acc, H4 D = some (.lst acc) ∧ acc.length < sizeLine ∧ Nx (upd H4 D (.lst (acc ++ [y]))) else Nx H3) := by
  refine ⟨fun i m H => m = xs.length - i ∧ i ≤ xs.length ∧ ∃ acc, acc.length = i ∧ H D = some (.lst acc) ∧ J i acc H, ⟨xs.length, by simp, Nat.zero_le _, [], rfl, upd_same, h0⟩, ?_⟩
  rintro i m H ⟨rfl, hi, acc, hac, hD, hJ⟩
  have q := hl i acc H hi hD hJ
  by_cases hlt : i < xs.length
  · refine .inr ⟨⟨q, hlt⟩, fun H' => ∃ ac2, ac2.length = i + 1 ∧ H' D = some (.lst ac2) ∧ J (i + 1) ac2 H', fun H' p' => ⟨xs.length - (i + 1), by omega, rfl, hlt, p'⟩, fun x H' y => ?_⟩
    obtain ⟨e, e', hy, rfl⟩ := y
    subst e
    exact hs i e' acc _ hy hac hD hJ (fun y H4 => ∃ acc, H4 D = some (.lst acc) ∧ acc.length < sizeLine ∧ ∃ ac2, ac2.length = i + 1 ∧ (upd H4 D (.lst (acc ++ [y]))) D = some (.lst ac2) ∧ J (i + 1) ac2 (upd H4 D (.lst (acc ++ [y])))) (fun y H4 e j => ⟨acc, e, by rw [hac, sizeLine_eq]; omega, acc ++ [y], by simp [hac], upd_same, j⟩)
  · have e : i = xs.length := by omega
    subst e
    exact .inl ⟨⟨q, Nat.le_refl _⟩, hd acc H hac hD hJ⟩
/-- [x for x in xs if p x] -/
theorem lc_tupFil {K : PySem.W.Frag} {a : Addr} {xs : List V} {g : TG} {tt : TT} {te : TE} {vs : List Nat} {σ : L2.St} {H1 : Hp} {D : Addr} {Qd : Hp → Prop} (p : V → Bool) (hn : H1 D = none) (hz : xs.length ≤ 1000000) (hS : SqT K H1 a xs)
    (hs : ∀ (i : Nat) (x : V) (H : Hp), xs[i]? = some x → Same H1 H → ∀ (R1 : VK) (R2 : Hp → Prop), (p x = true → R1 x H) → (p x = false → R2 H) → g x (wipe σ vs) H fun σ2 H2 => wipe σ2 vs = wipe σ vs ∧ tt σ2 H2 fun b H3 => if b = true then te σ2 H3 R1 else R2 H3)
    (hd : ∀ H, Same H1 H → H D = some (.lst (xs.filter p)) → Qd H) :
    ∃ W : Nat → Nat → Hp → Prop, (∃ m, W 0 m (upd H1 D (.lst []))) ∧ ∀ i m H, W i m H →
      ((Itt K a).stop i H ∧ Qd H) ∨ ((Itt K a).go i H ∧ ∃ Nx : Hp → Prop, (∀ H', Nx H' → ∃ m', m' < m ∧ W (i + 1) m' H') ∧ ∀ x H', (Itt K a).yld i H x H' → g x (wipe σ vs) H' fun σ2 H2 => wipe σ2 vs = wipe σ vs ∧ tt σ2 H2 fun b H3 =>
        if b = true then te σ2 H3 fun y H4 => ∃ acc, H4 D = some (.lst acc) ∧ acc.length < sizeLine ∧ Nx (upd H4 D (.lst (acc ++ [y]))) else Nx H3) := by
  refine lc_tup (xs := xs) (fun i H => H D = some (.lst ((xs.take i).filter p)) ∧ Same H1 H) ⟨upd_same, Same.upd hn⟩ (fun i H hi h => sameT h.2 hS) (fun i x H hx h => ?_) (fun H h => ?_)
  · obtain ⟨hD, e⟩ := h
    have hi := (List.getElem?_eq_some_iff.mp hx).1
    refine hs i x H hx e (fun y H4 => ∃ acc, H4 D = some (.lst acc) ∧ acc.length < sizeLine ∧ (upd H4 D (.lst (acc ++ [y]))) D = some (.lst ((xs.take (i + 1)).filter p)) ∧ Same H1 (upd H4 D (.lst (acc ++ [y])))) (fun H4 => H4 D = some (.lst ((xs.take (i + 1)).filter p)) ∧ Same H1 H4) (fun hp => ?_) (fun hp => ?_)
    · refine ⟨_, hD, ?_, ?_, newL hn e⟩
      · have h1 := List.length_filter_le p (xs.take i)
        rw [List.length_take] at h1
        rw [sizeLine_eq]
        omega
      · rw [upd_same, List.take_add_one, hx, List.filter_append]
        simp [hp]
    · refine ⟨?_, e⟩
      rw [hD, List.take_add_one, hx, List.filter_append]
      simp [hp]
  · refine hd H h.2 ?_
    rw [h.1, List.take_length]
end Sp
namespace Sp
open PySem PySem.Spec PyProof.Rows L2
def fIsB : R2 := fun x y H Q => match x, y with
  | .bl a, .bl b => Q (.bl (decide (a = b))) H
  | _, _ => False
def fNotB : R2 := fun x y H Q => match x, y with
  | .bl a, .bl b => Q (.bl (!decide (a = b))) H
  | _, _ => False
section
variable {X : Cx}
theorem o_isB : OpR X (compareOp .Is) fIsB := OpR.imp op_isBl fun x y H Q h => by
  cases x <;> cases y <;> first
    | exact h.elim
    | exact ⟨_, _, rfl, rfl, h⟩
theorem o_notB : OpR X (compareOp .IsNot) fNotB := OpR.imp op_notBl fun x y H Q h => by
  cases x <;> cases y <;> first
    | exact h.elim
    | exact ⟨_, _, rfl, rfl, h⟩
def tCallK0 (mm : Nat) (sp : L2.Sp) (gV : List V → List V → List V) (E : XK) (tk : TA) : TE := fun σ H Q => tk σ H fun zs H2 => zs.length = mm ∧ sp (gV [] zs) H2 Q E
theorem e_callK0 {CX : CXT} {k : Nat} {f : Addr} {fd : FuncData} {ps ks : List Str} {sp : L2.Sp} {E : XK} {x : Str} {p pos : Pos} {kws : List Keyword} {tk : TA} {g : List Value → List Value → List Value} {gV : List V → List V → List V} (F : FnOk X.prog X.w X.K X.mg X.base CX k f fd ps sp) (hr : Room k X.A) (hg : Gl X x) (hm : X.mg x = some (.ref f)) (hk : PySem.W.keepIn X.K (.ref f) = true) (hb : KBn X.K fd ps 0 ks g gV) (hx : Passes CX X E) (hkw : L2.PK X kws tk)
    (hall : (backToKw pos (keywordEach kws X.env)).all (·.1.isSome) = true := by rfl) (hks : (backToKw pos (keywordEach kws X.env)).filterMap (·.1) = ks := by rfl) (hdb : (x == ("__debug__" : Str)) = false := by decide)
    (hpl : ((backTo pos (starEach [] X.env)).any (·.1) || (backToKw pos (keywordEach kws X.env)).any (·.1.isNone)) = false := by rfl) :
    PE X (.Call (.Name x p) [] kws pos) (tCallK0 ks.length sp gV E tk) := by
  refine ⟨fun pins s σ H Q I h => wpAny_Call_Name_kw (ld_glob I hg hm (PySem.W.callWith_KW0 (h₀ := X.base) I.ok.mod.kin hk hall (thn (hkw.run pos pins s σ H _ I h) fun ws s2 ⟨zs, H2, I2, rz, l2, q2⟩ => ⟨I2.kIn, ?_⟩) hpl) hdb)⟩
  rw [hks]
  exact run_fnN (us := []) (vs := []) F hr hb hx I2 .nil rz rfl l2 q2
/-- repr of a truth -/
def fReprB : List V → Hp → VK → Prop := fun xs H Q => on1 xs fun x => match x with
  | .bl b => Q (.str (if b then "True" else "False")) H
  | _ => False
theorem c_reprB : CallR X (.builtin "repr") fReprB := fun pins s σ H xs us Q I r h => by
  obtain ⟨x, rfl, h⟩ := on1_ex h
  cases x with
  | bl b =>
    obtain ⟨u, rfl, rx⟩ := vals1 r
    cases (show u = Value.bool b from rx)
    exact PySem.P.repr_of_bool ⟨.str _, H, I.tok _, ⟨_, rfl⟩, h⟩
  | _ => exact h.elim
end
end Sp
namespace Sp
open PySem PySem.Spec PyProof.Rows L2
theorem tuple_mul1 (l : Addr) (items : Array Value) (n : Nat) (dd : Option Addr) (sl : Array (Option Value)) (u : Tok) :
    Meets (Builtin.«tuple.__mul__» ⟨[.ref l, .int 1 u], []⟩) (fun _ R s => s.heap.get? l = some { cls := .type "tuple", dict := dd, data := .seq items n, slots := sl } ∧ R (.ok (.ret (Value.ref l))) s) :=
  .of_wp fun prog w A R s h => by
    obtain ⟨hp, g, d, tk, os⟩ := s
    obtain ⟨hl, h⟩ := h
    have f1 := AutoSeq1.idx_int
    have c1 : (items.isEmpty || (1 : Int) == 1) = true := by simp
    wp_walk using wpAny_loadPart' hl
    repeat (first
      | (refine wpAny_ite_true (decide_eq_true c1) ?_; wp_walk using wpAny_loadPart' hl))
    exact ⟨_, rfl, h⟩
theorem tuple_mul0 (l : Addr) (items : Array Value) (n : Nat) (dd : Option Addr) (sl : Array (Option Value)) (u : Tok) (hi : items.isEmpty = false) :
    Meets (Builtin.«tuple.__mul__» ⟨[.ref l, .int 0 u], []⟩) (fun _ R s => s.heap.get? l = some { cls := .type "tuple", dict := dd, data := .seq items n, slots := sl } ∧
      R (.ok (.ret (Value.ref s.heap.objs.size))) { s with heap := s.heap.push { cls := Value.type "tuple", data := Data.seq #[] }, toks := s.toks }) :=
  .of_wp fun prog w A R s h => by
    obtain ⟨hp, g, d, tk, os⟩ := s
    obtain ⟨hl, h⟩ := h
    have f1 := AutoSeq1.idx_int
    have c1 : (items.isEmpty || (0 : Int) == 1) = false := by rw [hi]; rfl
    have c2 : (decide ((0 : Int) ≤ 0) || items.isEmpty) = true := by simp
    wp_walk using wpAny_loadPart' hl
    repeat (first
      | (refine wpAny_ite_false (decide_eq_false (by rw [c1]; exact Bool.false_ne_true)) ?_; wp_walk using wpAny_loadPart' hl)
      | (refine wpAny_ite_true (decide_eq_true c2) ?_; wp_walk using wpAny_loadPart' hl))
    exact ⟨_, rfl, h⟩
def fRepT (K : PySem.W.Frag) : R2 := fun x y H Q => onRef x fun l => onInt y fun k => ∃ xs, SqT K H l xs ∧ xs ≠ [] ∧ 0 ≤ k ∧ k ≤ 1000 ∧ xs.length ≤ 1000 ∧ (k = 1 → Q (.ref l) H) ∧ (k ≠ 1 → ∀ p, H p = none → Q (.ref p) (upd H p (.tup (List.replicate k.toNat xs).flatten)))
def fRepL : R2 := fun x y H Q => onRef x fun l => onInt y fun k => ∃ xs, H l = some (.lst xs) ∧ -(2 ^ 63) ≤ k ∧ k < 2 ^ 63 ∧ xs.length * k.toNat ≤ sizeLine ∧ ∀ p, H p = none → Q (.ref p) (upd H p (.lst (List.replicate k.toNat xs).flatten))
section
variable {X : Cx}
theorem o_repL : OpR X (binaryOp .Mult) fRepL := OpR.imp op_rep fun x y H Q h => by
  obtain ⟨l, rfl, h⟩ := onRef_ex h
  obtain ⟨k, rfl, xs, h1⟩ := onInt_ex h
  exact ⟨l, k, xs, rfl, rfl, h1⟩
theorem o_repT : OpR X (binaryOp .Mult) (fRepT X.K) := by
  intro pins s σ H x y v u Q I rx ry h
  obtain ⟨l, rfl, h⟩ := onRef_ex h
  obtain ⟨k, rfl, xs, hT, hne, h1, h2, hz, q1, q2⟩ := onInt_ex h
  by_cases hk : 2 ≤ k
  · exact op_repT pins s σ H _ _ v u Q I rx ry ⟨l, k, xs, rfl, rfl, hT, hne, hk, h2, hz, q2 (by omega)⟩
  cases rx
  obtain ⟨t, rfl⟩ := ry
  obtain ⟨its, r, ⟨⟨cls, dd, data, sl⟩, ho, hc, n, hd⟩, hs⟩ := I.tuple hT
  simp only at hc hd
  subst hc hd
  have hle : its.length = xs.length := r.length.symm
  have hn : its ≠ [] := fun e => hne (by
    rw [e] at hle
    exact List.eq_nil_of_length_eq_zero hle.symm)
  have hi : its.toArray.isEmpty = false := by
    cases its with
    | nil => exact absurd rfl hn
    | cons a b => rfl
  have hk01 : k = 0 ∨ k = 1 := by omega
  rcases hk01 with rfl | rfl
  · refine wpAny_binaryOp_repeat_ref (T := "tuple") (U := "int") (by decide) ⟨_, ho, rfl⟩ (fun s' => typeIs_int s' 0 t) noFill_tuple_mul F.fills_int_mul F.slot_int_rmul repeat_tuple F.slot_int_index.lookup
      (call_meets F.slot_int_rmul (typeIs_int s 0 t) F.entry_int_rmul (F.args_int_rmul_2 _ _) (int_rmul_tuple 0 t l its.toArray n dd sl)
        ⟨ho, rfl, ⟨_, ho, rfl⟩, call_meets F.slot_tuple_mul ⟨_, ho, rfl⟩ F.entry_tuple_mul (F.args_tuple_mul_2 _ _) (tuple_mul0 l its.toArray n dd sl t hi) ⟨ho, ?_⟩⟩)
    refine ⟨.ref s.heap.objs.size, _, I.laid (t' := s.toks) (o := .tup []) (fun b ob q => Heap.get?_push_of_some _ q) (Nat.le_refl _) ?_, rfl, q2 (by decide) _ (I.hok.fresh (Nat.le_refl _))⟩
    exact ⟨Nat.zero_le _, [], .nil, IsTup.new _ _⟩
  · refine wpAny_binaryOp_repeat_ref (T := "tuple") (U := "int") (by decide) ⟨_, ho, rfl⟩ (fun s' => typeIs_int s' 1 t) noFill_tuple_mul F.fills_int_mul F.slot_int_rmul repeat_tuple F.slot_int_index.lookup
      (call_meets F.slot_int_rmul (typeIs_int s 1 t) F.entry_int_rmul (F.args_int_rmul_2 _ _) (int_rmul_tuple 1 t l its.toArray n dd sl)
        ⟨ho, rfl, ⟨_, ho, rfl⟩, call_meets F.slot_tuple_mul ⟨_, ho, rfl⟩ F.entry_tuple_mul (F.args_tuple_mul_2 _ _) (tuple_mul1 l its.toArray n dd sl t) ⟨ho, ?_⟩⟩)
    exact ⟨.ref l, H, I, rfl, q1 rfl⟩
end
end Sp
namespace K21
open PySem PySem.Spec PyProof.Rows L2 Sp
def top (i : Nat) : Stmt := PySem.Challenge.pw_spillruns_k21_fewest_by_all_schedules.main.body.getD i (.Pass ⟨0, 0, 0, 0⟩)
abbrev c_WrongValue : Stmt := top 1
abbrev c_InvalidRoom : Stmt := top 2
abbrev c_InvalidFlag : Stmt := top 3
abbrev c_NotAPartner : Stmt := top 4
abbrev c_InvalidKeys : Stmt := top 5
abbrev c_NoAnswer : Stmt := top 6
abbrev c_TooMany : Stmt := top 7
abbrev s_is_integer : Stmt := top 11
def d_is_integer : He.DefD := ⟨("is_integer", none), "is_integer", "is_integer", defArgs s_is_integer, defBody s_is_integer, defScope s_is_integer, [], []⟩
abbrev s_check_keys : Stmt := top 12
def d_check_keys : He.DefD := ⟨("check_keys", none), "check_keys", "check_keys", defArgs s_check_keys, defBody s_check_keys, defScope s_check_keys, [], []⟩
abbrev s_check_room : Stmt := top 14
def d_check_room : He.DefD := ⟨("check_room", none), "check_room", "check_room", defArgs s_check_room, defBody s_check_room, defScope s_check_room, [], []⟩
abbrev c_Best : Stmt := top 15
abbrev s_Best_init : Stmt := inClass c_Best 0
def d_Best_init : He.DefD := ⟨("Best", some "__init__"), "__init__", "Best.__init__", defArgs s_Best_init, defBody s_Best_init, defScope s_Best_init, [], [("down", .bl false)]⟩
abbrev s_Best_room : Stmt := inClass c_Best 1
def d_Best_room : DefA := ⟨recA "property" "Best" "room", "room", "Best.room", defArgs s_Best_room, defBody s_Best_room, defScope s_Best_room, [], []⟩
abbrev s_Best_down : Stmt := inClass c_Best 2
def d_Best_down : DefA := ⟨recA "property" "Best" "down", "down", "Best.down", defArgs s_Best_down, defBody s_Best_down, defScope s_Best_down, [], []⟩
abbrev s_Best_eq : Stmt := inClass c_Best 3
def d_Best_eq : He.DefD := ⟨("Best", some "__eq__"), "__eq__", "Best.__eq__", defArgs s_Best_eq, defBody s_Best_eq, defScope s_Best_eq, [], []⟩
abbrev s_Best_str : Stmt := inClass c_Best 4
def d_Best_str : He.DefD := ⟨("Best", some "__str__"), "__str__", "Best.__str__", defArgs s_Best_str, defBody s_Best_str, defScope s_Best_str, [], []⟩
abbrev s_check_best : Stmt := top 16
def d_check_best : He.DefD := ⟨("check_best", none), "check_best", "check_best", defArgs s_check_best, defBody s_check_best, defScope s_check_best, [], []⟩
abbrev s_goes_on : Stmt := top 19
def d_goes_on : He.DefD := ⟨("goes_on", none), "goes_on", "goes_on", defArgs s_goes_on, defBody s_goes_on, defScope s_goes_on, [], []⟩
abbrev s_plans_behind : Stmt := top 20
def d_plans_behind : He.DefD := ⟨("plans_behind", none), "plans_behind", "plans_behind", defArgs s_plans_behind, defBody s_plans_behind, defScope s_plans_behind, [], []⟩
abbrev s_is_better : Stmt := top 21
def d_is_better : He.DefD := ⟨("is_better", none), "is_better", "is_better", defArgs s_is_better, defBody s_is_better, defScope s_is_better, [], []⟩
abbrev s_plans_led : Stmt := top 22
def d_plans_led : He.DefD := ⟨("plans_led", none), "plans_led", "plans_led", defArgs s_plans_led, defBody s_plans_led, defScope s_plans_led, [], []⟩
abbrev s_plan_closed : Stmt := top 23
def d_plan_closed : He.DefD := ⟨("plan_closed", none), "plan_closed", "plan_closed", defArgs s_plan_closed, defBody s_plan_closed, defScope s_plan_closed, [], []⟩
abbrev s_schedule : Stmt := top 24
def d_schedule : He.DefD := ⟨("schedule", none), "schedule", "schedule", defArgs s_schedule, defBody s_schedule, defScope s_schedule, [], []⟩
abbrev s_fewest : Stmt := top 25
def d_fewest : He.DefD := ⟨("fewest", none), "fewest", "fewest", defArgs s_fewest, defBody s_fewest, defScope s_fewest, [], []⟩
abbrev s__law_source : Stmt := top 27
def d__law_source : He.DefD := ⟨("_law_source", none), "_law_source", "_law_source", defArgs s__law_source, defBody s__law_source, defScope s__law_source, [], []⟩
abbrev s__law_draw : Stmt := top 28
def d__law_draw : He.DefD := ⟨("_law_draw", none), "_law_draw", "_law_draw", defArgs s__law_draw, defBody s__law_draw, defScope s__law_draw, [], []⟩
abbrev s__law_pick : Stmt := top 29
def d__law_pick : He.DefD := ⟨("_law_pick", none), "_law_pick", "_law_pick", defArgs s__law_pick, defBody s__law_pick, defScope s__law_pick, [], []⟩
abbrev s__law_orders : Stmt := top 30
def d__law_orders : He.DefD := ⟨("_law_orders", none), "_law_orders", "_law_orders", defArgs s__law_orders, defBody s__law_orders, defScope s__law_orders, [], []⟩
abbrev s__law_follows : Stmt := top 31
def d__law_follows : He.DefD := ⟨("_law_follows", none), "_law_follows", "_law_follows", defArgs s__law_follows, defBody s__law_follows, defScope s__law_follows, [], []⟩
abbrev s__law_reach : Stmt := top 32
def d__law_reach : He.DefD := ⟨("_law_reach", none), "_law_reach", "_law_reach", defArgs s__law_reach, defBody s__law_reach, defScope s__law_reach, [], []⟩
abbrev s__law_cuts : Stmt := top 33
def d__law_cuts : He.DefD := ⟨("_law_cuts", none), "_law_cuts", "_law_cuts", defArgs s__law_cuts, defBody s__law_cuts, defScope s__law_cuts, [], []⟩
abbrev s__law_fewest : Stmt := top 34
def d__law_fewest : He.DefD := ⟨("_law_fewest", none), "_law_fewest", "_law_fewest", defArgs s__law_fewest, defBody s__law_fewest, defScope s__law_fewest, [], []⟩
abbrev s__law_few : Stmt := top 35
def d__law_few : He.DefD := ⟨("_law_few", none), "_law_few", "_law_few", defArgs s__law_few, defBody s__law_few, defScope s__law_few, [], []⟩
abbrev s__law_right : Stmt := top 36
def d__law_right : He.DefD := ⟨("_law_right", none), "_law_right", "_law_right", defArgs s__law_right, defBody s__law_right, defScope s__law_right, [], []⟩
abbrev s_law : Stmt := top 37
def d_law : He.DefD := ⟨("law", none), "law", "law", defArgs s_law, defBody s_law, defScope s_law, [], []⟩
def fn : List He.DefD := [d_is_integer, d_check_keys, d_check_room, d_Best_init, d_Best_eq, d_Best_str, d_check_best, d_goes_on, d_plans_behind, d_is_better, d_plans_led, d_plan_closed, d_schedule, d_fewest, d__law_source, d__law_draw, d__law_pick, d__law_orders, d__law_follows, d__law_reach, d__law_cuts, d__law_fewest, d__law_few, d__law_right, d_law]
def fa : List He.Fa := [.glo "WrongValue", .glo "InvalidRoom", .glo "InvalidFlag", .glo "NotAPartner", .glo "InvalidKeys", .glo "NoAnswer", .glo "TooMany", .int "MOST_BEST" 3, .int "MOST_KEYS" 2000, .glo "is_integer", .glo "check_keys", .glo "check_room", .glo "Best", .cls "Best", .mkr "Best", .noat "Best" "spec", .noat "Best" "__bool__", .noat "Best" "__len__", .meth "Best" "__eq__", .meth "Best" "__str__", .glo "check_best", .int "MOST_PLANNED" 30, .glo "goes_on", .glo "plans_behind", .glo "is_better", .glo "plans_led", .glo "plan_closed", .glo "schedule", .glo "fewest", .glo "_law_source", .glo "_law_draw", .glo "_law_pick", .glo "_law_orders", .glo "_law_follows", .glo "_law_reach", .glo "_law_cuts", .glo "_law_fewest", .glo "_law_few", .glo "_law_right", .glo "law", .free "ArithmeticError", .free "ValueError", .free "abs", .free "all", .free "bool", .free "divmod", .free "enumerate", .free "int", .free "isinstance", .free "len", .free "max", .free "min", .free "property", .free "range", .free "repr", .free "sorted", .free "tuple"]
def fdA (K : PySem.W.Frag) (f : Addr) : FuncData := match K.lookup f with
  | some ⟨_, _, .func fd, _⟩ => fd
  | _ => default
theorem funD_fd {K : PySem.W.Frag} {x qual : Str} {params : Arguments} {body : List Stmt} {scope : Scope} {dvs : List V} {kws : List (Str × V)} {f : Addr} (h : ∃ fd, FunD K x qual params body scope dvs kws f fd) : FunD K x qual params body scope dvs kws f (fdA K f) := by
  obtain ⟨fd, F⟩ := h
  obtain ⟨oc, od, dV, kV, doc, pm, an, cdv, ct, osl, e, lk, r⟩ := F.ex
  have e2 : fdA K f = fd := by
    unfold fdA
    rw [lk]
  rw [e2]
  exact F
/-- what the text says -/
structure Tx (K : PySem.W.Frag) (mg : Str → Option Value) : Prop where
  g_WrongValue : mg "WrongValue" = some (.ref (He.ga K "WrongValue"))
  g_InvalidRoom : mg "InvalidRoom" = some (.ref (He.ga K "InvalidRoom"))
  g_InvalidFlag : mg "InvalidFlag" = some (.ref (He.ga K "InvalidFlag"))
  g_NotAPartner : mg "NotAPartner" = some (.ref (He.ga K "NotAPartner"))
  g_InvalidKeys : mg "InvalidKeys" = some (.ref (He.ga K "InvalidKeys"))
  g_NoAnswer : mg "NoAnswer" = some (.ref (He.ga K "NoAnswer"))
  g_TooMany : mg "TooMany" = some (.ref (He.ga K "TooMany"))
  i_MOST_BEST : ∃ t, mg "MOST_BEST" = some (.int 3 t)
  i_MOST_KEYS : ∃ t, mg "MOST_KEYS" = some (.int 2000 t)
  g_is_integer : mg "is_integer" = some (.ref (He.ga K "is_integer"))
  F_is_integer : FunD K "is_integer" "is_integer" (defArgs s_is_integer) (defBody s_is_integer) (defScope s_is_integer) [] [] (He.fAd K d_is_integer.at_) (fdA K (He.fAd K d_is_integer.at_))
  g_check_keys : mg "check_keys" = some (.ref (He.ga K "check_keys"))
  F_check_keys : FunD K "check_keys" "check_keys" (defArgs s_check_keys) (defBody s_check_keys) (defScope s_check_keys) [] [] (He.fAd K d_check_keys.at_) (fdA K (He.fAd K d_check_keys.at_))
  g_check_room : mg "check_room" = some (.ref (He.ga K "check_room"))
  F_check_room : FunD K "check_room" "check_room" (defArgs s_check_room) (defBody s_check_room) (defScope s_check_room) [] [] (He.fAd K d_check_room.at_) (fdA K (He.fAd K d_check_room.at_))
  g_Best : mg "Best" = some (.ref (He.ga K "Best"))
  cl_Best : Cls K (He.ga K "Best")
  mk_Best : Mk K (He.ga K "Best") (He.ma K (He.ga K "Best") "__init__")
  no_Best_spec : NoAttr K (He.ga K "Best") "spec"
  I_Best : InsF K (He.ga K "Best")
  O_Best : OwnF K (He.ga K "Best")
  sf_Best : PySem.W.selfFirst K (He.ga K "Best") = true
  ne_Best : PySem.W.findIn K (.ref (He.ga K "Best")) "__ne__" = some (some (.builtin "object.__ne__"))
  no_Best___bool__ : NoAttr K (He.ga K "Best") "__bool__"
  no_Best___len__ : NoAttr K (He.ga K "Best") "__len__"
  F_Best_init : FunD K "__init__" "Best.__init__" (defArgs s_Best_init) (defBody s_Best_init) (defScope s_Best_init) [] [("down", V.bl false)] (He.fAd K d_Best_init.at_) (fdA K (He.fAd K d_Best_init.at_))
  p_Best_room : PropOf K (He.ga K "Best") "room" (pA "Best" "room" K) (d_Best_room.at_ K)
  F_Best_room : FunD K "room" "Best.room" (defArgs s_Best_room) (defBody s_Best_room) (defScope s_Best_room) [] [] (d_Best_room.at_ K) (fdA K (d_Best_room.at_ K))
  p_Best_down : PropOf K (He.ga K "Best") "down" (pA "Best" "down" K) (d_Best_down.at_ K)
  F_Best_down : FunD K "down" "Best.down" (defArgs s_Best_down) (defBody s_Best_down) (defScope s_Best_down) [] [] (d_Best_down.at_ K) (fdA K (d_Best_down.at_ K))
  m_Best_eq : Meth K (He.ga K "Best") "__eq__" (He.ma K (He.ga K "Best") "__eq__")
  F_Best_eq : FunD K "__eq__" "Best.__eq__" (defArgs s_Best_eq) (defBody s_Best_eq) (defScope s_Best_eq) [] [] (He.fAd K d_Best_eq.at_) (fdA K (He.fAd K d_Best_eq.at_))
  m_Best_str : Meth K (He.ga K "Best") "__str__" (He.ma K (He.ga K "Best") "__str__")
  F_Best_str : FunD K "__str__" "Best.__str__" (defArgs s_Best_str) (defBody s_Best_str) (defScope s_Best_str) [] [] (He.fAd K d_Best_str.at_) (fdA K (He.fAd K d_Best_str.at_))
  g_check_best : mg "check_best" = some (.ref (He.ga K "check_best"))
  F_check_best : FunD K "check_best" "check_best" (defArgs s_check_best) (defBody s_check_best) (defScope s_check_best) [] [] (He.fAd K d_check_best.at_) (fdA K (He.fAd K d_check_best.at_))
  i_MOST_PLANNED : ∃ t, mg "MOST_PLANNED" = some (.int 30 t)
  g_goes_on : mg "goes_on" = some (.ref (He.ga K "goes_on"))
  F_goes_on : FunD K "goes_on" "goes_on" (defArgs s_goes_on) (defBody s_goes_on) (defScope s_goes_on) [] [] (He.fAd K d_goes_on.at_) (fdA K (He.fAd K d_goes_on.at_))
  g_plans_behind : mg "plans_behind" = some (.ref (He.ga K "plans_behind"))
  F_plans_behind : FunD K "plans_behind" "plans_behind" (defArgs s_plans_behind) (defBody s_plans_behind) (defScope s_plans_behind) [] [] (He.fAd K d_plans_behind.at_) (fdA K (He.fAd K d_plans_behind.at_))
  g_is_better : mg "is_better" = some (.ref (He.ga K "is_better"))
  F_is_better : FunD K "is_better" "is_better" (defArgs s_is_better) (defBody s_is_better) (defScope s_is_better) [] [] (He.fAd K d_is_better.at_) (fdA K (He.fAd K d_is_better.at_))
  g_plans_led : mg "plans_led" = some (.ref (He.ga K "plans_led"))
  F_plans_led : FunD K "plans_led" "plans_led" (defArgs s_plans_led) (defBody s_plans_led) (defScope s_plans_led) [] [] (He.fAd K d_plans_led.at_) (fdA K (He.fAd K d_plans_led.at_))
  g_plan_closed : mg "plan_closed" = some (.ref (He.ga K "plan_closed"))
  F_plan_closed : FunD K "plan_closed" "plan_closed" (defArgs s_plan_closed) (defBody s_plan_closed) (defScope s_plan_closed) [] [] (He.fAd K d_plan_closed.at_) (fdA K (He.fAd K d_plan_closed.at_))
  g_schedule : mg "schedule" = some (.ref (He.ga K "schedule"))
  F_schedule : FunD K "schedule" "schedule" (defArgs s_schedule) (defBody s_schedule) (defScope s_schedule) [] [] (He.fAd K d_schedule.at_) (fdA K (He.fAd K d_schedule.at_))
  g_fewest : mg "fewest" = some (.ref (He.ga K "fewest"))
  F_fewest : FunD K "fewest" "fewest" (defArgs s_fewest) (defBody s_fewest) (defScope s_fewest) [] [] (He.fAd K d_fewest.at_) (fdA K (He.fAd K d_fewest.at_))
  g__law_source : mg "_law_source" = some (.ref (He.ga K "_law_source"))
  F__law_source : FunD K "_law_source" "_law_source" (defArgs s__law_source) (defBody s__law_source) (defScope s__law_source) [] [] (He.fAd K d__law_source.at_) (fdA K (He.fAd K d__law_source.at_))
  g__law_draw : mg "_law_draw" = some (.ref (He.ga K "_law_draw"))
  F__law_draw : FunD K "_law_draw" "_law_draw" (defArgs s__law_draw) (defBody s__law_draw) (defScope s__law_draw) [] [] (He.fAd K d__law_draw.at_) (fdA K (He.fAd K d__law_draw.at_))
  g__law_pick : mg "_law_pick" = some (.ref (He.ga K "_law_pick"))
  F__law_pick : FunD K "_law_pick" "_law_pick" (defArgs s__law_pick) (defBody s__law_pick) (defScope s__law_pick) [] [] (He.fAd K d__law_pick.at_) (fdA K (He.fAd K d__law_pick.at_))
  g__law_orders : mg "_law_orders" = some (.ref (He.ga K "_law_orders"))
  F__law_orders : FunD K "_law_orders" "_law_orders" (defArgs s__law_orders) (defBody s__law_orders) (defScope s__law_orders) [] [] (He.fAd K d__law_orders.at_) (fdA K (He.fAd K d__law_orders.at_))
  g__law_follows : mg "_law_follows" = some (.ref (He.ga K "_law_follows"))
  F__law_follows : FunD K "_law_follows" "_law_follows" (defArgs s__law_follows) (defBody s__law_follows) (defScope s__law_follows) [] [] (He.fAd K d__law_follows.at_) (fdA K (He.fAd K d__law_follows.at_))
  g__law_reach : mg "_law_reach" = some (.ref (He.ga K "_law_reach"))
  F__law_reach : FunD K "_law_reach" "_law_reach" (defArgs s__law_reach) (defBody s__law_reach) (defScope s__law_reach) [] [] (He.fAd K d__law_reach.at_) (fdA K (He.fAd K d__law_reach.at_))
  g__law_cuts : mg "_law_cuts" = some (.ref (He.ga K "_law_cuts"))
  F__law_cuts : FunD K "_law_cuts" "_law_cuts" (defArgs s__law_cuts) (defBody s__law_cuts) (defScope s__law_cuts) [] [] (He.fAd K d__law_cuts.at_) (fdA K (He.fAd K d__law_cuts.at_))
  g__law_fewest : mg "_law_fewest" = some (.ref (He.ga K "_law_fewest"))
  F__law_fewest : FunD K "_law_fewest" "_law_fewest" (defArgs s__law_fewest) (defBody s__law_fewest) (defScope s__law_fewest) [] [] (He.fAd K d__law_fewest.at_) (fdA K (He.fAd K d__law_fewest.at_))
  g__law_few : mg "_law_few" = some (.ref (He.ga K "_law_few"))
  F__law_few : FunD K "_law_few" "_law_few" (defArgs s__law_few) (defBody s__law_few) (defScope s__law_few) [] [] (He.fAd K d__law_few.at_) (fdA K (He.fAd K d__law_few.at_))
  g__law_right : mg "_law_right" = some (.ref (He.ga K "_law_right"))
  F__law_right : FunD K "_law_right" "_law_right" (defArgs s__law_right) (defBody s__law_right) (defScope s__law_right) [] [] (He.fAd K d__law_right.at_) (fdA K (He.fAd K d__law_right.at_))
  g_law : mg "law" = some (.ref (He.ga K "law"))
  F_law : FunD K "law" "law" (defArgs s_law) (defBody s_law) (defScope s_law) [] [] (He.fAd K d_law.at_) (fdA K (He.fAd K d_law.at_))
  b_ArithmeticError : mg "ArithmeticError" = none
  b_ValueError : mg "ValueError" = none
  b_abs : mg "abs" = none
  b_all : mg "all" = none
  b_bool : mg "bool" = none
  b_divmod : mg "divmod" = none
  b_enumerate : mg "enumerate" = none
  b_int : mg "int" = none
  b_isinstance : mg "isinstance" = none
  b_len : mg "len" = none
  b_max : mg "max" = none
  b_min : mg "min" = none
  b_property : mg "property" = none
  b_range : mg "range" = none
  b_repr : mg "repr" = none
  b_sorted : mg "sorted" = none
  b_tuple : mg "tuple" = none
def loose : List Str := (["WrongValue", "InvalidRoom", "InvalidFlag", "NotAPartner", "InvalidKeys", "NoAnswer", "TooMany", "MOST_BEST", "MOST_KEYS", "is_integer", "check_keys", "check_room", "Best", "check_best", "MOST_PLANNED", "goes_on", "plans_behind", "is_better", "plans_led", "plan_closed", "schedule", "fewest", "_law_source", "_law_draw", "_law_pick", "_law_orders", "_law_follows", "_law_reach", "_law_cuts", "_law_fewest"] : List Str) ++ (["_law_few", "_law_right"] : List Str)
abbrev R : PySem.W.OpenRow := PySem.W.OpenLaw.row PySem.Challenge.rw_spillruns_k21_fewest_by_all_schedules
def da : List DefA := [d_Best_room, d_Best_down]
def exs : List (PySem.W.Frag → Bool) := [insB "Best", ownB "Best", sfB "Best", blB "Best" "__ne__" "object.__ne__", propB "Best" "room", propB "Best" "down"]
abbrev hk : PySem.W.Hook := hookA 6 fa fn da exs
def ob (s : PySem.W.SharedT) : AlA := obsA 6 fa fn da exs (HandSHeadRun.getT s)
theorem ob_eq (s : PySem.W.SharedT) : ob s = hk.obs s.abs := obsA_eq (HandSHeadRun.getT_eq s)
theorem run (w : World) : HandSHeadRun.RunEq R (PySem.W.view R.prog [37]) hk ob 20000 loose w := by
  intro os
  kernel_rfl
theorem tx_of {K : PySem.W.Frag} {h : Heap} {mg : Str → Option Value} (X : K.In h) (G : h.Ns mainGlobals mg) (c : SaysA fa fn da exs K) : Tx K mg :=
  ⟨He.glo_ok X G (c.d.fact 0),
   He.glo_ok X G (c.d.fact 1),
   He.glo_ok X G (c.d.fact 2),
   He.glo_ok X G (c.d.fact 3),
   He.glo_ok X G (c.d.fact 4),
   He.glo_ok X G (c.d.fact 5),
   He.glo_ok X G (c.d.fact 6),
   He.int_ok X G (c.d.fact 7),
   He.int_ok X G (c.d.fact 8),
   He.glo_ok X G (c.d.fact 9),
   funD_fd (c.d.def_ 0 (d := d_is_integer) rfl),
   He.glo_ok X G (c.d.fact 10),
   funD_fd (c.d.def_ 1 (d := d_check_keys) rfl),
   He.glo_ok X G (c.d.fact 11),
   funD_fd (c.d.def_ 2 (d := d_check_room) rfl),
   He.glo_ok X G (c.d.fact 12),
   He.cls_ok (c.d.fact 13),
   He.mkr_ok (c.d.fact 14),
   He.noat_ok (c.d.fact 15),
   insB_ok (c.ex 0),
   ownB_ok (c.ex 1),
   c.ex 2,
   blB_ok (c.ex 3),
   He.noat_ok (c.d.fact 16),
   He.noat_ok (c.d.fact 17),
   funD_fd (c.d.def_ 3 (d := d_Best_init) rfl),
   propB_ok (c.ex 4),
   funD_fd (c.def_ 0 (d := d_Best_room) rfl),
   propB_ok (c.ex 5),
   funD_fd (c.def_ 1 (d := d_Best_down) rfl),
   He.meth_ok (c.d.fact 18),
   funD_fd (c.d.def_ 4 (d := d_Best_eq) rfl),
   He.meth_ok (c.d.fact 19),
   funD_fd (c.d.def_ 5 (d := d_Best_str) rfl),
   He.glo_ok X G (c.d.fact 20),
   funD_fd (c.d.def_ 6 (d := d_check_best) rfl),
   He.int_ok X G (c.d.fact 21),
   He.glo_ok X G (c.d.fact 22),
   funD_fd (c.d.def_ 7 (d := d_goes_on) rfl),
   He.glo_ok X G (c.d.fact 23),
   funD_fd (c.d.def_ 8 (d := d_plans_behind) rfl),
   He.glo_ok X G (c.d.fact 24),
   funD_fd (c.d.def_ 9 (d := d_is_better) rfl),
   He.glo_ok X G (c.d.fact 25),
   funD_fd (c.d.def_ 10 (d := d_plans_led) rfl),
   He.glo_ok X G (c.d.fact 26),
   funD_fd (c.d.def_ 11 (d := d_plan_closed) rfl),
   He.glo_ok X G (c.d.fact 27),
   funD_fd (c.d.def_ 12 (d := d_schedule) rfl),
   He.glo_ok X G (c.d.fact 28),
   funD_fd (c.d.def_ 13 (d := d_fewest) rfl),
   He.glo_ok X G (c.d.fact 29),
   funD_fd (c.d.def_ 14 (d := d__law_source) rfl),
   He.glo_ok X G (c.d.fact 30),
   funD_fd (c.d.def_ 15 (d := d__law_draw) rfl),
   He.glo_ok X G (c.d.fact 31),
   funD_fd (c.d.def_ 16 (d := d__law_pick) rfl),
   He.glo_ok X G (c.d.fact 32),
   funD_fd (c.d.def_ 17 (d := d__law_orders) rfl),
   He.glo_ok X G (c.d.fact 33),
   funD_fd (c.d.def_ 18 (d := d__law_follows) rfl),
   He.glo_ok X G (c.d.fact 34),
   funD_fd (c.d.def_ 19 (d := d__law_reach) rfl),
   He.glo_ok X G (c.d.fact 35),
   funD_fd (c.d.def_ 20 (d := d__law_cuts) rfl),
   He.glo_ok X G (c.d.fact 36),
   funD_fd (c.d.def_ 21 (d := d__law_fewest) rfl),
   He.glo_ok X G (c.d.fact 37),
   funD_fd (c.d.def_ 22 (d := d__law_few) rfl),
   He.glo_ok X G (c.d.fact 38),
   funD_fd (c.d.def_ 23 (d := d__law_right) rfl),
   He.glo_ok X G (c.d.fact 39),
   funD_fd (c.d.def_ 24 (d := d_law) rfl),
   He.free_ok X G (c.d.fact 40),
   He.free_ok X G (c.d.fact 41),
   He.free_ok X G (c.d.fact 42),
   He.free_ok X G (c.d.fact 43),
   He.free_ok X G (c.d.fact 44),
   He.free_ok X G (c.d.fact 45),
   He.free_ok X G (c.d.fact 46),
   He.free_ok X G (c.d.fact 47),
   He.free_ok X G (c.d.fact 48),
   He.free_ok X G (c.d.fact 49),
   He.free_ok X G (c.d.fact 50),
   He.free_ok X G (c.d.fact 51),
   He.free_ok X G (c.d.fact 52),
   He.free_ok X G (c.d.fact 53),
   He.free_ok X G (c.d.fact 54),
   He.free_ok X G (c.d.fact 55),
   He.free_ok X G (c.d.fact 56)⟩
end K21
namespace K21
open PySem PySem.Spec PyProof.Rows L2 Sp
variable {P : Program} {w : World} {K : PySem.W.Frag} {mg : Str → Option Value} {base : Heap}
/-! ### plans, plain -/
abbrev Run := Bool × List Nat
abbrev Plan := List Run
abbrev Tab := List (PK × Plan)
def keyI (ks : List Int) (i : Nat) : Int := ks.getD i 0
/-- the last record of a run -/
def lastR (r : Run) : Nat := r.2.getLastD 0
def goesOn (ks : List Int) (r : Run) (i : Nat) : Bool := decide (keyI ks i = keyI ks (lastR r)) || (decide (keyI ks i > keyI ks (lastR r)) == r.1)
def onRun (ks : List Int) (plan : Plan) (i : Nat) : List Plan := match plan.getLast? with
  | some r => if goesOn ks r i = true then [plan.dropLast ++ [(r.1, r.2 ++ [i])]] else []
  | none => []
def plansBehind (down : Bool) (ks : List Int) (plan : Plan) (i : Nat) : List Plan :=
  onRun ks plan i ++ [plan ++ [(true, [i])]] ++ (if down = true then [plan ++ [(false, [i])]] else [])
def lastP (p : Plan) : Run := p.getLastD (true, [])
def isBetter (ks : List Int) (p q : Plan) : Bool :=
  if p.length = q.length then (if (lastP p).1 = true then decide (keyI ks (lastR (lastP p)) < keyI ks (lastR (lastP q))) else decide (keyI ks (lastR (lastP p)) > keyI ks (lastR (lastP q)))) else decide (p.length < q.length)
def dirOf (p : Plan) : Option Bool := p.getLast?.map (·.1)
def getT (t : Tab) (k : PK) : Option Plan := (t.find? fun x => decide (x.1 = k)).map (·.2)
def putT (t : Tab) (k : PK) (p : Plan) : Tab := if k ∈ t.map (·.1) then t.map (fun x => if x.1 = k then (x.1, p) else x) else t ++ [(k, p)]
def offer (ks : List Int) (rest : List Nat) (t : Tab) (p : Plan) : Tab := match getT t (rest, dirOf p) with
  | none => putT t (rest, dirOf p) p
  | some q => if isBetter ks p q = true then putT t (rest, dirOf p) p else t
def ledHeld (down : Bool) (ks : List Int) (plan : Plan) (held : List Nat) (t : Tab) (r : Nat) : Tab := (plansBehind down ks plan r).foldl (offer ks (held.filter fun o => decide (o ≠ r))) t
def ledOne (down : Bool) (room : Nat) (ks : List Int) (i : Nat) (t : Tab) (e : PK × Plan) : Tab :=
  if (e.1.1 ++ [i]).length < room then putT t (e.1.1 ++ [i], e.1.2) e.2 else (e.1.1 ++ [i]).foldl (ledHeld down ks e.2 (e.1.1 ++ [i])) t
def plansLed (down : Bool) (room : Nat) (ks : List Int) (ts : Tab) (i : Nat) : Tab := ts.foldl (ledOne down room ks i) []
/-- records in the order of their keys -/
def inOrder (ks : List Int) (s : List Nat) : List Nat := s.mergeSort fun i j => decide (keyI ks i < keyI ks j ∨ (keyI ks i = keyI ks j ∧ i ≤ j))
def closed (ks : List Int) (s : List Nat) (plan : Plan) : Plan :=
  if inOrder ks s = [] then plan else match plan.getLast? with
  | some r => if (inOrder ks s).all (goesOn ks r) = true then plan.dropLast ++ [(r.1, r.2 ++ if r.1 = true then inOrder ks s else (inOrder ks s).reverse)] else plan ++ [(true, inOrder ks s)]
  | none => plan ++ [(true, inOrder ks s)]
def tabAt (down : Bool) (room : Nat) (ks : List Int) : Nat → Tab
  | 0 => [(([], none), [])]
  | i + 1 => plansLed down room ks (tabAt down room ks i) i
def finals (down : Bool) (room : Nat) (ks : List Int) : List Plan := (tabAt down room ks ks.length).map fun e => closed ks e.1.1 e.2
/-- the first of the shortest -/
def shortest : List Plan → Plan
  | [] => []
  | p :: r => r.foldl (fun b q => if q.length < b.length then q else b) p
def sched (down : Bool) (room : Nat) (ks : List Int) : Plan := shortest (finals down room ks)
/-! what is right of an entry -/
structure WfP (n m : Nat) (p : Plan) : Prop where
  idx : ∀ r ∈ p, r.2 ≠ [] ∧ (∀ i ∈ r.2, i < n) ∧ r.2.length ≤ m
  len : p.length ≤ m
structure WfE (n room m : Nat) (e : PK × Plan) : Prop where
  st : ∀ i ∈ e.1.1, i < n
  len : e.1.1.length < room
  pl : WfP n m e.2
  dir : e.1.2 = dirOf e.2
theorem WfP.mono {n m m' : Nat} {p : Plan} (h : WfP n m p) (e : m ≤ m') : WfP n m' p := ⟨fun r hr => ⟨(h.idx r hr).1, (h.idx r hr).2.1, Nat.le_trans (h.idx r hr).2.2 e⟩, Nat.le_trans h.len e⟩
theorem WfP.snoc {n m : Nat} {p : Plan} {r : Run} (h : WfP n m p) (h1 : r.2 ≠ []) (h2 : ∀ i ∈ r.2, i < n) (h3 : r.2.length ≤ m + 1) : WfP n (m + 1) (p ++ [r]) := by
  refine ⟨fun q hq => ?_, by rw [List.length_append]; have := h.len; show p.length + 1 ≤ m + 1; omega⟩
  rcases List.mem_append.mp hq with hq | hq
  · exact (h.mono (Nat.le_succ m)).idx q hq
  · rw [List.mem_singleton.mp hq]
    exact ⟨h1, h2, h3⟩
theorem snoc_of {α : Type} : ∀ (l : List α), l = [] ∨ ∃ p r, l = p ++ [r]
  | [] => .inl rfl
  | a :: l => by
    rcases snoc_of l with rfl | ⟨p, r, rfl⟩
    · exact .inr ⟨[], a, rfl⟩
    · exact .inr ⟨a :: p, r, rfl⟩
theorem onRun_snoc (ks : List Int) (p : Plan) (r : Run) (i : Nat) : onRun ks (p ++ [r]) i = if goesOn ks r i = true then [p ++ [(r.1, r.2 ++ [i])]] else [] := by
  unfold onRun
  rw [List.getLast?_concat, List.dropLast_concat]
theorem WfP.init {n m : Nat} {p : Plan} {r : Run} (h : WfP n m (p ++ [r])) : (∀ q ∈ p, q.2 ≠ [] ∧ (∀ i ∈ q.2, i < n) ∧ q.2.length ≤ m) ∧ p.length + 1 ≤ m ∧ r.2 ≠ [] ∧ (∀ i ∈ r.2, i < n) ∧ r.2.length ≤ m := by
  refine ⟨fun q hq => h.idx q (List.mem_append_left _ hq), ?_, h.idx r (List.mem_append_right _ (List.mem_singleton.mpr rfl))⟩
  have := h.len
  rw [List.length_append] at this
  exact this
theorem wf_behind {n m : Nat} {down : Bool} {ks : List Int} {plan : Plan} {i : Nat} (h : WfP n m plan) (hi : i < n) : ∀ p ∈ plansBehind down ks plan i, WfP n (m + 1) p ∧ p ≠ [] := by
  intro p hp
  have one : ∀ u : Bool, WfP n (m + 1) (plan ++ [(u, [i])]) := fun u => h.snoc (by simp) (fun j hj => by rw [List.mem_singleton.mp hj]; exact hi) (by show 1 ≤ m + 1; omega)
  unfold plansBehind at hp
  rcases List.mem_append.mp hp with hp | hp
  · rcases List.mem_append.mp hp with hp | hp
    · rcases snoc_of plan with rfl | ⟨q, r, rfl⟩
      · cases hp
      · rw [onRun_snoc] at hp
        split at hp
        · rw [List.mem_singleton.mp hp]
          obtain ⟨a, b, c, d, e⟩ := h.init
          refine ⟨⟨fun x hx => ?_, ?_⟩, by simp⟩
          · rcases List.mem_append.mp hx with hx | hx
            · exact ⟨(a x hx).1, (a x hx).2.1, Nat.le_trans (a x hx).2.2 (Nat.le_succ m)⟩
            · rw [List.mem_singleton.mp hx]
              refine ⟨by simp, fun j hj => ?_, by show (r.2 ++ [i]).length ≤ m + 1; rw [List.length_append]; show r.2.length + 1 ≤ m + 1; omega⟩
              rcases List.mem_append.mp hj with hj | hj
              · exact d j hj
              · rw [List.mem_singleton.mp hj]
                exact hi
          · rw [List.length_append]
            show q.length + 1 ≤ m + 1
            omega
        · cases hp
    · rw [List.mem_singleton.mp hp]
      exact ⟨one true, by simp⟩
  · split at hp
    · rw [List.mem_singleton.mp hp]
      exact ⟨one false, by simp⟩
    · cases hp
theorem dirOf_snoc (p : Plan) (r : Run) : dirOf (p ++ [r]) = some r.1 := by
  unfold dirOf
  rw [List.getLast?_concat]
  rfl
theorem lastP_snoc (p : Plan) (r : Run) : lastP (p ++ [r]) = r := by
  unfold lastP
  rw [List.getLastD_concat]
theorem getT_mem {t : Tab} {k : PK} {p : Plan} (h : getT t k = some p) : (k, p) ∈ t := by
  unfold getT at h
  obtain ⟨x, hx, rfl⟩ := Option.map_eq_some_iff.mp h
  have := List.find?_some hx
  have e : x.1 = k := of_decide_eq_true this
  rw [← e]
  exact List.mem_of_find?_eq_some hx
theorem getT_some {t : Tab} {k : PK} (h : k ∈ t.map (·.1)) : ∃ p, getT t k = some p := by
  unfold getT
  cases e : t.find? fun x => decide (x.1 = k) with
  | some x => exact ⟨x.2, rfl⟩
  | none =>
    rw [List.find?_eq_none] at e
    obtain ⟨x, hx, ex⟩ := List.mem_map.mp h
    exact absurd (decide_eq_true ex) (e x hx)
theorem getT_none {t : Tab} {k : PK} (h : k ∉ t.map (·.1)) : getT t k = none := by
  unfold getT
  rw [List.find?_eq_none.mpr fun x hx e => h (List.mem_map.mpr ⟨x, hx, of_decide_eq_true e⟩)]
  rfl
theorem putT_mem {t : Tab} {k : PK} {p : Plan} {e : PK × Plan} (h : e ∈ putT t k p) : e ∈ t ∨ e = (k, p) := by
  unfold putT at h
  split at h
  · obtain ⟨x, hx, rfl⟩ := List.mem_map.mp h
    split
    · rename_i e
      exact .inr (by rw [e])
    · exact .inl hx
  · rcases List.mem_append.mp h with h | h
    · exact .inl h
    · exact .inr (List.mem_singleton.mp h)
theorem putT_nodup {t : Tab} {k : PK} {p : Plan} (h : (t.map (·.1)).Nodup) : ((putT t k p).map (·.1)).Nodup := by
  unfold putT
  split
  · rw [List.map_map]
    have : ((·.1) ∘ fun x : PK × Plan => if x.1 = k then (x.1, p) else x) = (·.1) := by
      funext x
      simp only [Function.comp_apply]
      split <;> rfl
    rw [this]
    exact h
  · rename_i hn
    rw [List.map_append]
    refine List.nodup_append.mpr ⟨h, by simp, fun a ha b hb e => ?_⟩
    simp at hb
    rw [e, hb] at ha
    exact hn ha
/-! how many entries there can be -/
def codeS : List Nat → Nat
  | [] => 0
  | [a] => 1 + a
  | a :: b :: _ => 100 + 100 * a + b
def codeU : Option Bool → Nat
  | none => 0
  | some true => 1
  | some false => 2
def codeK (k : PK) : Nat := codeS k.1 * 3 + codeU k.2
theorem codeU_lt (u : Option Bool) : codeU u < 3 := by rcases u with _ | _ | _ <;> decide
theorem codeU_inj {u v : Option Bool} (h : codeU u = codeU v) : u = v := by rcases u with _ | _ | _ <;> rcases v with _ | _ | _ <;> first | rfl | (exact absurd h (by decide))
theorem codeS_inj : ∀ {s t : List Nat}, s.length ≤ 2 → t.length ≤ 2 → (∀ i ∈ s, i < 99) → (∀ i ∈ t, i < 99) → codeS s = codeS t → s = t
  | [], [], _, _, _, _, _ => rfl
  | [], [b], _, _, _, _, h => by simp only [codeS] at h; omega
  | [], b :: c :: _, _, _, _, _, h => by simp only [codeS] at h; omega
  | [a], [], _, _, _, _, h => by simp only [codeS] at h; omega
  | [a], [b], _, _, _, _, h => by simp only [codeS] at h; rw [show a = b by omega]
  | [a], b :: c :: _, _, _, ba, _, h => by
    have := ba a (List.mem_cons_self ..)
    simp only [codeS] at h
    omega
  | a :: c :: _, [], _, _, _, _, h => by simp only [codeS] at h; omega
  | a :: c :: _, [b], _, _, _, bb, h => by
    have := bb b (List.mem_cons_self ..)
    simp only [codeS] at h
    omega
  | [a, c], [b, d], _, _, ba, bb, h => by
    have h1 := ba c (by simp)
    have h2 := bb d (by simp)
    simp only [codeS] at h
    rw [show a = b by omega, show c = d by omega]
  | a :: c :: _ :: _, _ :: _ :: _, hk, _, _, _, _ => by simp at hk
  | [_, _], b :: d :: _ :: _, _, hl, _, _, _ => by simp at hl
theorem codeK_inj {k l : PK} (hk : k.1.length ≤ 2) (hl : l.1.length ≤ 2) (bk : ∀ i ∈ k.1, i < 99) (bl : ∀ i ∈ l.1, i < 99) (h : codeK k = codeK l) : k = l := by
  unfold codeK at h
  have hu := codeU_lt k.2
  have hv := codeU_lt l.2
  exact Prod.ext (codeS_inj hk hl bk bl (by omega)) (codeU_inj (by omega))
theorem codeS_lt : ∀ {s : List Nat}, (∀ i ∈ s, i < 40) → codeS s < 10000
  | [], _ => by decide
  | [a], st => by have := st a (List.mem_cons_self ..); simp only [codeS]; omega
  | a :: b :: _, st => by have := st a (List.mem_cons_self ..); have := st b (by simp); simp only [codeS]; omega
theorem nodup_below : ∀ (N : Nat) {l : List Nat}, l.Nodup → (∀ x ∈ l, x < N) → l.length ≤ N
  | 0, [], _, _ => Nat.le_refl _
  | 0, x :: _, _, h => absurd (h x (List.mem_cons_self ..)) (Nat.not_lt_zero _)
  | N + 1, l, hn, h => by
    have h1 : (l.filter fun x => decide (x ≠ N)).length ≤ N := nodup_below N (hn.filter _) fun x hx => by
      obtain ⟨a, b⟩ := List.mem_filter.mp hx
      have := h x a
      have := of_decide_eq_true b
      omega
    have h2 : l.length ≤ (l.filter fun x => decide (x ≠ N)).length + 1 := by
      clear h1 h
      induction l with
      | nil => exact Nat.zero_le _
      | cons y r ih =>
        rw [List.nodup_cons] at hn
        by_cases e : y = N
        · subst e
          rw [List.filter_cons_of_neg (by simp)]
          have : (r.filter fun x => decide (x ≠ y)) = r := List.filter_eq_self.mpr fun x hx => decide_eq_true fun e => hn.1 (e ▸ hx)
          rw [this]
          exact Nat.le_refl _
        · rw [List.filter_cons_of_pos (by simpa using e)]
          have := ih hn.2
          show r.length + 1 ≤ _ + 1 + 1
          omega
    omega
theorem tab_len {n room m : Nat} {t : Tab} (hd : (t.map (·.1)).Nodup) (hw : ∀ e ∈ t, WfE n room m e) (hn : n ≤ 40) (hr : room ≤ 3) : t.length ≤ 50000 := by
  have h1 : ((t.map (·.1)).map codeK).Nodup := by
    refine List.Pairwise.map _ (R := fun a b => a ≠ b ∧ a ∈ t.map (·.1) ∧ b ∈ t.map (·.1)) (fun a b z e => ?_) (List.Pairwise.imp_of_mem (fun ha hb z => ⟨z, ha, hb⟩) hd)
    obtain ⟨z, ha, hb⟩ := z
    obtain ⟨x, hx, rfl⟩ := List.mem_map.mp ha
    obtain ⟨y, hy, rfl⟩ := List.mem_map.mp hb
    have wx := hw x hx
    have wy := hw y hy
    have := wx.len
    have := wy.len
    exact z (codeK_inj (by omega) (by omega) (fun i hi => by have := wx.st i hi; omega) (fun i hi => by have := wy.st i hi; omega) e)
  have h2 := nodup_below 50000 h1 fun x hx => by
    obtain ⟨k, hk, rfl⟩ := List.mem_map.mp hx
    obtain ⟨e, he, rfl⟩ := List.mem_map.mp hk
    have we := hw e he
    have := we.len
    have st := we.st
    unfold codeK
    have hu := codeU_lt e.1.2
    have hs := codeS_lt (s := e.1.1) fun i hi => by have := st i hi; omega
    omega
  rw [List.length_map, List.length_map] at h2
  exact h2
/-! the table stays right -/
structure TInv (n room m : Nat) (t : Tab) : Prop where
  nd : (t.map (·.1)).Nodup
  wf : ∀ e ∈ t, WfE n room m e
theorem TInv.nil {n room m : Nat} : TInv n room m [] := ⟨List.nodup_nil, fun e h => by cases h⟩
theorem TInv.put {n room m : Nat} {t : Tab} {k : PK} {p : Plan} (h : TInv n room m t) (w : WfE n room m (k, p)) : TInv n room m (putT t k p) :=
  ⟨putT_nodup h.nd, fun e he => (putT_mem he).elim (h.wf e) fun z => z ▸ w⟩
structure Rest (n room : Nat) (rest : List Nat) : Prop where
  st : ∀ i ∈ rest, i < n
  len : rest.length < room
theorem TInv.offered {n room m : Nat} {ks : List Int} {rest : List Nat} {t : Tab} {p : Plan} (h : TInv n room m t) (hr : Rest n room rest) (w : WfP n m p) : TInv n room m (offer ks rest t p) := by
  have we : WfE n room m ((rest, dirOf p), p) := ⟨hr.st, hr.len, w, rfl⟩
  unfold offer
  split
  · exact h.put we
  · split
    · exact h.put we
    · exact h
theorem foldl_take_succ {α β : Type} {f : β → α → β} {b : β} {l : List α} {i : Nat} {x : α} (h : l[i]? = some x) : (l.take (i + 1)).foldl f b = f ((l.take i).foldl f b) x := by
  rw [List.take_add_one, h, List.foldl_append]
  rfl
theorem foldl_inv {α β : Type} {f : β → α → β} {I : β → Prop} : ∀ {l : List α} {b : β}, I b → (∀ b x, x ∈ l → I b → I (f b x)) → I (l.foldl f b)
  | [], b, h, _ => h
  | x :: l, b, h, hs => foldl_inv (l := l) (hs b x (List.mem_cons_self ..) h) fun b y hy hb => hs b y (List.mem_cons_of_mem _ hy) hb
theorem rest_of {n room : Nat} {held : List Nat} {r : Nat} (h : ∀ i ∈ held, i < n) (hl : held.length ≤ room) (hr : r ∈ held) : Rest n room (held.filter fun o => decide (o ≠ r)) := by
  refine ⟨fun i hi => h i (List.mem_filter.mp hi).1, ?_⟩
  have : (held.filter fun o => decide (o ≠ r)).length < held.length := by
    clear h hl
    induction held with
    | nil => cases hr
    | cons y l ih =>
      by_cases e : y = r
      · rw [List.filter_cons_of_neg (by simp [e])]
        have := List.length_filter_le (fun o => decide (o ≠ r)) l
        show _ < l.length + 1
        omega
      · rw [List.filter_cons_of_pos (by simpa using e)]
        rcases List.mem_cons.mp hr with z | z
        · exact absurd z.symm e
        · have := ih z
          show _ + 1 < l.length + 1
          omega
  omega
theorem TInv.held {n room m : Nat} {down : Bool} {ks : List Int} {plan : Plan} {held : List Nat} {t : Tab} {r : Nat} (h : TInv n room (m + 1) t) (hh : ∀ i ∈ held, i < n) (hl : held.length ≤ room) (hr : r ∈ held) (w : WfP n m plan) : TInv n room (m + 1) (ledHeld down ks plan held t r) :=
  foldl_inv h fun _ p hp z => z.offered (rest_of hh hl hr) (wf_behind w (hh r hr) p hp).1
theorem WfE.mono {n room m m' : Nat} {e : PK × Plan} (h : WfE n room m e) (z : m ≤ m') : WfE n room m' e := ⟨h.st, h.len, h.pl.mono z, h.dir⟩
theorem held_lt {n room m i : Nat} {e : PK × Plan} (w : WfE n room m e) (hi : i < n) : ∀ j ∈ e.1.1 ++ [i], j < n := fun j hj => by
  rcases List.mem_append.mp hj with hj | hj
  · exact w.st j hj
  · rw [List.mem_singleton.mp hj]
    exact hi
theorem TInv.one {n room m i : Nat} {down : Bool} {ks : List Int} {t : Tab} {e : PK × Plan} (h : TInv n room (m + 1) t) (w : WfE n room m e) (hi : i < n) : TInv n room (m + 1) (ledOne down room ks i t e) := by
  unfold ledOne
  split
  · rename_i hl
    exact h.put ⟨held_lt w hi, hl, w.pl.mono (Nat.le_succ m), w.dir⟩
  · have hl : (e.1.1 ++ [i]).length ≤ room := by
      have := w.len
      rw [List.length_append]
      show e.1.1.length + 1 ≤ room
      omega
    exact foldl_inv h fun _ r hr z => z.held (held_lt w hi) hl hr w.pl
theorem TInv.led {n room m i : Nat} {down : Bool} {ks : List Int} {t : Tab} (h : TInv n room m t) (hi : i < n) : TInv n room (m + 1) (plansLed down room ks t i) :=
  foldl_inv .nil fun _ e he z => z.one (h.wf e he) hi
theorem tinv0 {n room : Nat} (h : 0 < room) : TInv n room 0 [(([], none), [])] := by
  refine ⟨by simp, fun e he => ?_⟩
  rw [List.mem_singleton.mp he]
  exact ⟨fun i hi => (by cases hi), h, ⟨fun r hr => (by cases hr), Nat.le_refl _⟩, rfl⟩
theorem tinv_at {down : Bool} {room : Nat} {ks : List Int} (h : 0 < room) : ∀ {i : Nat}, i ≤ ks.length → TInv ks.length room i (tabAt down room ks i)
  | 0, _ => tinv0 h
  | i + 1, hi => (tinv_at h (Nat.le_of_succ_le hi)).led hi
/-! the table is never empty; the shortest -/
theorem putT_ne {t : Tab} {k : Sp.PK} {p : Plan} : putT t k p ≠ [] := by
  unfold putT
  split
  · rename_i h
    intro e
    have := List.map_eq_nil_iff.mp e
    rw [this] at h
    cases h
  · simp
theorem offer_ne {ks : List Int} {rest : List Nat} {t : Tab} {p : Plan} : offer ks rest t p ≠ [] := by
  unfold offer
  split
  · exact putT_ne
  · rename_i h
    split
    · exact putT_ne
    · intro e
      rw [e] at h
      cases h
theorem foldl_last {α β : Type} {f : β → α → β} {P : β → Prop} (hf : ∀ b x, P (f b x)) : ∀ {l : List α} {b : β}, l ≠ [] → P (l.foldl f b)
  | [], _, h => absurd rfl h
  | [x], b, _ => hf b x
  | x :: y :: l, b, _ => foldl_last hf (l := y :: l) (by simp)
theorem behind_ne {down : Bool} {ks : List Int} {plan : Plan} {i : Nat} : plansBehind down ks plan i ≠ [] := by
  unfold plansBehind
  simp
theorem ledOne_ne {down : Bool} {room : Nat} {ks : List Int} {i : Nat} {t : Tab} {e : Sp.PK × Plan} : ledOne down room ks i t e ≠ [] := by
  unfold ledOne
  split
  · exact putT_ne
  · exact foldl_last (P := fun t => t ≠ []) (fun b x => foldl_last (P := fun t => t ≠ []) (fun _ _ => offer_ne) behind_ne) (by simp)
theorem tabAt_ne {down : Bool} {room : Nat} {ks : List Int} : ∀ {i : Nat}, tabAt down room ks i ≠ []
  | 0 => by unfold tabAt; simp
  | i + 1 => foldl_last (P := fun t => t ≠ []) (fun _ _ => ledOne_ne) tabAt_ne
theorem shortest_snoc {m : List Plan} {x : Plan} (h : m ≠ []) : shortest (m ++ [x]) = if x.length < (shortest m).length then x else shortest m := by
  cases m with
  | nil => exact absurd rfl h
  | cons p r =>
    show (r ++ [x]).foldl _ p = _
    rw [List.foldl_append]
    rfl
theorem argBest_short {l : List Plan} : ∀ {k : Nat}, k < l.length → l[argBest (lessV fun i => (((l.map List.length).getD i 0 : Nat) : Int)) k]? = some (shortest (l.take (k + 1))) ∧ argBest (lessV fun i => (((l.map List.length).getD i 0 : Nat) : Int)) k < l.length
  | 0, h => by
    cases l with
    | nil => cases h
    | cons p r => exact ⟨rfl, h⟩
  | k + 1, h => by
    obtain ⟨ih, ihl⟩ := argBest_short (l := l) (k := k) (by omega)
    have hx : l[k + 1]? = some l[k + 1] := List.getElem?_eq_getElem h
    have e : l.take (k + 1 + 1) = l.take (k + 1) ++ [l[k + 1]] := by rw [List.take_add_one, hx]; rfl
    have hne : l.take (k + 1) ≠ [] := by
      intro z
      have := congrArg List.length z
      rw [List.length_take, Nat.min_eq_left (by omega)] at this
      exact Nat.succ_ne_zero _ this
    have hlen : ∀ {j : Nat} {p : Plan}, l[j]? = some p → ((l.map List.length).getD j 0) = p.length := fun {j p} hj => by
      rw [List.getD_eq_getElem?_getD, List.getElem?_map, hj]
      rfl
    rw [e, shortest_snoc hne]
    have hb : lessV (fun i => (((l.map List.length).getD i 0 : Nat) : Int)) (k + 1) (argBest (lessV fun i => (((l.map List.length).getD i 0 : Nat) : Int)) k) = decide (l[k + 1].length < (shortest (l.take (k + 1))).length) := by
      show decide ((((l.map List.length).getD (k + 1) 0 : Nat) : Int) < (((l.map List.length).getD (argBest (lessV fun i => (((l.map List.length).getD i 0 : Nat) : Int)) k) 0 : Nat) : Int)) = _
      rw [hlen hx, hlen ih, decide_eq_decide]
      omega
    rw [argBest, hb]
    by_cases z : l[k + 1].length < (shortest (l.take (k + 1))).length
    · rw [if_pos (decide_eq_true z), if_pos z]
      exact ⟨hx, h⟩
    · rw [if_neg (by rw [decide_eq_false z]; exact Bool.false_ne_true), if_neg z]
      exact ⟨ih, ihl⟩
theorem closed_len {ks : List Int} {s : List Nat} {p : Plan} : (closed ks s p).length ≤ p.length + 1 := by
  unfold closed
  split
  · omega
  · rcases snoc_of p with rfl | ⟨q, r, rfl⟩
    · exact Nat.le_refl _
    · rw [List.getLast?_concat, List.dropLast_concat]
      dsimp only
      split
      · rw [List.length_append, List.length_append]; exact Nat.le_succ _
      · rw [List.length_append]; exact Nat.le_refl _

end K21
namespace K21
open PySem PySem.Spec PyProof.Rows L2 Sp
variable {P : Program} {w : World} {K : PySem.W.Frag} {mg : Str → Option Value} {base : Heap}
/-! ### plans in the heap -/
/-- things at places, one by one -/
inductive Each {α : Type} (R : Addr → α → Prop) : List Addr → List α → Prop where
  | nil : Each R [] []
  | cons {a : Addr} {x : α} {as : List Addr} {xs : List α} (h : R a x) (t : Each R as xs) : Each R (a :: as) (x :: xs)
theorem Each.imp {α : Type} {R S : Addr → α → Prop} (f : ∀ a x, R a x → S a x) : ∀ {as : List Addr} {xs : List α}, Each R as xs → Each S as xs
  | _, _, .nil => .nil
  | _, _, .cons h t => .cons (f _ _ h) (t.imp f)
theorem Each.length {α : Type} {R : Addr → α → Prop} : ∀ {as : List Addr} {xs : List α}, Each R as xs → as.length = xs.length
  | _, _, .nil => rfl
  | _, _, .cons _ t => by simp [t.length]
theorem Each.get {α : Type} {R : Addr → α → Prop} : ∀ {as : List Addr} {xs : List α} {i : Nat} {a : Addr}, Each R as xs → as[i]? = some a → ∃ x, xs[i]? = some x ∧ R a x
  | _, _, _, _, .nil, h => by simp at h
  | _, _, 0, _, .cons h _, e => by
    simp at e
    subst e
    exact ⟨_, rfl, h⟩
  | _, _, i + 1, a, .cons _ t, e => by
    obtain ⟨x, h1, h2⟩ := t.get (i := i) (a := a) (by simpa using e)
    exact ⟨x, by simpa using h1, h2⟩
theorem Each.snoc {α : Type} {R : Addr → α → Prop} {a : Addr} {x : α} (h : R a x) : ∀ {as : List Addr} {xs : List α}, Each R as xs → Each R (as ++ [a]) (xs ++ [x])
  | _, _, .nil => .cons h .nil
  | _, _, .cons h' t => .cons h' (t.snoc h)
theorem Each.snoc_inv {α : Type} {R : Addr → α → Prop} : ∀ {l : List Addr} {p : List α} {r : α}, Each R l (p ++ [r]) → ∃ as b, l = as ++ [b] ∧ Each R as p ∧ R b r
  | [], p, r, h => by
    cases p <;> cases h
  | a :: l, [], r, h => by
    cases h with
    | cons h t =>
      cases t
      exact ⟨[], a, rfl, .nil, h⟩
  | a :: l, x :: p, r, h => by
    cases h with
    | cons h t =>
      obtain ⟨as, b, e, h1, h2⟩ := Each.snoc_inv (p := p) (r := r) t
      exact ⟨a :: as, b, by rw [e]; rfl, .cons h h1, h2⟩
theorem Each.append {α : Type} {R : Addr → α → Prop} : ∀ {as bs : List Addr} {xs ys : List α}, Each R as xs → Each R bs ys → Each R (as ++ bs) (xs ++ ys)
  | _, _, _, _, .nil, h => h
  | _, _, _, _, .cons h t, h2 => .cons h (t.append h2)

def natsV (l : List Nat) : List V := l.map fun i : Nat => V.int (i : Int)
theorem natsV_app (a b : List Nat) : natsV (a ++ b) = natsV a ++ natsV b := List.map_append
theorem natsV_len (a : List Nat) : (natsV a).length = a.length := List.length_map ..
def RunAt (K : PySem.W.Frag) (H : Hp) (a : Addr) (r : Run) : Prop := ∃ b, SqT K H a [.bl r.1, .ref b] ∧ SqT K H b (natsV r.2)
def PlanAt (K : PySem.W.Frag) (H : Hp) (a : Addr) (p : Plan) : Prop := ∃ as, SqT K H a (as.map V.ref) ∧ Each (RunAt K H) as p
theorem RunAt.tk {H H' : Hp} {a : Addr} {r : Run} (e : TK K H H') (h : RunAt K H a r) : RunAt K H' a r := by
  obtain ⟨b, h1, h2⟩ := h
  exact ⟨b, e _ _ h1, e _ _ h2⟩
theorem PlanAt.tk {H H' : Hp} {a : Addr} {p : Plan} (e : TK K H H') (h : PlanAt K H a p) : PlanAt K H' a p := by
  obtain ⟨as, h1, h2⟩ := h
  exact ⟨as, e _ _ h1, h2.imp fun _ _ z => z.tk e⟩
theorem PlanAt.snoc_inv {H : Hp} {a : Addr} {p : Plan} {r : Run} (h : PlanAt K H a (p ++ [r])) : ∃ as b, SqT K H a (as.map V.ref ++ [V.ref b]) ∧ Each (RunAt K H) as p ∧ RunAt K H b r := by
  obtain ⟨l, h1, h2⟩ := h
  obtain ⟨as, b, rfl, h3, h4⟩ := h2.snoc_inv
  rw [List.map_append] at h1
  exact ⟨as, b, h1, h3, h4⟩
theorem at_key {ks : List Int} {i : Nat} (h : i < ks.length) : atI (ks.map V.int) ((i : Nat) : Int) = some (.int (keyI ks i)) := by
  refine atI_nat ?_
  rw [List.getElem?_map, List.getElem?_eq_getElem h]
  unfold keyI
  rw [List.getD_eq_getElem?_getD, List.getElem?_eq_getElem h]
  rfl
theorem lastR_snoc (u : Bool) (p : List Nat) (l : Nat) : lastR (u, p ++ [l]) = l := by
  unfold lastR
  rw [List.getLastD_concat]
/-- the plan as data -/
def runD (r : Run) : PyData := .tuple [.bool r.1, .tuple (r.2.map fun i : Nat => PyData.int (i : Int))]
def planD (p : Plan) : PyData := .tuple (p.map runD)
theorem dpNats (H : Hp) : ∀ l : List Nat, DpAll K H (natsV l) (l.map fun i : Nat => PyData.int (i : Int))
  | [] => .nil
  | x :: l => .cons (.int _) (dpNats H l)
theorem RunAt.dp {H : Hp} {a : Addr} {r : Run} (h : RunAt K H a r) : Dp K H (.ref a) (runD r) := by
  obtain ⟨b, h1, h2⟩ := h
  exact .tup h1 (.cons (.bl _) (.cons (.tup h2 (dpNats H _)) .nil))
theorem runs_dp {H : Hp} : ∀ {as : List Addr} {p : Plan}, Each (RunAt K H) as p → DpAll K H (as.map V.ref) (p.map runD)
  | _, _, .nil => .nil
  | _, _, .cons h t => .cons h.dp (runs_dp t)
theorem PlanAt.dp {H : Hp} {a : Addr} {p : Plan} (h : PlanAt K H a p) : Dp K H (.ref a) (planD p) := by
  obtain ⟨as, h1, h2⟩ := h
  exact .tup h1 (runs_dp h2)
theorem lay_nats : ∀ l : List Nat, PyData.canLayAll0 (l.map fun i : Nat => PyData.int (i : Int)) = true
  | [] => by simp [PyData.canLayAll0]
  | x :: l => by rw [List.map_cons, PyData.canLayAll0, lay_nats l, PyData.canLay0]; rfl
theorem dep_nats : ∀ l : List Nat, PyData.depthAll (l.map fun i : Nat => PyData.int (i : Int)) = 0
  | [] => by simp [PyData.depthAll]
  | x :: l => by rw [List.map_cons, PyData.depthAll, dep_nats l, PyData.depth]; rfl
theorem lay_run (r : Run) : PyData.canLay0 (runD r) = true := by
  unfold runD
  simp only [PyData.canLay0, PyData.canLayAll0, lay_nats, Bool.and_true]
theorem dep_run (r : Run) : PyData.depth (runD r) = 2 := by
  unfold runD
  simp only [PyData.depth, PyData.depthAll, dep_nats]
  rfl
theorem lay_runs : ∀ p : Plan, PyData.canLayAll0 (p.map runD) = true
  | [] => by simp [PyData.canLayAll0]
  | x :: l => by rw [List.map_cons, PyData.canLayAll0, lay_runs l, lay_run]; rfl
theorem dep_runs : ∀ p : Plan, PyData.depthAll (p.map runD) ≤ 2
  | [] => by simp [PyData.depthAll]
  | x :: l => by
    rw [List.map_cons, PyData.depthAll, dep_run]
    have := dep_runs l
    omega
theorem plan_shaped (p : Plan) : SeqAt.shaped (planD p) = true := by
  unfold SeqAt.shaped planD
  rw [PyData.canLay0, lay_runs, Bool.true_and, PyData.depth]
  have := dep_runs p
  exact decide_eq_true (by omega)
theorem nats_shaped (l : List Nat) : SeqAt.shaped (.tuple (l.map fun i : Nat => PyData.int (i : Int))) = true := by
  unfold SeqAt.shaped
  rw [PyData.canLay0, lay_nats, Bool.true_and, PyData.depth, dep_nats]
  decide
theorem eqv_nil (ds : List PyData) : PyData.eqv (.tuple ds) (.tuple []) = ds.isEmpty := by
  cases ds <;> simp [PyData.eqv, PyData.eqvAll]
theorem nil_shaped : SeqAt.shaped (.tuple []) = true := by decide
/-- the Best at b -/
def BestAt (K : PySem.W.Frag) (H : Hp) (b : Addr) (room : Nat) (down : Bool) : Prop := ∃ dx t, H b = some (.ins (He.ga K "Best") dx [("spec", .ref t)]) ∧ SqT K H t [.int room, .bl down]
theorem BestAt.same {H H' : Hp} {b : Addr} {room : Nat} {down : Bool} (e : Same H H') (h : BestAt K H b room down) : BestAt K H' b room down := by
  obtain ⟨dx, t, h1, h2⟩ := h
  exact ⟨dx, t, e _ _ h1, sameT e h2⟩
def sp_Best_down (K : PySem.W.Frag) : L2.Sp := fun vs H Q _ => on1 vs fun x => onRef x fun b => ∃ room down, BestAt K H b room down ∧ Q (.bl down) H
abbrev N_Best_down : List Str := ["self"]
theorem sc_Best_down : FnScope N_Best_down ["self"] (defScope s_Best_down) := ⟨rfl, rfl, rfl, by decide +kernel, rfl, by decide +kernel, by decide +kernel⟩
def t_Best_down (K : PySem.W.Frag) : TS :=
    tRet (tOp (fIxT K) (tFld K (fV 0) "spec") (tC (.int 1)))
abbrev Pure_Best_down (K : PySem.W.Frag) : Prop := ∀ (vs : List V) (H : Hp) (Q : VK) (E : XK), sp_Best_down K vs H Q E → t_Best_down K { nx := fun _ H' => Q .non H', rt := Q } (L2.start N_Best_down vs) H
theorem pure_Best_down (T : Tx K mg) : Pure_Best_down K := by
  intro vs H Q E h
  obtain ⟨x, rfl, h⟩ := on1_ex h
  obtain ⟨b, rfl, room, down, ⟨dx, t, h1, h2⟩, hQ⟩ := onRef_ex h
  exact ⟨b, _, dx, _, _, rfl, h1, T.cl_Best, T.no_Best_spec, rfl, _, h2, _, rfl, hQ⟩
theorem b_Best_down (T : Tx K mg) : Binds K (fdA K (d_Best_down.at_ K)) ["self"] [] := T.F_Best_down.bindsN fun _ _ _ _ _ _ us hl => match us, hl with | [_], _ => rfl
theorem ok_Best_down (T : Tx K mg) : FnOk P w K mg base CX0 1 (d_Best_down.at_ K) (fdA K (d_Best_down.at_ K)) ["self"] (sp_Best_down K) :=
  T.F_Best_down.ok sc_Best_down (fun _ _ _ _ h => on1_len h) (fun cdv A outer s H vs Q E hr h => ⟨t_Best_down K, PSs.nox ((pss_one (ps_ret (pe_ix x_tup (pe_fld (vv 0) rfl) pe_int (fun _ _ => rfl))))), pure_Best_down T vs H Q E h⟩)
def sp_Best_room (K : PySem.W.Frag) : L2.Sp := fun vs H Q _ => on1 vs fun x => onRef x fun b => ∃ room down, BestAt K H b room down ∧ Q (.int room) H
abbrev N_Best_room : List Str := ["self"]
theorem sc_Best_room : FnScope N_Best_room ["self"] (defScope s_Best_room) := ⟨rfl, rfl, rfl, by decide +kernel, rfl, by decide +kernel, by decide +kernel⟩
def t_Best_room (K : PySem.W.Frag) : TS :=
    tRet (tOp (fIxT K) (tFld K (fV 0) "spec") (tC (.int 0)))
abbrev Pure_Best_room (K : PySem.W.Frag) : Prop := ∀ (vs : List V) (H : Hp) (Q : VK) (E : XK), sp_Best_room K vs H Q E → t_Best_room K { nx := fun _ H' => Q .non H', rt := Q } (L2.start N_Best_room vs) H
theorem pure_Best_room (T : Tx K mg) : Pure_Best_room K := by
  intro vs H Q E h
  obtain ⟨x, rfl, h⟩ := on1_ex h
  obtain ⟨b, rfl, room, down, ⟨dx, t, h1, h2⟩, hQ⟩ := onRef_ex h
  exact ⟨b, _, dx, _, _, rfl, h1, T.cl_Best, T.no_Best_spec, rfl, _, h2, _, rfl, hQ⟩
theorem b_Best_room (T : Tx K mg) : Binds K (fdA K (d_Best_room.at_ K)) ["self"] [] := T.F_Best_room.bindsN fun _ _ _ _ _ _ us hl => match us, hl with | [_], _ => rfl
theorem ok_Best_room (T : Tx K mg) : FnOk P w K mg base CX0 1 (d_Best_room.at_ K) (fdA K (d_Best_room.at_ K)) ["self"] (sp_Best_room K) :=
  T.F_Best_room.ok sc_Best_room (fun _ _ _ _ h => on1_len h) (fun cdv A outer s H vs Q E hr h => ⟨t_Best_room K, PSs.nox ((pss_one (ps_ret (pe_ix x_tup (pe_fld (vv 0) rfl) pe_int (fun _ _ => rfl))))), pure_Best_room T vs H Q E h⟩)
/-- a record goes on with a run -/
def sp_goes_on (K : PySem.W.Frag) : L2.Sp := fun vs H Q _ => on3 vs fun x y z => onRef x fun k => onRef y fun r => onInt z fun i => ∃ (ks : List Int) (u : Run) (j : Nat), SqT K H k (ks.map V.int) ∧ RunAt K H r u ∧ u.2 ≠ [] ∧ (∀ i ∈ u.2, i < ks.length) ∧ j < ks.length ∧ i = j ∧ Q (.bl (goesOn ks u j)) H
abbrev N_goes_on : List Str := ["keys", "run", "index", "up", "records", "last"]
theorem sc_goes_on : FnScope N_goes_on ["keys", "run", "index"] (defScope s_goes_on) := ⟨rfl, rfl, rfl, by decide +kernel, rfl, by decide +kernel, by decide +kernel⟩
def t_goes_on (K : PySem.W.Frag) : TS :=
    tSeq (tAsg (fV 1) (gTup K 2 (gCons (gName 3) (gCons (gName 4) gNil))))
    (tSeq (tAsg (tOp (fIxT K) (fV 0) (tOp (fIxT K) (fV 4) (tUn fNeg (tC (.int 1))))) (gName 5))
    (tRet (fOrV (tOp fEq (tOp (fIxT K) (fV 0) (fV 2)) (fV 5)) (tOp fEq (tOp fGt (tOp (fIxT K) (fV 0) (fV 2)) (fV 5)) (fV 3)))))
abbrev Pure_goes_on (K : PySem.W.Frag) : Prop := ∀ (vs : List V) (H : Hp) (Q : VK) (E : XK), sp_goes_on K vs H Q E → t_goes_on K { nx := fun _ H' => Q .non H', rt := Q } (L2.start N_goes_on vs) H
theorem pure_goes_on (T : Tx K mg) : Pure_goes_on K := by
  intro vs H Q E h
  obtain ⟨x, y, z, rfl, h⟩ := on3_ex h
  obtain ⟨k, rfl, h⟩ := onRef_ex h
  obtain ⟨r, rfl, h⟩ := onRef_ex h
  obtain ⟨i, rfl, ks, ⟨u, is⟩, j, hk, ⟨b, h1, h2⟩, hne, hlt, hj, rfl, hQ⟩ := onInt_ex h
  rcases snoc_of is with rfl | ⟨p, l, rfl⟩
  · exact absurd rfl hne
  have hl := hlt l (List.mem_append_right _ (List.mem_singleton.mpr rfl))
  have e2 : SqT K H b (natsV p ++ [.int (l : Int)]) := by
    have := h2
    rw [natsV_app] at this
    exact this
  refine ⟨r, _, rfl, h1, rfl, _, _, rfl, _, _, rfl, rfl, ?_⟩
  refine ⟨_, e2, _, atI_last _ _, _, hk, _, at_key hl, ?_⟩
  unfold goesOn at hQ
  rw [lastR_snoc] at hQ
  refine ⟨_, hk, _, at_key hj, ite2 (fun hz => ?_) (fun hz => ?_)⟩
  · have e : keyI ks j = keyI ks l := by
      have := of_decide_eq_true hz
      injection this
    rw [decide_eq_true e, Bool.true_or] at hQ
    exact hQ
  · have e : ¬ keyI ks j = keyI ks l := fun z => hz (decide_eq_true (by rw [z]))
    rw [decide_eq_false e, Bool.false_or] at hQ
    refine ⟨_, hk, _, at_key hj, ?_⟩
    have e3 : decide (V.bl (decide (keyI ks j > keyI ks l)) = V.bl u) = (decide (keyI ks j > keyI ks l) == u) := by
      generalize decide (keyI ks j > keyI ks l) = c
      cases c <;> cases u <;> rfl
    rw [← e3] at hQ
    exact hQ
theorem b_goes_on (T : Tx K mg) : Binds K (fdA K (He.fAd K d_goes_on.at_)) ["keys", "run", "index"] [] := T.F_goes_on.bindsN fun _ _ _ _ _ _ us hl => match us, hl with | [_, _, _], _ => rfl
theorem ok_goes_on (T : Tx K mg) : FnOk P w K mg base CX0 1 (He.fAd K d_goes_on.at_) (fdA K (He.fAd K d_goes_on.at_)) ["keys", "run", "index"] (sp_goes_on K) :=
  T.F_goes_on.ok sc_goes_on (fun _ _ _ _ h => on3_len h) (fun cdv A outer s H vs Q E hr h => ⟨t_goes_on K, PSs.nox ((pss_cons (ps_asg (vv 1) (pg_tup rfl (pgs_cons (pg_name (i := 3) sc_goes_on.nd rfl (.inl rfl)) (pgs_cons (pg_name (i := 4) sc_goes_on.nd rfl (.inl rfl)) pgs_nil))))
      (pss_cons (ps_set (i := 5) sc_goes_on.nd rfl (.inl rfl) (pe_ix x_tup (vv 0) (pe_ix x_tup (vv 4) (pe_un o_neg pe_int) (fun _ _ => rfl)) (fun _ _ => rfl)))
      (pss_one (ps_ret (e_or (pe_cmpR o_eq (pe_ix x_tup (vv 0) (vv 2) (fun _ _ => rfl)) (vv 5) (nomark _)) (pe_one (pe_cmpR o_eq (pe_cmpR o_gt (pe_ix x_tup (vv 0) (vv 2) (fun _ _ => rfl)) (vv 5) (nomark _)) (vv 3) (nomark _))))))))), pure_goes_on T vs H Q E h⟩)
theorem keyI_cmp (a b : Int) : decide (a < b) = decide (a < b) := rfl
def sp_is_better (K : PySem.W.Frag) : L2.Sp := fun vs H Q _ => on3 vs fun x y z => onRef x fun k => onRef y fun a => onRef z fun b => ∃ (ks : List Int) (p q : Plan) (m : Nat), SqT K H k (ks.map V.int) ∧ PlanAt K H a p ∧ PlanAt K H b q ∧ p ≠ [] ∧ q ≠ [] ∧ WfP ks.length m p ∧ WfP ks.length m q ∧ Q (.bl (isBetter ks p q)) H
abbrev N_is_better : List Str := ["keys", "plan", "other", "last", "opposite"]
theorem sc_is_better : FnScope N_is_better ["keys", "plan", "other"] (defScope s_is_better) := ⟨rfl, rfl, rfl, by decide +kernel, rfl, by decide +kernel, by decide +kernel⟩
def t_is_better (K : PySem.W.Frag) : TS :=
    tSeq (tIfS (fT (tOp fNe (tCB (fLen K) (tCons (fV 1) tNil)) (tCB (fLen K) (tCons (fV 2) tNil))))
    (tRet (tOp fLt (tCB (fLen K) (tCons (fV 1) tNil)) (tCB (fLen K) (tCons (fV 2) tNil)))) tNext)
    (tSeq (tPar 3 4 (tCons (tOp (fIxT K) (fV 0) (tOp (fIxT K) (tOp (fIxT K) (tOp (fIxT K) (fV 1) (tUn fNeg (tC (.int 1)))) (tC (.int 1))) (tUn fNeg (tC (.int 1))))) (tCons (tOp (fIxT K) (fV 0) (tOp (fIxT K) (tOp (fIxT K) (tOp (fIxT K) (fV 2) (tUn fNeg (tC (.int 1)))) (tC (.int 1))) (tUn fNeg (tC (.int 1))))) tNil)))
    (tRet (tIf (fT (tOp (fIxT K) (tOp (fIxT K) (fV 1) (tUn fNeg (tC (.int 1)))) (tC (.int 0)))) (tOp fLt (fV 3) (fV 4)) (tOp fGt (fV 3) (fV 4)))))
abbrev Pure_is_better (K : PySem.W.Frag) : Prop := ∀ (vs : List V) (H : Hp) (Q : VK) (E : XK), sp_is_better K vs H Q E → t_is_better K { nx := fun _ H' => Q .non H', rt := Q } (L2.start N_is_better vs) H
theorem pure_is_better (T : Tx K mg) : Pure_is_better K := by
  intro vs H Q E h
  obtain ⟨x, y, z, rfl, h⟩ := on3_ex h
  obtain ⟨k, rfl, h⟩ := onRef_ex h
  obtain ⟨a, rfl, h⟩ := onRef_ex h
  obtain ⟨b, rfl, ks, p, q, m, hk, hp, hq, np, nq, wp, wq, hQ⟩ := onRef_ex h
  rcases snoc_of p with rfl | ⟨p, ⟨u, is⟩, rfl⟩
  · exact absurd rfl np
  rcases snoc_of q with rfl | ⟨q, ⟨v, js⟩, rfl⟩
  · exact absurd rfl nq
  obtain ⟨as, ra, h1, h2, sa, h3, h4⟩ := hp.snoc_inv
  obtain ⟨bs, rb, g1, g2, sb, g3, g4⟩ := hq.snoc_inv
  obtain ⟨_, _, ni, li, _⟩ := wp.init
  obtain ⟨_, _, nj, lj, _⟩ := wq.init
  rcases snoc_of is with rfl | ⟨is, i, rfl⟩
  · exact absurd rfl ni
  rcases snoc_of js with rfl | ⟨js, j, rfl⟩
  · exact absurd rfl nj
  have hi := li i (List.mem_append_right _ (List.mem_singleton.mpr rfl))
  have hj := lj j (List.mem_append_right _ (List.mem_singleton.mpr rfl))
  have h4' : SqT K H sa (natsV is ++ [.int (i : Int)]) := by rw [natsV_app] at h4; exact h4
  have g4' : SqT K H sb (natsV js ++ [.int (j : Int)]) := by rw [natsV_app] at g4; exact g4
  have el1 : (as.map V.ref ++ [V.ref ra]).length = (p ++ [(u, is ++ [i])]).length := by rw [List.length_append, List.length_append, List.length_map, h2.length]; rfl
  have el2 : (bs.map V.ref ++ [V.ref rb]).length = (q ++ [(v, js ++ [j])]).length := by rw [List.length_append, List.length_append, List.length_map, g2.length]; rfl
  refine ⟨_, .inr h1, _, .inr g1, ?_⟩
  rw [el1, el2]
  unfold isBetter at hQ
  refine ite2 (fun hz => ?_) (fun hz => ?_)
  · have e : ¬ (p ++ [(u, is ++ [i])]).length = (q ++ [(v, js ++ [j])]).length := fun z => by
      rw [z] at hz
      simp at hz
    rw [if_neg e] at hQ
    refine ⟨_, .inr h1, _, .inr g1, ?_⟩
    rw [el1, el2]
    have e2 : decide ((((p ++ [(u, is ++ [i])]).length : Nat) : Int) < (((q ++ [(v, js ++ [j])]).length : Nat) : Int)) = decide ((p ++ [(u, is ++ [i])]).length < (q ++ [(v, js ++ [j])]).length) := by
      rw [decide_eq_decide]
      omega
    rw [← e2] at hQ
    exact hQ
  · have e : (p ++ [(u, is ++ [i])]).length = (q ++ [(v, js ++ [j])]).length := by
      refine Classical.byContradiction fun z => hz ?_
      have : ¬ (V.int (((p ++ [(u, is ++ [i])]).length : Nat) : Int) = V.int (((q ++ [(v, js ++ [j])]).length : Nat) : Int)) := fun y => z (by injection y with y; omega)
      rw [decide_eq_false this]
      rfl
    rw [if_pos e, lastP_snoc, lastP_snoc, lastR_snoc, lastR_snoc] at hQ
    refine ⟨_, h1, _, atI_last _ _, _, h3, _, rfl, _, h4', _, atI_last _ _, _, hk, _, at_key hi, ?_⟩
    refine ⟨_, g1, _, atI_last _ _, _, g3, _, rfl, _, g4', _, atI_last _ _, _, hk, _, at_key hj, ?_⟩
    refine ⟨_, _, rfl, ?_⟩
    refine ⟨_, h1, _, atI_last _ _, _, h3, _, rfl, ?_⟩
    cases u
    · exact hQ
    · exact hQ
theorem b_is_better (T : Tx K mg) : Binds K (fdA K (He.fAd K d_is_better.at_)) ["keys", "plan", "other"] [] := T.F_is_better.bindsN fun _ _ _ _ _ _ us hl => match us, hl with | [_, _, _], _ => rfl
theorem ok_is_better (T : Tx K mg) : FnOk P w K mg base CX0 1 (He.fAd K d_is_better.at_) (fdA K (He.fAd K d_is_better.at_)) ["keys", "plan", "other"] (sp_is_better K) :=
  T.F_is_better.ok sc_is_better (fun _ _ _ _ h => on3_len h) (fun cdv A outer s H vs Q E hr h => ⟨t_is_better K, PSs.nox ((pss_cons (ps_if (t_cmp o_ne (pe_callB c_len (by rfl) T.b_len boot_len (pa_cons (vv 1) pa_nil)) (pe_callB c_len (by rfl) T.b_len boot_len (pa_cons (vv 2) pa_nil)) (nomark _))
      (pss_one (ps_ret (pe_cmpR o_lt (pe_callB c_len (by rfl) T.b_len boot_len (pa_cons (vv 1) pa_nil)) (pe_callB c_len (by rfl) T.b_len boot_len (pa_cons (vv 2) pa_nil)) (nomark _)))) pss_nil)
      (pss_cons (ps_par (by rfl) sc_is_better.nd rfl rfl (by decide) rfl rfl (pa_cons (pe_ix x_tup (vv 0) (pe_ix x_tup (pe_ix x_tup (pe_ix x_tup (vv 1) (pe_un o_neg pe_int) (fun _ _ => rfl)) pe_int (fun _ _ => rfl)) (pe_un o_neg pe_int) (fun _ _ => rfl)) (fun _ _ => rfl)) (pa_cons (pe_ix x_tup (vv 0) (pe_ix x_tup (pe_ix x_tup (pe_ix x_tup (vv 2) (pe_un o_neg pe_int) (fun _ _ => rfl)) pe_int (fun _ _ => rfl)) (pe_un o_neg pe_int) (fun _ _ => rfl)) (fun _ _ => rfl)) pa_nil)) (by rfl))
      (pss_one (ps_ret (pe_ifExp (t_val (pe_ix x_tup (pe_ix x_tup (vv 1) (pe_un o_neg pe_int) (fun _ _ => rfl)) pe_int (fun _ _ => rfl))) (pe_cmpR o_lt (vv 3) (vv 4) (nomark _)) (pe_cmpR o_gt (vv 3) (vv 4) (nomark _)))))))), pure_is_better T vs H Q E h⟩)
/-- the plans behind one -/
def sp_plans_behind (K : PySem.W.Frag) : L2.Sp := fun vs H Q _ => on4 vs fun x y z t => onRef x fun b => onRef y fun k => onRef z fun a => onInt t fun i => ∃ (ks : List Int) (room : Nat) (down : Bool) (plan : Plan) (j m : Nat), BestAt K H b room down ∧ SqT K H k (ks.map V.int) ∧ PlanAt K H a plan ∧ WfP ks.length m plan ∧ m ≤ 1000 ∧ i = j ∧ j < ks.length ∧
  ∀ (q : Addr) (H' : Hp) (as : List Addr), Same H H' → H q = none → H' q = some (.lst (as.map V.ref)) → Each (PlanAt K H') as (plansBehind down ks plan j) → Q (.ref q) H'
abbrev N_plans_behind : List Str := ["best", "keys", "plan", "index", "found", "up", "records"]
theorem sc_plans_behind : FnScope N_plans_behind ["best", "keys", "plan", "index"] (defScope s_plans_behind) := ⟨rfl, rfl, rfl, by decide +kernel, rfl, by decide +kernel, by decide +kernel⟩
def t_plans_behind (K : PySem.W.Frag) : TS :=
    tSeq (tAsg (tLst tNil) (gName 4))
    (tSeq (tIfS (tAnd (fT (tOp (rNeD K) (fV 2) (tTup tNil))) (fT (tCall (sp_goes_on K) [] E0 (tCons (fV 1) (tCons (tOp (fIxT K) (fV 2) (tUn fNeg (tC (.int 1)))) (tCons (fV 3) tNil))))))
    (tSeq (tAsg (tOp (fIxT K) (fV 2) (tUn fNeg (tC (.int 1)))) (gTup K 2 (gCons (gName 5) (gCons (gName 6) gNil))))
    (tDrop (tBM K "list" rAppend (fV 4) (tCons (tTup (StX.tStar K (tSl (rSlA K) (fV 2) tNoPart (tPart (tUn fNeg (tC (.int 1))))) (tCons (tTup (tCons (fV 5) (tCons (tTup (StX.tStar K (fV 6) (tCons (fV 3) tNil))) tNil))) tNil))) tNil)))) tNext)
    (tSeq (tDrop (tBM K "list" rAppend (fV 4) (tCons (tTup (StX.tStar K (fV 2) (tCons (tTup (tCons (tC (.bl true)) (tCons (tTup (tCons (fV 3) tNil)) tNil))) tNil))) tNil)))
    (tSeq (tIfS (fT (tPropV (He.ga K "Best") (sp_Best_down K) E0 (fV 0)))
    (tDrop (tBM K "list" rAppend (fV 4) (tCons (tTup (StX.tStar K (fV 2) (tCons (tTup (tCons (tC (.bl false)) (tCons (tTup (tCons (fV 3) tNil)) tNil))) tNil))) tNil))) tNext)
    (tRet (fV 4)))))
abbrev Pure_plans_behind (K : PySem.W.Frag) : Prop := ∀ (vs : List V) (H : Hp) (Q : VK) (E : XK), sp_plans_behind K vs H Q E → t_plans_behind K { nx := fun _ H' => Q .non H', rt := Q } (L2.start N_plans_behind vs) H
theorem one_run {H : Hp} {a t q : Addr} {as : List Addr} {p : Plan} {u : Bool} {is : List Nat} (h1 : SqT K H a [.bl u, .ref t]) (h2 : SqT K H t (natsV is)) (h3 : Each (RunAt K H) as p) (h4 : SqT K H q (as.map V.ref ++ [V.ref a])) : PlanAt K H q (p ++ [(u, is)]) :=
  ⟨as ++ [a], by rw [List.map_append]; exact h4, h3.snoc ⟨t, h1, h2⟩⟩
theorem sIx_last (n d : Nat) : HT.sIx n d (some (-1)) = n - 1 := by
  show (if (-1 : Int) < 0 then ((-1 : Int) + (n : Int)).toNat else min (-1 : Int).toNat n) = n - 1
  rw [if_pos (by decide)]
  omega
theorem cut_part (as : List Addr) (b : Addr) : HT.sIx (as.map V.ref ++ [V.ref b]).length (as.map V.ref ++ [V.ref b]).length (some (-1)) ≠ (as.map V.ref ++ [V.ref b]).length := by
  rw [sIx_last, List.length_append]
  show (as.map V.ref).length + 1 - 1 ≠ (as.map V.ref).length + 1
  omega
theorem cut_snoc (as : List Addr) (b : Addr) : cutV (as.map V.ref ++ [V.ref b]) none (some (-1)) = as.map V.ref := by
  unfold cutV
  rw [HT.sIx_none, List.drop_zero, sIx_last, List.length_append]
  show (as.map V.ref ++ [V.ref b]).take ((as.map V.ref).length + 1 - 1 - 0) = _
  rw [show (as.map V.ref).length + 1 - 1 - 0 = (as.map V.ref).length by omega, List.take_left]
theorem lst_ne {H : Hp} {q : Addr} {xs ys : List V} {o : HO} (h : H q = some (.lst xs)) : ∀ {b : Addr}, H b = none → q ≠ b := fun hb => ne_of_none h hb
theorem pure_plans_behind (T : Tx K mg) : Pure_plans_behind K := by
  intro vs H Q E h
  obtain ⟨x, y, z, t, rfl, h⟩ := on4_ex h
  obtain ⟨b, rfl, h⟩ := onRef_ex h
  obtain ⟨k, rfl, h⟩ := onRef_ex h
  obtain ⟨a, rfl, h⟩ := onRef_ex h
  obtain ⟨i, rfl, ks, room, down, plan, j, m, hb, hk, hp, wp, hm, rfl, hj, hQ⟩ := onInt_ex h
  refine ⟨by show 0 ≤ sizeLine; exact Nat.zero_le _, fun q hq => ?_⟩
  have e0 := Same.upd (o := .lst []) hq
  have q0 : (upd H q (.lst [])) q = some (.lst []) := upd_same
  show tSeq _ _ _ [some (.ref b), some (.ref k), some (.ref a), some (.int j), some (.ref q), none, none] (upd H q (.lst []))
  generalize upd H q (.lst []) = H0 at e0 q0
  have fin : ∀ (o1 o2 : Option V) (H1 : Hp) (as : List Addr), Same H H1 → H1 q = some (.lst (as.map V.ref)) → Each (PlanAt K H1) as (onRun ks plan j) → as.length ≤ 1 → (tSeq (tDrop (tBM K "list" rAppend (fV 4) (tCons (tTup (StX.tStar K (fV 2) (tCons (tTup (tCons (tC (.bl true)) (tCons (tTup (tCons (fV 3) tNil)) tNil))) tNil))) tNil)))
      (tSeq (tIfS (fT (tPropV (He.ga K "Best") (sp_Best_down K) E0 (fV 0))) (tDrop (tBM K "list" rAppend (fV 4) (tCons (tTup (StX.tStar K (fV 2) (tCons (tTup (tCons (tC (.bl false)) (tCons (tTup (tCons (fV 3) tNil)) tNil))) tNil))) tNil))) tNext) (tRet (fV 4)))) { nx := fun _ H' => Q .non H', rt := Q } [some (.ref b), some (.ref k), some (.ref a), some (.int j), some (.ref q), o1, o2] H1 := by
    intro o1 o2 H1 as e1 q1 E1 l1
    obtain ⟨ps, hps, eps⟩ := hp.tk (TK.of e1)
    have lps := eps.length
    have wl := wp.len
    refine ⟨.inl ⟨rfl, _, SqL.of q1⟩, a, _, rfl, .inl hps, by show 1 ≤ sizeLine; decide, fun t1 ht1 => ?_⟩
    refine ⟨by show 2 ≤ sizeLine; decide, fun t2 ht2 => ?_⟩
    have s1 := Same.upd (o := .tup [.int j]) ht1
    have s2 := Same.upd (o := .tup [.bl true, .ref t1]) ht2
    refine ⟨by rw [List.length_append, List.length_map, lps, sizeLine_eq]; show plan.length + 1 ≤ _; omega, fun t3 ht3 => ?_⟩
    have s3 := Same.upd (o := .tup (ps.map V.ref ++ [V.ref t2])) ht3
    have q3 := (s1.trans (s2.trans s3)) _ _ q1
    refine ⟨q, _, _, rfl, rfl, q3, by rw [List.length_map, sizeLine_eq]; omega, ?_⟩
    have P3 : PlanAt K (upd (upd (upd H1 t1 (.tup [.int j])) t2 (.tup [.bl true, .ref t1])) t3 (.tup (ps.map V.ref ++ [V.ref t2]))) t3 (plan ++ [(true, [j])]) := one_run (sameT s3 (SqT.of upd_same)) (sameT (s2.trans s3) (SqT.of upd_same)) (eps.imp fun _ _ z => z.tk (TK.of (s1.trans (s2.trans s3)))) (SqT.of upd_same)
    have E3 := E1.imp (S := PlanAt K (upd (upd (upd H1 t1 (.tup [.int j])) t2 (.tup [.bl true, .ref t1])) t3 (.tup (ps.map V.ref ++ [V.ref t2])))) fun _ _ z => z.tk (TK.of (s1.trans (s2.trans s3)))
    have hps3 := sameT (s1.trans (s2.trans s3)) hps
    have eps3 := eps.imp (S := RunAt K (upd (upd (upd H1 t1 (.tup [.int j])) t2 (.tup [.bl true, .ref t1])) t3 (.tup (ps.map V.ref ++ [V.ref t2])))) fun _ _ z => z.tk (TK.of (s1.trans (s2.trans s3)))
    have e3 : Same H _ := e1.trans (s1.trans (s2.trans s3))
    show tSeq _ _ _ [some (.ref b), some (.ref k), some (.ref a), some (.int j), some (.ref q), o1, o2] (upd (upd (upd (upd H1 t1 (.tup [.int j])) t2 (.tup [.bl true, .ref t1])) t3 (.tup (ps.map V.ref ++ [V.ref t2]))) q (.lst (as.map V.ref ++ [V.ref t3])))
    generalize (upd (upd (upd H1 t1 (.tup [.int j])) t2 (.tup [.bl true, .ref t1])) t3 (.tup (ps.map V.ref ++ [V.ref t2]))) = H3 at *
    have k4 : TK K H3 (upd H3 q (.lst (as.map V.ref ++ [V.ref t3]))) := TK.lst q3
    have e4 : Same H (upd H3 q (.lst (as.map V.ref ++ [V.ref t3]))) := newO hq e3
    have q4 : (upd H3 q (.lst (as.map V.ref ++ [V.ref t3]))) q = some (.lst ((as ++ [t3]).map V.ref)) := by rw [upd_same, List.map_append]; rfl
    have P4 := P3.tk k4
    have E4 := E3.imp (S := PlanAt K (upd H3 q (.lst (as.map V.ref ++ [V.ref t3])))) fun _ _ z => z.tk k4
    have hps4 := k4 _ _ hps3
    have eps4 := eps3.imp (S := RunAt K (upd H3 q (.lst (as.map V.ref ++ [V.ref t3])))) fun _ _ z => z.tk k4
    generalize (upd H3 q (.lst (as.map V.ref ++ [V.ref t3]))) = H4 at *
    have hb4 := hb.same e4
    obtain ⟨dx, sp, hb1, hb2⟩ := id hb4
    refine ⟨⟨dx, _, hb1⟩, room, down, hb4, ?_⟩
    cases down with
    | false => exact hQ q H4 _ e4 hq q4 (by unfold plansBehind; rw [if_neg Bool.false_ne_true, List.append_nil]; exact E4.snoc P4)
    | true =>
      refine ⟨.inl ⟨rfl, _, SqL.of q4⟩, a, _, rfl, .inl hps4, by show 1 ≤ sizeLine; decide, fun u1 hu1 => ?_⟩
      refine ⟨by show 2 ≤ sizeLine; decide, fun u2 hu2 => ?_⟩
      have r1 := Same.upd (o := .tup [.int j]) hu1
      have r2 := Same.upd (o := .tup [.bl false, .ref u1]) hu2
      refine ⟨by rw [List.length_append, List.length_map, lps, sizeLine_eq]; show plan.length + 1 ≤ _; omega, fun u3 hu3 => ?_⟩
      have r3 := Same.upd (o := .tup (ps.map V.ref ++ [V.ref u2])) hu3
      have q5 := (r1.trans (r2.trans r3)) _ _ q4
      refine ⟨q, _, _, rfl, rfl, q5, by rw [List.length_map, List.length_append, sizeLine_eq]; show as.length + 1 < _; omega, ?_⟩
      have k5 := TK.lst (K := K) (zs := (as ++ [t3]).map V.ref ++ [V.ref u3]) q5
      have k45 := (TK.of (K := K) (r1.trans (r2.trans r3))).trans k5
      have P5 : PlanAt K _ u3 (plan ++ [(false, [j])]) := (one_run (sameT r3 (SqT.of upd_same)) (sameT (r2.trans r3) (SqT.of upd_same)) (eps4.imp fun _ _ z => z.tk (TK.of (r1.trans (r2.trans r3)))) (SqT.of upd_same)).tk k5
      refine hQ q _ (as ++ [t3] ++ [u3]) (newO hq (e4.trans (r1.trans (r2.trans r3)))) hq (by rw [upd_same, List.map_append (l₁ := as ++ [t3])]; rfl) ?_
      unfold plansBehind
      rw [if_pos rfl]
      exact ((E4.snoc P4).imp fun _ _ z => z.tk k45).snoc P5
  rcases snoc_of plan with rfl | ⟨p, r, rfl⟩
  · refine ⟨by show 0 ≤ sizeLine; exact Nat.zero_le _, fun e he => ?_⟩
    have s1 := Same.upd (o := .tup []) he
    refine ⟨planD [], .tuple [], (hp.tk (TK.of (e0.trans s1))).dp, .tup (SqT.of upd_same) .nil, plan_shaped _, nil_shaped, ?_⟩
    exact fin none none _ [] (e0.trans s1) (s1 _ _ q0) .nil (Nat.zero_le _)
  · obtain ⟨as, ra, h1, h2, h3⟩ := hp.snoc_inv
    obtain ⟨_, wl, n1, n2, n3⟩ := wp.init
    refine ⟨by show 0 ≤ sizeLine; exact Nat.zero_le _, fun e he => ?_⟩
    have s1 := Same.upd (o := .tup []) he
    have ne : PyData.eqv (planD (p ++ [r])) (.tuple []) = false := by
      unfold planD
      rw [eqv_nil, List.map_append]
      cases p <;> rfl
    refine ⟨planD (p ++ [r]), .tuple [], (hp.tk (TK.of (e0.trans s1))).dp, .tup (SqT.of upd_same) .nil, plan_shaped _, nil_shaped, ?_⟩
    rw [ne]
    have e1 := e0.trans s1
    have q1 := s1 _ _ q0
    generalize upd H0 e (.tup []) = H1 at *
    refine ⟨_, sameT e1 h1, _, atI_last _ _, ks, r, j, sameT e1 hk, h3.tk (TK.of e1), n1, n2, hj, rfl, ?_⟩
    cases hg : goesOn ks r j with
    | false =>
      refine fin none none H1 [] e1 q1 ?_ (Nat.zero_le _)
      rw [onRun_snoc, if_neg (by rw [hg]; exact Bool.false_ne_true)]
      exact .nil
    | true =>
      obtain ⟨t0, g1, g2⟩ := h3.tk (TK.of e1)
      refine ⟨_, sameT e1 h1, _, atI_last _ _, ra, _, rfl, g1, rfl, _, _, rfl, _, _, rfl, rfl, ?_⟩
      refine ⟨.inl ⟨rfl, _, SqL.of q1⟩, -1, rfl, a, _, rfl, sameT e1 h1, fun hw => absurd hw.2 (cut_part _ _), fun _ c hc => ?_⟩
      rw [cut_snoc]
      have s2 := Same.upd (o := .tup (as.map V.ref)) hc
      refine ⟨c, _, rfl, .inl (SqT.of upd_same), t0, _, rfl, .inl (sameT s2 g2), ?_⟩
      refine ⟨by rw [List.length_append, natsV_len, sizeLine_eq]; show r.2.length + 1 ≤ _; omega, fun t1 ht1 => ?_⟩
      have s3 := Same.upd (o := .tup (natsV r.2 ++ [.int j])) ht1
      refine ⟨by show 2 ≤ sizeLine; decide, fun t2 ht2 => ?_⟩
      have s4 := Same.upd (o := .tup [.bl r.1, .ref t1]) ht2
      have la := h2.length
      refine ⟨by rw [List.length_append, List.length_map, la, sizeLine_eq]; show p.length + 1 ≤ _; omega, fun t3 ht3 => ?_⟩
      have s5 := Same.upd (o := .tup (as.map V.ref ++ [V.ref t2])) ht3
      have s14 := s2.trans (s3.trans (s4.trans s5))
      have q5 := s14 _ _ q1
      refine ⟨q, _, _, rfl, rfl, q5, by show 0 < sizeLine; rw [sizeLine_eq]; decide, ?_⟩
      have k6 := TK.lst (K := K) (zs := [] ++ [V.ref t3]) q5
      refine fin _ _ _ [t3] (newO hq (e1.trans s14)) upd_same ?_ (Nat.le_refl _)
      rw [onRun_snoc, if_pos hg]
      refine .cons (PlanAt.tk k6 (one_run (sameT s5 (SqT.of upd_same)) (sameT (s4.trans s5) ?_) (h2.imp fun _ _ z => z.tk (TK.of (e1.trans s14))) (SqT.of upd_same))) .nil
      rw [natsV_app]
      exact SqT.of upd_same
theorem b_plans_behind (T : Tx K mg) : Binds K (fdA K (He.fAd K d_plans_behind.at_)) ["best", "keys", "plan", "index"] [] := T.F_plans_behind.bindsN fun _ _ _ _ _ _ us hl => match us, hl with | [_, _, _, _], _ => rfl
theorem ok_plans_behind (T : Tx K mg) : FnOk P w K mg base CX0 3 (He.fAd K d_plans_behind.at_) (fdA K (He.fAd K d_plans_behind.at_)) ["best", "keys", "plan", "index"] (sp_plans_behind K) :=
  T.F_plans_behind.ok sc_plans_behind (fun _ _ _ _ h => on4_len h) (fun cdv A outer s H vs Q E hr h => ⟨t_plans_behind K, PSs.nox ((pss_cons (ps_set (i := 4) sc_plans_behind.nd rfl (.inl rfl) (pe_lst pa_nil))
      (pss_cons (ps_if (PW.pt (pw_and (t_cmp (op_neD hr.units) (vv 2) (pe_tup pa_nil) (nomark _)) (pw_and1 (t_val (pe_call (ok_goes_on T) (hr.mono (by decide)) (by rfl) T.g_goes_on T.F_goes_on.kp (b_goes_on T) .nil pass0 (pa_cons (vv 1) (pa_cons (pe_ix x_tup (vv 2) (pe_un o_neg pe_int) (fun _ _ => rfl)) (pa_cons (vv 3) pa_nil))))))))
      (pss_cons (ps_asg (pe_ix x_tup (vv 2) (pe_un o_neg pe_int) (fun _ _ => rfl)) (pg_tup rfl (pgs_cons (pg_name (i := 5) sc_plans_behind.nd rfl (.inl rfl)) (pgs_cons (pg_name (i := 6) sc_plans_behind.nd rfl (.inl rfl)) pgs_nil))))
      (pss_one (ps_expr (pe_bm PySem.F.plainAttrs_list PySem.F.slot_list_append PySem.F.type_list_append mt_append (vv 4) (pa_cons (pe_tup (StX.pa_star (pe_slice sl_tupA (vv 2) po_none (po_some (pe_un o_neg pe_int))) (pa_cons (pe_tup (pa_cons (vv 5) (pa_cons (pe_tup (StX.pa_star (vv 6) (pa_cons (vv 3) pa_nil))) pa_nil))) pa_nil))) pa_nil))))) pss_nil)
      (pss_cons (ps_expr (pe_bm PySem.F.plainAttrs_list PySem.F.slot_list_append PySem.F.type_list_append mt_append (vv 4) (pa_cons (pe_tup (StX.pa_star (vv 2) (pa_cons (pe_tup (pa_cons pe_bl (pa_cons (pe_tup (pa_cons (vv 3) pa_nil)) pa_nil))) pa_nil))) pa_nil)))
      (pss_cons (ps_if (t_val (e_prop (vv 0) T.cl_Best T.p_Best_down (ck0 (ok_Best_down T) (b_Best_down T) pass0) (hr.mono (by decide))))
      (pss_one (ps_expr (pe_bm PySem.F.plainAttrs_list PySem.F.slot_list_append PySem.F.type_list_append mt_append (vv 4) (pa_cons (pe_tup (StX.pa_star (vv 2) (pa_cons (pe_tup (pa_cons pe_bl (pa_cons (pe_tup (pa_cons (vv 3) pa_nil)) pa_nil))) pa_nil))) pa_nil)))) pss_nil)
      (pss_one (ps_ret (vv 4)))))))), pure_plans_behind T vs H Q E h⟩)
/-! ### tables in the heap -/
inductive TabR (K : PySem.W.Frag) (H : Hp) : List (PK × Addr × Addr) → Tab → Prop where
  | nil : TabR K H [] []
  | cons {k : PK} {a v : Addr} {p : Plan} {xs : List (PK × Addr × Addr)} {t : Tab} (h : PlanAt K H v p) (r : TabR K H xs t) : TabR K H ((k, a, v) :: xs) ((k, p) :: t)
theorem TabR.tk {H H' : Hp} (e : TK K H H') : ∀ {xs : List (PK × Addr × Addr)} {t : Tab}, TabR K H xs t → TabR K H' xs t
  | _, _, .nil => .nil
  | _, _, .cons h r => .cons (h.tk e) (r.tk e)
theorem TabR.keys {H : Hp} : ∀ {xs : List (PK × Addr × Addr)} {t : Tab}, TabR K H xs t → xs.map (·.1) = t.map (·.1)
  | _, _, .nil => rfl
  | _, _, .cons h r => by rw [List.map_cons, List.map_cons, r.keys]
theorem TabR.length {H : Hp} {xs : List (PK × Addr × Addr)} {t : Tab} (h : TabR K H xs t) : xs.length = t.length := by
  have := congrArg List.length h.keys
  rwa [List.length_map, List.length_map] at this
theorem TabR.get {H : Hp} : ∀ {xs : List (PK × Addr × Addr)} {t : Tab} {i : Nat} {x : PK × Addr × Addr}, TabR K H xs t → xs[i]? = some x → ∃ e, t[i]? = some e ∧ x.1 = e.1 ∧ PlanAt K H x.2.2 e.2
  | _, _, _, _, .nil, h => by simp at h
  | _, _, 0, _, .cons h r, e => by
    simp at e
    subst e
    exact ⟨_, rfl, rfl, h⟩
  | _, _, i + 1, x, .cons _ r, e => by
    obtain ⟨y, h1, h2⟩ := r.get (i := i) (x := x) (by simpa using e)
    exact ⟨y, by simpa using h1, h2⟩
theorem TabR.val {H : Hp} : ∀ {xs : List (PK × Addr × Addr)} {t : Tab} {k : PK} {p : Plan}, TabR K H xs t → getT t k = some p → ∃ v, valP xs k = some v ∧ PlanAt K H v p
  | _, _, _, _, .nil, h => by cases h
  | _, _, k, p, .cons (k := k') (a := a) (v := v) (p := p') h r, e => by
    unfold getT at e
    unfold valP
    rw [List.find?_cons] at e ⊢
    by_cases z : k' = k
    · simp only [decide_eq_true z] at e ⊢
      cases e
      exact ⟨v, rfl, h⟩
    · simp only [decide_eq_false z] at e ⊢
      exact r.val e
theorem TabR.map {H : Hp} {k : PK} {v : Addr} {p : Plan} (hv : PlanAt K H v p) : ∀ {xs : List (PK × Addr × Addr)} {t : Tab}, TabR K H xs t → TabR K H (xs.map fun x => if x.1 = k then (x.1, x.2.1, v) else x) (t.map fun x => if x.1 = k then (x.1, p) else x)
  | _, _, .nil => .nil
  | _, _, .cons (k := k') h r => by
    rw [List.map_cons, List.map_cons]
    dsimp only
    by_cases z : k' = k
    · rw [if_pos z, if_pos z]
      exact .cons hv (r.map hv)
    · rw [if_neg z, if_neg z]
      exact .cons h (r.map hv)
theorem TabR.snoc {H : Hp} {k : PK} {a v : Addr} {p : Plan} (hv : PlanAt K H v p) : ∀ {xs : List (PK × Addr × Addr)} {t : Tab}, TabR K H xs t → TabR K H (xs ++ [(k, a, v)]) (t ++ [(k, p)])
  | _, _, .nil => .cons hv .nil
  | _, _, .cons h r => .cons h (r.snoc hv)
theorem TabR.put {H : Hp} {k : PK} {a v : Addr} {p : Plan} {xs : List (PK × Addr × Addr)} {t : Tab} (h : TabR K H xs t) (hv : PlanAt K H v p) : TabR K H (putP xs k a v) (putT t k p) := by
  unfold putP putT
  rw [h.keys]
  split
  · exact h.map hv
  · exact h.snoc hv
/-- a table at d -/
def TabAt (K : PySem.W.Frag) (H : Hp) (d : Addr) (t : Tab) : Prop := ∃ xs, PDict K H d xs ∧ TabR K H xs t
theorem TabAt.same {H H' : Hp} {d : Addr} {t : Tab} (e : Same H H') (h : TabAt K H d t) : TabAt K H' d t := by
  obtain ⟨xs, h1, h2⟩ := h
  exact ⟨xs, h1.same e, h2.tk (TK.of e)⟩
theorem pd_tkx {H H' : Hp} {f : Addr} {xs : List (PK × Addr × Addr)} (h : PDict K H f xs) (k : KpX f H H') : TK K H H' := fun l ys hl => by
  obtain ⟨⟨ep, hf⟩, _⟩ := h
  rcases hl with (hl | ⟨ob, hl⟩) | hl
  · exact .inl (.inl (k _ _ (ne_of hl hf (fun z => by cases z)) hl))
  · exact .inl (.inr ⟨ob, k _ _ (ne_of hl hf (fun z => by cases z)) hl⟩)
  · exact .inr hl
theorem TabAt.kx {H H' : Hp} {f d : Addr} {t : Tab} {xs : List (PK × Addr × Addr)} (hf : PDict K H f xs) (k : KpX f H H') (n : d ≠ f) (h : TabAt K H d t) : TabAt K H' d t := by
  obtain ⟨ys, h1, h2⟩ := h
  obtain ⟨⟨ep, e⟩, _⟩ := id h1
  exact ⟨ys, h1.to ((k _ _ n e).trans e.symm) (pd_tkx hf k), h2.tk (pd_tkx hf k)⟩

end K21
namespace K21
open PySem PySem.Spec PyProof.Rows L2 Sp
variable {P : Program} {w : World} {K : PySem.W.Frag} {mg : Str → Option Value} {base : Heap}
theorem gn' {i : Nat} {v : V} {σ σ' : L2.St} {H : Hp} {Q : L2.St → Hp → Prop} (e : σ.set i (some v) = σ') (h : Q σ' H) : gName i v σ H Q := by
  show Q (σ.set i (some v)) H
  rw [e]
  exact h
theorem gn {i : Nat} {v : V} {σ : L2.St} {H : Hp} {Q : L2.St → Hp → Prop} (h : Q (σ.set i (some v)) H) : gName i v σ H Q := h
theorem key_at {H : Hp} {a b : Addr} {s : List Nat} {u : Option Bool} (h1 : SqT K H a [.ref b, uV u]) (h2 : SqT K H b (natsV s)) : KeyAt K H (s, u) a := ⟨b, h1, h2⟩
theorem nats_filter (l : List Nat) (r : Nat) : (natsV l).filter (fun x => !decide (x = V.int (r : Int))) = natsV (l.filter fun o => decide (o ≠ r)) := by
  unfold natsV
  rw [List.filter_map]
  congr 1
  refine List.filter_congr fun x _ => ?_
  simp only [Function.comp_apply]
  by_cases e : x = r
  · simp [e]
  · have : ¬ (V.int (x : Int) = V.int (r : Int)) := fun z => by injection z with z; omega
    simp [e, this]
/-- the plans once a record has been read -/
def sp_plans_led (K : PySem.W.Frag) : L2.Sp := fun vs H Q _ => on4 vs fun x y z t => onRef x fun b => onRef y fun k => onRef z fun d => onInt t fun i => ∃ (ks : List Int) (room : Nat) (down : Bool) (t : Tab) (j m : Nat), BestAt K H b room down ∧ SqT K H k (ks.map V.int) ∧ TabAt K H d t ∧ TInv ks.length room m t ∧ ks.length ≤ 40 ∧ room ≤ 3 ∧ m ≤ 100 ∧ i = j ∧ j < ks.length ∧
  ∀ (f : Addr) (H' : Hp), Same H H' → H f = none → TabAt K H' f (plansLed down room ks t j) → Q (.ref f) H'
abbrev N_plans_led : List Str := ["best", "keys", "plans", "index", "found", "stored", "up", "held", "record", "rest", "plan", "key", "other"]
theorem sc_plans_led : FnScope N_plans_led ["best", "keys", "plans", "index"] (defScope s_plans_led) := ⟨rfl, rfl, rfl, by decide +kernel, rfl, by decide +kernel, by decide +kernel⟩
def t_plans_led (K : PySem.W.Frag) : TS :=
    tSeq (tAsg (tNewP K) (gName 4))
    (tSeq (tFor (iPD K (fV 2)) (gTup K 2 (gCons (gName 5) (gCons (gName 6) gNil)))
    (tSeq (tAsg (tTup (StX.tStar K (fV 5) (tCons (fV 3) tNil))) (gName 7))
    (tSeq (tIfS (fT (tOp fLt (tCB (fLen K) (tCons (fV 7) tNil)) (tPropV (He.ga K "Best") (sp_Best_room K) E0 (fV 0))))
    (tSeq (tAsg (tOp (fGetP K) (fV 2) (tTup (tCons (fV 5) (tCons (fV 6) tNil)))) (gSub (fV 4) (tTup (tCons (fV 7) (tCons (fV 6) tNil))) (fSetP K)))
    tCont) tNext)
    (tFor (iTup K (fV 7)) (gName 8)
    (tSeq (tAsg (tCB (fTupOfL K) (tCons (tLc (iTup K (fV 7)) (gName 12) (fT (tOp fNe (fV 12) (fV 8))) (fV 12) [12]) tNil)) (gName 9))
    (tFor (iList K (tCall (sp_plans_behind K) [] E0 (tCons (fV 0) (tCons (fV 1) (tCons (tOp (fGetP K) (fV 2) (tTup (tCons (fV 5) (tCons (fV 6) tNil)))) (tCons (fV 8) tNil)))))) (gName 10)
    (tSeq (tAsg (tTup (tCons (fV 9) (tCons (tOp (fIxT K) (tOp (fIxT K) (fV 10) (tUn fNeg (tC (.int 1)))) (tC (.int 0))) tNil))) (gName 11))
    (tIfS (tOr (fT (tOp (fInP K true) (fV 11) (fV 4))) (fT (tCall (sp_is_better K) [] E0 (tCons (fV 1) (tCons (fV 10) (tCons (tOp (fGetP K) (fV 4) (fV 11)) tNil))))))
    (tAsg (fV 10) (gSub (fV 4) (fV 11) (fSetP K))) tNext))))))))
    (tRet (fV 4)))
abbrev Pure_plans_led (K : PySem.W.Frag) : Prop := ∀ (vs : List V) (H : Hp) (Q : VK) (E : XK), sp_plans_led K vs H Q E → t_plans_led K { nx := fun _ H' => Q .non H', rt := Q } (L2.start N_plans_led vs) H
theorem getT_at {t : Tab} {k : Sp.PK} {p : Plan} (hd : (t.map (·.1)).Nodup) (h : (k, p) ∈ t) : getT t k = some p := by
  unfold getT
  induction t with
  | nil => cases h
  | cons x r ih =>
    rw [List.map_cons, List.nodup_cons] at hd
    rw [List.find?_cons]
    rcases List.mem_cons.mp h with e | e
    · subst e
      simp
    · have : ¬ x.1 = k := fun z => hd.1 (z ▸ List.mem_map.mpr ⟨(k, p), e, rfl⟩)
      simp only [decide_eq_false this]
      exact ih hd.2 e
theorem BestAt.kx {H H' : Hp} {b f : Addr} {room : Nat} {down : Bool} {ys : List (Sp.PK × Addr × Addr)} (hf : PDict K H f ys) (k : KpX f H H') (h : BestAt K H b room down) : BestAt K H' b room down := by
  obtain ⟨dx, t, h1, h2⟩ := h
  obtain ⟨⟨ep, e⟩, _⟩ := id hf
  exact ⟨dx, t, k _ _ (ne_of h1 e (fun z => by cases z)) h1, pd_tkx hf k _ _ h2⟩
/-- what stays while the plans are led -/
structure LedC (K : PySem.W.Frag) (H : Hp) (b k d sb hA : Addr) (ks : List Int) (room : Nat) (down : Bool) (xs : List (Sp.PK × Addr × Addr)) (t : Tab) (s held : List Nat) : Prop where
  best : BestAt K H b room down
  keys : SqT K H k (ks.map V.int)
  tab : PDict K H d xs
  rel : TabR K H xs t
  st : SqT K H sb (natsV s)
  hd : SqT K H hA (natsV held)
theorem LedC.same {H H' : Hp} {b k d sb hA : Addr} {ks : List Int} {room : Nat} {down : Bool} {xs : List (Sp.PK × Addr × Addr)} {t : Tab} {s held : List Nat} (e : Same H H') (c : LedC K H b k d sb hA ks room down xs t s held) : LedC K H' b k d sb hA ks room down xs t s held :=
  ⟨c.best.same e, sameT e c.keys, c.tab.same e, c.rel.tk (TK.of e), sameT e c.st, sameT e c.hd⟩
theorem LedC.kx {H H' : Hp} {b k d sb hA f : Addr} {ks : List Int} {room : Nat} {down : Bool} {xs ys : List (Sp.PK × Addr × Addr)} {t : Tab} {s held : List Nat} (hf : PDict K H f ys) (z : KpX f H H') (n : d ≠ f) (c : LedC K H b k d sb hA ks room down xs t s held) : LedC K H' b k d sb hA ks room down xs t s held := by
  have tk := pd_tkx hf z
  obtain ⟨⟨ep, e⟩, _⟩ := id c.tab
  exact ⟨c.best.kx hf z, tk _ _ c.keys, c.tab.to ((z _ _ n e).trans e.symm) tk, c.rel.tk tk, tk _ _ c.st, tk _ _ c.hd⟩
theorem len_lt {n room m : Nat} {t : Tab} {H : Hp} {xs : List (Sp.PK × Addr × Addr)} (h : TInv n room m t) (hn : n ≤ 40) (hr : room ≤ 3) (r : TabR K H xs t) : xs.length < 100000 := by
  have := tab_len h.nd h.wf hn hr
  rw [r.length]
  omega
theorem pure_plans_led (T : Tx K mg) : Pure_plans_led K := by
  intro vs H Q E h
  obtain ⟨x1, x2, x3, x4, rfl, h⟩ := on4_ex h
  obtain ⟨b, rfl, h⟩ := onRef_ex h
  obtain ⟨k, rfl, h⟩ := onRef_ex h
  obtain ⟨d, rfl, h⟩ := onRef_ex h
  obtain ⟨i, rfl, ks, room, down, t, j, m, hb, hk, ⟨xs, hd, ht⟩, inv, hn, hr, hm, rfl, hj, hQ⟩ := onInt_ex h
  intro f hf H0 e0 hf0 _
  obtain ⟨⟨ep, hde⟩, hkeys, hsz, hds⟩ := id hd
  have hdf : d ≠ f := ne_of_none hde hf
  refine ⟨ep, xs, ⟨e0 _ _ hde, hds⟩, ?_⟩
  refine for_pd (fun i σ H1 => Same H H1 ∧ TabAt K H1 f ((t.take i).foldl (ledOne down room ks j) []) ∧ ∃ o5 o6 o7 o8 o9 o10 o11 o12, σ = [some (.ref b), some (.ref k), some (.ref d), some (.int j), some (.ref f), o5, o6, o7, o8, o9, o10, o11, o12]) ⟨e0, ⟨[], hf0, .nil⟩, none, none, none, none, none, none, none, none, rfl⟩ (fun i σ H1 _ hp => ⟨hp.1 _ _ hde, hds⟩) (fun i e σ H1 he hp => ?_) (fun σ H1 hp => ?_)
  · obtain ⟨e1, htab, o5, o6, o7, o8, o9, o10, o11, o12, rfl⟩ := hp
    obtain ⟨en, hen, ek, hpl⟩ := ht.get he
    obtain ⟨⟨s, u⟩, ka, kv⟩ := e
    obtain ⟨kk, plan⟩ := en
    have ek : (s, u) = kk := ek
    subst ek
    have hmem : ((s, u), plan) ∈ t := List.mem_of_getElem? hen
    have we := inv.wf _ hmem
    have wst : ∀ i ∈ s, i < ks.length := we.st
    have wln : s.length < room := we.len
    obtain ⟨sb, hk1, hk2⟩ := hkeys _ (List.mem_of_getElem? he)
    have hk2 : SqT K H sb (natsV s) := hk2
    have hk1 : SqT K H ka [.ref sb, uV u] := hk1
    have inv0 : TInv ks.length room (m + 1) ((t.take i).foldl (ledOne down room ks j) []) := foldl_inv .nil fun _ e he z => z.one (inv.wf e (List.mem_of_mem_take he)) hj
    refine ⟨ka, _, rfl, sameT e1 hk1, rfl, _, _, rfl, _, _, rfl, rfl, ?_⟩
    refine ⟨sb, _, rfl, .inl (sameT e1 hk2), by rw [List.length_append, natsV_len, sizeLine_eq]; show s.length + 1 ≤ _; omega, fun hA hhA => ?_⟩
    have s1 := Same.upd (o := .tup (natsV s ++ [.int j])) hhA
    have hheld : SqT K (upd H1 hA (.tup (natsV s ++ [.int j]))) hA (natsV (s ++ [j])) := by rw [natsV_app]; exact SqT.of upd_same
    show tSeq _ _ _ [some (.ref b), some (.ref k), some (.ref d), some (.int j), some (.ref f), some (.ref sb), some (uV u), some (.ref hA), o8, o9, o10, o11, o12] (upd H1 hA (.tup (natsV s ++ [.int j])))
    have e2 : Same H (upd H1 hA (.tup (natsV s ++ [.int j]))) := e1.trans s1
    have htab2 := htab.same s1
    generalize (upd H1 hA (.tup (natsV s ++ [.int j]))) = H2 at *
    have c2 : LedC K H2 b k d sb hA ks room down xs t s (s ++ [j]) := ⟨hb.same e2, sameT e2 hk, hd.same e2, ht.tk (TK.of e2), sameT e2 hk2, hheld⟩
    have hget := getT_at inv.nd hmem
    have step : ledOne down room ks j ((t.take i).foldl (ledOne down room ks j) []) ((s, u), plan) = (t.take (i + 1)).foldl (ledOne down room ks j) [] := (foldl_take_succ hen).symm
    obtain ⟨dx, spx, hb1, hb2⟩ := id c2.best
    refine ⟨_, .inr c2.hd, ⟨dx, _, hb1⟩, room, down, c2.best, ?_⟩
    rw [natsV_len]
    refine ite2 (fun hz => ?_) (fun hz => ?_)
    · have hz : (s ++ [j]).length < room := by
        have := of_decide_eq_true hz
        omega
      obtain ⟨v, hv, hpv⟩ := c2.rel.val hget
      refine ⟨by show 2 ≤ sizeLine; decide, fun kx hkx => ?_⟩
      have s2 := Same.upd (o := .tup [.ref sb, uV u]) hkx
      refine ⟨(s, u), xs, v, key_at (SqT.of upd_same) (sameT s2 c2.st), c2.tab.same s2, hv, ?_⟩
      refine ⟨by show 2 ≤ sizeLine; decide, fun kq hkq => ?_⟩
      have s3 := Same.upd (o := .tup [.ref hA, uV u]) hkq
      have s23 := s2.trans s3
      obtain ⟨ys, hy, hyr⟩ := htab2.same s23
      refine ⟨(s ++ [j], u), ys, key_at (SqT.of upd_same) (sameT s23 c2.hd), hy, len_lt inv0 hn hr hyr, fun H5 kx5 nn tk5 pd5 => ?_⟩
      refine ⟨fun b' o hb' => kx5 b' o (ne_of_none hb' hf) ((e2.trans s23) _ _ hb'), ?_, _, _, _, _, _, _, _, _, rfl⟩
      rw [← step]
      unfold ledOne
      rw [if_pos hz]
      exact ⟨_, pd5, (hyr.tk tk5).put ((hpv.tk (TK.of s23)).tk tk5)⟩
    · have hz : ¬ (s ++ [j]).length < room := fun z => hz (decide_eq_true (by omega))
      have hheldlt : ∀ i ∈ s ++ [j], i < ks.length := held_lt we hj
      have hheldlen : (s ++ [j]).length ≤ room := by
        rw [List.length_append]
        show s.length + 1 ≤ room
        omega
      refine ⟨hA, rfl, ⟨_, c2.hd⟩, ?_⟩
      obtain ⟨y0, hy0, hyr0⟩ := id htab2
      refine for_tup (K := K) (a := hA) (xs := natsV (s ++ [j])) (fun i2 σ H3 => KpX f H2 H3 ∧ TabAt K H3 f (((s ++ [j]).take i2).foldl (ledHeld down ks plan (s ++ [j])) ((t.take i).foldl (ledOne down room ks j) [])) ∧ ∃ o8 o9 o10 o11 o12, σ = [some (.ref b), some (.ref k), some (.ref d), some (.int j), some (.ref f), some (.ref sb), some (uV u), some (.ref hA), o8, o9, o10, o11, o12]) ⟨KpX.refl _ _, htab2, _, _, _, _, _, rfl⟩ (fun i2 σ H3 _ hp => (c2.kx hy0 hp.1 hdf).hd) (fun i2 x σ H3 hx hp => ?_) (fun σ H3 hp => ?_)
      · obtain ⟨k3, htab3, o8, o9, o10, o11, o12, rfl⟩ := hp
        have c3 := c2.kx hy0 k3 hdf
        obtain ⟨r, hr3, rfl⟩ : ∃ r, (s ++ [j])[i2]? = some r ∧ x = .int (r : Int) := by
          unfold natsV at hx
          rw [List.getElem?_map] at hx
          obtain ⟨r, h1, h2⟩ := Option.map_eq_some_iff.mp hx
          exact ⟨r, h1, h2.symm⟩
        have hrm : r ∈ s ++ [j] := List.mem_of_getElem? hr3
        have hrl := hheldlt r hrm
        have rst := rest_of hheldlt hheldlen hrm
        have inv3 : TInv ks.length room (m + 1) (((s ++ [j]).take i2).foldl (ledHeld down ks plan (s ++ [j])) ((t.take i).foldl (ledOne down room ks j) [])) := foldl_inv inv0 fun _ r hr z => z.held hheldlt hheldlen (List.mem_of_mem_take hr) we.pl
        have step3 : ledHeld down ks plan (s ++ [j]) (((s ++ [j]).take i2).foldl (ledHeld down ks plan (s ++ [j])) ((t.take i).foldl (ledOne down room ks j) [])) r = ((s ++ [j]).take (i2 + 1)).foldl (ledHeld down ks plan (s ++ [j])) ((t.take i).foldl (ledOne down room ks j) []) := (foldl_take_succ hr3).symm
        generalize ((s ++ [j]).take i2).foldl (ledHeld down ks plan (s ++ [j])) ((t.take i).foldl (ledOne down room ks j) []) = tab3 at *
        refine ⟨hA, rfl, ⟨_, c3.hd⟩, fun D hD => ?_⟩
        refine lc_tupFil (fun x => !decide (x = V.int (r : Int))) hD (by rw [natsV_len]; omega) c3.hd (fun i4 x H4 hx4 e4 R1 R2 h1 h2 => ?_) (fun H4 e4 hD4 => ?_)
        · obtain ⟨z, rfl⟩ : ∃ z : Nat, x = .int (z : Int) := by
            obtain ⟨z, _, rfl⟩ := List.mem_map.mp (List.mem_of_getElem? hx4)
            exact ⟨z, rfl⟩
          refine ⟨rfl, ?_⟩
          refine ite2 (fun hc => h1 hc) (fun hc => h2 ?_)
          exact Bool.eq_false_iff.mpr hc
        rw [nats_filter] at hD4
        refine ⟨_, SqL.of hD4, fun rs hrs => ?_⟩
        have s5 := Same.upd (o := .tup (natsV ((s ++ [j]).filter fun o => decide (o ≠ r)))) hrs
        have hrest : SqT K (upd H4 rs (.tup (natsV ((s ++ [j]).filter fun o => decide (o ≠ r))))) rs (natsV ((s ++ [j]).filter fun o => decide (o ≠ r))) := SqT.of upd_same
        refine gn' (σ' := [some (.ref b), some (.ref k), some (.ref d), some (.int j), some (.ref f), some (.ref sb), some (uV u), some (.ref hA), some (.int r), some (.ref rs), o10, o11, o12]) rfl ?_
        have e5 := e4.trans s5
        generalize upd H4 rs (.tup (natsV ((s ++ [j]).filter fun o => decide (o ≠ r)))) = H5 at *
        have c5 := c3.same e5
        have htab5 := htab3.same e5
        obtain ⟨v, hv, hpv⟩ := c5.rel.val hget
        refine ⟨by show 2 ≤ sizeLine; decide, fun kx hkx => ?_⟩
        have s6 := Same.upd (o := .tup [.ref sb, uV u]) hkx
        refine ⟨(s, u), xs, v, key_at (SqT.of upd_same) (sameT s6 c5.st), c5.tab.same s6, hv, ?_⟩
        refine ⟨ks, room, down, plan, r, m, c5.best.same s6, sameT s6 c5.keys, hpv.tk (TK.of s6), we.pl, by omega, rfl, hrl, fun q H7 as e7 hq7 hql hE => ?_⟩
        have e57 : Same H5 H7 := s6.trans e7
        have c7 := c5.same e57
        have htab7 := htab5.same e57
        have hrest7 := sameT e57 hrest
        generalize hrestd : ((s ++ [j]).filter fun o => decide (o ≠ r)) = rest at *
        obtain ⟨y7, hy7, hyr7⟩ := id htab7
        have hqf : q ≠ f := by
          obtain ⟨⟨ep7, hf7⟩, _⟩ := id hy7
          exact ne_of hql hf7 (fun z => by cases z)
        refine ⟨q, rfl, ⟨_, SqL.of hql⟩, ?_⟩
        refine for_list (K := K) (a := q) (xs := as.map V.ref) (fun i8 σ H8 => KpX f H7 H8 ∧ TabAt K H8 f (((plansBehind down ks plan r).take i8).foldl (offer ks rest) tab3) ∧ ∃ o10 o11 o12, σ = [some (.ref b), some (.ref k), some (.ref d), some (.int j), some (.ref f), some (.ref sb), some (uV u), some (.ref hA), some (.int r), some (.ref rs), o10, o11, o12]) ⟨KpX.refl _ _, htab7, _, _, _, rfl⟩ (fun i8 σ H8 _ hp => SqL.of (hp.1 _ _ hqf hql)) (fun i8 x σ H8 hx hp => ?_) (fun σ H8 hp => ?_)
        · obtain ⟨k8, htab8, o10, o11, o12, rfl⟩ := hp
          have c8 := c7.kx hy7 k8 hdf
          rw [List.getElem?_map] at hx
          obtain ⟨pa, hpa, rfl⟩ := Option.map_eq_some_iff.mp hx
          obtain ⟨pp, hpp, hpl8⟩ := hE.get hpa
          have tk8 := pd_tkx hy7 k8
          obtain ⟨wpp, npp⟩ := wf_behind we.pl hrl pp (List.mem_of_getElem? hpp)
          rcases snoc_of pp with rfl | ⟨p0, rr, rfl⟩
          · exact absurd rfl npp
          have plan8 := hpl8.tk tk8
          obtain ⟨pas, ra, g1, g2, rb, g3, g4⟩ := plan8.snoc_inv
          refine ⟨_, g1, _, atI_last _ _, _, g3, _, rfl, by show 2 ≤ sizeLine; decide, fun kq hkq => ?_⟩
          have s9 := Same.upd (o := .tup [.ref rs, .bl rr.1]) hkq
          have hkey : KeyAt K (upd H8 kq (.tup [.ref rs, .bl rr.1])) (rest, some rr.1) kq := key_at (u := some rr.1) (SqT.of upd_same) (sameT s9 (tk8 _ _ hrest7))
          refine gn' (σ' := [some (.ref b), some (.ref k), some (.ref d), some (.int j), some (.ref f), some (.ref sb), some (uV u), some (.ref hA), some (.int r), some (.ref rs), some (.ref pa), some (.ref kq), o12]) rfl ?_
          have k9 : KpX f H7 (upd H8 kq (.tup [.ref rs, .bl rr.1])) := k8.trans (KpX.of s9)
          have htab9 := htab8.same s9
          have c9 := c8.same s9
          have plan9 := plan8.tk (TK.of s9)
          generalize upd H8 kq (.tup [.ref rs, .bl rr.1]) = H9 at *
          obtain ⟨y9, hy9, hyr9⟩ := id htab9
          have inv8 : TInv ks.length room (m + 1) (((plansBehind down ks plan r).take i8).foldl (offer ks rest) tab3) := foldl_inv inv3 fun _ p hp z => z.offered rst (wf_behind we.pl hrl p (List.mem_of_mem_take hp)).1
          have step8 : offer ks rest (((plansBehind down ks plan r).take i8).foldl (offer ks rest) tab3) (p0 ++ [rr]) = ((plansBehind down ks plan r).take (i8 + 1)).foldl (offer ks rest) tab3 := (foldl_take_succ hpp).symm
          have hdir : dirOf (p0 ++ [rr]) = some rr.1 := dirOf_snoc p0 rr
          generalize ((plansBehind down ks plan r).take i8).foldl (offer ks rest) tab3 = tab8 at *
          have fin10 : offer ks rest tab8 (p0 ++ [rr]) = putT tab8 (rest, some rr.1) (p0 ++ [rr]) → ∀ H10, KpX f H9 H10 → TK K H9 H10 → PDict K H10 f (putP y9 (rest, some rr.1) kq pa) → (KpX f H7 H10 ∧ TabAt K H10 f (((plansBehind down ks plan r).take (i8 + 1)).foldl (offer ks rest) tab3) ∧ ∃ o10 o11 o12', [some (V.ref b), some (.ref k), some (.ref d), some (.int j), some (.ref f), some (.ref sb), some (uV u), some (.ref hA), some (.int r), some (.ref rs), some (.ref pa), some (.ref kq), o12] = [some (.ref b), some (.ref k), some (.ref d), some (.int j), some (.ref f), some (.ref sb), some (uV u), some (.ref hA), some (.int r), some (.ref rs), o10, o11, o12']) := fun e H10 kx10 tk10 pd10 => ⟨k9.trans kx10, by rw [← step8, e]; exact ⟨_, pd10, (hyr9.tk tk10).put (plan9.tk tk10)⟩, _, _, _, rfl⟩
          refine ⟨(rest, some rr.1), y9, hkey, hy9, ?_⟩
          by_cases hin : (rest, some rr.1) ∈ y9.map (·.1)
          · rw [decide_eq_true hin]
            have hin2 := hyr9.keys ▸ hin
            obtain ⟨qq, hqq⟩ := getT_some hin2
            obtain ⟨v9, hv9, hpv9⟩ := hyr9.val hqq
            have wq := inv8.wf _ (getT_mem hqq)
            have nq : qq ≠ [] := fun z => by
              have := wq.dir
              rw [show ((rest, some rr.1), qq).2 = [] from z] at this
              cases this
            refine ⟨(rest, some rr.1), y9, v9, hkey, hy9, hv9, ks, p0 ++ [rr], qq, m + 1, c9.keys, plan9, hpv9, npp, nq, wpp, wq.pl, ?_⟩
            cases hbt : isBetter ks (p0 ++ [rr]) qq with
            | true => exact ⟨(rest, some rr.1), y9, hkey, hy9, len_lt inv8 hn hr hyr9, fun H10 kx10 nn tk10 pd10 => fin10 (by unfold offer; rw [hdir, hqq]; simp only [hbt, if_true]) H10 kx10 tk10 pd10⟩
            | false => exact ⟨k9, by rw [← step8]; unfold offer; rw [hdir, hqq]; simp only [hbt, Bool.false_eq_true, if_false]; exact htab9, _, _, _, rfl⟩
          · rw [decide_eq_false hin]
            exact ⟨(rest, some rr.1), y9, hkey, hy9, len_lt inv8 hn hr hyr9, fun H10 kx10 nn tk10 pd10 => fin10 (by unfold offer; rw [hdir, getT_none (hyr9.keys ▸ hin)]) H10 kx10 tk10 pd10⟩
        · obtain ⟨k8, htab8, o10, o11, o12, rfl⟩ := hp
          refine ⟨(k3.trans (KpX.of (e5.trans e57))).trans k8, ?_, _, _, _, _, _, rfl⟩
          rw [List.length_map, hE.length, List.take_length] at htab8
          rw [← step3]
          unfold ledHeld
          rw [hrestd]
          exact htab8
      · obtain ⟨k3, htab3, o8, o9, o10, o11, o12, rfl⟩ := hp
        refine ⟨fun b' o hb' => k3 b' o (ne_of_none hb' hf) (e2 _ _ hb'), ?_, _, _, _, _, _, _, _, _, rfl⟩
        rw [natsV_len, List.take_length] at htab3
        rw [← step]
        unfold ledOne
        rw [if_neg hz]
        exact htab3
  · obtain ⟨e1, htab, o5, o6, o7, o8, o9, o10, o11, o12, rfl⟩ := hp
    refine hQ f H1 e1 hf ?_
    have : xs.length = t.length := ht.length
    rw [this, List.take_length] at htab
    exact htab
theorem b_plans_led (T : Tx K mg) : Binds K (fdA K (He.fAd K d_plans_led.at_)) ["best", "keys", "plans", "index"] [] := T.F_plans_led.bindsN fun _ _ _ _ _ _ us hl => match us, hl with | [_, _, _, _], _ => rfl
theorem ok_plans_led (T : Tx K mg) : FnOk P w K mg base CX0 4 (He.fAd K d_plans_led.at_) (fdA K (He.fAd K d_plans_led.at_)) ["best", "keys", "plans", "index"] (sp_plans_led K) :=
  T.F_plans_led.ok sc_plans_led (fun _ _ _ _ h => on4_len h) (fun cdv A outer s H vs Q E hr h => ⟨t_plans_led K, PSs.nox ((pss_cons (ps_set (i := 4) sc_plans_led.nd rfl (.inl rfl) e_newP)
      (pss_cons (ps_for PassesOwn.never (by rfl) (pi_pd (vv 2)) (pg_tup rfl (pgs_cons (pg_name (i := 5) sc_plans_led.nd rfl (.inl rfl)) (pgs_cons (pg_name (i := 6) sc_plans_led.nd rfl (.inl rfl)) pgs_nil)))
      (pss_cons (ps_set (i := 7) sc_plans_led.nd rfl (.inl rfl) (pe_tup (StX.pa_star (vv 5) (pa_cons (vv 3) pa_nil))))
      (pss_cons (ps_if (t_cmp o_lt (pe_callB c_len (by rfl) T.b_len boot_len (pa_cons (vv 7) pa_nil)) (e_prop (vv 0) T.cl_Best T.p_Best_room (ck0 (ok_Best_room T) (b_Best_room T) pass0) (hr.mono (by decide))) (nomark _))
      (pss_cons (ps_asg (pe_ix (x_pd hr.units) (vv 2) (pe_tup (pa_cons (vv 5) (pa_cons (vv 6) pa_nil))) (fun _ _ => rfl)) (pg_sub (vv 4) (pe_tup (pa_cons (vv 7) (pa_cons (vv 6) pa_nil))) (s_pd hr.units)))
      (pss_one ps_continue)) pss_nil)
      (pss_one (ps_for PassesOwn.never (by rfl) (pi_tup (vv 7)) (pg_name (i := 8) sc_plans_led.nd rfl (.inr rfl))
      (pss_cons (ps_set (i := 9) sc_plans_led.nd rfl (.inl rfl) (pe_callTy c_tupL (by rfl) T.b_tuple boot_tuple (pa_cons (pe_lc (own := [("other", 12)]) (g := gName 12) (by rfl) sc_plans_led.nd (pi_tup (vv 7)) (blkOk_by (own := [("other", 12)]) (N := N_plans_led) (sc := defScope s_plans_led) (by decide +kernel)) (fun _ _ _ _ _ => (pg_name (i := 12) sc_plans_led.nd rfl (.inl rfl))) (fun _ _ _ _ _ => (pts_one (t_cmp o_ne (vv 12) (vv 8) (nomark _)))) (fun _ _ _ _ _ => (vv 12))) pa_nil)))
      (pss_one (ps_for PassesOwn.never (by rfl) (pi_list (pe_call (ok_plans_behind T) (hr.mono (by decide)) (by rfl) T.g_plans_behind T.F_plans_behind.kp (b_plans_behind T) .nil pass0 (pa_cons (vv 0) (pa_cons (vv 1) (pa_cons (pe_ix (x_pd hr.units) (vv 2) (pe_tup (pa_cons (vv 5) (pa_cons (vv 6) pa_nil))) (fun _ _ => rfl)) (pa_cons (vv 8) pa_nil)))))) (pg_name (i := 10) sc_plans_led.nd rfl (.inl rfl))
      (pss_cons (ps_set (i := 11) sc_plans_led.nd rfl (.inl rfl) (pe_tup (pa_cons (vv 9) (pa_cons (pe_ix x_tup (pe_ix x_tup (vv 10) (pe_un o_neg pe_int) (fun _ _ => rfl)) pe_int (fun _ _ => rfl)) pa_nil))))
      (pss_one (ps_if (PW.pt (pw_or (t_cmp (o_notInP hr.units) (vv 11) (vv 4) (by rfl)) (pw_or1 (t_val (pe_call (ok_is_better T) (hr.mono (by decide)) (by rfl) T.g_is_better T.F_is_better.kp (b_is_better T) .nil pass0 (pa_cons (vv 1) (pa_cons (vv 10) (pa_cons (pe_ix (x_pd hr.units) (vv 4) (vv 11) (fun _ _ => rfl)) pa_nil))))))))
      (pss_one (ps_asg (vv 10) (pg_sub (vv 4) (vv 11) (s_pd hr.units)))) pss_nil)))))))))))
      (pss_one (ps_ret (vv 4)))))), pure_plans_led T vs H Q E h⟩)

end K21
namespace K21
open PySem PySem.Spec PyProof.Rows L2 Sp
variable {P : Program} {w : World} {K : PySem.W.Frag} {mg : Str → Option Value} {base : Heap}
def sp_plan_closed (K : PySem.W.Frag) : L2.Sp := fun vs H Q _ => on3 vs fun x y z => onRef x fun k => onRef y fun st => onRef z fun a => ∃ (ks : List Int) (s : List Nat) (p : Plan) (m : Nat), SqT K H k (ks.map V.int) ∧ SqT K H st (natsV s) ∧ PlanAt K H a p ∧ WfP ks.length m p ∧ m ≤ 1000 ∧ (∀ i ∈ s, i < ks.length) ∧ s.length ≤ 10 ∧
  ∀ (v : Addr) (H' : Hp), Same H H' → PlanAt K H' v (closed ks s p) → Q (.ref v) H'
abbrev N_plan_closed : List Str := ["keys", "stored", "plan", "places", "records", "up", "written", "index", "key"]
theorem sc_plan_closed : FnScope N_plan_closed ["keys", "stored", "plan"] (defScope s_plan_closed) := ⟨rfl, rfl, rfl, by decide +kernel, rfl, by decide +kernel, by decide +kernel⟩
def t_plan_closed (K : PySem.W.Frag) : TS :=
    tSeq (tAsg (tCB (rSortedPO K) (tCons (tLc (iTup K (fV 1)) (gName 7) tYes (tTup (tCons (tOp (fIxT K) (fV 0) (fV 7)) (tCons (fV 7) tNil))) [7]) tNil)) (gName 3))
    (tSeq (tAsg (tCB (fTupOfL K) (tCons (tLc (iList K (fV 3)) (gTup K 2 (gCons (gName 8) (gCons (gName 7) gNil))) tYes (fV 7) [8, 7]) tNil)) (gName 4))
    (tSeq (tIfS (fT (tOp (rEqD K) (fV 4) (tTup tNil)))
    (tRet (fV 2)) tNext)
    (tSeq (tIfS (fT (tOp (rNeD K) (fV 2) (tTup tNil)))
    (tSeq (tAsg (tOp (fIxT K) (fV 2) (tUn fNeg (tC (.int 1)))) (gTup K 2 (gCons (gName 5) (gCons (gName 6) gNil))))
    (tIfS (fT (tCB (fAll K) (tCons (tLc (iTup K (fV 4)) (gName 7) tYes (tCall (sp_goes_on K) [] E0 (tCons (fV 0) (tCons (tOp (fIxT K) (fV 2) (tUn fNeg (tC (.int 1)))) (tCons (fV 7) tNil)))) [7]) tNil)))
    (tRet (tTup (StX.tStar K (tSl (rSlA K) (fV 2) tNoPart (tPart (tUn fNeg (tC (.int 1))))) (tCons (tTup (tCons (fV 5) (tCons (tOp (rCatA K) (fV 6) (tIf (fT (fV 5)) (fV 4) (tRevT K (fV 4)))) tNil))) tNil)))) tNext)) tNext)
    (tRet (tTup (StX.tStar K (fV 2) (tCons (tTup (tCons (tC (.bl true)) (tCons (fV 4) tNil))) tNil)))))))
abbrev Pure_plan_closed (K : PySem.W.Frag) : Prop := ∀ (vs : List V) (H : Hp) (Q : VK) (E : XK), sp_plan_closed K vs H Q E → t_plan_closed K { nx := fun _ H' => Q .non H', rt := Q } (L2.start N_plan_closed vs) H
def pairI (ks : List Int) (i : Nat) : Int × Int := (keyI ks i, (i : Int))
/-- the pair at a place -/
def pairOf (H : Hp) : V → Int × Int
  | .ref t => match H t with
    | some (.tup [.int a, .int b]) => (a, b)
    | _ => (0, 0)
  | _ => (0, 0)
theorem order_sorted (ks : List Int) (s : List Nat) : ((inOrder ks s).map (pairI ks)).Pairwise (fun x y => SrtO.lexB y x = false) := by
  have h := List.pairwise_mergeSort (le := fun i j : Nat => decide (keyI ks i < keyI ks j ∨ (keyI ks i = keyI ks j ∧ i ≤ j))) (fun a b c h1 h2 => by simp only [decide_eq_true_eq] at *; omega) (fun a b => by simp only [Bool.or_eq_true, decide_eq_true_eq]; omega) s
  refine List.Pairwise.map _ (fun a b z => ?_) h
  have z := of_decide_eq_true z
  refine SrtO.lexB_no.mpr ?_
  unfold pairI
  dsimp only
  omega
theorem order_uniq {ks : List Int} {s : List Nat} {ps : List (Int × Int)} (hp : ps.Perm (s.map (pairI ks))) (hs : ps.Pairwise (fun x y => SrtO.lexB y x = false)) : ps = (inOrder ks s).map (pairI ks) := by
  refine List.Perm.eq_of_pairwise (le := fun x y => SrtO.lexB y x = false) (fun a b _ _ h1 h2 => ?_) hs (order_sorted ks s) (hp.trans ((List.mergeSort_perm s _).symm.map _))
  have h1 := SrtO.lexB_no.mp h1
  have h2 := SrtO.lexB_no.mp h2
  exact Prod.ext (by omega) (by omega)
theorem inOrder_mem {ks : List Int} {s : List Nat} {i : Nat} : i ∈ inOrder ks s ↔ i ∈ s := (List.mergeSort_perm s _).mem_iff
theorem inOrder_len (ks : List Int) (s : List Nat) : (inOrder ks s).length = s.length := (List.mergeSort_perm s _).length_eq
theorem each_pairs {H : Hp} {ks : List Int} : ∀ {ts : List Addr} {s : List Nat}, Each (fun t i => H t = some (.tup [.int (keyI ks i), .int ((i : Nat) : Int)])) ts s → (ts.map V.ref).map (pairOf H) = s.map (pairI ks)
  | _, _, .nil => rfl
  | _, _, .cons h t => by
    rw [List.map_cons, List.map_cons, List.map_cons, each_pairs t]
    unfold pairOf
    dsimp only
    rw [h]
    rfl
theorem range_getD {α β : Type} (f : α → β) (d : α) (l : List α) : (List.range l.length).map (fun i => f (l.getD i d)) = l.map f := by
  refine List.ext_getElem (by simp) fun i h1 h2 => ?_
  rw [List.getElem_map, List.getElem_range, List.getElem_map, List.getD_eq_getElem?_getD, List.getElem?_eq_getElem (by simpa using h2)]
  rfl
theorem pure_plan_closed (T : Tx K mg) : Pure_plan_closed K := by
  intro vs H Q E h
  obtain ⟨x, y, z, rfl, h⟩ := on3_ex h
  obtain ⟨k, rfl, h⟩ := onRef_ex h
  obtain ⟨st, rfl, h⟩ := onRef_ex h
  obtain ⟨a, rfl, ks, s, p, m, hk, hst, hp, wp, hm, hlt, hl, hQ⟩ := onRef_ex h
  refine ⟨st, rfl, ⟨_, hst⟩, fun D hD => ?_⟩
  refine lc_tupI (xs := natsV s) (by rw [natsV_len]; omega) (fun i acc H4 => Same H H4 ∧ ∃ ts, acc = ts.map V.ref ∧ Each (fun t i => H4 t = some (.tup [.int (keyI ks i), .int ((i : Nat) : Int)])) ts (s.take i)) ⟨Same.upd hD, [], rfl, by rw [List.take_zero]; exact .nil⟩ (fun i acc H4 _ _ hJ => sameT hJ.1 hst) (fun i y acc H4 hy hac hD4 hJ R hR => ?_) (fun acc H4 hac hD4 hJ => ?_)
  · obtain ⟨e4, ts, rfl, hE⟩ := hJ
    unfold natsV at hy
    rw [List.getElem?_map] at hy
    obtain ⟨r, hr, rfl⟩ := Option.map_eq_some_iff.mp hy
    refine ⟨rfl, _, sameT e4 hk, _, at_key (hlt r (List.mem_of_getElem? hr)), by show 2 ≤ sizeLine; decide, fun t ht => ?_⟩
    have s5 := Same.upd (o := .tup [.int (keyI ks r), .int ((r : Nat) : Int)]) ht
    have hD5 := s5 _ _ hD4
    refine hR _ _ hD5 ⟨newL hD (e4.trans s5), ts ++ [t], by rw [List.map_append]; rfl, ?_⟩
    rw [List.take_add_one, hr]
    have up : ∀ {t' : Addr} {xs : List V}, (upd H4 t (.tup [.int (keyI ks r), .int ((r : Nat) : Int)])) t' = some (.tup xs) → (upd (upd H4 t (.tup [.int (keyI ks r), .int ((r : Nat) : Int)])) D (.lst (ts.map V.ref ++ [V.ref t]))) t' = some (.tup xs) := fun {t' xs} h => by
      rw [upd_ne (ne_of h hD5 (fun z => by cases z))]
      exact h
    exact Each.snoc (R := fun t' i => (upd (upd H4 t (.tup [.int (keyI ks r), .int ((r : Nat) : Int)])) D (.lst (ts.map V.ref ++ [V.ref t]))) t' = some (.tup [.int (keyI ks i), .int ((i : Nat) : Int)])) (up upd_same) (hE.imp fun _ _ z => up (s5 _ _ z))
  obtain ⟨e4, ts, rfl, hE⟩ := hJ
  rw [natsV_len, List.take_length] at hE
  have hpr := each_pairs hE
  refine ⟨D, _, pairOf H4, rfl, SqL.of hD4, fun x hx => ?_, fun ys pl hs hb hpl => ?_⟩
  · obtain ⟨t, ht, rfl⟩ := List.mem_map.mp hx
    obtain ⟨i, hi⟩ := List.mem_iff_getElem?.mp ht
    obtain ⟨r, _, h2⟩ := hE.get hi
    refine ⟨t, rfl, ?_⟩
    have e : pairOf H4 (V.ref t) = (keyI ks r, (r : Int)) := by
      unfold pairOf
      dsimp only
      rw [h2]
    rw [e]
    exact h2
  have hys : ys.map (pairOf H4) = (inOrder ks s).map (pairI ks) := order_uniq (by rw [← hpr]; exact hb.perm.map _) (SrtO.srtd_map (lt := SrtO.lexB) hs)
  have hyt : ∀ y ∈ ys, ∃ t, y = .ref t ∧ H4 t = some (.tup [.int (pairOf H4 y).1, .int (pairOf H4 y).2]) := fun y hy => by
    obtain ⟨t, ht, rfl⟩ := List.mem_map.mp (hb.perm.mem_iff.mp hy)
    obtain ⟨i, hi⟩ := List.mem_iff_getElem?.mp ht
    obtain ⟨r, _, h2⟩ := hE.get hi
    refine ⟨t, rfl, ?_⟩
    have e : pairOf H4 (V.ref t) = (keyI ks r, (r : Int)) := by
      unfold pairOf
      dsimp only
      rw [h2]
    rw [e]
    exact h2
  have s5 := Same.upd (o := .lst ys) hpl
  have e5 := e4.trans s5
  have hly : ys.length = s.length := by
    have := congrArg List.length hys
    rw [List.length_map, List.length_map, inOrder_len] at this
    exact this
  refine gn' (σ' := [some (.ref k), some (.ref st), some (.ref a), some (.ref pl), none, none, none, none, none]) rfl ?_
  have hpl5 : (upd H4 pl (.lst ys)) pl = some (.lst ys) := upd_same
  have hyt5 : ∀ y ∈ ys, ∃ t, y = .ref t ∧ (upd H4 pl (.lst ys)) t = some (.tup [.int (pairOf H4 y).1, .int (pairOf H4 y).2]) := fun y hy => by
    obtain ⟨t, h1, h2⟩ := hyt y hy
    exact ⟨t, h1, s5 _ _ h2⟩
  generalize upd H4 pl (.lst ys) = H5 at *
  refine ⟨pl, rfl, ⟨_, SqL.of hpl5⟩, fun D2 hD2 => ?_⟩
  refine lc_listF (fun y => V.int (pairOf H4 y).2) hD2 (by omega) (SqL.of hpl5) (fun i y H6 hy e6 R hR => ?_) (fun H6 e6 hD6 => ?_)
  · obtain ⟨t, rfl, ht⟩ := hyt5 y (List.mem_of_getElem? hy)
    exact ⟨t, _, rfl, SqT.of (e6 _ _ ht), rfl, _, _, rfl, _, _, rfl, rfl, rfl, hR H6 (Same.refl _)⟩
  have hrec : ys.map (fun y => V.int (pairOf H4 y).2) = natsV (inOrder ks s) := by
    have := congrArg (List.map fun q : Int × Int => V.int q.2) hys
    rw [List.map_map, List.map_map] at this
    exact this
  rw [hrec] at hD6
  refine ⟨_, SqL.of hD6, fun rc hrc => ?_⟩
  have s7 := Same.upd (o := .tup (natsV (inOrder ks s))) hrc
  have e7 := (e5.trans e6).trans s7
  have hrc7 : SqT K (upd H6 rc (.tup (natsV (inOrder ks s)))) rc (natsV (inOrder ks s)) := SqT.of upd_same
  refine gn' (σ' := [some (.ref k), some (.ref st), some (.ref a), some (.ref pl), some (.ref rc), none, none, none, none]) rfl ?_
  generalize upd H6 rc (.tup (natsV (inOrder ks s))) = H7 at *
  refine ⟨by show 0 ≤ sizeLine; exact Nat.zero_le _, fun n0 hn0 => ?_⟩
  have s8 := Same.upd (o := .tup []) hn0
  refine ⟨.tuple ((inOrder ks s).map fun i : Nat => PyData.int (i : Int)), .tuple [], .tup (sameT s8 hrc7) (dpNats _ _), .tup (SqT.of upd_same) .nil, nats_shaped _, nil_shaped, ?_⟩
  rw [eqv_nil]
  have e8 := e7.trans s8
  have hrc8 := sameT s8 hrc7
  generalize upd H7 n0 (.tup []) = H8 at *
  have wl := wp.len
  have hil := inOrder_len ks s
  have last : ∀ (o5 o6 o7 o8 : Option V) (H9 : Hp), Same H H9 → SqT K H9 rc (natsV (inOrder ks s)) → closed ks s p = p ++ [(true, inOrder ks s)] → tRet (tTup (StX.tStar K (fV 2) (tCons (tTup (tCons (tC (.bl true)) (tCons (fV 4) tNil))) tNil))) { nx := fun _ H' => Q .non H', rt := Q } [some (.ref k), some (.ref st), some (.ref a), some (.ref pl), some (.ref rc), o5, o6, o7, o8] H9 := fun o5 o6 o7 o8 H9 e9 hr9 hcl => by
    obtain ⟨ps, hps, eps⟩ := hp.tk (TK.of e9)
    have lps := eps.length
    refine ⟨a, _, rfl, .inl hps, by show 2 ≤ sizeLine; decide, fun t1 ht1 => ?_⟩
    have r1 := Same.upd (o := .tup [.bl true, .ref rc]) ht1
    refine ⟨by rw [List.length_append, List.length_map, lps, sizeLine_eq]; show p.length + 1 ≤ _; omega, fun t2 ht2 => ?_⟩
    have r2 := Same.upd (o := .tup (ps.map V.ref ++ [V.ref t1])) ht2
    refine hQ t2 _ ((e9.trans r1).trans r2) ?_
    rw [hcl]
    exact one_run (sameT r2 (SqT.of upd_same)) (sameT (r1.trans r2) hr9) (eps.imp fun _ _ z => z.tk (TK.of (r1.trans r2))) (SqT.of upd_same)
  have hQ8 : inOrder ks s = [] → Q (.ref a) H8 := fun z => hQ a H8 e8 (by unfold closed; rw [if_pos z]; exact hp.tk (TK.of e8))
  by_cases hnil : inOrder ks s = []
  · rw [hnil]
    exact hQ8 hnil
  have hne : ((inOrder ks s).map fun i : Nat => PyData.int (i : Int)).isEmpty = false := by
    cases h : inOrder ks s with
    | nil => exact absurd h hnil
    | cons _ _ => rfl
  rw [hne]
  refine ⟨by show 0 ≤ sizeLine; exact Nat.zero_le _, fun n1 hn1 => ?_⟩
  have s9 := Same.upd (o := .tup []) hn1
  refine ⟨planD p, .tuple [], (hp.tk (TK.of (e8.trans s9))).dp, .tup (SqT.of upd_same) .nil, plan_shaped _, nil_shaped, ?_⟩
  have e9 := e8.trans s9
  have hrc9 := sameT s9 hrc8
  generalize upd H8 n1 (.tup []) = H9 at *
  rcases snoc_of p with rfl | ⟨p, r, rfl⟩
  · exact last none none none none H9 e9 hrc9 (by unfold closed; rw [if_neg hnil]; rfl)
  have ne : PyData.eqv (planD (p ++ [r])) (.tuple []) = false := by
    unfold planD
    rw [eqv_nil, List.map_append]
    cases p <;> rfl
  rw [ne]
  obtain ⟨as, ra, h1, h2, h3⟩ := (hp.tk (TK.of e9)).snoc_inv
  obtain ⟨_, wl2, n1', n2', n3'⟩ := wp.init
  obtain ⟨rb, g1, g2⟩ := id h3
  refine ⟨_, h1, _, atI_last _ _, ra, _, rfl, g1, rfl, _, _, rfl, _, _, rfl, ?_⟩
  refine ⟨rfl, rc, rfl, ⟨_, hrc9⟩, fun D3 hD3 => ?_⟩
  have hk9 := sameT e9 hk
  refine lc_tupN (xs := natsV (inOrder ks s)) (fun i => V.bl (goesOn ks r ((inOrder ks s).getD i 0))) hD3 (by rw [natsV_len]; omega) hrc9 (fun i y H10 hy e10 R hR => ?_) (fun H10 e10 hD10 => ?_)
  · unfold natsV at hy
    rw [List.getElem?_map] at hy
    obtain ⟨c, hc, rfl⟩ := Option.map_eq_some_iff.mp hy
    refine ⟨rfl, _, sameT e10 h1, _, atI_last _ _, ks, r, c, sameT e10 hk9, h3.tk (TK.of e10), n1', n2', hlt c (inOrder_mem.mp (List.mem_of_getElem? hc)), rfl, ?_⟩
    have := hR H10 (Same.refl _)
    rw [List.getD_eq_getElem?_getD, hc] at this
    exact this
  have hbs : (List.range (natsV (inOrder ks s)).length).map (fun i => V.bl (goesOn ks r ((inOrder ks s).getD i 0))) = ((inOrder ks s).map (goesOn ks r)).map V.bl := by
    rw [natsV_len, range_getD (fun c => V.bl (goesOn ks r c)) 0, List.map_map]
    rfl
  rw [hbs] at hD10
  refine ⟨_, SqL.of hD10, ?_⟩
  have hall : ((inOrder ks s).map (goesOn ks r)).all id = (inOrder ks s).all (goesOn ks r) := by rw [List.all_map]; rfl
  rw [hall]
  have hcl : closed ks s (p ++ [r]) = if (inOrder ks s).all (goesOn ks r) = true then p ++ [(r.1, r.2 ++ if r.1 = true then inOrder ks s else (inOrder ks s).reverse)] else p ++ [r] ++ [(true, inOrder ks s)] := by
    unfold closed
    rw [if_neg hnil, List.getLast?_concat, List.dropLast_concat]
  have hrc10 := sameT e10 hrc9
  have e010 := e9.trans e10
  cases hg : (inOrder ks s).all (goesOn ks r) with
  | false =>
    rw [hg, if_neg Bool.false_ne_true] at hcl
    exact last _ _ _ _ H10 e010 hrc10 hcl
  | true =>
    rw [hg, if_pos rfl] at hcl
    refine ⟨-1, rfl, a, _, rfl, sameT e10 h1, fun hw => absurd hw.2 (cut_part _ _), fun _ c hc => ?_⟩
    rw [cut_snoc]
    have r1 := Same.upd (o := .tup (as.map V.ref)) hc
    have la := h2.length
    refine ⟨c, _, rfl, .inl (SqT.of upd_same), ?_⟩
    have g2' := sameT (e10.trans r1) g2
    have hrc11 := sameT r1 hrc10
    have e11 := e010.trans r1
    have hc11 : SqT K (upd H10 c (.tup (as.map V.ref))) c (as.map V.ref) := SqT.of upd_same
    have h2' := h2.imp (S := RunAt K (upd H10 c (.tup (as.map V.ref)))) fun _ _ z => z.tk (TK.of (e10.trans r1))
    generalize upd H10 c (.tup (as.map V.ref)) = H11 at *
    have end_ : ∀ (w : Addr) (H12 : Hp) (ws : List Nat), Same H11 H12 → SqT K H12 w (natsV ws) → ws ≠ [] → ws.length ≤ 10 → (ws = if r.1 = true then inOrder ks s else (inOrder ks s).reverse) → rCatA K (.ref rb) (.ref w) H12 (fun x H13 => 2 ≤ sizeLine ∧ ∀ p_1, H13 p_1 = none → ((as.map V.ref) ++ [V.ref p_1]).length ≤ sizeLine ∧ ∀ p_2, (upd H13 p_1 (.tup [.bl r.1, x])) p_2 = none → Q (.ref p_2) (upd (upd H13 p_1 (.tup [.bl r.1, x])) p_2 (.tup (as.map V.ref ++ [V.ref p_1])))) := fun w H12 ws e12 hw hwn hwl hws => by
      refine ⟨rb, w, _, _, rfl, rfl, sameT e12 g2', hw, by rw [natsV_len, natsV_len, sizeLine_eq]; omega, fun z => absurd (List.map_eq_nil_iff.mp z) n1', fun _ z => absurd (List.map_eq_nil_iff.mp z) hwn, fun _ _ t1 ht1 => ?_⟩
      have u1 := Same.upd (o := .tup (natsV r.2 ++ natsV ws)) ht1
      refine ⟨by decide, fun t2 ht2 => ?_⟩
      have u2 := Same.upd (o := .tup [.bl r.1, .ref t1]) ht2
      refine ⟨by rw [List.length_append, List.length_map, la, sizeLine_eq]; show p.length + 1 ≤ _; omega, fun t3 ht3 => ?_⟩
      have u3 := Same.upd (o := .tup (as.map V.ref ++ [V.ref t2])) ht3
      refine hQ t3 _ (((e11.trans e12).trans u1).trans (u2.trans u3)) ?_
      rw [hcl, ← hws]
      refine one_run (sameT u3 (SqT.of upd_same)) (sameT (u2.trans u3) ?_) (h2'.imp fun _ _ z => z.tk (TK.of ((e12.trans u1).trans (u2.trans u3)))) (SqT.of upd_same)
      rw [natsV_app]
      exact SqT.of upd_same
    cases hu : r.1 with
    | true =>
      rw [hu] at end_
      exact end_ rc H11 (inOrder ks s) (Same.refl _) hrc11 hnil (by omega) (by rw [if_pos rfl])
    | false =>
      rw [hu] at end_
      refine ⟨_, hrc11, fun w hw => ?_⟩
      have u0 := Same.upd (o := .tup (natsV (inOrder ks s)).reverse) hw
      refine end_ w _ (inOrder ks s).reverse u0 ?_ (fun z => hnil (List.reverse_eq_nil_iff.mp z)) (by rw [List.length_reverse]; omega) (by rw [if_neg Bool.false_ne_true])
      unfold natsV
      rw [← List.map_reverse]
      exact SqT.of upd_same
theorem b_plan_closed (T : Tx K mg) : Binds K (fdA K (He.fAd K d_plan_closed.at_)) ["keys", "stored", "plan"] [] := T.F_plan_closed.bindsN fun _ _ _ _ _ _ us hl => match us, hl with | [_, _, _], _ => rfl
theorem ok_plan_closed (T : Tx K mg) : FnOk P w K mg base CX0 2 (He.fAd K d_plan_closed.at_) (fdA K (He.fAd K d_plan_closed.at_)) ["keys", "stored", "plan"] (sp_plan_closed K) :=
  T.F_plan_closed.ok sc_plan_closed (fun _ _ _ _ h => on3_len h) (fun cdv A outer s H vs Q E hr h => ⟨t_plan_closed K, PSs.nox ((pss_cons (ps_set (i := 3) sc_plan_closed.nd rfl (.inl rfl) (pe_callB cr_sortedPO (by rfl) T.b_sorted boot_sorted (pa_cons (pe_lc (own := [("index", 7)]) (g := gName 7) (by rfl) sc_plan_closed.nd (pi_tup (vv 1)) (blkOk_by (own := [("index", 7)]) (N := N_plan_closed) (sc := defScope s_plan_closed) (by decide +kernel)) (fun _ _ _ _ _ => (pg_name (i := 7) sc_plan_closed.nd rfl (.inl rfl))) (fun _ _ _ _ _ => pts_nil) (fun _ _ _ _ _ => (pe_tup (pa_cons (pe_ix x_tup (vv 0) (vv 7) (fun _ _ => rfl)) (pa_cons (vv 7) pa_nil))))) pa_nil)))
      (pss_cons (ps_set (i := 4) sc_plan_closed.nd rfl (.inl rfl) (pe_callTy c_tupL (by rfl) T.b_tuple boot_tuple (pa_cons (pe_lc (own := [("key", 8), ("index", 7)]) (g := gTup K 2 (gCons (gName 8) (gCons (gName 7) gNil))) (by rfl) sc_plan_closed.nd (pi_list (vv 3)) (blkOk_by (own := [("key", 8), ("index", 7)]) (N := N_plan_closed) (sc := defScope s_plan_closed) (by decide +kernel)) (fun _ _ _ _ _ => (pg_tup rfl (pgs_cons (pg_name (i := 8) sc_plan_closed.nd rfl (.inl rfl)) (pgs_cons (pg_name (i := 7) sc_plan_closed.nd rfl (.inl rfl)) pgs_nil)))) (fun _ _ _ _ _ => pts_nil) (fun _ _ _ _ _ => (vv 7))) pa_nil)))
      (pss_cons (ps_if (t_cmp (op_eqD hr.units) (vv 4) (pe_tup pa_nil) (nomark _))
      (pss_one (ps_ret (vv 2))) pss_nil)
      (pss_cons (ps_if (t_cmp (op_neD hr.units) (vv 2) (pe_tup pa_nil) (nomark _))
      (pss_cons (ps_asg (pe_ix x_tup (vv 2) (pe_un o_neg pe_int) (fun _ _ => rfl)) (pg_tup rfl (pgs_cons (pg_name (i := 5) sc_plan_closed.nd rfl (.inl rfl)) (pgs_cons (pg_name (i := 6) sc_plan_closed.nd rfl (.inl rfl)) pgs_nil))))
      (pss_one (ps_if (t_val (pe_callB (c_all rfl) (by rfl) T.b_all boot_all (pa_cons (pe_lc (own := [("index", 7)]) (g := gName 7) (by rfl) sc_plan_closed.nd (pi_tup (vv 4)) (blkOk_by (own := [("index", 7)]) (N := N_plan_closed) (sc := defScope s_plan_closed) (by decide +kernel)) (fun _ _ _ _ _ => (pg_name (i := 7) sc_plan_closed.nd rfl (.inl rfl))) (fun _ _ _ _ _ => pts_nil) (fun _ _ _ _ _ => (pe_call (ok_goes_on T) (hr.mono (by decide)) (by rfl) T.g_goes_on T.F_goes_on.kp (b_goes_on T) .nil pass0 (pa_cons (vv 0) (pa_cons (pe_ix x_tup (vv 2) (pe_un o_neg pe_int) (fun _ _ => rfl)) (pa_cons (vv 7) pa_nil)))))) pa_nil)))
      (pss_one (ps_ret (pe_tup (StX.pa_star (pe_slice sl_tupA (vv 2) po_none (po_some (pe_un o_neg pe_int))) (pa_cons (pe_tup (pa_cons (vv 5) (pa_cons (pe_op op_catA (vv 6) (pe_ifExp (t_val (vv 5)) (vv 4) (e_revT (vv 4)))) pa_nil))) pa_nil))))) pss_nil))) pss_nil)
      (pss_one (ps_ret (pe_tup (StX.pa_star (vv 2) (pa_cons (pe_tup (pa_cons pe_bl (pa_cons (vv 4) pa_nil))) pa_nil)))))))))), pure_plan_closed T vs H Q E h⟩)

end K21
namespace K21
open PySem PySem.Spec PyProof.Rows L2 Sp
variable {P : Program} {w : World} {K : PySem.W.Frag} {mg : Str → Option Value} {base : Heap}
theorem tyx_tup {H : Hp} {l : Addr} {xs : List V} (h : SqT K H l xs) : TyX K H (.ref l) (.type "tuple") := by
  rcases h with (h | ⟨o, h⟩) | ⟨o, its, n, h, c, _⟩
  · exact .base (.tup h)
  · exact .fTuple h
  · exact .kTuple h c
def sp_is_integer (K : PySem.W.Frag) : L2.Sp := fun vs H Q _ => on1 vs fun x => onInt x fun _ => Q (.bl true) H
abbrev N_is_integer : List Str := ["value"]
theorem sc_is_integer : FnScope N_is_integer ["value"] (defScope s_is_integer) := ⟨rfl, rfl, rfl, by decide +kernel, rfl, by decide +kernel, by decide +kernel⟩
def t_is_integer (K : PySem.W.Frag) : TS :=
    tRet (fAndV (tCB (fIsi K) (tCons (fV 0) (tCons (tC (.ty "int")) tNil))) (fNotV (tCB (fIsi K) (tCons (fV 0) (tCons (tC (.ty "bool")) tNil)))))
abbrev Pure_is_integer (K : PySem.W.Frag) : Prop := ∀ (vs : List V) (H : Hp) (Q : VK) (E : XK), sp_is_integer K vs H Q E → t_is_integer K { nx := fun _ H' => Q .non H', rt := Q } (L2.start N_is_integer vs) H
theorem pure_is_integer (T : Tx K mg) : Pure_is_integer K := by
  intro vs H Q E h
  obtain ⟨x, rfl, h⟩ := on1_ex h
  obtain ⟨i, rfl, hQ⟩ := onInt_ex h
  refine ⟨_, _, true, .ty "int", .base (.int i), kit_ty (by decide +kernel), ?_⟩
  exact ⟨_, _, false, .ty "bool", .base (.int i), kit_ty (by decide +kernel), hQ⟩
theorem b_is_integer (T : Tx K mg) : Binds K (fdA K (He.fAd K d_is_integer.at_)) ["value"] [] := T.F_is_integer.bindsN fun _ _ _ _ _ _ us hl => match us, hl with | [_], _ => rfl
theorem ok_is_integer (T : Tx K mg) : FnOk P w K mg base CX0 1 (He.fAd K d_is_integer.at_) (fdA K (He.fAd K d_is_integer.at_)) ["value"] (sp_is_integer K) :=
  T.F_is_integer.ok sc_is_integer (fun _ _ _ _ h => on1_len h) (fun cdv A outer s H vs Q E hr h => ⟨t_is_integer K, PSs.nox ((pss_one (ps_ret (e_and (pe_callB c_isi (by rfl) T.b_isinstance boot_isinstance (pa_cons (vv 0) (pa_cons (pe_bltn (by rfl) T.b_int boot_int rfl) pa_nil))) (pe_one (e_not (pe_callB c_isi (by rfl) T.b_isinstance boot_isinstance (pa_cons (vv 0) (pa_cons (pe_bltn (by rfl) T.b_bool boot_bool rfl) pa_nil))))))))), pure_is_integer T vs H Q E h⟩)
def sp_check_room (K : PySem.W.Frag) : L2.Sp := fun vs H Q _ => on2 vs fun x y => onInt x fun n => onInt y fun m => 1 ≤ n ∧ n ≤ m ∧ Q .non H
abbrev N_check_room : List Str := ["room", "most"]
theorem sc_check_room : FnScope N_check_room ["room", "most"] (defScope s_check_room) := ⟨rfl, rfl, rfl, by decide +kernel, rfl, by decide +kernel, by decide +kernel⟩
def t_check_room (K : PySem.W.Frag) : TS :=
    tIfS (tOr (tNot (fT (tCall (sp_is_integer K) [] E0 (tCons (fV 0) tNil)))) (tNot (fT (fChain fLe fLe (tC (.int 1)) (fV 0) (fV 1)))))
    tNever tNext
abbrev Pure_check_room (K : PySem.W.Frag) : Prop := ∀ (vs : List V) (H : Hp) (Q : VK) (E : XK), sp_check_room K vs H Q E → t_check_room K { nx := fun _ H' => Q .non H', rt := Q } (L2.start N_check_room vs) H
theorem pure_check_room (T : Tx K mg) : Pure_check_room K := by
  intro vs H Q E h
  obtain ⟨x, y, rfl, h⟩ := on2_ex h
  obtain ⟨n, rfl, h⟩ := onInt_ex h
  obtain ⟨m, rfl, h1, h2, hQ⟩ := onInt_ex h
  refine ite2 (fun _ => ?_) (fun hz => absurd (decide_eq_true h1) hz)
  refine ite2 (fun hz => ?_) (fun hz => hQ)
  rw [decide_eq_true h2] at hz
  cases hz
theorem b_check_room (T : Tx K mg) : Binds K (fdA K (He.fAd K d_check_room.at_)) ["room", "most"] [] := T.F_check_room.bindsN fun _ _ _ _ _ _ us hl => match us, hl with | [_, _], _ => rfl
theorem ok_check_room (T : Tx K mg) : FnOk P w K mg base CX0 2 (He.fAd K d_check_room.at_) (fdA K (He.fAd K d_check_room.at_)) ["room", "most"] (sp_check_room K) :=
  T.F_check_room.ok sc_check_room (fun _ _ _ _ h => on2_len h) (fun cdv A outer s H vs Q E hr h => ⟨t_check_room K, PSs.nox ((pss_one (ps_if (PW.pt (pw_or (pt_not (t_val (pe_call (ok_is_integer T) (hr.mono (by decide)) (by rfl) T.g_is_integer T.F_is_integer.kp (b_is_integer T) .nil pass0 (pa_cons (vv 0) pa_nil)))) (pw_or1 (pt_not (t_chain o_le o_le pe_int (vv 0) (vv 1))))))
      (pss_one ps_never) pss_nil))), pure_check_room T vs H Q E h⟩)

def sp_check_best (K : PySem.W.Frag) : L2.Sp := fun vs H Q _ => on1 vs fun x => onRef x fun b => ∃ room down, BestAt K H b room down ∧ Q .non H
abbrev N_check_best : List Str := ["value"]
theorem sc_check_best : FnScope N_check_best ["value"] (defScope s_check_best) := ⟨rfl, rfl, rfl, by decide +kernel, rfl, by decide +kernel, by decide +kernel⟩
def t_check_best (K : PySem.W.Frag) : TS :=
    tIfS (tNot (fT (tCB (fIsi K) (tCons (fV 0) (tCons (tC (.ref (He.ga K "Best"))) tNil)))))
    tNever tNext
abbrev Pure_check_best (K : PySem.W.Frag) : Prop := ∀ (vs : List V) (H : Hp) (Q : VK) (E : XK), sp_check_best K vs H Q E → t_check_best K { nx := fun _ H' => Q .non H', rt := Q } (L2.start N_check_best vs) H
theorem pure_check_best (T : Tx K mg) : Pure_check_best K := by
  intro vs H Q E h
  obtain ⟨x, rfl, h⟩ := on1_ex h
  obtain ⟨b, rfl, room, down, ⟨dx, t, h1, h2⟩, hQ⟩ := onRef_ex h
  exact ⟨_, _, true, .own _, T.I_Best.ty T.cl_Best h1, kit_self, hQ⟩
theorem b_check_best (T : Tx K mg) : Binds K (fdA K (He.fAd K d_check_best.at_)) ["value"] [] := T.F_check_best.bindsN fun _ _ _ _ _ _ us hl => match us, hl with | [_], _ => rfl
theorem ok_check_best (T : Tx K mg) : FnOk P w K mg base CX0 1 (He.fAd K d_check_best.at_) (fdA K (He.fAd K d_check_best.at_)) ["value"] (sp_check_best K) :=
  T.F_check_best.ok sc_check_best (fun _ _ _ _ h => on1_len h) (fun cdv A outer s H vs Q E hr h => ⟨t_check_best K, PSs.nox ((pss_one (ps_if (pt_not (t_val (pe_callB c_isi (by rfl) T.b_isinstance boot_isinstance (pa_cons (vv 0) (pa_cons (pe_glob (by rfl) T.g_Best rfl) pa_nil)))))
      (pss_one ps_never) pss_nil))), pure_check_best T vs H Q E h⟩)
def sp_check_keys (K : PySem.W.Frag) : L2.Sp := fun vs H Q _ => on1 vs fun x => onRef x fun k => ∃ ks : List Int, SqT K H k (ks.map V.int) ∧ ks.length ≤ 1000 ∧ ∀ H', Same H H' → Q .non H'
abbrev N_check_keys : List Str := ["keys", "index", "key"]
theorem sc_check_keys : FnScope N_check_keys ["keys"] (defScope s_check_keys) := ⟨rfl, rfl, rfl, by decide +kernel, rfl, by decide +kernel, by decide +kernel⟩
def t_check_keys (K : PySem.W.Frag) : TS :=
    tSeq (tIfS (tNot (fT (tCB (fIsi K) (tCons (fV 0) (tCons (tC (.ty "tuple")) tNil)))))
    tNever tNext)
    (tFor (iEnumT K (tCons (fV 0) tNil)) (gTup K 2 (gCons (gName 1) (gCons (gName 2) gNil)))
    (tIfS (tOr (fT (tOp fEq (fV 1) (tC (.int 2000)))) (tNot (fT (tCall (sp_is_integer K) [] E0 (tCons (fV 2) tNil)))))
    tNever tNext))
abbrev Pure_check_keys (K : PySem.W.Frag) : Prop := ∀ (vs : List V) (H : Hp) (Q : VK) (E : XK), sp_check_keys K vs H Q E → t_check_keys K { nx := fun _ H' => Q .non H', rt := Q } (L2.start N_check_keys vs) H
theorem pure_check_keys (T : Tx K mg) : Pure_check_keys K := by
  intro vs H Q E h
  obtain ⟨x, rfl, h⟩ := on1_ex h
  obtain ⟨a, rfl, ks, ha, hl, hQ⟩ := onRef_ex h
  refine ⟨_, _, true, .ty "tuple", tyx_tup ha, kit_ty (by decide +kernel), ?_⟩
  refine ⟨⟨_, ha⟩, ?_⟩
  refine for_enumT (K := K) (a := a) (xs := ks.map V.int) (fun i σ H1 => Same H H1 ∧ ∃ o1 o2, σ = [some (.ref a), o1, o2]) ⟨Same.refl _, none, none, rfl⟩ (fun i σ H1 _ hp => sameT hp.1 ha) (fun i x σ H1 T' hx hp hT' => ?_) (fun σ H1 hp => hQ H1 hp.1)
  obtain ⟨s1, o1, o2, rfl⟩ := hp
  have hi : i < ks.length := by
    have := (List.getElem?_eq_some_iff.mp hx).1
    simpa using this
  obtain ⟨z, hz, rfl⟩ := List.mem_map.mp (List.mem_of_getElem? hx)
  refine ⟨_, _, rfl, SqT.of upd_same, rfl, _, _, rfl, _, _, rfl, rfl, ?_⟩
  have e2 : decide (V.int (i : Nat) = V.int 2000) = false := decide_eq_false (fun z => by injection z with z; omega)
  refine ite2 (fun z => absurd (z.symm.trans e2) (by simp)) (fun _ => ?_)
  exact ⟨s1.trans (Same.upd hT'), _, _, rfl⟩
theorem b_check_keys (T : Tx K mg) : Binds K (fdA K (He.fAd K d_check_keys.at_)) ["keys"] [] := T.F_check_keys.bindsN fun _ _ _ _ _ _ us hl => match us, hl with | [_], _ => rfl
theorem ok_check_keys (T : Tx K mg) : FnOk P w K mg base CX0 2 (He.fAd K d_check_keys.at_) (fdA K (He.fAd K d_check_keys.at_)) ["keys"] (sp_check_keys K) :=
  T.F_check_keys.ok sc_check_keys (fun _ _ _ _ h => on1_len h) (fun cdv A outer s H vs Q E hr h => ⟨t_check_keys K, PSs.nox ((pss_cons (ps_if (pt_not (t_val (pe_callB c_isi (by rfl) T.b_isinstance boot_isinstance (pa_cons (vv 0) (pa_cons (pe_bltn (by rfl) T.b_tuple boot_tuple rfl) pa_nil)))))
      (pss_one ps_never) pss_nil)
      (pss_one (ps_for PassesOwn.never (by rfl) (pi_enumT (by rfl) T.b_enumerate (pa_cons (vv 0) pa_nil)) (pg_tup rfl (pgs_cons (pg_name (i := 1) sc_check_keys.nd rfl (.inl rfl)) (pgs_cons (pg_name (i := 2) sc_check_keys.nd rfl (.inl rfl)) pgs_nil)))
      (pss_one (ps_if (PW.pt (pw_or (t_cmp o_eq (vv 1) (pe_glob (by rfl) (T.i_MOST_KEYS).choose_spec ⟨_, rfl⟩) (nomark _)) (pw_or1 (pt_not (t_val (pe_call (ok_is_integer T) (hr.mono (by decide)) (by rfl) T.g_is_integer T.F_is_integer.kp (b_is_integer T) .nil pass0 (pa_cons (vv 2) pa_nil)))))))
      (pss_one ps_never) pss_nil)))))), pure_check_keys T vs H Q E h⟩)
def sp_Best_init (K : PySem.W.Frag) : L2.Sp := fun vs H Q _ => on3 vs fun x n d => onRef x fun x => onInt n fun n => onBl d fun d => ∃ (room : Nat) (dx : Addr), 1 ≤ room ∧ room ≤ 3 ∧ n = room ∧ H x = some (.ins (He.ga K "Best") dx []) ∧
  ∀ H', KpX x H H' → BestAt K H' x room d → Q .non H'
abbrev N_Best_init : List Str := ["self", "room", "down"]
theorem sc_Best_init : FnScope N_Best_init ["self", "room", "down"] (defScope s_Best_init) := ⟨rfl, rfl, rfl, by decide +kernel, rfl, by decide +kernel, by decide +kernel⟩
def t_Best_init (K : PySem.W.Frag) : TS :=
    tSeq (tDrop (tCall (sp_check_room K) [] E0 (tCons (fV 1) (tCons (tC (.int 3)) tNil))))
    (tSeq (tIfS (tAnd (fT (tOp fNotB (fV 2) (tC (.bl true)))) (fT (tOp fNotB (fV 2) (tC (.bl false)))))
    tNever tNext)
    (sFld K (fV 0) (tTup (tCons (fV 1) (tCons (fV 2) tNil))) "spec"))
abbrev Pure_Best_init (K : PySem.W.Frag) : Prop := ∀ (vs : List V) (H : Hp) (Q : VK) (E : XK), sp_Best_init K vs H Q E → t_Best_init K { nx := fun _ H' => Q .non H', rt := Q } (L2.start N_Best_init vs) H
theorem pure_Best_init (T : Tx K mg) : Pure_Best_init K := by
  intro vs H Q E h
  obtain ⟨x1, x2, x3, rfl, h⟩ := on3_ex h
  obtain ⟨x, rfl, h⟩ := onRef_ex h
  obtain ⟨n, rfl, h⟩ := onInt_ex h
  obtain ⟨d, rfl, room, dx, h1, h3, rfl, hx, hQ⟩ := onBl_ex h
  refine ⟨by omega, by omega, ?_⟩
  have go : ∀ u, H u = none → BestAt K (upd (upd H u (.tup [.int room, .bl d])) x (.ins (He.ga K "Best") dx [("spec", .ref u)])) x room d ∧ KpX x H (upd (upd H u (.tup [.int room, .bl d])) x (.ins (He.ga K "Best") dx [("spec", .ref u)])) := fun u hu => by
    have e2 := Same.upd (o := .tup [.int room, .bl d]) hu
    exact ⟨⟨dx, u, upd_same, KpX.upd.T (e2 _ _ hx) (SqT.of upd_same)⟩, (KpX.of e2).trans .upd⟩
  cases d
  · refine ⟨by show 2 ≤ sizeLine; decide, fun u hu => ?_⟩
    obtain ⟨g1, g2⟩ := go u hu
    exact ⟨x, _, dx, _, rfl, (Same.upd hu) _ _ hx, T.cl_Best, T.no_Best_spec, by show 0 < 1000; decide, hQ _ g2 g1⟩
  · refine ⟨by show 2 ≤ sizeLine; decide, fun u hu => ?_⟩
    obtain ⟨g1, g2⟩ := go u hu
    exact ⟨x, _, dx, _, rfl, (Same.upd hu) _ _ hx, T.cl_Best, T.no_Best_spec, by show 0 < 1000; decide, hQ _ g2 g1⟩
theorem ok_Best_init (T : Tx K mg) : FnOk P w K mg base CX0 3 (He.fAd K d_Best_init.at_) (fdA K (He.fAd K d_Best_init.at_)) ["self", "room", "down"] (sp_Best_init K) :=
  T.F_Best_init.ok sc_Best_init (fun _ _ _ _ h => on3_len h) (fun cdv A outer s H vs Q E hr h => ⟨t_Best_init K, PSs.nox ((pss_cons (ps_expr (pe_call (ok_check_room T) (hr.mono (by decide)) (by rfl) T.g_check_room T.F_check_room.kp (b_check_room T) .nil pass0 (pa_cons (vv 1) (pa_cons (pe_glob (by rfl) (T.i_MOST_BEST).choose_spec ⟨_, rfl⟩) pa_nil))))
      (pss_cons (ps_if (PW.pt (pw_and (t_cmp o_notB (vv 2) pe_bl (nomark _)) (pw_and1 (t_cmp o_notB (vv 2) pe_bl (nomark _)))))
      (pss_one ps_never) pss_nil)
      (pss_one (ps_fld (vv 0) (pe_tup (pa_cons (vv 1) (pa_cons (vv 2) pa_nil))) rfl))))), pure_Best_init T vs H Q E h⟩)
/-- a row of deeds with as few runs as possible -/
def sp_schedule (K : PySem.W.Frag) : L2.Sp := fun vs H Q _ => on2 vs fun x y => onRef x fun b => onRef y fun k => ∃ (ks : List Int) (room : Nat) (down : Bool), BestAt K H b room down ∧ SqT K H k (ks.map V.int) ∧ ks.length ≤ 30 ∧ 1 ≤ room ∧ room ≤ 3 ∧
  ∀ (v : Addr) (H' : Hp), Same H H' → PlanAt K H' v (sched down room ks) → Q (.ref v) H'
abbrev N_schedule : List Str := ["best", "keys", "plans", "index", "found", "stored", "up"]
theorem sc_schedule : FnScope N_schedule ["best", "keys"] (defScope s_schedule) := ⟨rfl, rfl, rfl, by decide +kernel, rfl, by decide +kernel, by decide +kernel⟩
def t_schedule (K : PySem.W.Frag) : TS :=
    tSeq (tDrop (tCall (sp_check_best K) [] E0 (tCons (fV 0) tNil)))
    (tSeq (tDrop (tCall (sp_check_keys K) [] E0 (tCons (fV 1) tNil)))
    (tSeq (tIfS (fT (tOp fGt (tCB (fLen K) (tCons (fV 1) tNil)) (tC (.int 30))))
    tNever tNext)
    (tSeq (tAsg (tDispP K (tTup (tCons (tTup tNil) (tCons (tC .non) tNil))) (tTup tNil)) (gName 2))
    (tSeq (tFor (iRng1 (tCons (tCB (fLen K) (tCons (fV 1) tNil)) tNil)) (gName 3)
    (tAsg (tCall (sp_plans_led K) [] E0 (tCons (fV 0) (tCons (fV 1) (tCons (fV 2) (tCons (fV 3) tNil))))) (gName 2)))
    (tSeq (tAsg (tLc (iPD K (fV 2)) (gTup K 2 (gCons (gName 5) (gCons (gName 6) gNil))) tYes (tCall (sp_plan_closed K) [] E0 (tCons (fV 1) (tCons (fV 5) (tCons (tOp (fGetP K) (fV 2) (tTup (tCons (fV 5) (tCons (fV 6) tNil)))) tNil)))) [5, 6]) (gName 4))
    (tRet (tMinLen K (fV 4))))))))
abbrev Pure_schedule (K : PySem.W.Frag) : Prop := ∀ (vs : List V) (H : Hp) (Q : VK) (E : XK), sp_schedule K vs H Q E → t_schedule K { nx := fun _ H' => Q .non H', rt := Q } (L2.start N_schedule vs) H
theorem pure_schedule (T : Tx K mg) : Pure_schedule K := by
  intro vs H Q E h
  obtain ⟨x, y, rfl, h⟩ := on2_ex h
  obtain ⟨b, rfl, h⟩ := onRef_ex h
  obtain ⟨k, rfl, ks, room, down, hb, hk, hl, h1, h3, hQ⟩ := onRef_ex h
  refine ⟨room, down, hb, ks, hk, by omega, fun H1 e1 => ?_⟩
  refine ⟨_, .inr (sameT e1 hk), ?_⟩
  rw [List.length_map]
  refine ite2 (fun hz => ?_) (fun hz => ?_)
  · have := of_decide_eq_true hz
    exact absurd this (by omega)
  intro d hd
  refine ⟨by show 0 ≤ sizeLine; exact Nat.zero_le _, fun e2 he2 => ⟨by show 2 ≤ sizeLine; decide, fun e3 he3 => ⟨by show 0 ≤ sizeLine; exact Nat.zero_le _, fun e4 he4 => ?_⟩⟩⟩
  have s1 := Same.upd (o := .dK []) hd
  have s2 := Same.upd (o := .tup []) he2
  have s3 := Same.upd (o := .tup [.ref e2, .non]) he3
  have s4 := Same.upd (o := .tup []) he4
  refine ⟨(s2.trans (s3.trans s4)) _ _ upd_same, ([], none), key_at (u := none) (sameT s4 (SqT.of upd_same)) (sameT (s3.trans s4) (SqT.of upd_same)), fun H5 kp5 nn5 tk5 pd5 => ?_⟩
  have e5 : Same H H5 := fun c o hc => kp5 c o (ne_of_none (e1 _ _ hc) hd) ((s1.trans (s2.trans (s3.trans s4))) _ _ (e1 _ _ hc))
  have t5 : TabAt K H5 d (tabAt down room ks 0) := ⟨_, pd5, .cons ⟨[], tk5 _ _ (SqT.of upd_same), .nil⟩ .nil⟩
  refine ⟨_, .inr (sameT e5 hk), ?_⟩
  rw [List.length_map]
  refine ⟨_, rfl, by omega, by omega, ?_⟩
  refine for_range (lo := 0) (n := ((ks.length : Nat) : Int).toNat) (fun i σ H6 => i ≤ ks.length ∧ Same H H6 ∧ ∃ dd o3, TabAt K H6 dd (tabAt down room ks i) ∧ σ = [some (.ref b), some (.ref k), some (.ref dd), o3, none, none, none]) ⟨Nat.zero_le _, e5, d, none, t5, rfl⟩ (fun i σ H6 hi hp => ?_) (fun σ H6 hp => ?_)
  · obtain ⟨hi6, e6, dd, o3, t6, rfl⟩ := hp
    have hi : i < ks.length := by simpa using hi
    refine ⟨ks, room, down, _, i, i, hb.same e6, sameT e6 hk, t6, tinv_at h1 hi6, by omega, h3, by omega, by show (0 : Int) + (i : Int) = i; omega, hi, fun f H7 e7 hf t7 => ?_⟩
    exact ⟨hi, e6.trans e7, f, _, t7, rfl⟩
  obtain ⟨_, e6, dd, o3, t6, rfl⟩ := hp
  rw [Int.toNat_natCast] at t6
  obtain ⟨xs, hx6, hr6⟩ := t6
  obtain ⟨⟨ep, hde⟩, hkeys, hsz, hds⟩ := id hx6
  have inv := tinv_at (down := down) (ks := ks) h1 (Nat.le_refl ks.length)
  have hxl := len_lt inv (by omega) h3 hr6
  refine ⟨ep, xs, ⟨hde, hds⟩, fun D hD => ?_⟩
  refine lc_pdI (xs := xs) (by omega) (fun i acc H7 => Same H6 H7 ∧ ∃ vs, acc = vs.map V.ref ∧ Each (PlanAt K H7) vs (((tabAt down room ks ks.length).take i).map fun e => closed ks e.1.1 e.2)) ⟨Same.upd hD, [], rfl, by rw [List.take_zero]; exact .nil⟩ (fun i acc H7 _ _ hJ => ⟨hJ.1 _ _ hde, hds⟩) (fun i e acc H7 he hac hD7 hJ R hR => ?_) (fun acc H7 hac hD7 hJ => ?_)
  · obtain ⟨e7, vs, rfl, hE⟩ := hJ
    obtain ⟨en, hen, ek, hpl⟩ := hr6.get he
    obtain ⟨⟨s, u⟩, ka, kv⟩ := e
    obtain ⟨kk, plan⟩ := en
    have ek : (s, u) = kk := ek
    subst ek
    have hmem : ((s, u), plan) ∈ tabAt down room ks ks.length := List.mem_of_getElem? hen
    have we := inv.wf _ hmem
    have wl : s.length < room := we.len
    obtain ⟨sb, hk1, hk2⟩ := hkeys _ (List.mem_of_getElem? he)
    have hk2 : SqT K H6 sb (natsV s) := hk2
    have hk1 : SqT K H6 ka [.ref sb, uV u] := hk1
    obtain ⟨v, hv, hpv⟩ := hr6.val (getT_at inv.nd hmem)
    refine ⟨ka, _, rfl, sameT e7 hk1, rfl, _, _, rfl, _, _, rfl, rfl, rfl, ?_⟩
    refine ⟨by show 2 ≤ sizeLine; decide, fun kx hkx => ?_⟩
    have s8 := Same.upd (o := .tup [.ref sb, uV u]) hkx
    have e8 := e7.trans s8
    refine ⟨(s, u), xs, v, key_at (SqT.of upd_same) (sameT e8 hk2), hx6.same e8, hv, ?_⟩
    refine ⟨ks, s, plan, ks.length, sameT (e6.trans e8) hk, sameT e8 hk2, hpv.tk (TK.of e8), we.pl, by omega, we.st, by omega, fun w H9 e9 hw => ?_⟩
    have hD9 := (s8.trans e9) _ _ hD7
    refine hR _ H9 hD9 ⟨newL hD (e8.trans e9), vs ++ [w], by rw [List.map_append]; rfl, ?_⟩
    rw [List.take_add_one, hen, List.map_append]
    have k10 := TK.lst (K := K) (zs := vs.map V.ref ++ [V.ref w]) hD9
    exact Each.snoc (R := PlanAt K (upd H9 D (.lst (vs.map V.ref ++ [V.ref w])))) (hw.tk k10) (hE.imp fun _ _ z => (z.tk (TK.of (s8.trans e9))).tk k10)
  obtain ⟨e7, vs, rfl, hE⟩ := hJ
  rw [hr6.length, List.take_length] at hE
  have hE : Each (PlanAt K H7) vs (finals down room ks) := hE
  have hlv := hE.length
  have hfl : 0 < (finals down room ks).length := by
    unfold finals
    rw [List.length_map]
    exact List.length_pos_iff.mpr tabAt_ne
  refine ⟨vs, (finals down room ks).map List.length, SqL.of hD7, by omega, by rw [List.length_map]; exact hlv, fun i c n hc hn => ?_, fun c hc => ?_⟩
  · obtain ⟨p, hp, as, ha, hea⟩ := hE.get hc
    rw [List.getElem?_map, hp] at hn
    cases hn
    exact ⟨_, ha, by rw [List.length_map, hea.length]⟩
  · rw [hlv] at hc
    obtain ⟨p, hp, hpa⟩ := hE.get hc
    have := (argBest_short (l := finals down room ks) (k := (finals down room ks).length - 1) (by omega)).1
    rw [this] at hp
    cases hp
    rw [show (finals down room ks).length - 1 + 1 = (finals down room ks).length by omega, List.take_length] at hpa
    exact hQ c H7 (e6.trans e7) hpa
theorem b_schedule (T : Tx K mg) : Binds K (fdA K (He.fAd K d_schedule.at_)) ["best", "keys"] [] := T.F_schedule.bindsN fun _ _ _ _ _ _ us hl => match us, hl with | [_, _], _ => rfl
theorem ok_schedule (T : Tx K mg) : FnOk P w K mg base CX0 5 (He.fAd K d_schedule.at_) (fdA K (He.fAd K d_schedule.at_)) ["best", "keys"] (sp_schedule K) :=
  T.F_schedule.ok sc_schedule (fun _ _ _ _ h => on2_len h) (fun cdv A outer s H vs Q E hr h => ⟨t_schedule K, PSs.nox ((pss_cons (ps_expr (pe_call (ok_check_best T) (hr.mono (by decide)) (by rfl) T.g_check_best T.F_check_best.kp (b_check_best T) .nil pass0 (pa_cons (vv 0) pa_nil)))
      (pss_cons (ps_expr (pe_call (ok_check_keys T) (hr.mono (by decide)) (by rfl) T.g_check_keys T.F_check_keys.kp (b_check_keys T) .nil pass0 (pa_cons (vv 1) pa_nil)))
      (pss_cons (ps_if (t_cmp o_gt (pe_callB c_len (by rfl) T.b_len boot_len (pa_cons (vv 1) pa_nil)) (pe_glob (by rfl) (T.i_MOST_PLANNED).choose_spec ⟨_, rfl⟩) (nomark _))
      (pss_one ps_never) pss_nil)
      (pss_cons (ps_set (i := 2) sc_schedule.nd rfl (.inr rfl) (e_dispP (pe_tup (pa_cons (pe_tup pa_nil) (pa_cons pe_non pa_nil))) (pe_tup pa_nil) hr.units))
      (pss_cons (ps_for PassesOwn.never (by rfl) (pi_range1 (by rfl) T.b_range (pa_cons (pe_callB c_len (by rfl) T.b_len boot_len (pa_cons (vv 1) pa_nil)) pa_nil)) (pg_name (i := 3) sc_schedule.nd rfl (.inl rfl))
      (pss_one (ps_set (i := 2) sc_schedule.nd rfl (.inr rfl) (pe_call (ok_plans_led T) (hr.mono (by decide)) (by rfl) T.g_plans_led T.F_plans_led.kp (b_plans_led T) .nil pass0 (pa_cons (vv 0) (pa_cons (vv 1) (pa_cons (vv 2) (pa_cons (vv 3) pa_nil))))))))
      (pss_cons (ps_setLc (i := 4) (own := [("stored", 5), ("up", 6)]) (g := gTup K 2 (gCons (gName 5) (gCons (gName 6) gNil))) (by rfl) sc_schedule.nd rfl rfl (sw_true rfl rfl rfl (by decide +kernel)) (pi_pd (vv 2)) (blkOk_by (own := [("stored", 5), ("up", 6)]) (N := N_schedule) (sc := defScope s_schedule) (by decide +kernel)) (fun _ _ _ _ _ => (pg_tup rfl (pgs_cons (pg_name (i := 5) sc_schedule.nd rfl (.inl rfl)) (pgs_cons (pg_name (i := 6) sc_schedule.nd rfl (.inl rfl)) pgs_nil)))) (fun _ _ _ _ _ => pts_nil) (fun _ _ _ _ _ => (pe_call (ok_plan_closed T) (hr.mono (by decide)) (by rfl) T.g_plan_closed T.F_plan_closed.kp (b_plan_closed T) .nil pass0 (pa_cons (vv 1) (pa_cons (vv 5) (pa_cons (pe_ix (x_pd hr.units) (vv 2) (pe_tup (pa_cons (vv 5) (pa_cons (vv 6) pa_nil))) (fun _ _ => rfl)) pa_nil))))))
      (pss_one (ps_ret (e_minLen rfl (by rfl) T.b_min (by rfl) T.b_len (vv 4))))))))))), pure_schedule T vs H Q E h⟩)
def sp_fewest (K : PySem.W.Frag) : L2.Sp := fun vs H Q _ => on2 vs fun x y => onRef x fun b => onRef y fun k => ∃ (ks : List Int) (room : Nat) (down : Bool), BestAt K H b room down ∧ SqT K H k (ks.map V.int) ∧ ks.length ≤ 30 ∧ 1 ≤ room ∧ room ≤ 3 ∧
  ∀ (H' : Hp), Same H H' → Q (.int (sched down room ks).length) H'
abbrev N_fewest : List Str := ["best", "keys"]
theorem sc_fewest : FnScope N_fewest ["best", "keys"] (defScope s_fewest) := ⟨rfl, rfl, rfl, by decide +kernel, rfl, by decide +kernel, by decide +kernel⟩
def t_fewest (K : PySem.W.Frag) : TS :=
    tRet (tCB (fLen K) (tCons (tCall (sp_schedule K) [] E0 (tCons (fV 0) (tCons (fV 1) tNil))) tNil))
abbrev Pure_fewest (K : PySem.W.Frag) : Prop := ∀ (vs : List V) (H : Hp) (Q : VK) (E : XK), sp_fewest K vs H Q E → t_fewest K { nx := fun _ H' => Q .non H', rt := Q } (L2.start N_fewest vs) H
theorem pure_fewest (T : Tx K mg) : Pure_fewest K := by
  intro vs H Q E h
  obtain ⟨x, y, rfl, h⟩ := on2_ex h
  obtain ⟨b, rfl, h⟩ := onRef_ex h
  obtain ⟨k, rfl, ks, room, down, hb, hk, hl, h1, h3, hQ⟩ := onRef_ex h
  refine ⟨ks, room, down, hb, hk, hl, h1, h3, fun v H1 e1 hv => ?_⟩
  obtain ⟨as, ha, hea⟩ := hv
  refine ⟨_, .inr ha, ?_⟩
  rw [List.length_map, hea.length]
  exact hQ H1 e1
theorem b_fewest (T : Tx K mg) : Binds K (fdA K (He.fAd K d_fewest.at_)) ["best", "keys"] [] := T.F_fewest.bindsN fun _ _ _ _ _ _ us hl => match us, hl with | [_, _], _ => rfl
theorem ok_fewest (T : Tx K mg) : FnOk P w K mg base CX0 6 (He.fAd K d_fewest.at_) (fdA K (He.fAd K d_fewest.at_)) ["best", "keys"] (sp_fewest K) :=
  T.F_fewest.ok sc_fewest (fun _ _ _ _ h => on2_len h) (fun cdv A outer s H vs Q E hr h => ⟨t_fewest K, PSs.nox ((pss_one (ps_ret (pe_callB c_len (by rfl) T.b_len boot_len (pa_cons (pe_call (ok_schedule T) (hr.mono (by decide)) (by rfl) T.g_schedule T.F_schedule.kp (b_schedule T) .nil pass0 (pa_cons (vv 0) (pa_cons (vv 1) pa_nil))) pa_nil))))), pure_fewest T vs H Q E h⟩)

end K21
namespace K21
open PySem PySem.Spec PyProof.Rows L2 Sp
variable {P : Program} {w : World} {K : PySem.W.Frag} {mg : Str → Option Value} {base : Heap}
/-! ### what is right of the plans -/
def flat (p : Plan) : List Nat := (p.map (·.2)).flatten
theorem flat_snoc (p : Plan) (r : Run) : flat (p ++ [r]) = flat p ++ r.2 := by
  unfold flat
  rw [List.map_append, List.flatten_append]
  show _ ++ ([r.2] : List (List Nat)).flatten = _
  rw [List.flatten_cons, List.flatten_nil, List.append_nil]
/-- the keys of a run go its way -/
def Mono (ks : List Int) (r : Run) : Prop := r.2.Pairwise fun i j => if r.1 = true then keyI ks i ≤ keyI ks j else keyI ks j ≤ keyI ks i
theorem mono_one (ks : List Int) (u : Bool) (i : Nat) : Mono ks (u, [i]) := List.pairwise_singleton _ _
/-- k may follow a run -/
def Follows (ks : List Int) (r : Run) (i : Nat) : Prop := if r.1 = true then keyI ks (lastR r) ≤ keyI ks i else keyI ks i ≤ keyI ks (lastR r)
theorem goesOn_iff {ks : List Int} {r : Run} {i : Nat} : goesOn ks r i = true ↔ Follows ks r i := by
  unfold goesOn Follows
  cases r.1
  · simp only [Bool.or_eq_true, decide_eq_true_eq, beq_iff_eq, decide_eq_false_iff_not, Bool.false_eq_true, if_false]
    omega
  · simp only [Bool.or_eq_true, decide_eq_true_eq, beq_iff_eq, if_true]
    omega
theorem mono_app {ks : List Int} {u : Bool} {l m : List Nat} (h : Mono ks (u, l)) (hm : Mono ks (u, m)) (hl : l ≠ []) (hf : ∀ i ∈ m, Follows ks (u, l) i) : Mono ks (u, l ++ m) := by
  rcases snoc_of l with rfl | ⟨p, x, rfl⟩
  · exact absurd rfl hl
  refine List.pairwise_append.mpr ⟨h, hm, fun a ha b hb => ?_⟩
  have fb := hf b hb
  unfold Follows at fb
  rw [lastR_snoc] at fb
  have h2 := List.pairwise_append.mp h
  rcases List.mem_append.mp ha with ha | ha
  · have := h2.2.2 a ha x (List.mem_singleton.mpr rfl)
    cases u
    · simp only [Bool.false_eq_true, if_false] at *
      omega
    · simp only [if_true] at *
      omega
  · rw [List.mem_singleton.mp ha]
    exact fb
structure Runs (ks : List Int) (down : Bool) (p : Plan) : Prop where
  ne : ∀ r ∈ p, r.2 ≠ []
  dn : ∀ r ∈ p, r.1 = false → down = true
  mono : ∀ r ∈ p, Mono ks r
theorem Runs.snoc {ks : List Int} {down : Bool} {p : Plan} {r : Run} (h : Runs ks down p) (h1 : r.2 ≠ []) (h2 : r.1 = false → down = true) (h3 : Mono ks r) : Runs ks down (p ++ [r]) := by
  refine ⟨fun q hq => ?_, fun q hq => ?_, fun q hq => ?_⟩ <;> (rcases List.mem_append.mp hq with hq | hq)
  · exact h.ne q hq
  · rw [List.mem_singleton.mp hq]; exact h1
  · exact h.dn q hq
  · rw [List.mem_singleton.mp hq]; exact h2
  · exact h.mono q hq
  · rw [List.mem_singleton.mp hq]; exact h3
theorem Runs.init {ks : List Int} {down : Bool} {p : Plan} {r : Run} (h : Runs ks down (p ++ [r])) : Runs ks down p ∧ r.2 ≠ [] ∧ (r.1 = false → down = true) ∧ Mono ks r :=
  ⟨⟨fun q hq => h.ne q (List.mem_append_left _ hq), fun q hq => h.dn q (List.mem_append_left _ hq), fun q hq => h.mono q (List.mem_append_left _ hq)⟩, h.ne r (by simp), h.dn r (by simp), h.mono r (by simp)⟩
/-- a plan behind one -/
theorem behind_runs {ks : List Int} {down : Bool} {plan : Plan} {i : Nat} (h : Runs ks down plan) : ∀ p ∈ plansBehind down ks plan i, Runs ks down p ∧ flat p = flat plan ++ [i] := by
  intro p hp
  unfold plansBehind at hp
  rcases List.mem_append.mp hp with hp | hp
  · rcases List.mem_append.mp hp with hp | hp
    · rcases snoc_of plan with rfl | ⟨q, ⟨u, l⟩, rfl⟩
      · cases hp
      · rw [onRun_snoc] at hp
        split at hp
        · rename_i hg
          rw [List.mem_singleton.mp hp]
          obtain ⟨a, b, c, d⟩ := h.init
          refine ⟨a.snoc (by simp) c (mono_app d (mono_one ks u i) b fun j hj => ?_), ?_⟩
          · rw [List.mem_singleton.mp hj]
            exact goesOn_iff.mp hg
          · rw [flat_snoc, flat_snoc, List.append_assoc]
        · cases hp
    · rw [List.mem_singleton.mp hp]
      exact ⟨h.snoc (by simp) (fun z => by cases z) (mono_one ks true i), flat_snoc _ _⟩
  · split at hp
    · rename_i hd
      rw [List.mem_singleton.mp hp]
      exact ⟨h.snoc (by simp) (fun _ => hd) (mono_one ks false i), flat_snoc _ _⟩
    · cases hp
/-- an entry once i records are read -/
structure Good (ks : List Int) (room : Nat) (down : Bool) (i : Nat) (e : Sp.PK × Plan) : Prop where
  runs : Runs ks down e.2
  perm : (flat e.2 ++ e.1.1).Perm (List.range i)
  pos : ∀ k v, (flat e.2)[k]? = some v → v < k + room
  full : flat e.2 ≠ [] → e.1.1.length + 1 = room
theorem Good.len {ks : List Int} {room i : Nat} {down : Bool} {e : Sp.PK × Plan} (h : Good ks room down i e) : (flat e.2).length + e.1.1.length = i := by
  have := h.perm.length_eq
  rw [List.length_append, List.length_range] at this
  exact this
theorem pos_snoc {l : List Nat} {x room : Nat} (h : ∀ k v, l[k]? = some v → v < k + room) (hx : x < l.length + room) : ∀ k v, (l ++ [x])[k]? = some v → v < k + room := by
  intro k v hv
  by_cases z : k < l.length
  · rw [List.getElem?_append_left z] at hv
    exact h k v hv
  · rw [List.getElem?_append_right (by omega)] at hv
    have : k - l.length = 0 := by
      by_cases y : k - l.length = 0
      · exact y
      · rw [List.getElem?_eq_none (by show 1 ≤ _; omega)] at hv
        cases hv
    rw [this] at hv
    simp at hv
    omega
theorem Good.fill {ks : List Int} {room i : Nat} {down : Bool} {e : Sp.PK × Plan} (h : Good ks room down i e) (hl : (e.1.1 ++ [i]).length < room) : Good ks room down (i + 1) ((e.1.1 ++ [i], e.1.2), e.2) := by
  have hf : flat e.2 = [] := by
    refine Classical.byContradiction fun z => ?_
    have := h.full z
    rw [List.length_append] at hl
    have : ([i] : List Nat).length = 1 := rfl
    omega
  refine ⟨h.runs, ?_, h.pos, fun z => absurd hf z⟩
  dsimp only
  rw [← List.append_assoc, List.range_succ]
  exact h.perm.append_right _
theorem filter_perm {l : List Nat} {r : Nat} (hn : l.Nodup) (hr : r ∈ l) : (r :: l.filter fun o => decide (o ≠ r)).Perm l := by
  induction l with
  | nil => cases hr
  | cons y m ih =>
    rw [List.nodup_cons] at hn
    by_cases e : y = r
    · subst e
      have : (m.filter fun o => decide (o ≠ y)) = m := List.filter_eq_self.mpr fun x hx => decide_eq_true fun (z : x = y) => hn.1 (z ▸ hx)
      rw [List.filter_cons_of_neg (by simp), this]
    · rw [List.filter_cons_of_pos (by simpa using e)]
      rcases List.mem_cons.mp hr with z | z
      · exact absurd z.symm e
      · exact (List.Perm.swap y r _).trans ((ih hn.2 z).cons y)
theorem Good.write {ks : List Int} {room i : Nat} {down : Bool} {e : Sp.PK × Plan} {r : Nat} {p : Plan} (h : Good ks room down i e) (hw : e.1.1.length < room) (hl : ¬ (e.1.1 ++ [i]).length < room) (hr : r ∈ e.1.1 ++ [i]) (hp : p ∈ plansBehind down ks e.2 r) : Good ks room down (i + 1) (((e.1.1 ++ [i]).filter fun o => decide (o ≠ r), dirOf p), p) := by
  obtain ⟨h1, h2⟩ := behind_runs h.runs p hp
  have hlen := h.len
  have hl2 : e.1.1.length + 1 = room := by
    rw [List.length_append] at hl
    have : ([i] : List Nat).length = 1 := rfl
    omega
  have hall : (flat e.2 ++ (e.1.1 ++ [i])).Perm (List.range (i + 1)) := by
    rw [← List.append_assoc, List.range_succ]
    exact h.perm.append_right _
  have hnd : (e.1.1 ++ [i]).Nodup := by
    have : (flat e.2 ++ (e.1.1 ++ [i])).Nodup := hall.symm.nodup List.nodup_range
    exact (List.nodup_append.mp this).2.1
  have hri : r < i + 1 := List.mem_range.mp (hall.mem_iff.mp (List.mem_append_right _ hr))
  have hfp := filter_perm hnd hr
  refine ⟨h1, ?_, ?_, fun _ => ?_⟩
  · dsimp only
    rw [h2, List.append_assoc]
    exact (List.Perm.append_left _ hfp).trans hall
  · rw [h2]
    exact pos_snoc h.pos (by omega)
  · have := hfp.length_eq
    rw [List.length_append] at this
    have e1 : ([i] : List Nat).length = 1 := rfl
    show ((e.1.1 ++ [i]).filter fun o => decide (o ≠ r)).length + 1 = room
    rw [List.length_cons] at this
    omega
theorem offer_mem {ks : List Int} {rest : List Nat} {t : Tab} {p : Plan} {e : Sp.PK × Plan} (h : e ∈ offer ks rest t p) : e ∈ t ∨ e = ((rest, dirOf p), p) := by
  unfold offer at h
  split at h
  · exact putT_mem h
  · split at h
    · exact putT_mem h
    · exact .inl h
theorem good_one {ks : List Int} {room i m n : Nat} {down : Bool} {t : Tab} {e : Sp.PK × Plan} (h : Good ks room down i e) (w : WfE n room m e) (ht : ∀ e ∈ t, Good ks room down (i + 1) e) : ∀ x ∈ ledOne down room ks i t e, Good ks room down (i + 1) x := by
  unfold ledOne
  split
  · rename_i hl
    intro x hx
    rcases putT_mem hx with hx | rfl
    · exact ht x hx
    · exact h.fill hl
  · rename_i hl
    refine foldl_inv (I := fun t => ∀ x ∈ t, Good ks room down (i + 1) x) ht fun t r hr ht => ?_
    refine foldl_inv (I := fun t => ∀ x ∈ t, Good ks room down (i + 1) x) ht fun t p hp ht x hx => ?_
    rcases offer_mem hx with hx | rfl
    · exact ht x hx
    · exact h.write w.len hl hr hp
theorem good_at {ks : List Int} {room : Nat} {down : Bool} (h1 : 0 < room) : ∀ {i : Nat}, i ≤ ks.length → ∀ e ∈ tabAt down room ks i, Good ks room down i e
  | 0, _ => by
    intro e he
    rw [List.mem_singleton.mp he]
    exact ⟨⟨fun r hr => (by cases hr), fun r hr => (by cases hr), fun r hr => (by cases hr)⟩, List.Perm.refl _, fun k v hv => (by cases hv), fun z => absurd rfl z⟩
  | i + 1, hi => foldl_inv (I := fun t => ∀ x ∈ t, Good ks room down (i + 1) x) (fun x hx => by cases hx) fun t e he ht => good_one (good_at h1 (Nat.le_of_succ_le hi) e he) ((tinv_at h1 (Nat.le_of_succ_le hi)).wf e he) ht
structure Valid (ks : List Int) (room : Nat) (down : Bool) (p : Plan) : Prop where
  runs : Runs ks down p
  perm : (flat p).Perm (List.range ks.length)
  pos : ∀ k v, (flat p)[k]? = some v → v < k + room
theorem pairwise_le_of {ks : List Int} {l : List Nat} (h : (l.map (pairI ks)).Pairwise (fun x y => SrtO.lexB y x = false)) : Mono ks (true, l) := by
  have := List.pairwise_map.mp h
  refine this.imp fun {a b} z => ?_
  rw [if_pos rfl]
  have := SrtO.lexB_no.mp z
  unfold pairI at this
  dsimp only at this
  omega
theorem mono_rev {ks : List Int} {l : List Nat} (h : Mono ks (true, l)) : Mono ks (false, l.reverse) := by
  unfold Mono at *
  refine List.pairwise_reverse.mpr (List.Pairwise.imp (fun {a b} z => ?_) h)
  rw [if_pos rfl] at z
  rw [if_neg Bool.false_ne_true]
  exact z
theorem pos_app {l m : List Nat} {room n : Nat} (h : ∀ k v, l[k]? = some v → v < k + room) (hm : ∀ v ∈ m, v < n) (hl : l.length + m.length = n) (hr : m.length < room) : ∀ k v, (l ++ m)[k]? = some v → v < k + room := by
  intro k v hv
  by_cases z : k < l.length
  · rw [List.getElem?_append_left z] at hv
    exact h k v hv
  · rw [List.getElem?_append_right (by omega)] at hv
    have := hm v (List.mem_of_getElem? hv)
    omega
theorem closed_valid {ks : List Int} {room : Nat} {down : Bool} {e : Sp.PK × Plan} (h : Good ks room down ks.length e) (hl : e.1.1.length < room) : Valid ks room down (closed ks e.1.1 e.2) := by
  have hip : (inOrder ks e.1.1).Perm e.1.1 := List.mergeSort_perm _ _
  have hil := inOrder_len ks e.1.1
  have hlen := h.len
  have base : ∀ (q : Plan), Runs ks down q → (flat q = flat e.2 ++ inOrder ks e.1.1 ∨ flat q = flat e.2 ++ (inOrder ks e.1.1).reverse) → Valid ks room down q := fun q hq hf => by
    have hm : ∀ v ∈ e.1.1, v < ks.length := fun v hv => List.mem_range.mp (h.perm.mem_iff.mp (List.mem_append_right _ hv))
    rcases hf with hf | hf
    · refine ⟨hq, ?_, ?_⟩
      · rw [hf]; exact (List.Perm.append_left _ hip).trans h.perm
      · rw [hf]; exact pos_app h.pos (fun v hv => hm v (hip.mem_iff.mp hv)) (by omega) (by omega)
    · refine ⟨hq, ?_, ?_⟩
      · rw [hf]; exact (List.Perm.append_left _ ((List.reverse_perm _).trans hip)).trans h.perm
      · rw [hf]; exact pos_app h.pos (fun v hv => hm v (hip.mem_iff.mp (List.mem_reverse.mp hv))) (by rw [List.length_reverse]; omega) (by rw [List.length_reverse]; omega)
  have hmono : Mono ks (true, inOrder ks e.1.1) := pairwise_le_of (order_sorted ks e.1.1)
  unfold closed
  split
  · rename_i hn
    exact base e.2 h.runs (.inl (by rw [hn, List.append_nil]))
  · rename_i hn
    have new : Valid ks room down (e.2 ++ [(true, inOrder ks e.1.1)]) := base _ (h.runs.snoc hn (fun z => by cases z) hmono) (.inl (flat_snoc _ _))
    rcases snoc_of e.2 with z | ⟨q, ⟨u, l⟩, z⟩
    · rw [z] at new ⊢
      exact new
    · rw [z] at new ⊢
      have hr := h.runs
      rw [z] at hr
      obtain ⟨a, b, c, d⟩ := hr.init
      rw [List.getLast?_concat, List.dropLast_concat]
      dsimp only
      split
      · rename_i hg
        have hg := List.all_eq_true.mp hg
        cases u with
        | true =>
          rw [if_pos rfl]
          refine base _ (a.snoc (by simp [b]) c (mono_app d hmono b fun i hi => goesOn_iff.mp (hg i hi))) (.inl ?_)
          rw [z, flat_snoc, flat_snoc, List.append_assoc]
        | false =>
          rw [if_neg Bool.false_ne_true]
          refine base _ (a.snoc (by simp [b]) c (mono_app d (mono_rev hmono) b fun i hi => goesOn_iff.mp (hg i (List.mem_reverse.mp hi)))) (.inr ?_)
          rw [z, flat_snoc, flat_snoc, List.append_assoc]
      · exact new
theorem shortest_mem : ∀ {l : List Plan}, l ≠ [] → shortest l ∈ l
  | [], h => absurd rfl h
  | p :: r, _ => by
    show r.foldl _ p ∈ p :: r
    refine foldl_inv (I := fun x => x ∈ p :: r) (List.mem_cons_self ..) fun b x hx hb => ?_
    split
    · exact List.mem_cons_of_mem _ hx
    · exact hb
theorem sched_valid {ks : List Int} {room : Nat} {down : Bool} (h1 : 0 < room) : Valid ks room down (sched down room ks) := by
  have hne : finals down room ks ≠ [] := by
    unfold finals
    intro z
    exact tabAt_ne (List.map_eq_nil_iff.mp z)
  obtain ⟨e, he, z⟩ := List.mem_map.mp (shortest_mem hne)
  have z : closed ks e.1.1 e.2 = shortest (finals down room ks) := z
  show Valid ks room down (shortest (finals down room ks))
  rw [← z]
  exact closed_valid (good_at h1 (Nat.le_refl _) e he) ((tinv_at h1 (Nat.le_refl _)).wf e he).len

end K21
namespace K21
open PySem PySem.Spec PyProof.Rows L2 Sp
variable {P : Program} {w : World} {K : PySem.W.Frag} {mg : Str → Option Value} {base : Heap}
/-! ### no plan has fewer runs -/
/-- p is as good as q, seen in the direction d -/
def LeD (ks : List Int) (d : Bool) (i j : Nat) : Prop := if d = true then keyI ks i ≤ keyI ks j else keyI ks j ≤ keyI ks i
theorem LeD.trans {ks : List Int} {d : Bool} {i j k : Nat} (a : LeD ks d i j) (b : LeD ks d j k) : LeD ks d i k := by
  unfold LeD at *
  cases d
  · simp only [Bool.false_eq_true, if_false] at *; omega
  · simp only [if_true] at *; omega
theorem LeD.refl {ks : List Int} {d : Bool} {i : Nat} : LeD ks d i i := by
  unfold LeD
  cases d
  · simp
  · simp
theorem follows_iff {ks : List Int} {r : Run} {i : Nat} : Follows ks r i ↔ LeD ks r.1 (lastR r) i := by
  unfold Follows LeD
  exact Iff.rfl
/-- p is as good as q: fewer runs, or as many and the last key lets as many follow (d: the direction of both) -/
def AsGood (ks : List Int) (p q : Plan) : Prop := p.length < q.length ∨ (p.length = q.length ∧ ∀ d, dirOf q = some d → LeD ks d (lastR (lastP p)) (lastR (lastP q)))
theorem AsGood.refl {ks : List Int} {p : Plan} : AsGood ks p p := .inr ⟨rfl, fun _ _ => LeD.refl⟩
theorem AsGood.trans {ks : List Int} {p q r : Plan} (hd : dirOf q = dirOf r) (a : AsGood ks p q) (b : AsGood ks q r) : AsGood ks p r := by
  rcases a with a | ⟨a1, a2⟩
  · rcases b with b | ⟨b1, _⟩
    · exact .inl (by omega)
    · exact .inl (by omega)
  · rcases b with b | ⟨b1, b2⟩
    · exact .inl (by omega)
    · exact .inr ⟨by omega, fun d hdd => (a2 d (hd.trans hdd)).trans (b2 d hdd)⟩
/-- the table has one as good -/
def Has (ks : List Int) (t : Tab) (k : Sp.PK) (q : Plan) : Prop := ∃ p, getT t k = some p ∧ dirOf p = k.2 ∧ AsGood ks p q
theorem getT_put_same {t : Tab} {k : Sp.PK} {p : Plan} : getT (putT t k p) k = some p := by
  unfold getT putT
  split
  · rename_i h
    induction t with
    | nil => cases h
    | cons x r ih =>
      rw [List.map_cons, List.find?_cons]
      by_cases e : x.1 = k
      · simp [e]
      · have e2 : (if x.1 = k then (x.1, p) else x) = x := if_neg e
        rw [e2]
        simp only [decide_eq_false e]
        refine ih ?_
        rw [List.map_cons] at h
        rcases List.mem_cons.mp h with z | z
        · exact absurd z.symm e
        · exact z
  · rename_i h
    rw [List.find?_append, List.find?_eq_none.mpr fun x hx e => h (List.mem_map.mpr ⟨x, hx, of_decide_eq_true e⟩)]
    simp
theorem getT_put_other {t : Tab} {k l : Sp.PK} {p : Plan} (hn : l ≠ k) : getT (putT t k p) l = getT t l := by
  unfold getT putT
  split
  · rename_i h
    clear h
    induction t with
    | nil => rfl
    | cons x r ih =>
      rw [List.map_cons, List.find?_cons, List.find?_cons]
      by_cases e : x.1 = k
      · have e2 : (if x.1 = k then (x.1, p) else x) = (x.1, p) := if_pos e
        have e3 : ¬ x.1 = l := fun z => hn (z.symm.trans e)
        rw [e2]
        simp only [decide_eq_false e3]
        exact ih
      · have e2 : (if x.1 = k then (x.1, p) else x) = x := if_neg e
        rw [e2]
        by_cases e3 : x.1 = l
        · simp [e3]
        · simp only [decide_eq_false e3]
          exact ih
  · rw [List.find?_append]
    have : ¬ k = l := fun z => hn z.symm
    simp [this]
theorem better_no {ks : List Int} {p q : Plan} (hd : dirOf p = dirOf q) (h : isBetter ks p q = false) : AsGood ks q p := by
  unfold isBetter at h
  split at h
  · rename_i e
    refine .inr ⟨e.symm, fun d hdp => ?_⟩
    have hl : (lastP p).1 = d := by
      rcases snoc_of p with rfl | ⟨p0, r, rfl⟩
      · cases hdp
      · rw [dirOf_snoc] at hdp
        rw [lastP_snoc]
        exact Option.some.inj hdp
    unfold LeD
    rw [hl] at h
    cases d
    · simp only [Bool.false_eq_true, if_false, decide_eq_false_iff_not] at h ⊢
      omega
    · simp only [if_true, decide_eq_false_iff_not] at h ⊢
      omega
  · rename_i e
    have := of_decide_eq_false h
    exact .inl (by omega)
theorem better_yes {ks : List Int} {p q : Plan} (hd : dirOf p = dirOf q) (h : isBetter ks p q = true) : AsGood ks p q := by
  unfold isBetter at h
  split at h
  · rename_i e
    refine .inr ⟨e, fun d hdq => ?_⟩
    have hl : (lastP p).1 = d := by
      rw [← hd] at hdq
      rcases snoc_of p with rfl | ⟨p0, r, rfl⟩
      · cases hdq
      · rw [dirOf_snoc] at hdq
        rw [lastP_snoc]
        exact Option.some.inj hdq
    unfold LeD
    rw [hl] at h
    cases d
    · simp only [Bool.false_eq_true, if_false, decide_eq_true_eq] at h ⊢
      omega
    · simp only [if_true, decide_eq_true_eq] at h ⊢
      omega
  · exact .inl (of_decide_eq_true h)
/-- each entry has its plan's direction -/
def Dirs (t : Tab) : Prop := ∀ e ∈ t, e.1.2 = dirOf e.2
theorem offer_dirs {ks : List Int} {rest : List Nat} {t : Tab} {p : Plan} (h : Dirs t) : Dirs (offer ks rest t p) := fun e he => by
  rcases offer_mem he with he | rfl
  · exact h e he
  · rfl
theorem Has.kept {ks : List Int} {rest : List Nat} {t : Tab} {p : Plan} {k : Sp.PK} {q : Plan} (hk : dirOf q = k.2) (h : Has ks t k q) : Has ks (offer ks rest t p) k q := by
  obtain ⟨x, h1, h2, h3⟩ := h
  by_cases e : k = (rest, dirOf p)
  · subst e
    unfold offer
    rw [h1]
    dsimp only
    split
    · rename_i hb
      exact ⟨p, getT_put_same, rfl, (better_yes h2.symm hb).trans (h2.trans hk.symm) h3⟩
    · exact ⟨x, h1, h2, h3⟩
  · refine ⟨x, ?_, h2, h3⟩
    unfold offer
    split
    · rw [getT_put_other e, h1]
    · split
      · rw [getT_put_other e, h1]
      · exact h1
theorem has_offered {ks : List Int} {rest : List Nat} {t : Tab} {p : Plan} (hd : Dirs t) : Has ks (offer ks rest t p) (rest, dirOf p) p := by
  unfold offer
  cases h : getT t (rest, dirOf p) with
  | none => exact ⟨p, getT_put_same, rfl, .refl⟩
  | some q =>
    have hq : dirOf q = dirOf p := (hd _ (getT_mem h)).symm
    dsimp only
    split
    · exact ⟨p, getT_put_same, rfl, .refl⟩
    · rename_i hb
      exact ⟨q, h, hq, better_no hq.symm (Bool.eq_false_iff.mpr hb)⟩
theorem foldl_at {α β : Type} {f : β → α → β} {I P : β → Prop} : ∀ {l : List α} {b : β} {x : α}, x ∈ l → I b → (∀ b y, y ∈ l → I b → I (f b y)) → (∀ b, I b → P (f b x)) → (∀ b y, y ∈ l → I b → P b → P (f b y)) → P (l.foldl f b)
  | y :: l, b, x, hx, hb, hI, h1, h2 => by
    have hI' : ∀ b z, z ∈ l → I b → I (f b z) := fun b z hz => hI b z (List.mem_cons_of_mem _ hz)
    have h2' : ∀ b z, z ∈ l → I b → P b → P (f b z) := fun b z hz => h2 b z (List.mem_cons_of_mem _ hz)
    by_cases hxl : x ∈ l
    · exact foldl_at (l := l) (b := f b y) hxl (hI b y (List.mem_cons_self ..) hb) hI' h1 h2'
    · have e : x = y := by
        rcases List.mem_cons.mp hx with e | e
        · exact e
        · exact absurd e hxl
      subst e
      exact (foldl_inv (I := fun b => I b ∧ P b) (l := l) ⟨hI b x (List.mem_cons_self ..) hb, h1 b hb⟩ fun b z hz hh => ⟨hI' b z hz hh.1, h2' b z hz hh.1 hh.2⟩).2
theorem dirs_held {down : Bool} {ks : List Int} {plan : Plan} {held : List Nat} {t : Tab} {r : Nat} (h : Dirs t) : Dirs (ledHeld down ks plan held t r) := foldl_inv (I := Dirs) h fun _ _ _ z => offer_dirs z
theorem Has.held {down : Bool} {ks : List Int} {plan : Plan} {held : List Nat} {t : Tab} {r : Nat} {k : Sp.PK} {q : Plan} (hk : dirOf q = k.2) (h : Has ks t k q) : Has ks (ledHeld down ks plan held t r) k q := foldl_inv (I := fun t => Has ks t k q) h fun _ _ _ z => z.kept hk
/-- the table behind has one as good as each plan behind one -/
theorem has_led {down : Bool} {room : Nat} {ks : List Int} {t : Tab} {i r : Nat} {e : Sp.PK × Plan} {q : Plan} (he : e ∈ t) (hfull : ∀ e ∈ t, ¬ (e.1.1 ++ [i]).length < room) (hr : r ∈ e.1.1 ++ [i]) (hq : q ∈ plansBehind down ks e.2 r) : Has ks (plansLed down room ks t i) ((e.1.1 ++ [i]).filter (fun o => decide (o ≠ r)), dirOf q) q := by
  have one : ∀ (b : Tab) (x : Sp.PK × Plan), x ∈ t → ledOne down room ks i b x = (x.1.1 ++ [i]).foldl (ledHeld down ks x.2 (x.1.1 ++ [i])) b := fun b x hx => by
    unfold ledOne
    rw [if_neg (hfull x hx)]
  refine foldl_at (I := Dirs) (P := fun t => Has ks t ((e.1.1 ++ [i]).filter (fun o => decide (o ≠ r)), dirOf q) q) (b := []) he (fun x hx => by cases hx) (fun b x hx hb => ?_) (fun b hb => ?_) (fun b x hx hb hh => ?_)
  · rw [one b x hx]
    exact foldl_inv (I := Dirs) hb fun _ _ _ z => dirs_held z
  · rw [one b e he]
    refine foldl_at (f := ledHeld down ks e.2 (e.1.1 ++ [i])) (I := Dirs) (P := fun t => Has ks t ((e.1.1 ++ [i]).filter (fun o => decide (o ≠ r)), dirOf q) q) hr hb (fun b y _ hb => dirs_held hb) (fun b hb => ?_) (fun b y _ _ hh => Has.held rfl hh)
    exact foldl_at (f := offer ks ((e.1.1 ++ [i]).filter fun o => decide (o ≠ r))) (I := Dirs) (P := fun t => Has ks t ((e.1.1 ++ [i]).filter (fun o => decide (o ≠ r)), dirOf q) q) hq hb (fun b y _ hb => offer_dirs hb) (fun b hb => has_offered hb) (fun b y _ _ hh => Has.kept rfl hh)
  · rw [one b x hx]
    exact foldl_inv (I := fun t => Has ks t _ q) hh fun _ _ _ z => z.held rfl
/-! plans made step by step -/
inductive Steps (ks : List Int) (down : Bool) : Plan → List Nat → Prop where
  | nil : Steps ks down [] []
  | on {q : Plan} {u : Bool} {l : List Nat} {L : List Nat} {x : Nat} (h : Steps ks down (q ++ [(u, l)]) L) (hl : l ≠ []) (hf : Follows ks (u, l) x) : Steps ks down (q ++ [(u, l ++ [x])]) (L ++ [x])
  | new {q : Plan} {L : List Nat} {x : Nat} {d : Bool} (h : Steps ks down q L) (hd : d = false → down = true) : Steps ks down (q ++ [(d, [x])]) (L ++ [x])
theorem steps_run {ks : List Int} {down : Bool} {q : Plan} {L : List Nat} {u : Bool} (h : Steps ks down q L) (hd : u = false → down = true) : ∀ {n : Nat} {l : List Nat}, l.length = n → l ≠ [] → Mono ks (u, l) → Steps ks down (q ++ [(u, l)]) (L ++ l)
  | 0, l, hn, hne, _ => absurd (List.length_eq_zero_iff.mp hn) hne
  | n + 1, l, hn, hne, hm => by
    rcases snoc_of l with rfl | ⟨m, x, rfl⟩
    · exact absurd rfl hne
    by_cases hm0 : m = []
    · subst hm0
      exact .new h hd
    · have hm2 := List.pairwise_append.mp hm
      have ih := steps_run h hd (n := n) (l := m) (by rw [List.length_append] at hn; exact Nat.succ.inj hn) hm0 hm2.1
      rw [← List.append_assoc]
      refine .on ih hm0 ?_
      rcases snoc_of m with rfl | ⟨m', y, rfl⟩
      · exact absurd rfl hm0
      · have := hm2.2.2 y (by simp) x (by simp)
        unfold Follows
        rw [lastR_snoc]
        exact this
theorem steps_of {ks : List Int} {down : Bool} : ∀ {n : Nat} {p : Plan}, p.length = n → Runs ks down p → Steps ks down p (flat p)
  | 0, p, hn, _ => by
    rw [List.length_eq_zero_iff.mp hn]
    exact .nil
  | n + 1, p, hn, h => by
    rcases snoc_of p with rfl | ⟨q, ⟨u, l⟩, rfl⟩
    · cases hn
    obtain ⟨a, b, c, d⟩ := h.init
    rw [flat_snoc]
    exact steps_run (steps_of (n := n) (by rw [List.length_append] at hn; exact Nat.succ.inj hn) a) c rfl b d
/-- the part of a plan that is written first -/
theorem steps_part {ks : List Int} {down : Bool} {q : Plan} {L : List Nat} (h : Steps ks down q L) : ∀ k, k ≤ L.length → ∃ q', Steps ks down q' (L.take k) ∧ (q'.length < q.length ∨ (q'.length = q.length ∧ dirOf q' = dirOf q ∧ (∀ d, dirOf q = some d → LeD ks d (lastR (lastP q')) (lastR (lastP q)) ∧ ∀ x ∈ L.drop k, LeD ks d (lastR (lastP q')) x))) := by
  induction h with
  | nil =>
    intro k hk
    exact ⟨[], by rw [List.take_nil]; exact .nil, .inr ⟨rfl, rfl, fun d hd => by cases hd⟩⟩
  | @on q u l L x h hl hf ih =>
    intro k hk
    rw [List.length_append] at hk
    by_cases hkl : k ≤ L.length
    · obtain ⟨q', h1, h2⟩ := ih k hkl
      refine ⟨q', by rw [List.take_append_of_le_length hkl]; exact h1, ?_⟩
      rcases h2 with h2 | ⟨e1, e2, e3⟩
      · exact .inl (by rw [List.length_append] at *; exact h2)
      · refine .inr ⟨by rw [e1, List.length_append, List.length_append]; rfl, by rw [e2, dirOf_snoc, dirOf_snoc], fun d hd => ?_⟩
        rw [dirOf_snoc] at hd
        cases hd
        obtain ⟨f1, f2⟩ := e3 u (dirOf_snoc _ _)
        rw [lastP_snoc] at f1
        rw [lastP_snoc, lastR_snoc]
        have fx : LeD ks u (lastR (lastP q')) x := f1.trans (follows_iff.mp hf)
        refine ⟨fx, fun y hy => ?_⟩
        rw [List.drop_append_of_le_length hkl] at hy
        rcases List.mem_append.mp hy with hy | hy
        · exact f2 y hy
        · rw [List.mem_singleton.mp hy]
          exact fx
    · have hk2 : k = (L ++ [x]).length := by rw [List.length_append]; have : ([x] : List Nat).length = 1 := rfl; omega
      subst hk2
      rw [List.take_length, List.drop_length]
      exact ⟨_, .on h hl hf, .inr ⟨rfl, rfl, fun d _ => ⟨LeD.refl, fun y hy => by cases hy⟩⟩⟩
  | @new q L x d h hd ih =>
    intro k hk
    rw [List.length_append] at hk
    by_cases hkl : k ≤ L.length
    · obtain ⟨q', h1, h2⟩ := ih k hkl
      refine ⟨q', by rw [List.take_append_of_le_length hkl]; exact h1, .inl ?_⟩
      rw [List.length_append]
      have : ([(d, [x])] : Plan).length = 1 := rfl
      rcases h2 with h2 | ⟨e1, _⟩ <;> omega
    · have hk2 : k = (L ++ [x]).length := by rw [List.length_append]; have : ([x] : List Nat).length = 1 := rfl; omega
      subst hk2
      rw [List.take_length, List.drop_length]
      exact ⟨_, .new h hd, .inr ⟨rfl, rfl, fun d _ => ⟨LeD.refl, fun y hy => by cases hy⟩⟩⟩
/-! what is stored while an order is written as late as can be -/
def left (n : Nat) (L : List Nat) : List Nat := (List.range n).filter fun i => decide (i ∉ L)
theorem left_snoc {n : Nat} {L : List Nat} {x : Nat} (hL : ∀ i ∈ L, i < n) : (left n L ++ [n]).filter (fun o => decide (o ≠ x)) = left (n + 1) (L ++ [x]) := by
  have e : left n L ++ [n] = (List.range (n + 1)).filter fun i => decide (i ∉ L) := by
    unfold left
    rw [List.range_succ, List.filter_append]
    have : n ∉ L := fun z => Nat.lt_irrefl _ (hL n z)
    simp [this]
  rw [e]
  unfold left
  rw [List.filter_filter]
  refine List.filter_congr fun i _ => ?_
  by_cases h1 : i ∈ L <;> by_cases h2 : i = x <;> simp [h1, h2]
/-- the first records are just stored -/
theorem tab_first {down : Bool} {room : Nat} {ks : List Int} : ∀ {i : Nat}, i < room → tabAt down room ks i = [((List.range i, none), [])]
  | 0, _ => rfl
  | i + 1, hi => by
    show plansLed down room ks (tabAt down room ks i) i = _
    rw [tab_first (by omega)]
    show ledOne down room ks i [] ((List.range i, none), []) = _
    unfold ledOne
    rw [if_pos (by rw [List.length_append, List.length_range]; exact hi), List.range_succ]
    rfl
theorem entry_full {ks : List Int} {room i : Nat} {down : Bool} {e : Sp.PK × Plan} (g : Good ks room down i e) (hl : e.1.1.length < room) (hi : room ≤ i + 1) : e.1.1.length + 1 = room := by
  have := g.len
  by_cases z : flat e.2 = []
  · rw [z] at this
    have : ([] : List Nat).length = 0 := rfl
    omega
  · exact g.full z
theorem has_steps {ks : List Int} {down : Bool} {room : Nat} (h1 : 0 < room) {q : Plan} {L : List Nat} (h : Steps ks down q L) : L.length + room ≤ ks.length + 1 → L.Nodup → (∀ k v, L[k]? = some v → v < k + room) → Has ks (tabAt down room ks (L.length + room - 1)) (left (L.length + room - 1) L, dirOf q) q := by
  have step : ∀ {q' : Plan} {L' : List Nat} {x : Nat} (p : Plan) (qq : Plan), (L' ++ [x]).length + room ≤ ks.length + 1 → (L' ++ [x]).Nodup → (∀ k v, (L' ++ [x])[k]? = some v → v < k + room) → getT (tabAt down room ks (L'.length + room - 1)) (left (L'.length + room - 1) L', dirOf q') = some p → qq ∈ plansBehind down ks p x → Has ks (tabAt down room ks ((L' ++ [x]).length + room - 1)) (left ((L' ++ [x]).length + room - 1) (L' ++ [x]), dirOf qq) qq := fun {q' L' x} p qq hl hn hp hg hq => by
    have hlen : (L' ++ [x]).length = L'.length + 1 := by rw [List.length_append]; rfl
    rw [hlen] at hl ⊢
    have hi : L'.length + 1 + room - 1 = (L'.length + room - 1) + 1 := by omega
    rw [hi]
    have hL' : ∀ i ∈ L', i < L'.length + room - 1 := fun i hi => by
      obtain ⟨k, hk⟩ := List.mem_iff_getElem?.mp hi
      have hkl := (List.getElem?_eq_some_iff.mp hk).1
      have := hp k i (by rw [List.getElem?_append_left hkl]; exact hk)
      omega
    have hx : x < L'.length + room := hp L'.length x (by simp)
    have hxn : x ∉ L' := fun z => by
      have := (List.nodup_append.mp hn).2.2 x z x (by simp)
      exact this rfl
    have hmem := getT_mem hg
    have hile : L'.length + room - 1 ≤ ks.length := by omega
    have hxr : x ∈ left (L'.length + room - 1) L' ++ [L'.length + room - 1] := by
      by_cases z : x = L'.length + room - 1
      · rw [z]; simp
      · refine List.mem_append_left _ (List.mem_filter.mpr ⟨List.mem_range.mpr (by omega), decide_eq_true hxn⟩)
    have := has_led (down := down) (room := room) (ks := ks) (i := L'.length + room - 1) (r := x) hmem (fun e he z => ?_) hxr hq
    · rw [left_snoc hL'] at this
      exact this
    · have g := good_at h1 hile e he
      have w := (tinv_at (down := down) h1 hile).wf e he
      have := entry_full g w.len (by omega)
      rw [List.length_append] at z
      have : ([L'.length + room - 1] : List Nat).length = 1 := rfl
      omega
  induction h with
  | nil =>
    intro hl _ _
    show Has ks (tabAt down room ks (0 + room - 1)) (left (0 + room - 1) [], none) []
    rw [tab_first (by omega)]
    refine ⟨[], ?_, rfl, .refl⟩
    have : left (0 + room - 1) [] = List.range (0 + room - 1) := by
      unfold left
      exact List.filter_eq_self.mpr fun _ _ => by simp
    rw [this]
    unfold getT
    simp
  | @on q u l L x h hl hf ih =>
    intro hlen hn hp
    have hlen' : (L ++ [x]).length = L.length + 1 := by rw [List.length_append]; rfl
    obtain ⟨p, g1, g2, g3⟩ := ih (by omega) (List.nodup_append.mp hn).1 (fun k v hv => hp k v (by rw [List.getElem?_append_left (List.getElem?_eq_some_iff.mp hv).1]; exact hv))
    have hdir : dirOf (q ++ [(u, l ++ [x])]) = some u := dirOf_snoc _ _
    have hdq : dirOf (q ++ [(u, l)]) = some u := dirOf_snoc _ _
    have hdp : dirOf p = some u := by rw [g2]; exact hdq
    rcases snoc_of p with rfl | ⟨p0, ⟨u', l'⟩, rfl⟩
    · cases hdp
    have hu : u' = u := by
      rw [dirOf_snoc] at hdp
      exact Option.some.inj hdp
    subst hu
    have hqlen : (q ++ [(u', l ++ [x])]).length = (q ++ [(u', l)]).length := by rw [List.length_append, List.length_append]; rfl
    rw [hdir]
    rcases g3 with g3 | ⟨g3, g4⟩
    · have mem : p0 ++ [(u', l')] ++ [(u', [x])] ∈ plansBehind down ks (p0 ++ [(u', l')]) x := by
        unfold plansBehind
        cases u' with
        | true => simp
        | false =>
          have hd : down = true := by
            have : Runs ks down (p0 ++ [(false, l')]) := (good_at h1 (by omega) _ (getT_mem g1)).runs
            exact this.init.2.2.1 rfl
          rw [if_pos hd]
          simp
      obtain ⟨p', f1, f2, f3⟩ := step (q' := q ++ [(u', l)]) _ _ hlen hn hp g1 mem
      rw [dirOf_snoc] at f1 f2
      refine ⟨p', f1, f2, f3.trans ?_ (?_ : AsGood ks (p0 ++ [(u', l')] ++ [(u', [x])]) _)⟩
      · rw [dirOf_snoc, hdir]
      · have : (p0 ++ [(u', l')] ++ [(u', [x])]).length = (p0 ++ [(u', l')]).length + 1 := by rw [List.length_append]; rfl
        by_cases z : (p0 ++ [(u', l')]).length + 1 = (q ++ [(u', l)]).length
        · refine .inr ⟨by omega, fun d _ => ?_⟩
          rw [lastP_snoc, lastP_snoc]
          show LeD ks d (lastR (u', [] ++ [x])) (lastR (u', l ++ [x]))
          rw [lastR_snoc, lastR_snoc]
          exact LeD.refl
        · exact .inl (by omega)
    · have hle := g4 u' hdq
      rw [lastP_snoc, lastP_snoc] at hle
      have hfol : Follows ks (u', l') x := follows_iff.mpr (hle.trans (follows_iff.mp hf))
      have mem : p0 ++ [(u', l' ++ [x])] ∈ plansBehind down ks (p0 ++ [(u', l')]) x := by
        unfold plansBehind
        rw [onRun_snoc, if_pos (goesOn_iff.mpr hfol)]
        simp
      obtain ⟨p', f1, f2, f3⟩ := step (q' := q ++ [(u', l)]) _ _ hlen hn hp g1 mem
      rw [dirOf_snoc] at f1 f2
      refine ⟨p', f1, f2, f3.trans (by rw [dirOf_snoc, hdir]) (.inr ⟨?_, fun d _ => ?_⟩)⟩
      · have : (p0 ++ [(u', l' ++ [x])]).length = (p0 ++ [(u', l')]).length := by rw [List.length_append, List.length_append]; rfl
        omega
      · rw [lastP_snoc, lastP_snoc, lastR_snoc, lastR_snoc]
        exact LeD.refl
  | @new q L x d h hd ih =>
    intro hlen hn hp
    have hlen' : (L ++ [x]).length = L.length + 1 := by rw [List.length_append]; rfl
    obtain ⟨p, g1, g2, g3⟩ := ih (by omega) (List.nodup_append.mp hn).1 (fun k v hv => hp k v (by rw [List.getElem?_append_left (List.getElem?_eq_some_iff.mp hv).1]; exact hv))
    have mem : p ++ [(d, [x])] ∈ plansBehind down ks p x := by
      unfold plansBehind
      cases d with
      | true => simp
      | false =>
        rw [if_pos (hd rfl)]
        simp
    obtain ⟨p', f1, f2, f3⟩ := step (q' := q) _ _ hlen hn hp g1 mem
    rw [dirOf_snoc] at f1 f2
    rw [dirOf_snoc]
    refine ⟨p', f1, f2, f3.trans (by rw [dirOf_snoc, dirOf_snoc]) ?_⟩
    have e1 : (p ++ [(d, [x])]).length = p.length + 1 := by rw [List.length_append]; rfl
    have e2 : (q ++ [(d, [x])]).length = q.length + 1 := by rw [List.length_append]; rfl
    by_cases z : p.length = q.length
    · refine .inr ⟨by omega, fun d' _ => ?_⟩
      rw [lastP_snoc, lastP_snoc]
      exact LeD.refl
    · rcases g3 with g3 | ⟨g3, _⟩
      · exact .inl (by omega)
      · exact absurd g3 z
theorem shortest_le : ∀ {l : List Plan} {p : Plan}, p ∈ l → (shortest l).length ≤ p.length
  | q :: r, p, h => by
    show (r.foldl (fun b x => if x.length < b.length then x else b) q).length ≤ p.length
    have key : ∀ (r : List Plan) (b : Plan), (r.foldl (fun b x => if x.length < b.length then x else b) b).length ≤ b.length ∧ ∀ p ∈ r, (r.foldl (fun b x => if x.length < b.length then x else b) b).length ≤ p.length := fun r => by
      induction r with
      | nil => exact fun b => ⟨Nat.le_refl _, fun p hp => by cases hp⟩
      | cons x r ih =>
        intro b
        rw [List.foldl_cons]
        obtain ⟨h1, h2⟩ := ih (if x.length < b.length then x else b)
        have h3 : (if x.length < b.length then x else b).length ≤ b.length ∧ (if x.length < b.length then x else b).length ≤ x.length := by split <;> omega
        refine ⟨by omega, fun p hp => ?_⟩
        rcases List.mem_cons.mp hp with rfl | hp
        · omega
        · exact h2 p hp
    rcases List.mem_cons.mp h with rfl | h
    · exact (key r p).1
    · exact (key r q).2 p h
theorem final_le {down : Bool} {room : Nat} {ks : List Int} {e : Sp.PK × Plan} (h : e ∈ tabAt down room ks ks.length) : (sched down room ks).length ≤ (closed ks e.1.1 e.2).length := shortest_le (List.mem_map.mpr ⟨e, h, rfl⟩)
/-- no plan that can be made has fewer runs -/
theorem sched_least {ks : List Int} {room : Nat} {down : Bool} (h1 : 0 < room) {p : Plan} (val : Valid ks room down p) : (sched down room ks).length ≤ p.length := by
  have hfl : (flat p).length = ks.length := by
    have := val.perm.length_eq
    rw [List.length_range] at this
    exact this
  have hnd : (flat p).Nodup := val.perm.symm.nodup List.nodup_range
  have st := steps_of (ks := ks) (down := down) rfl val.runs
  by_cases hsmall : ks.length < room
  · -- nothing is written ahead of the end
    have hm : ((List.range ks.length, none), []) ∈ tabAt down room ks ks.length := by rw [tab_first hsmall]; simp
    have : (sched down room ks).length ≤ (closed ks (List.range ks.length) []).length := final_le hm
    by_cases h0 : ks.length = 0
    · have e : closed ks (List.range ks.length) [] = [] := by
        have z : inOrder ks (List.range ks.length) = [] := by
          rw [h0]
          unfold inOrder
          simp
        unfold closed
        rw [if_pos z]
      rw [e] at this
      exact Nat.le_trans this (Nat.zero_le _)
    · have h2 := closed_len (ks := ks) (s := List.range ks.length) (p := [])
      have hp0 : p ≠ [] := fun z => by
        rw [z] at hfl
        exact h0 hfl.symm
      have := List.length_pos_iff.mpr hp0
      have : (([] : Plan).length) = 0 := rfl
      omega
  · obtain ⟨q, hq, hrel⟩ := steps_part st (ks.length + 1 - room) (by omega)
    have hlt : ((flat p).take (ks.length + 1 - room)).length = ks.length + 1 - room := by rw [List.length_take]; omega
    obtain ⟨p', g1, g2, g3⟩ := has_steps h1 hq (by omega) (hnd.sublist (List.take_sublist _ _)) (fun k v hv => val.pos k v (by
      rw [List.getElem?_take] at hv
      split at hv
      · exact hv
      · cases hv))
    rw [hlt] at g1
    rw [show ks.length + 1 - room + room - 1 = ks.length by omega] at g1
    have hm := getT_mem g1
    have hfin := final_le hm
    have hcl := closed_len (ks := ks) (s := left ks.length ((flat p).take (ks.length + 1 - room))) (p := p')
    have hfin : (sched down room ks).length ≤ (closed ks (left ks.length ((flat p).take (ks.length + 1 - room))) p').length := hfin
    have hg : p'.length ≤ q.length := by rcases g3 with g3 | ⟨g3, _⟩ <;> omega
    rcases hrel with hrel | ⟨e1, e2, e3⟩
    · omega
    · rcases g3 with g3 | ⟨g3, g4⟩
      · omega
      · -- all that is left follows the last run
        have hlen : (closed ks (left ks.length ((flat p).take (ks.length + 1 - room))) p').length ≤ p'.length := by
          unfold closed
          split
          · exact Nat.le_refl _
          · rename_i hne
            rcases snoc_of p' with rfl | ⟨p0, r, rfl⟩
            · exfalso
              have hd : dirOf q = none := by
                have : dirOf ([] : Plan) = dirOf q := g2
                exact this.symm
              have hq0 : q = [] := by
                rcases snoc_of q with z | ⟨a, b, z⟩
                · exact z
                · rw [z, dirOf_snoc] at hd
                  cases hd
              rw [hq0] at e1
              have hp0 : p = [] := List.length_eq_zero_iff.mp e1.symm
              rw [hp0] at hfl
              have : (flat ([] : Plan)).length = 0 := rfl
              refine hne ?_
              have hks : ks.length = 0 := by omega
              have : left ks.length ((flat p).take (ks.length + 1 - room)) = [] := by
                rw [hks]
                rfl
              rw [this]
              unfold inOrder
              simp
            · rw [List.getLast?_concat, List.dropLast_concat]
              dsimp only
              have hd : dirOf q = some r.1 := by
                have : dirOf (p0 ++ [r]) = dirOf q := g2
                rw [dirOf_snoc] at this
                exact this.symm
              have hle := g4 r.1 hd
              rw [lastP_snoc] at hle
              have hall : (inOrder ks (left ks.length ((flat p).take (ks.length + 1 - room)))).all (goesOn ks r) = true := by
                refine List.all_eq_true.mpr fun x hx => goesOn_iff.mpr (follows_iff.mpr ?_)
                have hx := inOrder_mem.mp hx
                obtain ⟨hx1, hx2⟩ := List.mem_filter.mp hx
                have hx2 := of_decide_eq_true hx2
                have hxf : x ∈ flat p := val.perm.mem_iff.mpr hx1
                rw [← List.take_append_drop (ks.length + 1 - room) (flat p)] at hxf
                rcases List.mem_append.mp hxf with z | z
                · exact absurd z hx2
                · exact hle.trans ((e3 r.1 (by rw [← e2]; exact hd)).2 x z)
              rw [if_pos hall, List.length_append, List.length_append]
              exact Nat.le_refl _
        omega

end K21
namespace K21
open PySem PySem.Spec PyProof.Rows L2 Sp
variable {P : Program} {w : World} {K : PySem.W.Frag} {mg : Str → Option Value} {base : Heap}
/-! ### orders and their cuts -/
def folI (up : Bool) (last key : Int) : Bool := if up = true then decide (last ≤ key) else decide (key ≤ last)
def reachF (up : Bool) : Int → List Int → Nat
  | _, [] => 0
  | last, x :: r => if folI up last x = true then 1 + reachF up x r else 0
def reachM (down : Bool) (x : Int) (r : List Int) : Nat := max (reachF true x r) (if down = true then reachF false x r else 0)
theorem reachF_le (up : Bool) : ∀ (x : Int) (r : List Int), reachF up x r ≤ r.length
  | _, [] => Nat.le_refl _
  | x, y :: r => by
    unfold reachF
    split
    · have := reachF_le up y r
      show 1 + _ ≤ r.length + 1
      omega
    · exact Nat.zero_le _
theorem reachM_le (down : Bool) (x : Int) (r : List Int) : reachM down x r ≤ r.length := by
  unfold reachM
  have h1 := reachF_le true x r
  have h2 := reachF_le false x r
  split <;> omega
/-- the number of runs, each as long as it can be -/
def cutsN (down : Bool) : Nat → List Int → Nat
  | 0, _ => 0
  | _ + 1, [] => 0
  | n + 1, x :: r => 1 + cutsN down n (r.drop (reachM down x r))
def cutsL (down : Bool) (l : List Int) : Nat := cutsN down l.length l
theorem cutsN_eq (down : Bool) : ∀ (n : Nat) (l : List Int), l.length ≤ n → cutsN down n l = cutsL down l
  | 0, [], _ => rfl
  | 0, _ :: _, h => by cases h
  | n + 1, [], _ => rfl
  | n + 1, x :: r, h => by
    have h : r.length ≤ n := Nat.le_of_succ_le_succ h
    show 1 + cutsN down n (r.drop (reachM down x r)) = 1 + cutsN down r.length (r.drop (reachM down x r))
    have hd : (r.drop (reachM down x r)).length ≤ r.length := by rw [List.length_drop]; omega
    rw [cutsN_eq down n _ (by omega), cutsN_eq down r.length _ hd]
theorem cutsL_nil (down : Bool) : cutsL down [] = 0 := rfl
theorem cutsL_cons (down : Bool) (x : Int) (r : List Int) : cutsL down (x :: r) = 1 + cutsL down (r.drop (reachM down x r)) := by
  show 1 + cutsN down r.length (r.drop (reachM down x r)) = _
  rw [cutsN_eq down r.length _ (by rw [List.length_drop]; omega)]
theorem folI_iff {ks : List Int} {d : Bool} {i j : Nat} : folI d (keyI ks i) (keyI ks j) = true ↔ LeD ks d i j := by
  unfold folI LeD
  cases d <;> simp
theorem mono_reach {ks : List Int} {d : Bool} : ∀ {r : List Nat} {x k : Nat}, k ≤ reachF d (keyI ks x) (r.map (keyI ks)) → Mono ks (d, x :: r.take k)
  | [], x, k, _ => by rw [List.take_nil]; exact mono_one ks d x
  | y :: r, x, 0, _ => mono_one ks d x
  | y :: r, x, k + 1, h => by
    rw [List.map_cons, reachF] at h
    split at h
    · rename_i hf
      have hxy : LeD ks d x y := folI_iff.mp hf
      have ih := mono_reach (ks := ks) (d := d) (r := r) (x := y) (k := k) (by omega)
      unfold Mono at ih ⊢
      dsimp only at ih ⊢
      rw [List.take_succ_cons]
      refine List.pairwise_cons.mpr ⟨fun z hz => ?_, ih⟩
      rcases List.mem_cons.mp hz with rfl | hz
      · exact hxy
      · exact hxy.trans ((List.pairwise_cons.mp ih).1 z hz)
    · omega
theorem reach_mono {ks : List Int} {d : Bool} : ∀ {m : List Nat} {x : Nat} {t : List Nat}, Mono ks (d, x :: m) → m.length ≤ reachF d (keyI ks x) ((m ++ t).map (keyI ks))
  | [], _, _, _ => Nat.zero_le _
  | y :: m, x, t, h => by
    unfold Mono at h
    dsimp only at h
    have h2 := List.pairwise_cons.mp h
    have hxy : LeD ks d x y := h2.1 y (List.mem_cons_self ..)
    show m.length + 1 ≤ reachF d (keyI ks x) (keyI ks y :: (m ++ t).map (keyI ks))
    unfold reachF
    rw [if_pos (folI_iff.mpr hxy)]
    have := reach_mono (ks := ks) (d := d) (m := m) (x := y) (t := t) h2.2
    omega
theorem Runs.cons {ks : List Int} {down : Bool} {p : Plan} {r : Run} (h : Runs ks down p) (h1 : r.2 ≠ []) (h2 : r.1 = false → down = true) (h3 : Mono ks r) : Runs ks down (r :: p) :=
  ⟨fun q hq => (List.mem_cons.mp hq).elim (fun e => e ▸ h1) (h.ne q), fun q hq => (List.mem_cons.mp hq).elim (fun e => e ▸ h2) (h.dn q), fun q hq => (List.mem_cons.mp hq).elim (fun e => e ▸ h3) (h.mono q)⟩
theorem flat_cons' (r : Run) (p : Plan) : flat (r :: p) = r.2 ++ flat p := by
  unfold flat
  rw [List.map_cons, List.flatten_cons]
/-- an order, cut -/
theorem cut_plan {ks : List Int} {down : Bool} : ∀ (n : Nat) (l : List Nat), l.length ≤ n → ∃ p, Runs ks down p ∧ flat p = l ∧ p.length = cutsL down (l.map (keyI ks))
  | _, [], _ => ⟨[], ⟨fun r hr => (by cases hr), fun r hr => (by cases hr), fun r hr => (by cases hr)⟩, rfl, rfl⟩
  | 0, _ :: _, h => by cases h
  | n + 1, x :: r, h => by
    have hr : r.length ≤ n := Nat.le_of_succ_le_succ h
    obtain ⟨p, h1, h2, h3⟩ := cut_plan (ks := ks) (down := down) n (r.drop (reachM down (keyI ks x) (r.map (keyI ks)))) (by rw [List.length_drop]; omega)
    obtain ⟨d, hd, hk⟩ : ∃ d : Bool, (d = false → down = true) ∧ reachM down (keyI ks x) (r.map (keyI ks)) ≤ reachF d (keyI ks x) (r.map (keyI ks)) := by
      unfold reachM
      by_cases hdn : down = true
      · rw [if_pos hdn]
        by_cases z : reachF false (keyI ks x) (r.map (keyI ks)) ≤ reachF true (keyI ks x) (r.map (keyI ks))
        · exact ⟨true, fun z => (by cases z), by omega⟩
        · exact ⟨false, fun _ => hdn, by omega⟩
      · rw [if_neg hdn]
        exact ⟨true, fun z => (by cases z), by omega⟩
    refine ⟨(d, x :: r.take (reachM down (keyI ks x) (r.map (keyI ks)))) :: p, h1.cons (by simp) hd (mono_reach hk), ?_, ?_⟩
    · rw [flat_cons', h2]
      show x :: (r.take _ ++ r.drop _) = _
      rw [List.take_append_drop]
    · rw [List.map_cons, cutsL_cons, ← List.map_drop, ← h3, List.length_cons]
      omega
/-- .. and no cut has fewer runs -/
theorem cut_least {ks : List Int} {down : Bool} : ∀ {p : Plan}, Runs ks down p → ∀ j, cutsL down (((flat p).drop j).map (keyI ks)) ≤ p.length
  | [], _, j => by
    show cutsL down ((([] : List Nat).drop j).map (keyI ks)) ≤ 0
    rw [List.drop_nil]
    exact Nat.le_refl _
  | ⟨d, l⟩ :: p, h, j => by
    have hp : Runs ks down p := ⟨fun q hq => h.ne q (List.mem_cons_of_mem _ hq), fun q hq => h.dn q (List.mem_cons_of_mem _ hq), fun q hq => h.mono q (List.mem_cons_of_mem _ hq)⟩
    rw [flat_cons', List.length_cons]
    dsimp only
    by_cases hj : l.length ≤ j
    · rw [List.drop_append, List.drop_of_length_le hj, List.nil_append]
      have := cut_least hp (j - l.length)
      omega
    · have hj : j < l.length := by omega
      rw [List.drop_append_of_le_length (by omega), List.drop_eq_getElem_cons hj, List.cons_append, List.map_cons, cutsL_cons, ← List.map_drop]
      have hm : Mono ks (d, l[j] :: l.drop (j + 1)) := by
        have := h.mono _ (List.mem_cons_self ..)
        unfold Mono at this ⊢
        dsimp only at this ⊢
        rw [← List.drop_eq_getElem_cons hj]
        exact this.sublist (List.drop_sublist _ _)
      have hr := reach_mono (t := flat p) hm
      have hk : (l.drop (j + 1)).length ≤ reachM down (keyI ks l[j]) ((l.drop (j + 1) ++ flat p).map (keyI ks)) := by
        unfold reachM
        cases d with
        | true => omega
        | false =>
          have := h.dn _ (List.mem_cons_self ..) rfl
          rw [if_pos this]
          omega
      generalize reachM down (keyI ks l[j]) ((l.drop (j + 1) ++ flat p).map (keyI ks)) = k at hk
      rw [List.drop_append, List.drop_of_length_le hk, List.nil_append]
      have := cut_least hp (k - (l.drop (j + 1)).length)
      omega
/-! all orders -/
def longer (n w : Nat) (found : List (List Nat)) (place : Nat) : List (List Nat) := found.flatMap fun o => ((List.range (min n (place + w))).filter fun a => decide (a ∉ o)).map fun a => o ++ [a]
def ordersAt (n w : Nat) : Nat → List (List Nat)
  | 0 => [[]]
  | k + 1 => longer n w (ordersAt n w k) k
def IsOrd (n w k : Nat) (l : List Nat) : Prop := l.length = k ∧ l.Nodup ∧ ∀ j v, l[j]? = some v → v < n ∧ v < j + w
theorem mem_orders {n w : Nat} : ∀ {k : Nat} {l : List Nat}, l ∈ ordersAt n w k ↔ IsOrd n w k l
  | 0, l => by
    show l ∈ [[]] ↔ _
    rw [List.mem_singleton]
    constructor
    · rintro rfl
      exact ⟨rfl, List.nodup_nil, fun j v h => by cases h⟩
    · intro h
      exact List.length_eq_zero_iff.mp h.1
  | k + 1, l => by
    show l ∈ longer n w (ordersAt n w k) k ↔ _
    unfold longer
    rw [List.mem_flatMap]
    constructor
    · rintro ⟨o, ho, hl⟩
      obtain ⟨a, ha, rfl⟩ := List.mem_map.mp hl
      obtain ⟨h1, h2⟩ := List.mem_filter.mp ha
      have h1 := List.mem_range.mp h1
      have h2 := of_decide_eq_true h2
      obtain ⟨e1, e2, e3⟩ := mem_orders.mp ho
      refine ⟨by rw [List.length_append, e1]; rfl, List.nodup_append.mpr ⟨e2, by simp, fun x hx y hy z => ?_⟩, fun j v hv => ?_⟩
      · rw [List.mem_singleton.mp hy] at z
        exact h2 (z ▸ hx)
      · by_cases hj : j < o.length
        · rw [List.getElem?_append_left hj] at hv
          exact e3 j v hv
        · rw [List.getElem?_append_right (by omega)] at hv
          have hj0 : j - o.length = 0 := by
            by_cases y : j - o.length = 0
            · exact y
            · rw [List.getElem?_eq_none (by show 1 ≤ _; omega)] at hv
              cases hv
          rw [hj0] at hv
          simp at hv
          omega
    · rintro ⟨e1, e2, e3⟩
      rcases snoc_of l with rfl | ⟨o, a, rfl⟩
      · cases e1
      have hol : o.length = k := by rw [List.length_append] at e1; exact Nat.succ.inj e1
      obtain ⟨n1, _, n3⟩ := List.nodup_append.mp e2
      have ha := e3 o.length a (by simp)
      refine ⟨o, mem_orders.mpr ⟨hol, n1, fun j v hv => e3 j v (by rw [List.getElem?_append_left (List.getElem?_eq_some_iff.mp hv).1]; exact hv)⟩, List.mem_map.mpr ⟨a, List.mem_filter.mpr ⟨List.mem_range.mpr (by omega), decide_eq_true fun z => n3 a z a (by simp) rfl⟩, rfl⟩⟩
theorem perm_range {n : Nat} {l : List Nat} (h1 : l.length = n) (h2 : l.Nodup) (h3 : ∀ v ∈ l, v < n) : l.Perm (List.range n) := by
  refine (List.perm_ext_iff_of_nodup h2 List.nodup_range).mpr fun a => ⟨fun h => List.mem_range.mpr (h3 a h), fun h => ?_⟩
  refine Classical.byContradiction fun z => ?_
  have := nodup_below n (l := a :: l) (List.nodup_cons.mpr ⟨z, h2⟩) fun x hx => by
    rcases List.mem_cons.mp hx with rfl | hx
    · exact List.mem_range.mp h
    · exact h3 x hx
  rw [List.length_cons] at this
  omega
/-- the least number over all orders -/
theorem least_orders {ks : List Int} {room : Nat} {down : Bool} (h1 : 0 < room) {m : Nat} (hm : ∃ l ∈ ordersAt ks.length room ks.length, m = cutsL down (l.map (keyI ks))) (hl : ∀ l ∈ ordersAt ks.length room ks.length, m ≤ cutsL down (l.map (keyI ks))) : m = (sched down room ks).length := by
  have val := sched_valid (ks := ks) (room := room) (down := down) h1
  have hfl : (flat (sched down room ks)).length = ks.length := by
    have := val.perm.length_eq
    rw [List.length_range] at this
    exact this
  have ho : flat (sched down room ks) ∈ ordersAt ks.length room ks.length := mem_orders.mpr ⟨hfl, val.perm.symm.nodup List.nodup_range, fun j v hv => ⟨List.mem_range.mp (val.perm.mem_iff.mp (List.mem_of_getElem? hv)), val.pos j v hv⟩⟩
  have a := hl _ ho
  have b := cut_least val.runs 0
  rw [List.drop_zero] at b
  obtain ⟨l, hlo, rfl⟩ := hm
  obtain ⟨e1, e2, e3⟩ := mem_orders.mp hlo
  obtain ⟨p, p1, p2, p3⟩ := cut_plan (ks := ks) (down := down) l.length l (Nat.le_refl _)
  have vp : Valid ks room down p := by
    refine ⟨p1, ?_, ?_⟩
    · rw [p2]
      exact perm_range e1 e2 fun v hv => by
        obtain ⟨j, hj⟩ := List.mem_iff_getElem?.mp hv
        exact (e3 j v hj).1
    · rw [p2]
      exact fun k v hv => (e3 k v hv).2
  have := sched_least h1 vp
  omega
/-! other keys -/
theorem valid_move {ks ms : List Int} {room : Nat} {down : Bool} {p : Plan} (hl : ms.length = ks.length) (hk : ∀ i j, i < ks.length → j < ks.length → keyI ks i ≤ keyI ks j → keyI ms i ≤ keyI ms j) (h : Valid ks room down p) : Valid ms room down p := by
  refine ⟨⟨h.runs.ne, h.runs.dn, fun r hr => ?_⟩, by rw [hl]; exact h.perm, h.pos⟩
  have hm := h.runs.mono r hr
  have hi : ∀ i ∈ r.2, i < ks.length := fun i hi => by
    have : i ∈ flat p := by
      unfold flat
      exact List.mem_flatten.mpr ⟨r.2, List.mem_map.mpr ⟨r, hr, rfl⟩, hi⟩
    exact List.mem_range.mp (h.perm.mem_iff.mp this)
  unfold Mono at hm ⊢
  refine List.Pairwise.imp_of_mem (fun {a b} ha hb z => ?_) hm
  split at z
  · rename_i e
    rw [if_pos e]
    exact hk a b (hi a ha) (hi b hb) z
  · rename_i e
    rw [if_neg e]
    exact hk b a (hi b hb) (hi a ha) z
theorem sched_move {ks : List Int} {room : Nat} {down : Bool} (h1 : 0 < room) (f : Int → Int) (hf : ∀ a b, a ≤ b ↔ f a ≤ f b) : (sched down room (ks.map f)).length = (sched down room ks).length := by
  have hl : (ks.map f).length = ks.length := List.length_map ..
  have hk : ∀ i, i < ks.length → keyI (ks.map f) i = f (keyI ks i) := fun i hi => by
    unfold keyI
    rw [List.getD_eq_getElem?_getD, List.getD_eq_getElem?_getD, List.getElem?_map, List.getElem?_eq_getElem hi]
    rfl
  refine Nat.le_antisymm (sched_least h1 (valid_move hl (fun i j hi hj z => ?_) (sched_valid h1))) (sched_least h1 (valid_move hl.symm (fun i j hi hj z => ?_) (sched_valid h1)))
  · rw [hk i hi, hk j hj]
    exact (hf _ _).mp z
  · rw [hl] at hi hj
    rw [hk i hi, hk j hj] at z
    exact (hf _ _).mpr z
theorem sched_equal {room m : Nat} {down : Bool} {c : Int} (h1 : 0 < room) : (sched down room (List.replicate m c)).length = min 1 m := by
  have hl : (List.replicate m c).length = m := List.length_replicate ..
  have val := sched_valid (ks := List.replicate m c) (room := room) (down := down) h1
  have hfl : (flat (sched down room (List.replicate m c))).length = m := by
    have := val.perm.length_eq
    rw [List.length_range, hl] at this
    exact this
  cases m with
  | zero =>
    have v0 : Valid (List.replicate 0 c) room down [] := ⟨⟨fun r hr => (by cases hr), fun r hr => (by cases hr), fun r hr => (by cases hr)⟩, List.Perm.refl _, fun k v hv => (by cases hv)⟩
    have := sched_least h1 v0
    have : ([] : Plan).length = 0 := rfl
    omega
  | succ m =>
    have hpos : 0 < (sched down room (List.replicate (m + 1) c)).length := by
      refine List.length_pos_iff.mpr fun z => ?_
      rw [z] at hfl
      cases hfl
    have hk : ∀ i, i < m + 1 → keyI (List.replicate (m + 1) c) i = c := fun i hi => by
      unfold keyI
      rw [List.getD_eq_getElem?_getD, List.getElem?_replicate, if_pos hi]
      rfl
    have v1 : Valid (List.replicate (m + 1) c) room down [(true, List.range (m + 1))] := by
      have hflat : flat [(true, List.range (m + 1))] = List.range (m + 1) := by
        rw [flat_cons']
        exact List.append_nil _
      refine ⟨⟨fun r hr => ?_, fun r hr => ?_, fun r hr => ?_⟩, ?_, fun k v hv => ?_⟩
      · rw [List.mem_singleton.mp hr]
        simp
      · rw [List.mem_singleton.mp hr]
        exact fun z => by cases z
      · rw [List.mem_singleton.mp hr]
        unfold Mono
        refine List.Pairwise.imp_of_mem (R := fun _ _ => True) (fun {a b} ha hb _ => ?_) (List.pairwise_of_forall fun _ _ => trivial)
        rw [if_pos rfl, hk a (List.mem_range.mp ha), hk b (List.mem_range.mp hb)]
        exact Int.le_refl _
      · rw [hflat, hl]
      · rw [hflat] at hv
        obtain ⟨hk, e⟩ := List.getElem?_eq_some_iff.mp hv
        rw [List.getElem_range] at e
        omega
    have := sched_least h1 v1
    have : ([(true, List.range (m + 1))] : Plan).length = 1 := rfl
    omega

end K21
namespace K21
open PySem PySem.Spec PyProof.Rows L2 Sp
variable {P : Program} {w : World} {K : PySem.W.Frag} {mg : Str → Option Value} {base : Heap}
theorem atI_ints {ns : List Int} {z : Int} {j : Nat} (e : z = (j : Int)) (h : j < ns.length) : atI (ns.map V.int) z = some (.int (ns.getD j 0)) := by
  rw [e]
  refine atI_nat ?_
  rw [List.getElem?_map, List.getElem?_eq_getElem h]
  simp [List.getD, List.getElem?_eq_getElem h]

/-! ### draws -/
def Pool (H : Hp) (p : Addr) : Prop := ∃ a b c : Int, H p = some (.lst [.int a, .int b, .int c]) ∧ 0 ≤ a ∧ a < 2147483629 ∧ 0 ≤ c
/-- all but p is as it was -/
def Kp (p : Addr) (H H' : Hp) : Prop := ∀ b o, b ≠ p → H b = some o → H' b = some o
theorem Kp.refl {p : Addr} {H : Hp} : Kp p H H := fun _ _ _ h => h
theorem Kp.trans {p : Addr} {H H1 H2 : Hp} (a : Kp p H H1) (b : Kp p H1 H2) : Kp p H H2 := fun c o n h => b c o n (a c o n h)
theorem Kp.new {p q : Addr} {H : Hp} {o : HO} (hq : H q = none) : Kp p H (upd H q o) := fun b u _ h => by rw [upd_ne (ne_of_none h hq)]; exact h
theorem Kp.put {p : Addr} {H : Hp} {o : HO} : Kp p H (upd H p o) := fun b u n h => by rw [upd_ne n]; exact h
theorem Kp.same {p : Addr} {H H' : Hp} (e : Same H H') : Kp p H H' := fun b u _ h => e b u h
def sp__law_draw (K : PySem.W.Frag) : L2.Sp := fun vs H Q _ => on2 vs fun x y => onRef x fun p => onInt y fun m => Pool H p ∧ 0 < m ∧ m < 2 ^ 200 ∧
  ∀ (r : Int) (H' : Hp), 0 ≤ r → r < m → Pool H' p → Kp p H H' → Q (.int r) H'
abbrev N__law_draw : List Str := ["_law_pool", "_law_many", "_law_seed", "_law_figure"]
theorem sc__law_draw : FnScope N__law_draw ["_law_pool", "_law_many"] (defScope s__law_draw) := ⟨rfl, rfl, rfl, by decide +kernel, rfl, by decide +kernel, by decide +kernel⟩
def t__law_draw (K : PySem.W.Frag) : TS :=
    tSeq (tAsg (tOp fAdd (tOp (fIxL K) (fV 0) (tC (.int 1))) (tC (.int 1))) (gSub (fV 0) (tC (.int 1)) fSetL))
    (tSeq (tAsg (tCB fInt1 (tCons (tOp (fIxL K) (fV 0) (tC (.int 0))) tNil)) (gName 2))
    (tSeq (tAsg (tOp fMod (tCB fInt1 (tCons (tOp fAdd (tOp fAdd (tOp fAdd (tOp fMulW (fV 2) (fV 2)) (tOp fMul (tC (.int 69621)) (fV 2))) (tOp fMul (tC (.int 48611)) (tOp (fIxL K) (fV 0) (tC (.int 1))))) (tC (.int 11))) tNil)) (tC (.int 2147483629))) (gSub (fV 0) (tC (.int 0)) fSetL))
    (tSeq (tIfS (fT (tOp fGt (tOp (fIxL K) (fV 0) (tC (.int 2))) (tC (.int 0))))
    (tSeq (tAsg (tCB fDivmod (tCons (tOp (fIxL K) (fV 0) (tC (.int 2))) (tCons (fV 1) tNil))) (gTup K 2 (gCons (gSub (fV 0) (tC (.int 2)) fSetL) (gCons (gName 3) gNil))))
    (tRet (fV 3))) tNext)
    (tRet (tOp fMod (tCB fInt1 (tCons (tOp fDiv (tOp (fIxL K) (fV 0) (tC (.int 0))) (tC (.int 97))) tNil)) (fV 1))))))
abbrev Pure__law_draw (K : PySem.W.Frag) : Prop := ∀ (vs : List V) (H : Hp) (Q : VK) (E : XK), sp__law_draw K vs H Q E → t__law_draw K { nx := fun _ H' => Q .non H', rt := Q } (L2.start N__law_draw vs) H
theorem mW {m : Int} (h0 : 0 < m) (h1 : m < 2 ^ 200) (x : Int) : CDivW x m := wide_div (b := 200) h0 (by omega) (by decide) (by decide)
theorem pure__law_draw (T : Tx K mg) : Pure__law_draw K := by
  intro vs H Q E h
  obtain ⟨x, y, rfl, h⟩ := on2_ex h
  obtain ⟨p, rfl, h⟩ := onRef_ex h
  obtain ⟨m, rfl, ⟨a, b, c, hp, ha0, ha1, hc⟩, hm0, hm1, hQ⟩ := onInt_ex h
  refine ⟨_, SqL.of hp, _, rfl, _, hp, _, rfl, ?_⟩
  refine ⟨_, SqL.of upd_same, _, rfl, ?_⟩
  refine ⟨wide_mul (a := 31) (b := 31) (by omega) (by omega) (by decide) (by decide) (by decide), .inl ⟨by decide, by decide⟩, ?_⟩
  refine ⟨_, SqL.of upd_same, _, rfl, .inl ⟨by decide, by decide⟩, by show (0 : Int) < _; decide, _, upd_same, _, rfl, ?_⟩
  refine ⟨_, SqL.of upd_same, _, rfl, ?_⟩
  have hb0 : ∀ z : Int, 0 ≤ z % 2147483629 ∧ z % 2147483629 < 2147483629 := fun z => by omega
  refine ite2 (fun h => ?_) (fun h => ?_)
  · have h : (0 : Int) < c := of_decide_eq_true h
    refine ⟨_, SqL.of upd_same, _, rfl, mW hm0 hm1 _, fun q hq => ?_⟩
    have hqp : p ≠ q := ne_of_none upd_same hq
    refine ⟨q, _, rfl, SqT.of upd_same, rfl, _, _, rfl, ?_⟩
    refine ⟨_, (by rw [upd_ne hqp]; exact upd_same), _, rfl, _, _, rfl, rfl, ?_⟩
    refine hQ (c % m) _ (Int.emod_nonneg _ (by omega)) (Int.emod_lt_of_pos _ hm0) ⟨_, _, _, upd_same, (hb0 _).1, (hb0 _).2, Int.ediv_nonneg hc (by omega)⟩ ?_
    exact ((Kp.put.trans Kp.put).trans (Kp.new hq)).trans Kp.put
  · refine ⟨_, SqL.of upd_same, _, rfl, wide_div (b := 7) (by decide) (by decide) (by decide) (by decide), hm0, ?_⟩
    exact hQ _ _ (Int.emod_nonneg _ (by omega)) (Int.emod_lt_of_pos _ hm0) ⟨_, _, _, upd_same, (hb0 _).1, (hb0 _).2, hc⟩ (Kp.put.trans Kp.put)
theorem b__law_draw (T : Tx K mg) : Binds K (fdA K (He.fAd K d__law_draw.at_)) ["_law_pool", "_law_many"] [] := T.F__law_draw.bindsN fun _ _ _ _ _ _ us hl => match us, hl with | [_, _], _ => rfl
theorem ok__law_draw (T : Tx K mg) : FnOk P w K mg base CX0 1 (He.fAd K d__law_draw.at_) (fdA K (He.fAd K d__law_draw.at_)) ["_law_pool", "_law_many"] (sp__law_draw K) :=
  T.F__law_draw.ok sc__law_draw (fun _ _ _ _ h => on2_len h) (fun cdv A outer s H vs Q E hr h => ⟨t__law_draw K, PSs.nox ((pss_cons (ps_asg (pe_op o_add (pe_ix x_list (vv 0) pe_int (fun _ _ => rfl)) pe_int) (pg_sub (vv 0) pe_int s_list))
      (pss_cons (ps_set (i := 2) sc__law_draw.nd rfl (.inl rfl) (pe_callTy c_int1 (by rfl) T.b_int boot_int (pa_cons (pe_ix x_list (vv 0) pe_int (fun _ _ => rfl)) pa_nil)))
      (pss_cons (ps_asg (pe_op o_mod (pe_callTy c_int1 (by rfl) T.b_int boot_int (pa_cons (pe_op o_add (pe_op o_add (pe_op o_add (pe_op o_mulW (vv 2) (vv 2)) (pe_op o_mul pe_int (vv 2))) (pe_op o_mul pe_int (pe_ix x_list (vv 0) pe_int (fun _ _ => rfl)))) pe_int) pa_nil)) pe_int) (pg_sub (vv 0) pe_int s_list))
      (pss_cons (ps_if (t_cmp o_gt (pe_ix x_list (vv 0) pe_int (fun _ _ => rfl)) pe_int (nomark _))
      (pss_cons (ps_asg (pe_callB c_divmod (by rfl) T.b_divmod boot_divmod (pa_cons (pe_ix x_list (vv 0) pe_int (fun _ _ => rfl)) (pa_cons (vv 1) pa_nil))) (pg_tup rfl (pgs_cons (pg_sub (vv 0) pe_int s_list) (pgs_cons (pg_name (i := 3) sc__law_draw.nd rfl (.inl rfl)) pgs_nil))))
      (pss_one (ps_ret (vv 3)))) pss_nil)
      (pss_one (ps_ret (pe_op o_mod (pe_callTy c_int1 (by rfl) T.b_int boot_int (pa_cons (pe_op o_div (pe_ix x_list (vv 0) pe_int (fun _ _ => rfl)) pe_int) pa_nil)) (vv 1))))))))), pure__law_draw T vs H Q E h⟩)
/-- one of the things in a list -/
def sp__law_pick (K : PySem.W.Frag) : L2.Sp := fun vs H Q _ => on2 vs fun x y => onRef x fun p => onRef y fun m => Pool H p ∧ ∃ xs, SqL K H m xs ∧ m ≠ p ∧ xs ≠ [] ∧ xs.length < 1000 ∧
  ∀ (i : Nat) (v : V) (H' : Hp), xs[i]? = some v → Pool H' p → Kp p H H' → Q v H'
abbrev N__law_pick : List Str := ["_law_pool", "_law_menu"]
theorem sc__law_pick : FnScope N__law_pick ["_law_pool", "_law_menu"] (defScope s__law_pick) := ⟨rfl, rfl, rfl, by decide +kernel, rfl, by decide +kernel, by decide +kernel⟩
def t__law_pick (K : PySem.W.Frag) : TS :=
    tRet (tOp (fIxL K) (fV 1) (tCall (sp__law_draw K) [] E0 (tCons (fV 0) (tCons (tCB (fLen K) (tCons (fV 1) tNil)) tNil))))
abbrev Pure__law_pick (K : PySem.W.Frag) : Prop := ∀ (vs : List V) (H : Hp) (Q : VK) (E : XK), sp__law_pick K vs H Q E → t__law_pick K { nx := fun _ H' => Q .non H', rt := Q } (L2.start N__law_pick vs) H
theorem kpL {p : Addr} {H H' : Hp} {m : Addr} {xs : List V} (e : Kp p H H') (n : m ≠ p) (h : SqL K H m xs) : SqL K H' m xs := by
  rcases h with (h | ⟨o, h⟩) | h
  · exact .inl (.inl (e _ _ n h))
  · exact .inl (.inr ⟨o, e _ _ n h⟩)
  · exact .inr h
theorem kpT {p : Addr} {H H' : Hp} {m : Addr} {xs : List V} (e : Kp p H H') (n : m ≠ p) (h : SqT K H m xs) : SqT K H' m xs := by
  rcases h with (h | ⟨o, h⟩) | h
  · exact .inl (.inl (e _ _ n h))
  · exact .inl (.inr ⟨o, e _ _ n h⟩)
  · exact .inr h
theorem pure__law_pick (T : Tx K mg) : Pure__law_pick K := by
  intro vs H Q E h
  obtain ⟨x, y, rfl, h⟩ := on2_ex h
  obtain ⟨p, rfl, h⟩ := onRef_ex h
  obtain ⟨m, rfl, hp, xs, hx, hmp, hne, hl, hQ⟩ := onRef_ex h
  have hpos : 0 < xs.length := List.length_pos_iff.mpr hne
  refine ⟨_, .inl hx, hp, by omega, by omega, fun r H' h0 h1 hp' hk => ?_⟩
  have hr : r.toNat < xs.length := by omega
  exact ⟨_, kpL hk hmp hx, xs[r.toNat], at_of (j := r.toNat) (by omega) (by simp [hr]), hQ r.toNat _ H' (by simp [hr]) hp' hk⟩
theorem b__law_pick (T : Tx K mg) : Binds K (fdA K (He.fAd K d__law_pick.at_)) ["_law_pool", "_law_menu"] [] := T.F__law_pick.bindsN fun _ _ _ _ _ _ us hl => match us, hl with | [_, _], _ => rfl
theorem ok__law_pick (T : Tx K mg) : FnOk P w K mg base CX0 2 (He.fAd K d__law_pick.at_) (fdA K (He.fAd K d__law_pick.at_)) ["_law_pool", "_law_menu"] (sp__law_pick K) :=
  T.F__law_pick.ok sc__law_pick (fun _ _ _ _ h => on2_len h) (fun cdv A outer s H vs Q E hr h => ⟨t__law_pick K, PSs.nox ((pss_one (ps_ret (pe_ix x_list (vv 1) (pe_call (ok__law_draw T) (hr.mono (by decide)) (by rfl) T.g__law_draw T.F__law_draw.kp (b__law_draw T) .nil pass0 (pa_cons (vv 0) (pa_cons (pe_callB c_len (by rfl) T.b_len boot_len (pa_cons (vv 1) pa_nil)) pa_nil))) (fun _ _ => rfl))))), pure__law_pick T vs H Q E h⟩)
/-- a new pool -/
def sp__law_source (K : PySem.W.Frag) : L2.Sp := fun vs H Q _ => on2 vs fun x y => onRef x fun c => onInt y fun k => ∃ ns : List Int, SqL K H c (ns.map V.int) ∧ ns.length ≤ 1000 ∧ 0 ≤ k ∧ k ≤ 100 ∧
  ∀ (p : Addr) (H' : Hp), H p = none → Pool H' p → Same H H' → Q (.ref p) H'
abbrev N__law_source : List Str := ["_law_cells", "_law_k", "_law_figures", "_law_seed", "_law_cell"]
theorem sc__law_source : FnScope N__law_source ["_law_cells", "_law_k"] (defScope s__law_source) := ⟨rfl, rfl, rfl, by decide +kernel, rfl, by decide +kernel, by decide +kernel⟩
def t__law_source (K : PySem.W.Frag) : TS :=
    tSeq (tIfS (fT (tOp fLt (fV 1) (tCB (fLen K) (tCons (fV 0) tNil))))
    (tSeq (tAsg (tIf (tOr (fT (tOp fLt (tOp (fIxL K) (fV 0) (fV 1)) (tC (.int 0)))) (fT (tOp fGe (tOp (fIxL K) (fV 0) (fV 1)) (tOp fPow (tC (.int 10)) (tC (.int 18)))))) (tCB fAbs (tCons (tOp (fIxL K) (fV 0) (fV 1)) tNil)) (tC (.int 0))) (gName 2))
    (tRet (tLst (tCons (tOp fMod (tCB fInt1 (tCons (tOp fAdd (tOp fAdd (tOp fMul (tOp (fIxL K) (fV 0) (fV 1)) (tC (.int 40507))) (tOp fMul (tC (.int 977)) (fV 1))) (tC (.int 1))) tNil)) (tC (.int 2147483629))) (tCons (tC (.int 0)) (tCons (fV 2) tNil)))))) tNext)
    (tSeq (tAsg (tOp fAdd (tOp fMul (tC (.int 31)) (fV 1)) (tC (.int 7))) (gName 3))
    (tSeq (tFor (iList K (tSl (rSlL K) (fV 0) tNoPart (tPart (tC (.int 4))))) (gName 4)
    (tAsg (tOp fMod (tCB fInt1 (tCons (tOp fAdd (tOp fMul (fV 3) (tC (.int 48271))) (fV 4)) tNil)) (tC (.int 2147483587))) (gName 3)))
    (tRet (tLst (tCons (fV 3) (tCons (tC (.int 0)) (tCons (tC (.int 0)) tNil)))))))
abbrev Pure__law_source (K : PySem.W.Frag) : Prop := ∀ (vs : List V) (H : Hp) (Q : VK) (E : XK), sp__law_source K vs H Q E → t__law_source K { nx := fun _ H' => Q .non H', rt := Q } (L2.start N__law_source vs) H
theorem pure__law_source (T : Tx K mg) : Pure__law_source K := by
  intro vs H Q E h
  obtain ⟨x, y, rfl, h⟩ := on2_ex h
  obtain ⟨c, rfl, h⟩ := onRef_ex h
  obtain ⟨k, rfl, ns, hS, hl, hk0, hk1, hQ⟩ := onInt_ex h
  refine ⟨_, .inl hS, ?_⟩
  have hb0 : ∀ z : Int, 0 ≤ z % 2147483629 ∧ z % 2147483629 < 2147483629 := fun z => by omega
  refine ite2 (fun h => ?_) (fun h => ?_)
  · have h : k < ((ns.map V.int).length : Int) := of_decide_eq_true h
    rw [List.length_map] at h
    have ek : k = (k.toNat : Int) := by omega
    have hkl : k.toNat < ns.length := by omega
    have hat := atI_ints (ns := ns) (z := k) (j := k.toNat) ek hkl
    generalize ns.getD k.toNat 0 = z at hat
    have fin : ∀ f : Int, 0 ≤ f → tRet (tLst (tCons (tOp fMod (tCB fInt1 (tCons (tOp fAdd (tOp fAdd (tOp fMul (tOp (fIxL K) (fV 0) (fV 1)) (tC (.int 40507))) (tOp fMul (tC (.int 977)) (fV 1))) (tC (.int 1))) tNil)) (tC (.int 2147483629))) (tCons (tC (.int 0)) (tCons (fV 2) tNil)))) { nx := fun _ H' => Q .non H', rt := Q } [some (.ref c), some (.int k), some (.int f), none, none] H := fun f hf => by
      refine ⟨_, hS, _, hat, .inr ⟨by decide, by decide⟩, .inl ⟨by decide, by decide⟩, by show (0 : Int) < _; decide, by show 3 ≤ sizeLine; decide, fun p hp => ?_⟩
      exact hQ p _ hp ⟨_, _, _, upd_same, (hb0 _).1, (hb0 _).2, hf⟩ (Same.upd hp)
    refine ⟨_, hS, _, hat, ite2 (fun h1 => ?_) (fun h1 => ?_)⟩
    · refine iteT ⟨_, hS, _, hat, ?_⟩
      refine fin _ ?_
      split <;> omega
    · refine ⟨_, hS, _, hat, ⟨by decide, by decide, by decide⟩, ?_⟩
      refine ite2 (fun h2 => ?_) (fun h2 => ?_)
      · refine ⟨_, hS, _, hat, ?_⟩
        refine fin _ ?_
        split <;> omega
      · exact fin 0 (by omega)
  · refine ⟨.inl ⟨by decide, by decide⟩, _, rfl, _, _, rfl, hS, fun q hq => ?_⟩
    refine ⟨_, rfl, ⟨_, SqL.of upd_same⟩, ?_⟩
    refine for_list (K := K) (a := q) (xs := cutV (ns.map V.int) none (some 4)) (fun i σ H1 => Same (upd H q (.lst (cutV (ns.map V.int) none (some 4)))) H1 ∧ ∃ (s : Int) (o : Option V), 0 ≤ s ∧ s < 2147483629 ∧ σ = [some (.ref c), some (.int k), none, some (.int s), o]) ⟨Same.refl _, 31 * k + 7, none, by omega, by omega, rfl⟩ (fun i σ H1 _ hp => hp.1.seq (SqL.of upd_same)) (fun i x σ H1 hx hp => ?_) (fun σ H1 hp => ?_)
    · obtain ⟨e1, s, o, h0, h1, rfl⟩ := hp
      have : ∃ z : Int, x = .int z := by
        have hm := List.mem_of_getElem? hx
        have hm2 : x ∈ ns.map V.int := List.mem_of_mem_drop (List.mem_of_mem_take hm)
        obtain ⟨z, _, rfl⟩ := List.mem_map.mp hm2
        exact ⟨z, rfl⟩
      obtain ⟨z, rfl⟩ := this
      refine ⟨.inr ⟨by decide, by decide⟩, by show (0 : Int) < _; decide, e1, _, some (.int z), ?_, ?_, rfl⟩
      · exact Int.emod_nonneg _ (by decide)
      · exact Int.lt_trans (Int.emod_lt_of_pos _ (by decide)) (by decide)
    · obtain ⟨e1, s, o, h0, h1, rfl⟩ := hp
      refine ⟨by show 3 ≤ sizeLine; decide, fun p hp => ?_⟩
      refine hQ p _ ((Same.upd hq).free (e1.free hp)) ⟨_, _, _, upd_same, h0, h1, by omega⟩ (((Same.upd hq).trans e1).trans (Same.upd hp))
theorem b__law_source (T : Tx K mg) : Binds K (fdA K (He.fAd K d__law_source.at_)) ["_law_cells", "_law_k"] [] := T.F__law_source.bindsN fun _ _ _ _ _ _ us hl => match us, hl with | [_, _], _ => rfl
theorem ok__law_source (T : Tx K mg) : FnOk P w K mg base CX0 1 (He.fAd K d__law_source.at_) (fdA K (He.fAd K d__law_source.at_)) ["_law_cells", "_law_k"] (sp__law_source K) :=
  T.F__law_source.ok sc__law_source (fun _ _ _ _ h => on2_len h) (fun cdv A outer s H vs Q E hr h => ⟨t__law_source K, PSs.nox ((pss_cons (ps_if (t_cmp o_lt (vv 1) (pe_callB c_len (by rfl) T.b_len boot_len (pa_cons (vv 0) pa_nil)) (nomark _))
      (pss_cons (ps_set (i := 2) sc__law_source.nd rfl (.inl rfl) (pe_ifExp (PW.pt (pw_or (t_cmp o_lt (pe_ix x_list (vv 0) (vv 1) (fun _ _ => rfl)) pe_int (nomark _)) (pw_or1 (t_cmp o_ge (pe_ix x_list (vv 0) (vv 1) (fun _ _ => rfl)) (pe_op o_pow pe_int pe_int) (nomark _))))) (pe_callB c_abs (by rfl) T.b_abs boot_abs (pa_cons (pe_ix x_list (vv 0) (vv 1) (fun _ _ => rfl)) pa_nil)) pe_int))
      (pss_one (ps_ret (pe_lst (pa_cons (pe_op o_mod (pe_callTy c_int1 (by rfl) T.b_int boot_int (pa_cons (pe_op o_add (pe_op o_add (pe_op o_mul (pe_ix x_list (vv 0) (vv 1) (fun _ _ => rfl)) pe_int) (pe_op o_mul pe_int (vv 1))) pe_int) pa_nil)) pe_int) (pa_cons pe_int (pa_cons (vv 2) pa_nil))))))) pss_nil)
      (pss_cons (ps_set (i := 3) sc__law_source.nd rfl (.inl rfl) (pe_op o_add (pe_op o_mul pe_int (vv 1)) pe_int))
      (pss_cons (ps_for PassesOwn.never (by rfl) (pi_list (pe_slice sl_list (vv 0) po_none (po_some pe_int))) (pg_name (i := 4) sc__law_source.nd rfl (.inl rfl))
      (pss_one (ps_set (i := 3) sc__law_source.nd rfl (.inl rfl) (pe_op o_mod (pe_callTy c_int1 (by rfl) T.b_int boot_int (pa_cons (pe_op o_add (pe_op o_mul (vv 3) pe_int) (vv 4)) pa_nil)) pe_int))))
      (pss_one (ps_ret (pe_lst (pa_cons (vv 3) (pa_cons pe_int (pa_cons pe_int pa_nil)))))))))), pure__law_source T vs H Q E h⟩)

theorem Pool.same {H H' : Hp} {p : Addr} (e : Same H H') (h : Pool H p) : Pool H' p := by
  obtain ⟨a, b, c, h1, h2⟩ := h
  exact ⟨a, b, c, e _ _ h1, h2⟩
theorem Pool.ne {H : Hp} {p q : Addr} (h : Pool H p) (hq : H q = none) : q ≠ p := by
  obtain ⟨a, b, c, h1, _⟩ := h
  exact (ne_of_none h1 hq).symm
theorem Pool.tk {H H' : Hp} {p : Addr} (h : Pool H p) (k : Kp p H H') : TK K H H' := fun l xs hl => by
  obtain ⟨a, b, c, h1, _⟩ := h
  rcases hl with (hl | ⟨ob, hl⟩) | hl
  · exact .inl (.inl (k _ _ (ne_of hl h1 (fun z => by cases z)) hl))
  · exact .inl (.inr ⟨ob, k _ _ (ne_of hl h1 (fun z => by cases z)) hl⟩)
  · exact .inr hl
/-- a drawn input -/
def sp__law_few (K : PySem.W.Frag) : L2.Sp := fun vs H Q _ => on2 vs fun x n => onRef x fun p => onInt n fun n => Pool H p ∧ 0 ≤ n ∧ n ≤ 40 ∧ ∀ (a : Addr) (ks : List Int) (H' : Hp), Pool H' p → Kp p H H' → SqT K H' a (ks.map V.int) → (ks.length : Int) ≤ n → Q (.ref a) H'
abbrev N__law_few : List Str := ["_law_pool", "_law_most", "_law_many", "_law_way", "_law_wide", "_law_found", "_law_at", "_law_k", "_law_by", "_law_base", "_law_scale", "_law_one"]
theorem sc__law_few : FnScope N__law_few ["_law_pool", "_law_most"] (defScope s__law_few) := ⟨rfl, rfl, rfl, by decide +kernel, rfl, by decide +kernel, by decide +kernel⟩
def t__law_few (K : PySem.W.Frag) : TS :=
    tSeq (tPar3 2 3 4 (tCons (tCall (sp__law_draw K) [] E0 (tCons (fV 0) (tCons (tOp fAdd (fV 1) (tC (.int 1))) tNil))) (tCons (tCall (sp__law_draw K) [] E0 (tCons (fV 0) (tCons (tC (.int 4)) tNil))) (tCons (tOp fAdd (tC (.int 2)) (tCall (sp__law_draw K) [] E0 (tCons (fV 0) (tCons (tC (.int 8)) tNil)))) tNil))))
    (tSeq (tPar 5 6 (tCons (tLst tNil) (tCons (tC (.int 0)) tNil)))
    (tSeq (tFor (iRng1 (tCons (fV 2) tNil)) (gName 7)
    (tSeq (tAsg (tCall (sp__law_draw K) [] E0 (tCons (fV 0) (tCons (fV 4) tNil))) (gName 8))
    (tSeq (tAsg (tOp (fIxL K) (tLst (tCons (fV 8) (tCons (tOp fAdd (fV 6) (fV 8)) (tCons (tOp fSub (fV 6) (fV 8)) (tCons (tOp fAdd (fV 6) (tOp fMulW (fV 8) (tOp fSub (tOp fMul (tC (.int 2)) (tOp fMod (tOp fDiv (fV 7) (tC (.int 3))) (tC (.int 2)))) (tC (.int 1))))) tNil))))) (fV 3)) (gName 6))
    (tDrop (tBM K "list" rAppend (fV 5) (tCons (fV 6) tNil))))))
    (tSeq (tAsg (tCall (sp__law_pick K) [] E0 (tCons (fV 0) (tCons (tLst (tCons (tTup (tCons (tC (.int 0)) (tCons (tC (.int 1)) tNil))) (tCons (tTup (tCons (tUn fNeg (tC (.int 5))) (tCons (tC (.int 1)) tNil))) (tCons (tTup (tCons (tUn fNeg (tOp fPow (tC (.int 10)) (tC (.int 38)))) (tCons (tC (.int 1)) tNil))) (tCons (tTup (tCons (tOp fPow (tC (.int 10)) (tC (.int 37))) (tCons (tOp fPow (tC (.int 10)) (tC (.int 20))) tNil))) tNil))))) tNil))) (gTup K 2 (gCons (gName 9) (gCons (gName 10) gNil))))
    (tRet (tCB (fTupOfL K) (tCons (tLc (iList K (fV 5)) (gName 11) tYes (tOp fAdd (fV 9) (tOp fMulW (fV 10) (fV 11))) [11]) tNil))))))
abbrev Pure__law_few (K : PySem.W.Frag) : Prop := ∀ (vs : List V) (H : Hp) (Q : VK) (E : XK), sp__law_few K vs H Q E → t__law_few K { nx := fun _ H' => Q .non H', rt := Q } (L2.start N__law_few vs) H
def fLin (b s : Int) : V → V
  | .int z => .int (b + s * z)
  | v => v
theorem pure__law_few (T : Tx K mg) : Pure__law_few K := by
  intro vs H Q E h
  obtain ⟨x1, x2, rfl, h⟩ := on2_ex h
  obtain ⟨p, rfl, h⟩ := onRef_ex h
  obtain ⟨n, rfl, hp, hn1, hn2, hQ⟩ := onInt_ex h
  refine ⟨hp, by omega, by omega, fun r1 H1 h10 h11 hp1 hk1 => ?_⟩
  refine ⟨hp1, by decide, by decide, fun r2 H2 h20 h21 hp2 hk2 => ?_⟩
  refine ⟨hp2, by decide, by decide, fun r3 H3 h30 h31 hp3 hk3 => ?_⟩
  refine ⟨_, _, _, rfl, ?_⟩
  refine ⟨by show 0 ≤ sizeLine; exact Nat.zero_le _, fun q hq => ⟨_, _, rfl, ?_⟩⟩
  have hqp := hp3.ne hq
  have hk03 : Kp p H H3 := (hk1.trans hk2).trans hk3
  refine ⟨_, rfl, by omega, by omega, ?_⟩
  refine for_range (lo := 0) (n := r1.toNat) (fun i σ H5 => i ≤ r1.toNat ∧ Pool H5 p ∧ Kp p H H5 ∧ ∃ (ns : List Int) (at_ : Int) (o7 o8 : Option V), ns.length = i ∧ (∀ z ∈ ns, z.natAbs ≤ 10 * 41) ∧ at_.natAbs ≤ 10 * i ∧ H5 q = some (.lst (ns.map V.int)) ∧ σ = [some (.ref p), some (.int n), some (.int r1), some (.int r2), some (.int (2 + r3)), some (.ref q), some (.int at_), o7, o8, none, none, none])
    ⟨Nat.zero_le _, hp3.same (Same.upd hq), hk03.trans (Kp.new hq), [], 0, none, none, rfl, fun z hz => (by cases hz), by decide, upd_same, rfl⟩ (fun i σ H5 hi hp => ?_) (fun σ H5 hp => ?_)
  · obtain ⟨_, hp5, hk5, ns, at_, o7, o8, hl, hb, hat, hq5, rfl⟩ := hp
    refine ⟨hp5, by omega, by omega, fun b H6 h60 h61 hp6 hk6 => ?_⟩
    have hb9 : b ≤ 8 := by omega
    refine ⟨wide_div (b := 2) (by decide) (by decide) (by decide) (by decide), by show (0 : Int) < 2; decide, .inl ⟨by decide, by decide⟩, ?_⟩
    have hm : ((0 + (i : Int)) / 3) % 2 = 0 ∨ ((0 + (i : Int)) / 3) % 2 = 1 := by omega
    generalize ((0 + (i : Int)) / 3) % 2 = m at hm
    refine ⟨wide_mul (a := 10) (b := 10) (by omega) (by omega) (by decide) (by decide) (by decide), by show 4 ≤ sizeLine; decide, fun L hL => ?_⟩
    have hbm : b * (2 * m - 1) = b ∨ b * (2 * m - 1) = -b := by
      rcases hm with rfl | rfl
      · right; omega
      · left; omega
    generalize b * (2 * m - 1) = bm at hbm
    obtain ⟨z, hz, hzb⟩ : ∃ z : Int, atI [V.int b, .int (at_ + b), .int (at_ - b), .int (at_ + bm)] r2 = some (.int z) ∧ z.natAbs ≤ 10 * (i + 1) := by
      have : r2 = 0 ∨ r2 = 1 ∨ r2 = 2 ∨ r2 = 3 := by omega
      rcases this with rfl | rfl | rfl | rfl
      · exact ⟨_, rfl, by omega⟩
      · exact ⟨_, rfl, by omega⟩
      · exact ⟨_, rfl, by omega⟩
      · exact ⟨_, rfl, by omega⟩
    refine ⟨_, SqL.of upd_same, _, hz, ?_⟩
    have hq6 : H6 q = some (.lst (ns.map V.int)) := hk6 _ _ hqp hq5
    have s7 := Same.upd (o := .lst [V.int b, .int (at_ + b), .int (at_ - b), .int (at_ + bm)]) hL
    have hq7 := s7 _ _ hq6
    refine ⟨.inl ⟨rfl, _, SqL.of hq7⟩, q, _, _, rfl, rfl, hq7, by rw [List.length_map, sizeLine_eq]; omega, ?_⟩
    refine ⟨by omega, ?_, ?_, ns ++ [z], z, _, _, by rw [List.length_append, hl]; rfl, fun y hy => ?_, hzb, by rw [upd_same, List.map_append]; rfl, rfl⟩
    · obtain ⟨a', b', c', h1, h2⟩ := hp6.same s7
      exact ⟨a', b', c', by rw [upd_ne hqp.symm]; exact h1, h2⟩
    · intro c o hc hco
      have := (hk5.trans hk6) c o hc hco
      rw [upd_ne (fun e => by
        rw [e] at hco
        have := hk03 q o hqp hco
        rw [hq] at this
        cases this)]
      exact s7 _ _ this
    · rcases List.mem_append.mp hy with hy | hy
      · exact hb y hy
      · rw [List.mem_singleton.mp hy]
        omega
  · obtain ⟨_, hp5, hk5, ns, at_, o7, o8, hl, hb, hat, hq5, rfl⟩ := hp
    refine ⟨by show 2 ≤ sizeLine; decide, fun t1 ht1 => ⟨by show 2 ≤ sizeLine; decide, fun t2 ht2 => ?_⟩⟩
    refine ⟨⟨by decide, by decide, by decide⟩, by show 2 ≤ sizeLine; decide, fun t3 ht3 => ?_⟩
    refine ⟨⟨by decide, by decide, by decide⟩, ⟨by decide, by decide, by decide⟩, by show 2 ≤ sizeLine; decide, fun t4 ht4 => ?_⟩
    refine ⟨by show 4 ≤ sizeLine; decide, fun M hM => ?_⟩
    have s1 := Same.upd (o := .tup [.int 0, .int 1]) ht1
    have s2 := Same.upd (o := .tup [.int (-5), .int 1]) ht2
    have s3 := Same.upd (o := .tup [.int (-(10 ^ 38)), .int 1]) ht3
    have s4 := Same.upd (o := .tup [.int (10 ^ 37), .int (10 ^ 20)]) ht4
    have sM := Same.upd (o := .lst [.ref t1, .ref t2, .ref t3, .ref t4]) hM
    have s14 := s1.trans (s2.trans (s3.trans s4))
    have hp6 := hp5.same (s14.trans sM)
    refine ⟨hp6, _, SqL.of upd_same, (hp5.same s14).ne hM, by simp, by show 4 < 1000; decide, fun i v H7 hv hp7 hk7 => ?_⟩
    have tk7 : TK K _ H7 := hp6.tk hk7
    obtain ⟨t, bs, sc, rfl, ht, hsc⟩ : ∃ (t : Addr) (bs sc : Int), v = .ref t ∧ SqT K H7 t [.int bs, .int sc] ∧ sc.natAbs < 2 ^ 100 := by
      have hm := List.mem_of_getElem? hv
      simp only [List.mem_cons, List.not_mem_nil, or_false] at hm
      rcases hm with rfl | rfl | rfl | rfl
      · exact ⟨t1, _, _, rfl, tk7 _ _ (sameT (s2.trans (s3.trans (s4.trans sM))) (SqT.of upd_same)), by decide⟩
      · exact ⟨t2, _, _, rfl, tk7 _ _ (sameT (s3.trans (s4.trans sM)) (SqT.of upd_same)), by decide⟩
      · exact ⟨t3, _, _, rfl, tk7 _ _ (sameT (s4.trans sM) (SqT.of upd_same)), by decide⟩
      · exact ⟨t4, _, _, rfl, tk7 _ _ (sameT sM (SqT.of upd_same)), by decide⟩
    refine ⟨t, _, rfl, ht, rfl, _, _, rfl, _, _, rfl, rfl, ?_⟩
    have hq7 : H7 q = some (.lst (ns.map V.int)) := hk7 _ _ hqp ((s14.trans sM) _ _ hq5)
    have hk07 : Kp p H H7 := (hk5.trans (Kp.same (s14.trans sM))).trans hk7
    refine ⟨q, rfl, ⟨_, SqL.of hq7⟩, fun D hD => ?_⟩
    refine lc_listF (fLin bs sc) hD (by rw [List.length_map]; omega) (SqL.of hq7) (fun j y H8 hy e8 R hR => ?_) (fun H8 e8 hD8 => ?_)
    · obtain ⟨z, hz, rfl⟩ := List.mem_map.mp (List.mem_of_getElem? hy)
      have := hb z hz
      exact ⟨rfl, wide_mul (a := 100) (b := 12) (by omega) (by omega) (by decide) (by decide) (by decide), hR H8 (Same.refl _)⟩
    refine ⟨_, SqL.of hD8, fun a ha => ?_⟩
    have s9 := Same.upd (o := .tup ((ns.map V.int).map (fLin bs sc))) ha
    refine hQ a (ns.map fun z => bs + sc * z) _ (hp7.same (e8.trans s9)) (hk07.trans (Kp.same (e8.trans s9))) ?_ (by rw [List.length_map]; omega)
    have : (ns.map fun z => bs + sc * z).map V.int = (ns.map V.int).map (fLin bs sc) := by
      rw [List.map_map, List.map_map]
      rfl
    rw [this]
    exact SqT.of upd_same
theorem b__law_few (T : Tx K mg) : Binds K (fdA K (He.fAd K d__law_few.at_)) ["_law_pool", "_law_most"] [] := T.F__law_few.bindsN fun _ _ _ _ _ _ us hl => match us, hl with | [_, _], _ => rfl
theorem ok__law_few (T : Tx K mg) : FnOk P w K mg base CX0 3 (He.fAd K d__law_few.at_) (fdA K (He.fAd K d__law_few.at_)) ["_law_pool", "_law_most"] (sp__law_few K) :=
  T.F__law_few.ok sc__law_few (fun _ _ _ _ h => on2_len h) (fun cdv A outer s H vs Q E hr h => ⟨t__law_few K, PSs.nox ((pss_cons (ps_par3 (by rfl) sc__law_few.nd rfl rfl rfl (by decide) (by decide) (by decide) rfl rfl rfl (pa_cons (pe_call (ok__law_draw T) (hr.mono (by decide)) (by rfl) T.g__law_draw T.F__law_draw.kp (b__law_draw T) .nil pass0 (pa_cons (vv 0) (pa_cons (pe_op o_add (vv 1) pe_int) pa_nil))) (pa_cons (pe_call (ok__law_draw T) (hr.mono (by decide)) (by rfl) T.g__law_draw T.F__law_draw.kp (b__law_draw T) .nil pass0 (pa_cons (vv 0) (pa_cons pe_int pa_nil))) (pa_cons (pe_op o_add pe_int (pe_call (ok__law_draw T) (hr.mono (by decide)) (by rfl) T.g__law_draw T.F__law_draw.kp (b__law_draw T) .nil pass0 (pa_cons (vv 0) (pa_cons pe_int pa_nil)))) pa_nil))) (by rfl))
      (pss_cons (ps_par (by rfl) sc__law_few.nd rfl rfl (by decide) rfl rfl (pa_cons (pe_lst pa_nil) (pa_cons pe_int pa_nil)) (by rfl))
      (pss_cons (ps_for PassesOwn.never (by rfl) (pi_range1 (by rfl) T.b_range (pa_cons (vv 2) pa_nil)) (pg_name (i := 7) sc__law_few.nd rfl (.inl rfl))
      (pss_cons (ps_set (i := 8) sc__law_few.nd rfl (.inl rfl) (pe_call (ok__law_draw T) (hr.mono (by decide)) (by rfl) T.g__law_draw T.F__law_draw.kp (b__law_draw T) .nil pass0 (pa_cons (vv 0) (pa_cons (vv 4) pa_nil))))
      (pss_cons (ps_set (i := 6) sc__law_few.nd rfl (.inl rfl) (pe_ix x_list (pe_lst (pa_cons (vv 8) (pa_cons (pe_op o_add (vv 6) (vv 8)) (pa_cons (pe_op o_sub (vv 6) (vv 8)) (pa_cons (pe_op o_add (vv 6) (pe_op o_mulW (vv 8) (pe_op o_sub (pe_op o_mul pe_int (pe_op o_mod (pe_op o_div (vv 7) pe_int) pe_int)) pe_int))) pa_nil))))) (vv 3) (fun _ _ => rfl)))
      (pss_one (ps_expr (pe_bm PySem.F.plainAttrs_list PySem.F.slot_list_append PySem.F.type_list_append mt_append (vv 5) (pa_cons (vv 6) pa_nil)))))))
      (pss_cons (ps_asg (pe_call (ok__law_pick T) (hr.mono (by decide)) (by rfl) T.g__law_pick T.F__law_pick.kp (b__law_pick T) .nil pass0 (pa_cons (vv 0) (pa_cons (pe_lst (pa_cons (pe_tup (pa_cons pe_int (pa_cons pe_int pa_nil))) (pa_cons (pe_tup (pa_cons (pe_un o_neg pe_int) (pa_cons pe_int pa_nil))) (pa_cons (pe_tup (pa_cons (pe_un o_neg (pe_op o_pow pe_int pe_int)) (pa_cons pe_int pa_nil))) (pa_cons (pe_tup (pa_cons (pe_op o_pow pe_int pe_int) (pa_cons (pe_op o_pow pe_int pe_int) pa_nil))) pa_nil))))) pa_nil))) (pg_tup rfl (pgs_cons (pg_name (i := 9) sc__law_few.nd rfl (.inr rfl)) (pgs_cons (pg_name (i := 10) sc__law_few.nd rfl (.inr rfl)) pgs_nil))))
      (pss_one (ps_ret (pe_callTy c_tupL (by rfl) T.b_tuple boot_tuple (pa_cons (pe_lc (own := [("_law_one", 11)]) (g := gName 11) (by rfl) sc__law_few.nd (pi_list (vv 5)) (blkOk_by (own := [("_law_one", 11)]) (N := N__law_few) (sc := defScope s__law_few) (by decide +kernel)) (fun _ _ _ _ _ => (pg_name (i := 11) sc__law_few.nd rfl (.inl rfl))) (fun _ _ _ _ _ => pts_nil) (fun _ _ _ _ _ => (pe_op o_add (vv 9) (pe_op o_mulW (vv 10) (vv 11))))) pa_nil))))))))), pure__law_few T vs H Q E h⟩)

end K21
namespace K21
open PySem PySem.Spec PyProof.Rows L2 Sp
variable {P : Program} {w : World} {K : PySem.W.Frag} {mg : Str → Option Value} {base : Heap}
/-! ### the law's own orders and cuts -/
def OrdAt (H : Hp) (a : Addr) (l : List Nat) : Prop := H a = some (.lst (natsV l))
def sp__law_orders (K : PySem.W.Frag) : L2.Sp := fun vs H Q _ => on2 vs fun x y => onInt x fun n => onInt y fun w => ∃ N W : Nat, n = N ∧ w = W ∧ N ≤ 7 ∧ W ≤ 3 ∧ ∀ (q : Addr) (as : List Addr) (H' : Hp), Same H H' → H' q = some (.lst (as.map V.ref)) → Each (OrdAt H') as (ordersAt N W N) → Q (.ref q) H'
abbrev N__law_orders : List Str := ["_law_many", "_law_width", "_law_found", "_law_place", "_law_longer", "_law_order", "_law_at"]
theorem sc__law_orders : FnScope N__law_orders ["_law_many", "_law_width"] (defScope s__law_orders) := ⟨rfl, rfl, rfl, by decide +kernel, rfl, by decide +kernel, by decide +kernel⟩
def t__law_orders (K : PySem.W.Frag) : TS :=
    tSeq (tAsg (tLst (tCons (tLst tNil) tNil)) (gName 2))
    (tSeq (tFor (iRng1 (tCons (fV 0) tNil)) (gName 3)
    (tSeq (tAsg (tLst tNil) (gName 4))
    (tSeq (tFor (iList K (fV 2)) (gName 5)
    (tFor (iRng1 (tCons (tCB fMin2 (tCons (fV 0) (tCons (tOp fAdd (fV 3) (fV 1)) tNil))) tNil)) (gName 6)
    (tIfS (fT (tOp (fIn K true) (fV 6) (fV 5)))
    (tDrop (tBM K "list" rAppend (fV 4) (tCons (tOp fCatL (fV 5) (tLst (tCons (fV 6) tNil))) tNil))) tNext)))
    (tAsg (fV 4) (gName 2)))))
    (tRet (fV 2)))
abbrev Pure__law_orders (K : PySem.W.Frag) : Prop := ∀ (vs : List V) (H : Hp) (Q : VK) (E : XK), sp__law_orders K vs H Q E → t__law_orders K { nx := fun _ H' => Q .non H', rt := Q } (L2.start N__law_orders vs) H
theorem inV_nats (x : Nat) (l : List Nat) : inV (.int (x : Int)) (natsV l) = decide (x ∈ l) := by
  unfold inV natsV
  rw [List.any_map, Bool.eq_iff_iff, List.any_eq_true, decide_eq_true_iff]
  constructor
  · rintro ⟨y, hy, e⟩
    have e : eqV (V.int (y : Int)) (V.int (x : Int)) = true := e
    have : (y : Int) = (x : Int) := by
      unfold eqV at e
      simpa using e
    rw [show x = y by omega]
    exact hy
  · intro h
    refine ⟨x, h, ?_⟩
    show eqV (V.int (x : Int)) (V.int (x : Int)) = true
    unfold eqV
    simp
theorem flat_nats (l : List Nat) : (natsV l).all flatV = true := by
  unfold natsV
  rw [List.all_map, List.all_eq_true]
  exact fun _ _ => rfl
def extO (o : List Nat) (k : Nat) : List (List Nat) := ((List.range k).filter fun a => decide (a ∉ o)).map fun a => o ++ [a]
theorem extO_succ (o : List Nat) (k : Nat) : extO o (k + 1) = extO o k ++ (if k ∉ o then [o ++ [k]] else []) := by
  unfold extO
  rw [List.range_succ, List.filter_append, List.map_append]
  by_cases h : k ∈ o <;> simp [h]
theorem extO_len (o : List Nat) (k : Nat) : (extO o k).length ≤ k := by
  unfold extO
  rw [List.length_map]
  exact Nat.le_trans (List.length_filter_le _ _) (by rw [List.length_range]; exact Nat.le_refl _)
theorem longer_snoc (n w p : Nat) (l : List (List Nat)) (o : List Nat) : longer n w (l ++ [o]) p = longer n w l p ++ extO o (min n (p + w)) := by
  unfold longer extO
  rw [List.flatMap_append, List.flatMap_cons, List.flatMap_nil, List.append_nil]
theorem longer_len {n w p : Nat} (hn : n ≤ 7) : ∀ l : List (List Nat), (longer n w l p).length ≤ 7 * l.length
  | [] => Nat.le_refl _
  | o :: l => by
    have := longer_len (w := w) (p := p) hn l
    unfold longer at *
    rw [List.flatMap_cons, List.length_append]
    have := extO_len o (min n (p + w))
    unfold extO at this
    show _ ≤ 7 * (l.length + 1)
    omega
theorem orders_len {n w : Nat} (hn : n ≤ 7) : ∀ k, (ordersAt n w k).length ≤ 7 ^ k
  | 0 => Nat.le_refl _
  | k + 1 => by
    have h1 := orders_len (w := w) hn k
    have h2 := longer_len (w := w) (p := k) hn (ordersAt n w k)
    show (longer n w (ordersAt n w k) k).length ≤ _
    rw [Nat.pow_succ]
    omega
theorem pow7 {k : Nat} (h : k ≤ 6) : 7 ^ k ≤ 117649 := by
  have : 7 ^ k ≤ 7 ^ 6 := Nat.pow_le_pow_right (by decide) h
  exact Nat.le_trans this (by decide)
/-- lists that stay beside a list that grows -/
def OrdN (H : Hp) (L a : Addr) (l : List Nat) : Prop := OrdAt H a l ∧ a ≠ L
theorem OrdN.kx {H H' : Hp} {L a : Addr} {l : List Nat} (k : KpX L H H') (h : OrdN H L a l) : OrdN H' L a l := ⟨k _ _ h.2 h.1, h.2⟩
theorem pure__law_orders (T : Tx K mg) : Pure__law_orders K := by
  intro vs H Q E h
  obtain ⟨x, y, rfl, h⟩ := on2_ex h
  obtain ⟨n, rfl, h⟩ := onInt_ex h
  obtain ⟨w, rfl, N, W, rfl, rfl, hN, hW, hQ⟩ := onInt_ex h
  refine ⟨by show 0 ≤ sizeLine; exact Nat.zero_le _, fun e he => ⟨by show 1 ≤ sizeLine; decide, fun q hq => ?_⟩⟩
  have s1 := Same.upd (o := .lst []) he
  have s2 := Same.upd (o := .lst [V.ref e]) hq
  refine ⟨_, rfl, by omega, by omega, ?_⟩
  refine for_range (lo := 0) (n := ((N : Nat) : Int).toNat) (fun i σ H2 => i ≤ N ∧ Same H H2 ∧ ∃ q as o3 o4 o5 o6, H2 q = some (.lst (as.map V.ref)) ∧ Each (OrdAt H2) as (ordersAt N W i) ∧ σ = [some (.int N), some (.int W), some (.ref q), o3, o4, o5, o6]) ⟨Nat.zero_le _, s1.trans s2, q, [e], none, none, none, none, upd_same, .cons (s2 _ _ upd_same) .nil, rfl⟩ (fun i σ H2 hi hp => ?_) (fun σ H2 hp => ?_)
  · obtain ⟨_, e2, q, as, o3, o4, o5, o6, hq2, hE, rfl⟩ := hp
    have hi : i < N := by simpa using hi
    refine ⟨by show 0 ≤ sizeLine; exact Nat.zero_le _, fun L hL => ?_⟩
    have s3 := Same.upd (o := .lst []) hL
    refine gn' (σ' := [some (.int N), some (.int W), some (.ref q), some (.int (0 + (i : Int))), some (.ref L), o5, o6]) rfl ?_
    have e3 := e2.trans s3
    have hq3 := s3 _ _ hq2
    have hqL : q ≠ L := ne_of_none hq2 hL
    have hL3 : (upd H2 L (.lst [])) L = some (.lst []) := upd_same
    have hE3 : Each (OrdN (upd H2 L (.lst [])) L) as (ordersAt N W i) := hE.imp fun a l z => ⟨s3 _ _ z, ne_of_none z hL⟩
    have keep3 : ∀ b o, H b = some o → b ≠ L := fun b o hb => ne_of_none (e2 _ _ hb) hL
    generalize upd H2 L (.lst []) = H3 at *
    have hol := orders_len (w := W) hN i
    have h7 := pow7 (k := i) (by omega)
    refine ⟨q, rfl, ⟨_, SqL.of hq3⟩, ?_⟩
    refine for_list (K := K) (a := q) (xs := as.map V.ref) (fun j σ H4 => KpX L H3 H4 ∧ ∃ bs o5 o6, H4 L = some (.lst (bs.map V.ref)) ∧ Each (OrdN H4 L) bs (longer N W ((ordersAt N W i).take j) i) ∧ σ = [some (.int N), some (.int W), some (.ref q), some (.int (0 + (i : Int))), some (.ref L), o5, o6]) ⟨KpX.refl _ _, [], _, _, hL3, .nil, rfl⟩ (fun j σ H4 _ hp => SqL.of (hp.1 _ _ hqL hq3)) (fun j x σ H4 hx hp => ?_) (fun σ H4 hp => ?_)
    · obtain ⟨k4, bs, o5, o6, hL4, hB, rfl⟩ := hp
      rw [List.getElem?_map] at hx
      obtain ⟨a, ha, rfl⟩ := Option.map_eq_some_iff.mp hx
      obtain ⟨o, ho, hoa⟩ := hE3.get ha
      have hj : j < (ordersAt N W i).length := (List.getElem?_eq_some_iff.mp ho).1
      have hlj := longer_len (w := W) (p := i) hN ((ordersAt N W i).take j)
      rw [List.length_take] at hlj
      refine ⟨_, rfl, ?_, ?_, ?_⟩
      · split <;> omega
      · split <;> omega
      have hmin : ((if (0 + (i : Int)) + (W : Int) < (N : Int) then (0 + (i : Int)) + (W : Int) else (N : Int))).toNat = min N (i + W) := by
        split <;> omega
      rw [hmin]
      refine for_range (lo := 0) (n := min N (i + W)) (fun k σ H5 => KpX L H3 H5 ∧ ∃ bs o6, H5 L = some (.lst (bs.map V.ref)) ∧ Each (OrdN H5 L) bs (longer N W ((ordersAt N W i).take j) i ++ extO o k) ∧ σ = [some (.int N), some (.int W), some (.ref q), some (.int (0 + (i : Int))), some (.ref L), some (.ref a), o6]) ⟨k4, bs, _, hL4, by rw [show extO o 0 = [] from rfl, List.append_nil]; exact hB, rfl⟩ (fun k σ H5 hk hp => ?_) (fun σ H5 hp => ?_)
      · obtain ⟨k5, bs, o6, hL5, hB5, rfl⟩ := hp
        have hoa5 := hoa.kx k5
        have hok := extO_len o k
        have hbl := hB5.length
        rw [List.length_append] at hbl
        refine ⟨_, .inl (SqL.of hoa5.1), rfl, flat_nats o, decide (k ∈ o), ?_, ?_⟩
        · rw [show (0 : Int) + (k : Int) = (k : Int) by omega]
          exact inV_nats k o
        by_cases hko : k ∈ o
        · rw [decide_eq_true hko]
          refine ⟨k5, bs, _, hL5, ?_, rfl⟩
          rw [extO_succ, if_neg (fun z => z hko), List.append_nil]
          exact hB5
        · rw [decide_eq_false hko]
          refine ⟨.inl ⟨rfl, _, SqL.of hL5⟩, by show 1 ≤ sizeLine; decide, fun t1 ht1 => ?_⟩
          have r1 := Same.upd (o := .lst [V.int (0 + (k : Int))]) ht1
          have hol7 : o.length ≤ 7 := by
            have hm := List.mem_of_getElem? ho
            have := (mem_orders.mp hm).1
            omega
          refine ⟨_, _, r1 _ _ hoa5.1, upd_same, by rw [natsV_len, sizeLine_eq]; show o.length + 1 ≤ _; omega, fun t2 ht2 => ?_⟩
          have r2 := Same.upd (o := .lst (natsV o ++ [V.int (0 + (k : Int))])) ht2
          have r12 := r1.trans r2
          have hL6 := r12 _ _ hL5
          have ht2L : t2 ≠ L := (ne_of_none (r1 _ _ hL5) ht2).symm
          refine ⟨L, _, _, rfl, rfl, hL6, by rw [List.length_map, sizeLine_eq]; omega, ?_⟩
          have k6 := KpX.upd (x := L) (H := upd (upd H5 t1 (.lst [V.int (0 + (k : Int))])) t2 (.lst (natsV o ++ [V.int (0 + (k : Int))]))) (o := .lst (bs.map V.ref ++ [V.ref t2]))
          refine ⟨(k5.trans (KpX.of r12)).trans k6, bs ++ [t2], _, by rw [upd_same, List.map_append]; rfl, ?_, rfl⟩
          rw [extO_succ, if_pos hko, ← List.append_assoc]
          refine Each.snoc (R := OrdN _ L) ⟨?_, ht2L⟩ (hB5.imp fun _ _ z => OrdN.kx ((KpX.of r12).trans k6) z)
          show (upd _ L _) t2 = some (.lst (natsV (o ++ [k])))
          rw [upd_ne ht2L, upd_same, natsV_app, show (0 : Int) + (k : Int) = (k : Int) by omega]
          rfl
      · obtain ⟨k5, bs, o6, hL5, hB5, rfl⟩ := hp
        refine ⟨k5, bs, _, _, hL5, ?_, rfl⟩
        rw [List.take_add_one, ho]
        show Each (OrdN H5 L) bs (longer N W ((ordersAt N W i).take j ++ [o]) i)
        rw [longer_snoc]
        exact hB5
    · obtain ⟨k4, bs, o5, o6, hL4, hB, rfl⟩ := hp
      rw [List.length_map, hE3.length, List.take_length] at hB
      refine ⟨hi, fun b o hb => k4 b o (keep3 b o hb) (e3 _ _ hb), L, bs, _, _, _, _, hL4, hB.imp fun _ _ z => z.1, rfl⟩
  · obtain ⟨_, e2, q, as, o3, o4, o5, o6, hq2, hE, rfl⟩ := hp
    rw [Int.toNat_natCast] at hE
    exact hQ q as H2 e2 hq2 hE
theorem b__law_orders (T : Tx K mg) : Binds K (fdA K (He.fAd K d__law_orders.at_)) ["_law_many", "_law_width"] [] := T.F__law_orders.bindsN fun _ _ _ _ _ _ us hl => match us, hl with | [_, _], _ => rfl
theorem ok__law_orders (T : Tx K mg) : FnOk P w K mg base CX0 1 (He.fAd K d__law_orders.at_) (fdA K (He.fAd K d__law_orders.at_)) ["_law_many", "_law_width"] (sp__law_orders K) :=
  T.F__law_orders.ok sc__law_orders (fun _ _ _ _ h => on2_len h) (fun cdv A outer s H vs Q E hr h => ⟨t__law_orders K, PSs.nox ((pss_cons (ps_set (i := 2) sc__law_orders.nd rfl (.inl rfl) (pe_lst (pa_cons (pe_lst pa_nil) pa_nil)))
      (pss_cons (ps_for PassesOwn.never (by rfl) (pi_range1 (by rfl) T.b_range (pa_cons (vv 0) pa_nil)) (pg_name (i := 3) sc__law_orders.nd rfl (.inl rfl))
      (pss_cons (ps_set (i := 4) sc__law_orders.nd rfl (.inl rfl) (pe_lst pa_nil))
      (pss_cons (ps_for PassesOwn.never (by rfl) (pi_list (vv 2)) (pg_name (i := 5) sc__law_orders.nd rfl (.inl rfl))
      (pss_one (ps_for PassesOwn.never (by rfl) (pi_range1 (by rfl) T.b_range (pa_cons (pe_callB (c_min2 rfl) (by rfl) T.b_min boot_min (pa_cons (vv 0) (pa_cons (pe_op o_add (vv 3) (vv 1)) pa_nil))) pa_nil)) (pg_name (i := 6) sc__law_orders.nd rfl (.inl rfl))
      (pss_one (ps_if (t_cmp o_notInS (vv 6) (vv 5) (by rfl))
      (pss_one (ps_expr (pe_bm PySem.F.plainAttrs_list PySem.F.slot_list_append PySem.F.type_list_append mt_append (vv 4) (pa_cons (pe_op o_catL (vv 5) (pe_lst (pa_cons (vv 6) pa_nil))) pa_nil)))) pss_nil)))))
      (pss_one (ps_set (i := 2) sc__law_orders.nd rfl (.inl rfl) (vv 4))))))
      (pss_one (ps_ret (vv 2)))))), pure__law_orders T vs H Q E h⟩)
def sp__law_follows (K : PySem.W.Frag) : L2.Sp := fun vs H Q _ => on3 vs fun x y z => onInt x fun key => onInt y fun last => onBl z fun up => Q (.bl (folI up last key)) H
abbrev N__law_follows : List Str := ["_law_key", "_law_last", "_law_up"]
theorem sc__law_follows : FnScope N__law_follows ["_law_key", "_law_last", "_law_up"] (defScope s__law_follows) := ⟨rfl, rfl, rfl, by decide +kernel, rfl, by decide +kernel, by decide +kernel⟩
def t__law_follows (K : PySem.W.Frag) : TS :=
    tRet (tIf (fT (fV 2)) (tOp fGe (fV 0) (fV 1)) (tOp fLe (fV 0) (fV 1)))
abbrev Pure__law_follows (K : PySem.W.Frag) : Prop := ∀ (vs : List V) (H : Hp) (Q : VK) (E : XK), sp__law_follows K vs H Q E → t__law_follows K { nx := fun _ H' => Q .non H', rt := Q } (L2.start N__law_follows vs) H
theorem pure__law_follows (T : Tx K mg) : Pure__law_follows K := by
  intro vs H Q E h
  obtain ⟨x, y, z, rfl, h⟩ := on3_ex h
  obtain ⟨key, rfl, h⟩ := onInt_ex h
  obtain ⟨last, rfl, h⟩ := onInt_ex h
  obtain ⟨up, rfl, hQ⟩ := onBl_ex h
  cases up
  · exact hQ
  · exact hQ
theorem b__law_follows (T : Tx K mg) : Binds K (fdA K (He.fAd K d__law_follows.at_)) ["_law_key", "_law_last", "_law_up"] [] := T.F__law_follows.bindsN fun _ _ _ _ _ _ us hl => match us, hl with | [_, _, _], _ => rfl
theorem ok__law_follows (T : Tx K mg) : FnOk P w K mg base CX0 1 (He.fAd K d__law_follows.at_) (fdA K (He.fAd K d__law_follows.at_)) ["_law_key", "_law_last", "_law_up"] (sp__law_follows K) :=
  T.F__law_follows.ok sc__law_follows (fun _ _ _ _ h => on3_len h) (fun cdv A outer s H vs Q E hr h => ⟨t__law_follows K, PSs.nox ((pss_one (ps_ret (pe_ifExp (t_val (vv 2)) (pe_cmpR o_ge (vv 0) (vv 1) (nomark _)) (pe_cmpR o_le (vv 0) (vv 1) (nomark _)))))), pure__law_follows T vs H Q E h⟩)
def sp__law_reach (K : PySem.W.Frag) : L2.Sp := fun vs H Q _ => on3 vs fun x y z => onRef x fun a => onInt y fun i => onBl z fun up => ∃ (L : List Int) (j : Nat), SqL K H a (L.map V.int) ∧ i = j ∧ j < L.length ∧ Q (.int ((j + 1 + reachF up (L.getD j 0) (L.drop (j + 1)) : Nat) : Int)) H
abbrev N__law_reach : List Str := ["_law_line", "_law_at", "_law_up", "_law_end"]
theorem sc__law_reach : FnScope N__law_reach ["_law_line", "_law_at", "_law_up"] (defScope s__law_reach) := ⟨rfl, rfl, rfl, by decide +kernel, rfl, by decide +kernel, by decide +kernel⟩
def t__law_reach (K : PySem.W.Frag) : TS :=
    tSeq (tAsg (tOp fAdd (fV 1) (tC (.int 1))) (gName 3))
    (tSeq (tWhile (tAnd (fT (tOp fLt (fV 3) (tCB (fLen K) (tCons (fV 0) tNil)))) (fT (tCall (sp__law_follows K) [] E0 (tCons (tOp (fIxL K) (fV 0) (fV 3)) (tCons (tOp (fIxL K) (fV 0) (tOp fSub (fV 3) (tC (.int 1)))) (tCons (fV 2) tNil))))))
    (tAsg (tOp fAdd (fV 3) (tC (.int 1))) (gName 3)))
    (tRet (fV 3)))
abbrev Pure__law_reach (K : PySem.W.Frag) : Prop := ∀ (vs : List V) (H : Hp) (Q : VK) (E : XK), sp__law_reach K vs H Q E → t__law_reach K { nx := fun _ H' => Q .non H', rt := Q } (L2.start N__law_reach vs) H
theorem reach_step {up : Bool} {L : List Int} {e : Nat} (h : e < L.length) (h1 : 1 ≤ e) : reachF up (L.getD (e - 1) 0) (L.drop e) = if folI up (L.getD (e - 1) 0) (L.getD e 0) = true then 1 + reachF up (L.getD e 0) (L.drop (e + 1)) else 0 := by
  rw [List.drop_eq_getElem_cons h]
  show (if folI up (L.getD (e - 1) 0) L[e] = true then 1 + reachF up L[e] (L.drop (e + 1)) else 0) = _
  rw [List.getD_eq_getElem?_getD (l := L) (i := e), List.getElem?_eq_getElem h]
  rfl
theorem pure__law_reach (T : Tx K mg) : Pure__law_reach K := by
  intro vs H Q E h
  obtain ⟨x, y, z, rfl, h⟩ := on3_ex h
  obtain ⟨a, rfl, h⟩ := onRef_ex h
  obtain ⟨i, rfl, h⟩ := onInt_ex h
  obtain ⟨up, rfl, L, j, hL, rfl, hj, hQ⟩ := onBl_ex h
  refine ⟨fun m σ H1 => H1 = H ∧ ∃ e : Nat, m = L.length - e ∧ 1 ≤ e ∧ e ≤ L.length ∧ e + reachF up (L.getD (e - 1) 0) (L.drop e) = j + 1 + reachF up (L.getD j 0) (L.drop (j + 1)) ∧ σ = [some (.ref a), some (.int j), some (.bl up), some (.int (e : Int))], ⟨L.length - (j + 1), rfl, j + 1, rfl, by omega, hj, rfl, rfl⟩, ?_⟩
  rintro m σ H1 ⟨rfl, e, rfl, he1, heL, her, rfl⟩
  refine ⟨_, .inl hL, ?_⟩
  rw [List.length_map]
  by_cases he : e < L.length
  · refine ite2 (fun _ => ?_) (fun hz => absurd (decide_eq_true (show (e : Int) < ((L.length : Nat) : Int) by omega)) hz)
    refine ⟨_, hL, _, atI_ints (j := e) rfl he, _, hL, _, atI_ints (j := e - 1) (by omega) (by omega), ?_⟩
    rw [reach_step he he1] at her
    refine ite2 (fun hf => ?_) (fun hf => ?_)
    · rw [if_pos hf] at her
      refine ⟨fun σ' H' => H' = H1 ∧ σ' = [some (.ref a), some (.int j), some (.bl up), some (.int ((e : Int) + 1))], fun σ' H' z => ⟨L.length - (e + 1), by omega, z.1, e + 1, rfl, by omega, by omega, ?_, z.2⟩, rfl, rfl⟩
      rw [Nat.add_sub_cancel]
      omega
    · rw [if_neg hf] at her
      show Q (.int (e : Int)) H1
      rw [← her] at hQ
      exact hQ
  · refine ite2 (fun hz => absurd (of_decide_eq_true hz) (by omega)) (fun _ => ?_)
    have e1 : e = L.length := by omega
    rw [e1, List.drop_length] at her
    show Q (.int (e : Int)) H1
    rw [← her] at hQ
    rw [e1]
    exact hQ
theorem b__law_reach (T : Tx K mg) : Binds K (fdA K (He.fAd K d__law_reach.at_)) ["_law_line", "_law_at", "_law_up"] [] := T.F__law_reach.bindsN fun _ _ _ _ _ _ us hl => match us, hl with | [_, _, _], _ => rfl
theorem ok__law_reach (T : Tx K mg) : FnOk P w K mg base CX0 2 (He.fAd K d__law_reach.at_) (fdA K (He.fAd K d__law_reach.at_)) ["_law_line", "_law_at", "_law_up"] (sp__law_reach K) :=
  T.F__law_reach.ok sc__law_reach (fun _ _ _ _ h => on3_len h) (fun cdv A outer s H vs Q E hr h => ⟨t__law_reach K, PSs.nox ((pss_cons (ps_set (i := 3) sc__law_reach.nd rfl (.inl rfl) (pe_op o_add (vv 1) pe_int))
      (pss_cons (ps_while PassesOwn.never (PW.pt (pw_and (t_cmp o_lt (vv 3) (pe_callB c_len (by rfl) T.b_len boot_len (pa_cons (vv 0) pa_nil)) (nomark _)) (pw_and1 (t_val (pe_call (ok__law_follows T) (hr.mono (by decide)) (by rfl) T.g__law_follows T.F__law_follows.kp (b__law_follows T) .nil pass0 (pa_cons (pe_ix x_list (vv 0) (vv 3) (fun _ _ => rfl)) (pa_cons (pe_ix x_list (vv 0) (pe_op o_sub (vv 3) pe_int) (fun _ _ => rfl)) (pa_cons (vv 2) pa_nil))))))))
      (pss_one (ps_set (i := 3) sc__law_reach.nd rfl (.inl rfl) (pe_op o_add (vv 3) pe_int))))
      (pss_one (ps_ret (vv 3)))))), pure__law_reach T vs H Q E h⟩)
def sp__law_cuts (K : PySem.W.Frag) : L2.Sp := fun vs H Q _ => on2 vs fun x y => onRef x fun a => onBl y fun down => ∃ (L : List Int), SqL K H a (L.map V.int) ∧ L.length ≤ 1000 ∧ ∀ H', Same H H' → Q (.int (cutsL down L : Nat)) H'
abbrev N__law_cuts : List Str := ["_law_line", "_law_downs", "_law_count", "_law_at"]
theorem sc__law_cuts : FnScope N__law_cuts ["_law_line", "_law_downs"] (defScope s__law_cuts) := ⟨rfl, rfl, rfl, by decide +kernel, rfl, by decide +kernel, by decide +kernel⟩
def t__law_cuts (K : PySem.W.Frag) : TS :=
    tSeq (tAsg (tTup (tCons (tC (.int 0)) (tCons (tC (.int 0)) tNil))) (gTup K 2 (gCons (gName 2) (gCons (gName 3) gNil))))
    (tSeq (tWhile (fT (tOp fLt (fV 3) (tCB (fLen K) (tCons (fV 0) tNil))))
    (tSeq (tAsg (tOp fAdd (fV 2) (tC (.int 1))) (gName 2))
    (tAsg (tCB fMax2 (tCons (tCall (sp__law_reach K) [] E0 (tCons (fV 0) (tCons (fV 3) (tCons (tC (.bl true)) tNil)))) (tCons (tIf (fT (fV 1)) (tCall (sp__law_reach K) [] E0 (tCons (fV 0) (tCons (fV 3) (tCons (tC (.bl false)) tNil)))) (tC (.int 0))) tNil))) (gName 3))))
    (tRet (fV 2)))
abbrev Pure__law_cuts (K : PySem.W.Frag) : Prop := ∀ (vs : List V) (H : Hp) (Q : VK) (E : XK), sp__law_cuts K vs H Q E → t__law_cuts K { nx := fun _ H' => Q .non H', rt := Q } (L2.start N__law_cuts vs) H
theorem pure__law_cuts (T : Tx K mg) : Pure__law_cuts K := by
  intro vs H Q E h
  obtain ⟨x, y, rfl, h⟩ := on2_ex h
  obtain ⟨a, rfl, h⟩ := onRef_ex h
  obtain ⟨down, rfl, L, hL, hl, hQ⟩ := onBl_ex h
  refine ⟨by show 2 ≤ sizeLine; rw [sizeLine_eq]; decide, ?_⟩
  intro p hp
  have e0 := Same.upd (o := .tup [V.int 0, V.int 0]) hp
  refine ⟨p, [V.int 0, V.int 0], rfl, SqT.of upd_same, rfl, _, _, rfl, _, _, rfl, rfl, ?_⟩
  have hL := e0.seq hL
  have hQ := hQ _ e0
  generalize upd H p (.tup [V.int 0, V.int 0]) = H at hL hQ ⊢
  refine ⟨fun m σ H1 => H1 = H ∧ ∃ c i : Nat, m = L.length - i ∧ i ≤ L.length ∧ c + cutsL down (L.drop i) = cutsL down L ∧ σ = [some (.ref a), some (.bl down), some (.int (c : Int)), some (.int (i : Int))], ⟨L.length - 0, rfl, 0, 0, rfl, Nat.zero_le _, by rw [List.drop_zero, Nat.zero_add], rfl⟩, ?_⟩
  rintro m σ H1 ⟨rfl, c, i, rfl, hi, hc, rfl⟩
  refine ⟨_, .inl hL, ?_⟩
  rw [List.length_map]
  by_cases he : i < L.length
  · refine ite2 (fun _ => ?_) (fun hz => absurd (decide_eq_true (show (i : Int) < ((L.length : Nat) : Int) by omega)) hz)
    rw [List.drop_eq_getElem_cons he, cutsL_cons, List.drop_drop] at hc
    have hk := reachM_le down L[i] (L.drop (i + 1))
    rw [List.length_drop] at hk
    have hg : L.getD i 0 = L[i] := by rw [List.getD_eq_getElem?_getD, List.getElem?_eq_getElem he]; rfl
    refine ⟨fun σ' H' => H' = H1 ∧ σ' = [some (.ref a), some (.bl down), some (.int ((c : Int) + 1)), some (.int ((i + 1 + reachM down L[i] (L.drop (i + 1)) : Nat) : Int))], fun σ' H' z => ⟨L.length - (i + 1 + reachM down L[i] (L.drop (i + 1))), by omega, z.1, c + 1, _, rfl, by omega, ?_, z.2⟩, ?_⟩
    · omega
    · refine ⟨L, i, hL, rfl, he, ?_⟩
      rw [hg]
      cases down with
      | true =>
        refine ⟨L, i, hL, rfl, he, rfl, ?_⟩
        rw [hg]
        have e1 : (if ((i + 1 + reachF false L[i] (L.drop (i + 1)) : Nat) : Int) > ((i + 1 + reachF true L[i] (L.drop (i + 1)) : Nat) : Int) then ((i + 1 + reachF false L[i] (L.drop (i + 1)) : Nat) : Int) else ((i + 1 + reachF true L[i] (L.drop (i + 1)) : Nat) : Int)) = ((i + 1 + reachM true L[i] (L.drop (i + 1)) : Nat) : Int) := by
          unfold reachM
          rw [if_pos rfl]
          split <;> omega
        rw [e1]
        rfl
      | false =>
        refine ⟨rfl, ?_⟩
        have e1 : (if (0 : Int) > ((i + 1 + reachF true L[i] (L.drop (i + 1)) : Nat) : Int) then (0 : Int) else ((i + 1 + reachF true L[i] (L.drop (i + 1)) : Nat) : Int)) = ((i + 1 + reachM false L[i] (L.drop (i + 1)) : Nat) : Int) := by
          unfold reachM
          rw [if_neg Bool.false_ne_true]
          split <;> omega
        rw [e1]
        rfl
  · refine ite2 (fun hz => absurd (of_decide_eq_true hz) (by omega)) (fun _ => ?_)
    have e1 : i = L.length := by omega
    rw [e1, List.drop_length, cutsL_nil, Nat.add_zero] at hc
    show Q (.int (c : Int)) H1
    rw [hc]
    exact hQ
theorem b__law_cuts (T : Tx K mg) : Binds K (fdA K (He.fAd K d__law_cuts.at_)) ["_law_line", "_law_downs"] [] := T.F__law_cuts.bindsN fun _ _ _ _ _ _ us hl => match us, hl with | [_, _], _ => rfl
theorem ok__law_cuts (T : Tx K mg) : FnOk P w K mg base CX0 3 (He.fAd K d__law_cuts.at_) (fdA K (He.fAd K d__law_cuts.at_)) ["_law_line", "_law_downs"] (sp__law_cuts K) :=
  T.F__law_cuts.ok sc__law_cuts (fun _ _ _ _ h => on2_len h) (fun cdv A outer s H vs Q E hr h => ⟨t__law_cuts K, PSs.nox ((pss_cons (ps_asg (pe_tup (pa_cons pe_int (pa_cons pe_int pa_nil))) (pg_tup rfl (pgs_cons (pg_name (i := 2) sc__law_cuts.nd rfl (.inl rfl)) (pgs_cons (pg_name (i := 3) sc__law_cuts.nd rfl (.inl rfl)) pgs_nil))))
      (pss_cons (ps_while PassesOwn.never (t_cmp o_lt (vv 3) (pe_callB c_len (by rfl) T.b_len boot_len (pa_cons (vv 0) pa_nil)) (nomark _))
      (pss_cons (ps_set (i := 2) sc__law_cuts.nd rfl (.inl rfl) (pe_op o_add (vv 2) pe_int))
      (pss_one (ps_set (i := 3) sc__law_cuts.nd rfl (.inl rfl) (pe_callB (c_max2 rfl) (by rfl) T.b_max boot_max (pa_cons (pe_call (ok__law_reach T) (hr.mono (by decide)) (by rfl) T.g__law_reach T.F__law_reach.kp (b__law_reach T) .nil pass0 (pa_cons (vv 0) (pa_cons (vv 3) (pa_cons pe_bl pa_nil)))) (pa_cons (pe_ifExp (t_val (vv 1)) (pe_call (ok__law_reach T) (hr.mono (by decide)) (by rfl) T.g__law_reach T.F__law_reach.kp (b__law_reach T) .nil pass0 (pa_cons (vv 0) (pa_cons (vv 3) (pa_cons pe_bl pa_nil)))) pe_int) pa_nil)))))))
      (pss_one (ps_ret (vv 2)))))), pure__law_cuts T vs H Q E h⟩)

end K21
namespace K21
open PySem PySem.Spec PyProof.Rows L2 Sp
variable {P : Program} {w : World} {K : PySem.W.Frag} {mg : Str → Option Value} {base : Heap}
theorem ints_range {α : Type} (d : α) (f : α → Int) : ∀ l : List α, (List.range l.length).map (fun i => V.int (f (l.getD i d))) = (l.map f).map V.int
  | [] => rfl
  | a :: l => by
    have ih := ints_range d f l
    rw [List.length_cons, List.range_succ_eq_map, List.map_cons, List.map_map, List.map_cons, List.map_cons, ← ih]
    rfl
theorem orders_some {n w : Nat} (hw : 0 < w) : List.range n ∈ ordersAt n w n := mem_orders.mpr ⟨List.length_range, List.nodup_range, fun j v hv => by
  obtain ⟨h1, h2⟩ := List.getElem?_eq_some_iff.mp hv
  rw [List.length_range] at h1
  rw [List.getElem_range] at h2
  omega⟩
def sp__law_fewest (K : PySem.W.Frag) : L2.Sp := fun vs H Q _ => on3 vs fun x y z => onRef x fun a => onInt y fun w => onBl z fun down => ∃ (ks : List Int) (W : Nat), SqT K H a (ks.map V.int) ∧ ks.length ≤ 7 ∧ w = W ∧ 1 ≤ W ∧ W ≤ 3 ∧ ∀ H', Same H H' → Q (.int ((sched down W ks).length : Nat)) H'
abbrev scn__law_fewest : Scope := { kind := .function, names := [(".0", .local), ("_law_order", .local), ("_law_cuts", .globalImplicit), ("_law_downs", .cell), ("_law_some", .cell)], isGenerator := false, isCoroutine := false }
abbrev N__law_fewest : List Str := ["_law_some", "_law_width", "_law_downs", "_law_order", "_law_at"]
theorem sc__law_fewest : FnScope N__law_fewest ["_law_some", "_law_width", "_law_downs"] (defScope s__law_fewest) := ⟨rfl, rfl, rfl, by decide +kernel, rfl, by decide +kernel, by decide +kernel⟩
def t__law_fewest (K : PySem.W.Frag) : TS :=
    tRet (tCB (fMin K) (tCons (tLc (iList K (tCall (sp__law_orders K) [] E0 (tCons (tCB (fLen K) (tCons (fV 0) tNil)) (tCons (fV 1) tNil)))) (gName 3) tYes (tCall (sp__law_cuts K) [] E0 (tCons (tLc (iList K (fV 3)) (gName 4) tYes (tOp (fIxT K) (fV 0) (fV 4)) [4]) (tCons (fV 2) tNil))) [3]) tNil))
abbrev Pure__law_fewest (K : PySem.W.Frag) : Prop := ∀ (vs : List V) (H : Hp) (Q : VK) (E : XK), sp__law_fewest K vs H Q E → t__law_fewest K { nx := fun _ H' => Q .non H', rt := Q } (L2.start N__law_fewest vs) H
theorem pure__law_fewest (T : Tx K mg) : Pure__law_fewest K := by
  intro vs H Q E h
  obtain ⟨x, y, z, rfl, h⟩ := on3_ex h
  obtain ⟨a, rfl, h⟩ := onRef_ex h
  obtain ⟨w, rfl, h⟩ := onInt_ex h
  obtain ⟨down, rfl, ks, W, ha, hl, rfl, hW1, hW3, hQ⟩ := onBl_ex h
  refine ⟨_, .inr ha, ?_⟩
  rw [List.length_map]
  refine ⟨ks.length, W, rfl, rfl, hl, hW3, fun q as H1 e1 hq hE => ?_⟩
  have hol : (ordersAt ks.length W ks.length).length ≤ 1000000 := by
    refine Nat.le_trans (orders_len hl ks.length) (Nat.le_trans (Nat.pow_le_pow_right (by decide) hl) (by decide))
  refine ⟨q, rfl, ⟨_, SqL.of hq⟩, fun D hD => ?_⟩
  refine lc_listN (xs := as.map V.ref) (fun i => V.int ((cutsL down (((ordersAt ks.length W ks.length).getD i []).map (keyI ks)) : Nat) : Int)) hD (by rw [List.length_map, hE.length]; exact hol) (SqL.of hq) (fun i x H2 hx e2 R hR => ?_) (fun H2 e2 hD2 => ?_)
  · obtain ⟨b, hb, rfl⟩ := List.mem_map.mp (show x ∈ as.map V.ref from List.mem_of_getElem? hx) |> fun _ => (by
      rw [List.getElem?_map] at hx
      cases h : as[i]? with
      | none => rw [h] at hx; cases hx
      | some b => rw [h] at hx; exact ⟨b, rfl, (Option.some.inj hx).symm⟩ : ∃ b, as[i]? = some b ∧ x = V.ref b)
    obtain ⟨l, hl1, hl2⟩ := hE.get hb
    have hgd : (ordersAt ks.length W ks.length).getD i [] = l := by rw [List.getD_eq_getElem?_getD, hl1]; rfl
    rw [hgd] at hR
    obtain ⟨o1, o2, o3⟩ := mem_orders.mp (List.mem_of_getElem? hl1)
    have hb2 : H2 b = some (.lst (natsV l)) := e2 _ _ hl2
    refine ⟨rfl, b, rfl, ⟨_, SqL.of hb2⟩, fun D2 hD2 => ?_⟩
    refine lc_listN (xs := natsV l) (fun i => V.int (keyI ks (l.getD i 0))) hD2 (by unfold natsV; rw [List.length_map]; omega) (SqL.of hb2) (fun i x H3 hx e3 R3 hR3 => ?_) (fun H3 e3 hD3 => ?_)
    · obtain ⟨n, hn, rfl⟩ : ∃ n, l[i]? = some n ∧ x = V.int (n : Int) := by
        unfold natsV at hx
        rw [List.getElem?_map] at hx
        cases h : l[i]? with
        | none => rw [h] at hx; cases hx
        | some b => rw [h] at hx; exact ⟨b, rfl, (Option.some.inj hx).symm⟩
      have hn2 := o3 _ _ hn
      refine ⟨rfl, _, sameT ((e1.trans e2).trans e3) ha, _, atI_ints (j := n) rfl hn2.1, ?_⟩
      have := hR3 H3 (Same.refl _)
      rw [List.getD_eq_getElem?_getD (l := l), hn] at this
      exact this
    · rw [show (List.range (natsV l).length).map (fun i => V.int (keyI ks (l.getD i 0))) = (l.map (keyI ks)).map V.int by unfold natsV; rw [List.length_map]; exact ints_range 0 (keyI ks) l] at hD3
      exact ⟨_, SqL.of hD3, by rw [List.length_map]; omega, fun H4 e4 => hR H4 (e3.trans e4)⟩
  · have hlen : (as.map V.ref).length = (ordersAt ks.length W ks.length).length := by rw [List.length_map, hE.length]
    rw [hlen, ints_range [] (fun l => ((cutsL down (l.map (keyI ks)) : Nat) : Int)) (ordersAt ks.length W ks.length)] at hD2
    have hne := List.length_pos_of_mem (orders_some (n := ks.length) hW1)
    refine ⟨_, SqL.of hD2, by rw [List.length_map]; exact hne, fun m hm hle => ?_⟩
    obtain ⟨l, hl1, rfl⟩ := List.mem_map.mp hm
    have e := least_orders (down := down) hW1 ⟨l, hl1, rfl⟩ fun l' hl' => by
      have := hle _ (List.mem_map.mpr ⟨l', hl', rfl⟩)
      omega
    have fin := hQ H2 (e1.trans e2)
    rw [← e] at fin
    exact fin
theorem b__law_fewest (T : Tx K mg) : Binds K (fdA K (He.fAd K d__law_fewest.at_)) ["_law_some", "_law_width", "_law_downs"] [] := T.F__law_fewest.bindsN fun _ _ _ _ _ _ us hl => match us, hl with | [_, _, _], _ => rfl
theorem ok__law_fewest (T : Tx K mg) : FnOk P w K mg base CX0 4 (He.fAd K d__law_fewest.at_) (fdA K (He.fAd K d__law_fewest.at_)) ["_law_some", "_law_width", "_law_downs"] (sp__law_fewest K) :=
  T.F__law_fewest.ok sc__law_fewest (fun _ _ _ _ h => on3_len h) (fun cdv A outer s H vs Q E hr h => ⟨t__law_fewest K, PSs.nox ((pss_one (ps_ret (pe_callB (c_min rfl) (by rfl) T.b_min boot_min (pa_cons (pe_lc (own := [("_law_order", 3)]) (g := gName 3) (by rfl) sc__law_fewest.nd (pi_list (pe_call (ok__law_orders T) (hr.mono (by decide)) (by rfl) T.g__law_orders T.F__law_orders.kp (b__law_orders T) .nil pass0 (pa_cons (pe_callB c_len (by rfl) T.b_len boot_len (pa_cons (vv 0) pa_nil)) (pa_cons (vv 1) pa_nil)))) (blkOk_by (own := [("_law_order", 3)]) (N := N__law_fewest) (sc := defScope s__law_fewest) (by decide +kernel)) (fun _ _ _ _ _ => (pg_name (i := 3) sc__law_fewest.nd rfl (.inl rfl))) (fun _ _ _ _ _ => pts_nil) (fun _ _ _ _ _ => (pe_call (ok__law_cuts T) (hr.mono (by decide)) (by rfl) T.g__law_cuts T.F__law_cuts.kp (b__law_cuts T) .nil pass0 (pa_cons (pe_lc (own := [("_law_at", 4)]) (g := gName 4) (by rfl) sc__law_fewest.nd (pi_list (vv 3)) (blkOk_by (own := [("_law_at", 4)]) (N := N__law_fewest) (sc := scn__law_fewest) (by decide +kernel)) (fun _ _ _ _ _ => (pg_name (i := 4) sc__law_fewest.nd rfl (.inl rfl))) (fun _ _ _ _ _ => pts_nil) (fun _ _ _ _ _ => (pe_ix x_tup (vv 0) (vv 4) (fun _ _ => rfl)))) (pa_cons (vv 2) pa_nil))))) pa_nil))))), pure__law_fewest T vs H Q E h⟩)

end K21
namespace K21
open PySem PySem.Spec PyProof.Rows L2 Sp
variable {P : Program} {w : World} {K : PySem.W.Frag} {mg : Str → Option Value} {base : Heap}
/-! ### Best made -/
abbrev ps_Best : List Str := ["self", "room", "down"]
def gV_Best_1_down : List V → List V → List V := fun vs zs => vs ++ zs
theorem mb_Best_1_down (T : Tx K mg) : ∃ its : List Value, KBn K (fdA K (He.fAd K d_Best_init.at_)) ps_Best 2 ["down"] (fun us ws => us ++ ws) gV_Best_1_down :=
  ⟨[], Sp.FunD.kbinds0 T.F_Best_init 2 ["down"] (fun us ws => us ++ ws) (fun r1 r2 => r1.append r2) fun _ _ _ _ _ _ us ws h1 h2 => match us, ws, h1, h2 with | [_, _], [_], _, _ => rfl⟩
def gBK {α : Type} (us ws : List α) : List α := us ++ match ws with
  | [k, b] => [b, k]
  | _ => []
theorem gBK_rel {vs zs : List V} {us ws : List Value} (r1 : Vals vs us) (r2 : Vals zs ws) : Vals (gBK vs zs) (gBK us ws) := r1.append (by
  cases r2 with
  | nil => exact .nil
  | cons a r2 =>
    cases r2 with
    | nil => exact .nil
    | cons b r2 =>
      cases r2 with
      | nil => exact .cons b (.cons a .nil)
      | cons _ _ => exact .nil)
/-- a Best just made -/
theorem made_same {H H' : Hp} {x dx C : Addr} (hx : H x = none) (hdx : H dx = none) (k : KpX x (upd (upd H dx (.own x)) x (.ins C dx [])) H') : Same H H' := fun b o hb => k b o (ne_of_none hb hx) (by rw [upd_ne (ne_of_none hb hx), upd_ne (ne_of_none hb hdx)]; exact hb)

def dv_Best_1 : List V := [.bl false]
theorem mb_Best_1 (T : Tx K mg) : ∃ ds, Vals dv_Best_1 ds ∧ Binds K (fdA K (He.fAd K d_Best_init.at_)) ps_Best ds :=
  T.F_Best_init.binds0 2 (by decide) (by decide) fun _ _ _ _ _ _ us ks h1 h2 => match us, ks, h1, h2 with | [_, _], [_], _, _ => ⟨_, _, _, _, _, _, rfl, rfl, rfl⟩
def gV_fewest_keys_best : List V → List V → List V := fun vs zs => gBK vs zs
theorem kb_fewest_keys_best (T : Tx K mg) : KBn K (fdA K (He.fAd K d_fewest.at_)) ["best", "keys"] 0 ["keys", "best"] (fun us ws => gBK us ws) gV_fewest_keys_best :=
  Sp.FunD.kbinds0 T.F_fewest 0 ["keys", "best"] gBK gBK_rel fun _ _ _ _ _ _ us ws h1 h2 => match us, ws, h1, h2 with | [], [_, _], _, _ => rfl
/-- repr of a list of ints -/
theorem ints_dp (H : Hp) : ∀ (ms : List Int), DpAll K H (ms.map V.int) (ms.map PyData.int)
  | [] => .nil
  | m :: ms => .cons (.int _) (ints_dp H ms)
theorem ints_depth : ∀ ns : List Int, PyData.depthAll (ns.map PyData.int) ≤ 1
  | [] => Nat.zero_le _
  | n :: ns => by
    have := ints_depth ns
    rw [List.map_cons, PyData.depthAll]
    simp only [PyData.depth]
    omega
def shL (ns : List Int) : Str := PyData.shown (.list (ns.map PyData.int))
theorem shown_ints {H : Hp} {l : Addr} {ns : List Int} (hT : SqL K H l (ns.map V.int)) (hl : ns.length ≤ 2000) (h : ∀ z ∈ ns, z.natAbs ≤ 10 ^ 100) : ShownAs K H (.ref l) (shL ns) := by
  have e := shown_le (.list (ns.map PyData.int)) (by simpa [PyData.showable] using showInts h) (by simpa [PyData.hasDict] using hdInts ns)
  simp only [cells, cellsInts] at e
  refine ⟨.list (ns.map PyData.int), .lst hT (ints_dp _ _), rfl, by simpa [PyData.showable] using showInts h, ?_, ?_, rfl⟩
  · have := ints_depth ns
    simp only [PyData.depth]
    omega
  · rw [sizeLine_eq]
    omega
theorem len_sched {ks : List Int} {room : Nat} {down : Bool} (h1 : 0 < room) : (sched down room ks).length ≤ ks.length := by
  have val := sched_valid (ks := ks) (room := room) (down := down) h1
  have hfl := val.perm.length_eq
  rw [List.length_range] at hfl
  have : ∀ q : Plan, (∀ r ∈ q, r.2 ≠ []) → q.length ≤ (flat q).length := fun q => by
    induction q with
    | nil => exact fun _ => Nat.zero_le _
    | cons x q ih =>
      intro hne
      rw [flat_cons', List.length_append]
      have := ih fun r hr => hne r (List.mem_cons_of_mem _ hr)
      have := List.length_pos_iff.mpr (hne x (List.mem_cons_self ..))
      show q.length + 1 ≤ _
      omega
  have := this _ val.runs.ne
  omega
def sp__law_right (K : PySem.W.Frag) : L2.Sp := fun vs H Q _ => on2 vs fun x n => onRef x fun p => onInt n fun n => Pool H p ∧ 0 ≤ n ∧ n ≤ 7 ∧ ∀ H', Kp p H H' → Pool H' p → Q (.bl true) H'
abbrev N__law_right : List Str := ["_law_pool", "_law_many", "_law_some", "_law_moved", "_law_width", "_law_downs", "_law_due", "_law_mine", "_law_told", "_law_key"]
theorem sc__law_right : FnScope N__law_right ["_law_pool", "_law_many"] (defScope s__law_right) := ⟨rfl, rfl, rfl, by decide +kernel, rfl, by decide +kernel, by decide +kernel⟩
def t__law_right (K : PySem.W.Frag) : TS :=
    tSeq (tAsg (tCall (sp__law_few K) [] E0 (tCons (fV 0) (tCons (fV 1) tNil))) (gName 2))
    (tSeq (tAsg (tCB (fTupOfL K) (tCons (tLc (iTup K (fV 2)) (gName 9) tYes (tOp fSub (tOp fMul (tC (.int 3)) (fV 9)) (tC (.int 11))) [9]) tNil)) (gName 3))
    (tSeq (tFor (iList K (tLst (tCons (tC (.int 1)) (tCons (tC (.int 2)) (tCons (tC (.int 3)) tNil))))) (gName 4)
    (tFor (iList K (tLst (tCons (tC (.bl false)) (tCons (tC (.bl true)) tNil)))) (gName 5)
    (tSeq (tAsg (tCall (sp__law_fewest K) [] E0 (tCons (fV 2) (tCons (fV 4) (tCons (fV 5) tNil)))) (gName 6))
    (tSeq (tAsg (tMakeN (He.ga K "Best") 1 (List.length (["down"] : List Str)) (sp_Best_init K) gV_Best_1_down E0 (tCons (fV 4) tNil) (tCons (fV 5) tNil)) (gName 7))
    (tSeq (tAsg (tLst (tCons (tCall (sp_fewest K) [] E0 (tCons (fV 7) (tCons (fV 2) tNil))) (tCons (tCallK0 (List.length (["keys", "best"] : List Str)) (sp_fewest K) gV_fewest_keys_best E0 (tCons (fV 2) (tCons (fV 7) tNil))) (tCons (tCall (sp_fewest K) [] E0 (tCons (fV 7) (tCons (fV 3) tNil))) (tCons (tCall (sp_fewest K) [] E0 (tCons (fV 7) (tCons (fV 2) tNil))) tNil))))) (gName 8))
    (tIfS (fT (tOp fNe (tCB (fRepr K) (tCons (fV 8) tNil)) (tCB (fRepr K) (tCons (tOp fRepL (tLst (tCons (fV 6) tNil)) (tC (.int 4))) tNil))))
    (tRet (tC (.bl false))) tNext))))))
    (tRet (tC (.bl true)))))
abbrev Pure__law_right (K : PySem.W.Frag) : Prop := ∀ (vs : List V) (H : Hp) (Q : VK) (E : XK), sp__law_right K vs H Q E → t__law_right K { nx := fun _ H' => Q .non H', rt := Q } (L2.start N__law_right vs) H
theorem pure__law_right (T : Tx K mg) : Pure__law_right K := by
  intro vs H Q E h
  obtain ⟨x1, x2, rfl, h⟩ := on2_ex h
  obtain ⟨p, rfl, h⟩ := onRef_ex h
  obtain ⟨n, rfl, hp, hn0, hn1, hQ⟩ := onInt_ex h
  refine ⟨hp, hn0, by omega, fun a ks H1 hp1 hk1 ha hl => ?_⟩
  have hkl : ks.length ≤ 7 := by omega
  refine ⟨a, rfl, ⟨_, ha⟩, fun D hD => ?_⟩
  refine lc_tupN (xs := ks.map V.int) (fun i => V.int (3 * ks.getD i 0 - 11)) hD (by rw [List.length_map]; omega) ha (fun i x H2 hx e2 R hR => ?_) (fun H2 e2 hD2 => ?_)
  · obtain ⟨z, hz, rfl⟩ : ∃ z, ks[i]? = some z ∧ x = V.int z := by
      rw [List.getElem?_map] at hx
      cases h : ks[i]? with
      | none => rw [h] at hx; cases hx
      | some b => rw [h] at hx; exact ⟨b, rfl, (Option.some.inj hx).symm⟩
    refine ⟨rfl, .inl ⟨by decide, by decide⟩, ?_⟩
    have := hR H2 (Same.refl _)
    rw [List.getD_eq_getElem?_getD (l := ks), hz] at this
    exact this
  rw [List.length_map, ints_range 0 (fun z => 3 * z - 11) ks] at hD2
  refine ⟨_, SqL.of hD2, fun m hm => ?_⟩
  have e3 : Same H1 (upd H2 m (.tup ((ks.map fun z => 3 * z - 11).map V.int))) := e2.trans (Same.upd hm)
  have hm3 : SqT K (upd H2 m (.tup ((ks.map fun z => 3 * z - 11).map V.int))) m ((ks.map fun z => 3 * z - 11).map V.int) := SqT.of upd_same
  generalize upd H2 m (.tup ((ks.map fun z => 3 * z - 11).map V.int)) = H3 at e3 hm3 ⊢
  have ha3 := sameT e3 ha
  refine ⟨by show 3 ≤ sizeLine; decide, fun q hq => ⟨q, rfl, ⟨_, SqL.of upd_same⟩, ?_⟩⟩
  refine for_list (K := K) (a := q) (xs := [V.int 1, V.int 2, V.int 3]) (fun i σ H4 => Same (upd H3 q (.lst [V.int 1, V.int 2, V.int 3])) H4 ∧ ∃ o4 o5 o6 o7 o8, σ = [some (.ref p), some (.int n), some (.ref a), some (.ref m), o4, o5, o6, o7, o8, none]) ⟨Same.refl _, _, _, _, _, _, rfl⟩ (fun i σ H4 _ hp => hp.1.seq (SqL.of upd_same)) (fun i x σ H4 hx hp4 => ?_) (fun σ H4 hp4 => ?_)
  · obtain ⟨e4, o4, o5, o6, o7, o8, rfl⟩ := hp4
    have e34 : Same H3 H4 := (Same.upd hq).trans e4
    obtain ⟨W, hW1, hW3, rfl⟩ : ∃ W : Nat, 1 ≤ W ∧ W ≤ 3 ∧ x = V.int (W : Int) := by
      match i, hx with
      | 0, hx => exact ⟨1, by decide, by decide, (Option.some.inj hx).symm⟩
      | 1, hx => exact ⟨2, by decide, by decide, (Option.some.inj hx).symm⟩
      | 2, hx => exact ⟨3, by decide, by decide, (Option.some.inj hx).symm⟩
      | i + 3, hx => simp at hx
    refine ⟨by show 2 ≤ sizeLine; decide, fun q2 hq2 => ⟨q2, rfl, ⟨_, SqL.of upd_same⟩, ?_⟩⟩
    refine for_list (K := K) (a := q2) (xs := [V.bl false, V.bl true]) (fun i σ H5 => Same (upd H4 q2 (.lst [V.bl false, V.bl true])) H5 ∧ ∃ o5 o6 o7 o8, σ = [some (.ref p), some (.int n), some (.ref a), some (.ref m), some (.int (W : Int)), o5, o6, o7, o8, none]) ⟨Same.refl _, _, _, _, _, rfl⟩ (fun i σ H5 _ hp => hp.1.seq (SqL.of upd_same)) (fun i x σ H5 hx hp5 => ?_) (fun σ H5 hp5 => ?_)
    · obtain ⟨e5, o5, o6, o7, o8, rfl⟩ := hp5
      have e35 : Same H3 H5 := e34.trans ((Same.upd hq2).trans e5)
      obtain ⟨down, rfl⟩ : ∃ b : Bool, x = V.bl b := by
        match i, hx with
        | 0, hx => exact ⟨false, (Option.some.inj hx).symm⟩
        | 1, hx => exact ⟨true, (Option.some.inj hx).symm⟩
        | i + 2, hx => simp at hx
      have ha5 := sameT e35 ha3
      refine ⟨ks, W, ha5, hkl, rfl, hW1, hW3, fun H6 e6 => ?_⟩
      have hle := len_sched (ks := ks) (room := W) (down := down) hW1
      have hmv := sched_move (ks := ks) (room := W) (down := down) hW1 (fun z => 3 * z - 11) fun a b => by omega
      refine ⟨rfl, rfl, fun x dx hx hdx hne => ?_⟩
      refine ⟨W, dx, hW1, hW3, rfl, upd_same, fun H7 k7 hb7 => ⟨rfl, ?_⟩⟩
      have e7 := made_same hx hdx k7
      have ha7 := sameT (e6.trans e7) ha5
      have hm7 := sameT ((e35.trans e6).trans e7) hm3
      refine ⟨ks, W, down, hb7, ha7, by omega, hW1, hW3, fun H8 e8 => ?_⟩
      refine ⟨rfl, ks, W, down, hb7.same e8, sameT e8 ha7, by omega, hW1, hW3, fun H9 e9 => ?_⟩
      refine ⟨_, W, down, (hb7.same e8).same e9, sameT (e8.trans e9) hm7, by rw [List.length_map]; omega, hW1, hW3, fun H10 e10 => ?_⟩
      refine ⟨ks, W, down, ((hb7.same e8).same e9).same e10, sameT ((e8.trans e9).trans e10) ha7, by omega, hW1, hW3, fun H11 e11 => ?_⟩
      rw [hmv]
      generalize (sched down W ks).length = c at hle ⊢
      refine ⟨by show 4 ≤ sizeLine; decide, fun t ht => ?_⟩
      have hz : ∀ z ∈ [(c : Int), c, c, c], z.natAbs ≤ 10 ^ 100 := fun z hz => by
        have : z = (c : Int) := by simpa using hz
        rw [this, Int.natAbs_natCast]
        exact Nat.le_trans (Nat.le_trans hle hkl) (by decide +kernel)
      have e12 := Same.upd (o := .lst [V.int c, .int c, .int c, .int c]) ht
      refine ⟨_, shown_ints (ns := [(c : Int), c, c, c]) (SqL.of upd_same) (show 4 ≤ 2000 by decide) hz, ?_⟩
      refine ⟨by show 1 ≤ sizeLine; decide, fun u hu => ?_⟩
      refine ⟨_, upd_same, by decide, by decide, by show 4 ≤ sizeLine; decide, fun v hv => ?_⟩
      refine ⟨_, shown_ints (ns := [(c : Int), c, c, c]) (SqL.of upd_same) (show 4 ≤ 2000 by decide) hz, ?_⟩
      refine ite2 (fun hf => ?_) (fun _ => ?_)
      · have hf : (!decide (V.str (shL [(c : Int), c, c, c]) = V.str (shL [(c : Int), c, c, c]))) = true := hf
        rw [decide_eq_true rfl] at hf
        cases hf
      · exact ⟨((((((((e5.trans e6).trans e7).trans e8).trans e9).trans e10).trans e11).trans e12).trans (Same.upd hu)).trans (Same.upd hv), _, _, _, _, rfl⟩
    · obtain ⟨e5, o5, o6, o7, o8, rfl⟩ := hp5
      exact ⟨e4.trans ((Same.upd hq2).trans e5), _, _, _, _, _, rfl⟩
  · have e14 : Same H1 H4 := e3.trans ((Same.upd hq).trans hp4.1)
    exact hQ H4 (hk1.trans (Kp.same e14)) (hp1.same e14)
theorem b__law_right (T : Tx K mg) : Binds K (fdA K (He.fAd K d__law_right.at_)) ["_law_pool", "_law_many"] [] := T.F__law_right.bindsN fun _ _ _ _ _ _ us hl => match us, hl with | [_, _], _ => rfl
theorem ok__law_right (T : Tx K mg) : FnG P w K mg base CX0 7 (He.fAd K d__law_right.at_) (fdA K (He.fAd K d__law_right.at_)) ["_law_pool", "_law_many"] (sp__law_right K) :=
  Sp.FunD.okG T.F__law_right sc__law_right (fun _ _ _ _ h => on2_len h) (fun cdv A outer s H vs Q E hgd hr h => ⟨t__law_right K, PSs.nox ((pss_cons (ps_set (i := 2) sc__law_right.nd rfl (.inl rfl) (pe_call (ok__law_few T) (hr.mono (by decide)) (by rfl) T.g__law_few T.F__law_few.kp (b__law_few T) .nil pass0 (pa_cons (vv 0) (pa_cons (vv 1) pa_nil))))
      (pss_cons (ps_set (i := 3) sc__law_right.nd rfl (.inl rfl) (pe_callTy c_tupL (by rfl) T.b_tuple boot_tuple (pa_cons (pe_lc (own := [("_law_key", 9)]) (g := gName 9) (by rfl) sc__law_right.nd (pi_tup (vv 2)) (blkOk_by (own := [("_law_key", 9)]) (N := N__law_right) (sc := defScope s__law_right) (by decide +kernel)) (fun _ _ _ _ _ => (pg_name (i := 9) sc__law_right.nd rfl (.inl rfl))) (fun _ _ _ _ _ => pts_nil) (fun _ _ _ _ _ => (pe_op o_sub (pe_op o_mul pe_int (vv 9)) pe_int))) pa_nil)))
      (pss_cons (ps_for PassesOwn.never (by rfl) (pi_list (pe_lst (pa_cons pe_int (pa_cons pe_int (pa_cons pe_int pa_nil))))) (pg_name (i := 4) sc__law_right.nd rfl (.inl rfl))
      (pss_one (ps_for PassesOwn.never (by rfl) (pi_list (pe_lst (pa_cons pe_bl (pa_cons pe_bl pa_nil)))) (pg_name (i := 5) sc__law_right.nd rfl (.inl rfl))
      (pss_cons (ps_set (i := 6) sc__law_right.nd rfl (.inl rfl) (pe_call (ok__law_fewest T) (hr.mono (by decide)) (by rfl) T.g__law_fewest T.F__law_fewest.kp (b__law_fewest T) .nil pass0 (pa_cons (vv 2) (pa_cons (vv 4) (pa_cons (vv 5) pa_nil)))))
      (pss_cons (ps_set (i := 7) sc__law_right.nd rfl (.inl rfl) (pe_makeN T.mk_Best (ok_Best_init T) (hr.mono (by decide)) (by rfl) T.g_Best (mb_Best_1_down T).choose_spec pass0 (pa_cons (vv 4) pa_nil) (pk_cons (vv 5) pk_nil)))
      (pss_cons (ps_set (i := 8) sc__law_right.nd rfl (.inl rfl) (pe_lst (pa_cons (pe_call (ok_fewest T) (hr.mono (by decide)) (by rfl) T.g_fewest T.F_fewest.kp (b_fewest T) .nil pass0 (pa_cons (vv 7) (pa_cons (vv 2) pa_nil))) (pa_cons (e_callK0 (ok_fewest T) (hr.mono (by decide)) (by rfl) T.g_fewest T.F_fewest.kp (kb_fewest_keys_best T) pass0 (pk_cons (vv 2) (pk_cons (vv 7) pk_nil))) (pa_cons (pe_call (ok_fewest T) (hr.mono (by decide)) (by rfl) T.g_fewest T.F_fewest.kp (b_fewest T) .nil pass0 (pa_cons (vv 7) (pa_cons (vv 3) pa_nil))) (pa_cons (pe_call (ok_fewest T) (hr.mono (by decide)) (by rfl) T.g_fewest T.F_fewest.kp (b_fewest T) .nil pass0 (pa_cons (vv 7) (pa_cons (vv 2) pa_nil))) pa_nil))))))
      (pss_one (ps_if (t_cmp o_ne (pe_callB (c_repr hgd hr.units) (by rfl) T.b_repr boot_repr (pa_cons (vv 8) pa_nil)) (pe_callB (c_repr hgd hr.units) (by rfl) T.b_repr boot_repr (pa_cons (pe_op o_repL (pe_lst (pa_cons (vv 6) pa_nil)) pe_int) pa_nil)) (nomark _))
      (pss_one (ps_ret pe_bl)) pss_nil))))))))
      (pss_one (ps_ret pe_bl)))))), pure__law_right T vs H Q E h⟩)
theorem flat_rep {c : Int} : ∀ m : Nat, (List.replicate m [V.int c]).flatten = (List.replicate m c).map V.int
  | 0 => rfl
  | m + 1 => by
    rw [List.replicate_succ, List.flatten_cons, flat_rep m, List.replicate_succ]
    rfl
theorem rep_of {H : Hp} {l : Addr} {k : Int} {Q : VK} {xs : List V} (hx : SqT K H l xs) (ne : xs ≠ []) (k0 : 0 ≤ k) (k1 : k ≤ 1000) (hl : xs.length ≤ 1000) (h : ∀ s H', Same H H' → SqT K H' s (List.replicate k.toNat xs).flatten → Q (.ref s) H') : Sp.fRepT K (.ref l) (.int k) H Q := by
  refine ⟨xs, hx, ne, k0, k1, hl, fun e => ?_, fun _ p hp => h p _ (Same.upd hp) (SqT.of upd_same)⟩
  refine h l H (Same.refl _) ?_
  rw [e, show (List.replicate (1 : Int).toNat xs).flatten = xs by simp]
  exact hx
def sp_law (K : PySem.W.Frag) : L2.Sp := fun vs H Q _ => on1 vs fun x => onRef x fun c => ∃ ns : List Int, SqL K H c (ns.map V.int) ∧ ns.length ≤ 63 ∧ ∀ H', Q (.bl true) H'
abbrev N_law : List Str := ["_law_cells", "_law_k", "_law_pool", "_law_some"]
theorem sc_law : FnScope N_law ["_law_cells"] (defScope s_law) := ⟨rfl, rfl, rfl, by decide +kernel, rfl, by decide +kernel, by decide +kernel⟩
def t_law (K : PySem.W.Frag) : TS :=
    tSeq (tFor (iRng1 (tCons (tCB fMax2 (tCons (tC (.int 2)) (tCons (tCB fMin2 (tCons (tCB (fLen K) (tCons (fV 0) tNil)) (tCons (tC (.int 5)) tNil))) tNil))) tNil)) (gName 1)
    (tSeq (tAsg (tCall (sp__law_source K) [] E0 (tCons (fV 0) (tCons (fV 1) tNil))) (gName 2))
    (tSeq (tIfS (tOr (tNot (fT (tCall (sp__law_right K) [] E0 (tCons (fV 2) (tCons (tC (.int 7)) tNil))))) (tNot (fT (tCall (sp__law_right K) [] E0 (tCons (fV 2) (tCons (tC (.int 6)) tNil))))))
    (tRet (tC (.bl false))) tNext)
    (tSeq (tAsg (tOp (fRepT K) (tTup (tCons (tCall (sp__law_draw K) [] E0 (tCons (fV 2) (tCons (tC (.int 9)) tNil))) tNil)) (tCall (sp__law_draw K) [] E0 (tCons (fV 2) (tCons (tC (.int 9)) tNil)))) (gName 3))
    (tIfS (fT (tOp fNe (tCall (sp_fewest K) [] E0 (tCons (tMake (He.ga K "Best") (sp_Best_init K) dv_Best_1 E0 (tCons (tOp fAdd (tC (.int 1)) (tCall (sp__law_draw K) [] E0 (tCons (fV 2) (tCons (tC (.int 3)) tNil)))) tNil)) (tCons (fV 3) tNil))) (tCB fMin2 (tCons (tC (.int 1)) (tCons (tCB (fLen K) (tCons (fV 3) tNil)) tNil)))))
    (tRet (tC (.bl false))) tNext)))))
    (tRet (tC (.bl true)))
abbrev Pure_law (K : PySem.W.Frag) : Prop := ∀ (vs : List V) (H : Hp) (Q : VK) (E : XK), sp_law K vs H Q E → t_law K { nx := fun _ H' => Q .non H', rt := Q } (L2.start N_law vs) H
theorem pure_law (T : Tx K mg) : Pure_law K := by
  intro vs H Q E h
  obtain ⟨x1, rfl, h⟩ := on1_ex h
  obtain ⟨c, rfl, ns, hS, hl, hQ⟩ := onRef_ex h
  refine ⟨_, .inl hS, ?_⟩
  rw [List.length_map]
  refine ⟨_, rfl, ?_, ?_, ?_⟩
  · split <;> split <;> omega
  · split <;> split <;> omega
  refine for_range (lo := 0) (n := _) (fun i σ H6 => Same H H6 ∧ ∃ o1 o2 o3, σ = [some (.ref c), o1, o2, o3]) ⟨Same.refl _, none, none, none, rfl⟩ (fun i σ H6 hi hp => ?_) (fun σ H6 hp => ?_)
  · obtain ⟨e6, o1, o2, o3, rfl⟩ := hp
    have hi5 : i < 5 + 1 := by
      refine Nat.lt_of_lt_of_le hi ?_
      split <;> split <;> omega
    refine ⟨ns, e6.seq hS, by omega, by omega, by omega, fun p H7 hp0 hp7 e7 => ?_⟩
    refine ⟨hp7, by decide, by decide, fun H8 hk8 hp8 => ?_⟩
    refine ⟨hp8, by decide, by decide, fun H9 hk9 hp9 => ?_⟩
    refine ⟨hp9, by decide, by decide, fun r H10 hr0 hr1 hp10 hk10 => ?_⟩
    refine ⟨by show 1 ≤ sizeLine; decide, fun t ht => ?_⟩
    have e11 := Same.upd (o := .tup [V.int r]) ht
    refine ⟨hp10.same e11, by decide, by decide, fun m H12 hm0 hm1 hp12 hk12 => ?_⟩
    have ht12 : SqT K H12 t [V.int r] := (hp10.same e11).tk hk12 _ _ (SqT.of upd_same)
    refine rep_of ht12 (by simp) hm0 (by omega) (by show 1 ≤ 1000; decide) fun s H13 e13 hs => ?_
    rw [flat_rep] at hs
    have hp13 := hp12.same e13
    refine ⟨hp13, by decide, by decide, fun d H14 hd0 hd1 hp14 hk14 => ?_⟩
    have hs14 := hp13.tk hk14 _ _ hs
    obtain ⟨W, hW⟩ : ∃ W : Nat, 1 + d = (W : Int) := ⟨(1 + d).toNat, by omega⟩
    have hW1 : 1 ≤ W := by omega
    refine fun x dx hx hdx hne => ?_
    refine ⟨W, dx, hW1, by omega, hW, upd_same, fun H15 k15 hb15 => ⟨rfl, ?_⟩⟩
    have e15 := made_same hx hdx k15
    have hs15 := sameT e15 hs14
    refine ⟨_, W, false, hb15, hs15, by rw [List.length_replicate]; omega, hW1, by omega, fun H16 e16 => ?_⟩
    refine ⟨_, .inr (sameT e16 hs15), ?_⟩
    rw [sched_equal hW1, List.length_map, List.length_replicate]
    refine ite2 (fun hf => ?_) (fun _ => ?_)
    · have hf : (!decide (V.int ((min 1 m.toNat : Nat) : Int) = V.int (if ((m.toNat : Nat) : Int) < 1 then ((m.toNat : Nat) : Int) else 1))) = true := hf
      have e : V.int ((min 1 m.toNat : Nat) : Int) = V.int (if ((m.toNat : Nat) : Int) < 1 then ((m.toNat : Nat) : Int) else 1) := by
        congr 1
        split <;> omega
      rw [decide_eq_true e] at hf
      cases hf
    · refine ⟨fun b o hb => ?_, _, _, _, rfl⟩
      have h1 := ne_of_none (e6 _ _ hb) hp0
      exact (e15.trans e16) _ _ (hk14 _ _ h1 (e13 _ _ (hk12 _ _ h1 (e11 _ _ (hk10 _ _ h1 (hk9 _ _ h1 (hk8 _ _ h1 (e7 _ _ (e6 _ _ hb)))))))))
  · exact hQ H6
theorem b_law (T : Tx K mg) : Binds K (fdA K (He.fAd K d_law.at_)) ["_law_cells"] [] := T.F_law.bindsN fun _ _ _ _ _ _ us hl => match us, hl with | [_], _ => rfl
theorem ok_law (T : Tx K mg) : FnG P w K mg base CX0 8 (He.fAd K d_law.at_) (fdA K (He.fAd K d_law.at_)) ["_law_cells"] (sp_law K) :=
  Sp.FunD.okG T.F_law sc_law (fun _ _ _ _ h => on1_len h) (fun cdv A outer s H vs Q E hgd hr h => ⟨t_law K, PSs.nox ((pss_cons (ps_for PassesOwn.never (by rfl) (pi_range1 (by rfl) T.b_range (pa_cons (pe_callB (c_max2 rfl) (by rfl) T.b_max boot_max (pa_cons pe_int (pa_cons (pe_callB (c_min2 rfl) (by rfl) T.b_min boot_min (pa_cons (pe_callB c_len (by rfl) T.b_len boot_len (pa_cons (vv 0) pa_nil)) (pa_cons pe_int pa_nil))) pa_nil))) pa_nil)) (pg_name (i := 1) sc_law.nd rfl (.inl rfl))
      (pss_cons (ps_set (i := 2) sc_law.nd rfl (.inl rfl) (pe_call (ok__law_source T) (hr.mono (by decide)) (by rfl) T.g__law_source T.F__law_source.kp (b__law_source T) .nil pass0 (pa_cons (vv 0) (pa_cons (vv 1) pa_nil))))
      (pss_cons (ps_if (PW.pt (pw_or (pt_not (t_val (e_callG hgd (ok__law_right T) (hr.mono (by decide)) (by rfl) T.g__law_right T.F__law_right.kp (b__law_right T) .nil pass0 (pa_cons (vv 2) (pa_cons pe_int pa_nil))))) (pw_or1 (pt_not (t_val (e_callG hgd (ok__law_right T) (hr.mono (by decide)) (by rfl) T.g__law_right T.F__law_right.kp (b__law_right T) .nil pass0 (pa_cons (vv 2) (pa_cons pe_int pa_nil))))))))
      (pss_one (ps_ret pe_bl)) pss_nil)
      (pss_cons (ps_set (i := 3) sc_law.nd rfl (.inl rfl) (pe_op o_repT (pe_tup (pa_cons (pe_call (ok__law_draw T) (hr.mono (by decide)) (by rfl) T.g__law_draw T.F__law_draw.kp (b__law_draw T) .nil pass0 (pa_cons (vv 2) (pa_cons pe_int pa_nil))) pa_nil)) (pe_call (ok__law_draw T) (hr.mono (by decide)) (by rfl) T.g__law_draw T.F__law_draw.kp (b__law_draw T) .nil pass0 (pa_cons (vv 2) (pa_cons pe_int pa_nil)))))
      (pss_one (ps_if (t_cmp o_ne (pe_call (ok_fewest T) (hr.mono (by decide)) (by rfl) T.g_fewest T.F_fewest.kp (b_fewest T) .nil pass0 (pa_cons (pe_make T.mk_Best (ok_Best_init T) (hr.mono (by decide)) (by rfl) T.g_Best (mb_Best_1 T).choose_spec.2 (mb_Best_1 T).choose_spec.1 pass0 (pa_cons (pe_op o_add pe_int (pe_call (ok__law_draw T) (hr.mono (by decide)) (by rfl) T.g__law_draw T.F__law_draw.kp (b__law_draw T) .nil pass0 (pa_cons (vv 2) (pa_cons pe_int pa_nil)))) pa_nil)) (pa_cons (vv 3) pa_nil))) (pe_callB (c_min2 rfl) (by rfl) T.b_min boot_min (pa_cons pe_int (pa_cons (pe_callB c_len (by rfl) T.b_len boot_len (pa_cons (vv 3) pa_nil)) pa_nil))) (nomark _))
      (pss_one (ps_ret pe_bl)) pss_nil))))))
      (pss_one (ps_ret pe_bl)))), pure_law T vs H Q E h⟩)
end K21
open PySem PySem.W PySem.Calls PyProof.Rows
set_option maxHeartbeats 0 in
theorem PySem.Challenge.cw_spillruns_k21_fewest_by_all_schedules_holds : PySem.Challenge.rw_spillruns_k21_fewest_by_all_schedules.Holds := by
  w_on; o_law
  refine HandSHeadRun.head_any (r := OpenLaw.row PySem.Challenge.rw_spillruns_k21_fewest_by_all_schedules) (q := view (OpenLaw.row PySem.Challenge.rw_spillruns_k21_fewest_by_all_schedules).prog [37]) (H := K21.hk) (ob := K21.ob) (M := 20000) (loose := K21.loose) (d := HandSHeadRun.topDef (OpenLaw.row PySem.Challenge.rw_spillruns_k21_fewest_by_all_schedules).prog 37) (kwd := []) K21.ob_eq
    (by kernel_rfl) (fun s => by kernel_rfl) K21.run (by kernel_rfl) (by kernel_rfl) (by kernel_rfl) (by rfl) (by first | assumption | decide +kernel) (by decide +kernel) ⟨rfl, rfl, rfl, rfl, rfl, by decide +kernel⟩ ?hw ?hc
  case hw => w_witness2
  case hc =>
    refine Sp.walkG (l := PySem.Challenge.rw_spillruns_k21_fewest_by_all_schedules) (n := 63) (k := 8) (x := "_law_cells") rfl (by decide) (by kernel_rfl) ⟨rfl, by decide, by decide⟩ ?F
    intro w mg fa h Y G hmg0
    obtain ⟨K, KX, c⟩ := Y
    have hmg : mg ("law" : PySem.Str) = some (.ref fa) := by
      have e : (HandSHeadRun.topDef (OpenLaw.row PySem.Challenge.rw_spillruns_k21_fewest_by_all_schedules).prog 37).name = ("law" : PySem.Str) := by kernel_rfl
      rw [← e]
      exact hmg0
    have T := K21.tx_of KX G c
    have e := hmg.symm.trans T.g_law
    cases e
    refine ⟨K, KX, K21.fdA K (He.fAd K K21.d_law.at_), K21.sp_law K, (fun s v => (L2.FunD.bindsA (ps := ["_law_cells"]) T.F_law fun _ _ _ _ _ _ us hl => match us, hl with | [_], _ => rfl) s [v] rfl), (fun H a ns hl hS => ⟨ns, hS, hl, fun _ => rfl⟩), fun base => K21.ok_law T⟩



