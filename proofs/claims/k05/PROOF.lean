import PyProof.Rows.All
import Wide.All
import OpenK.AllK
import Wide.FinOn
import KE.KStateDown
import Lean
import HandS.ForMost
import HandS.Defaults
import HandS.Head0
import HandS.Head1
import HandS.Head2
import HandS.HeadEnd
import HandS.HeadHook1
import HandS.HeadHook2
import HandS.HeadHook3
import HandS.HeadHook4
import HandS.HeadWalk
import HandS.EndBits
import HandS.EndTab
import HandS.Property
import HandS.Star
import HandS.FStr
import PyProof.FString
import PyProof.FString4
import KE.KCallOwn
import KE.KOpsOwn
import HandS.WideBits
import HandS.Wide
import PyProof.ReprRoads
import HandS.IsInst
import HandS.Style
import HandS.MakeKw
import HandS.TupAny
import HandS.Conv
import PyProof.LongRange
import KE.GoesMore
import HandS.Zip
import PyProof.TwoTypes
import PyProof.FactsInt
import HandS.Ends
import PyProof.ReprLen
import HandS.NoneIn
import PySem.Challenge.RW_spillruns_k05_whole_algebra_of_forms
set_option Elab.async false
set_option linter.all false
set_option maxRecDepth 100000
set_option maxHeartbeats 4000000
namespace Sp
open PySem PySem.Spec PyProof.Rows L2

section
variable {X : Cx}
theorem OpR.imp {f : Value → Value → Sem Value} {r r' : R2} (h : OpR X f r) (hi : ∀ x y H Q, r' x y H Q → r x y H Q) : OpR X f r' :=
  fun pins s σ H x y v u Q I rx ry q => h pins s σ H x y v u Q I rx ry (hi _ _ _ _ q)
theorem UnR.imp {f : Value → Sem Value} {r r' : V → Hp → VK → Prop} (h : UnR X f r) (hi : ∀ x H Q, r' x H Q → r x H Q) : UnR X f r' :=
  fun pins s σ H x v Q I rx q => h pins s σ H x v Q I rx (hi _ _ _ q)
theorem CallR.imp {f : Value} {r r' : List V → Hp → VK → Prop} (h : CallR X f r) (hi : ∀ xs H Q, r' xs H Q → r xs H Q) : CallR X f r' :=
  fun pins s σ H xs us Q I rx q => h pins s σ H xs us Q I rx (hi _ _ _ q)
theorem IxR.imp {r r' : R2} (h : IxR X r) (hi : ∀ x y H Q, r' x y H Q → r x y H Q) : IxR X r' :=
  fun e1 e2 pins s σ H x y v u Q I rx ry q => h e1 e2 pins s σ H x y v u Q I rx ry (hi _ _ _ _ q)
theorem PSet.imp {r r' : TSet} (h : PSet X r) (hi : ∀ x y z H Q, r' x y z H Q → r x y z H Q) : PSet X r' :=
  fun pins s σ H x y z v u w Q I rx ry rz q => h pins s σ H x y z v u w Q I rx ry rz (hi _ _ _ _ _ q)
theorem PE.imp {e : Expr} {t t' : TE} (h : PE X e t) (hi : ∀ σ H Q, t' σ H Q → t σ H Q) : PE X e t' := ⟨fun pins s σ H Q I q => h.run pins s σ H Q I (hi _ _ _ q)⟩
theorem PS.imp {e : Stmt} {t t' : TS} (h : PS X e t) (hi : ∀ D σ H, t' D σ H → t D σ H) : PS X e t' := ⟨fun pins s σ H D I q => h.run pins s σ H D I (hi _ _ _ q)⟩
end

/-! ### names -/
def at? (σ : L2.St) (i : Nat) : Option V := (σ[i]?).bind id
def fV (i : Nat) : TE := fun σ H Q => match at? σ i with
  | some v => Q v H
  | none => False
section
variable {X : Cx}
theorem vv (i : Nat) {x : Str} {pos : Pos} (hN : X.N[i]? = some x := by rfl) (hv : Vis X.env.scope x := by first | exact Or.inl rfl | exact Or.inr (Or.inl rfl) | exact Or.inr (Or.inr rfl)) (hd : (x == ("__debug__" : Str)) = false := by decide)
    (hcd : (x == ("__classdict__" : Str)) = false := by decide) : PE X (.Name x pos) (fV i) := PE.imp (pe_var hN hv hd hcd) fun σ H Q h => by
  unfold fV at h
  cases e : σ[i]? with
  | none => rw [at?, e] at h; exact h.elim
  | some o =>
    cases o with
    | none => rw [at?, e] at h; exact h.elim
    | some v =>
      rw [at?, e] at h
      exact ⟨v, e, h⟩
end

/-! ### ints -/
def i2 (g : Int → Int → V) : R2 := fun x y H Q => match x, y with
  | .int i, .int j => Q (g i j) H
  | _, _ => False
def i2c (C : Int → Int → Prop) (g : Int → Int → V) : R2 := fun x y H Q => match x, y with
  | .int i, .int j => C i j ∧ Q (g i j) H
  | _, _ => False
def i1 (g : Int → V) : V → Hp → VK → Prop := fun x H Q => match x with
  | .int i => Q (g i) H
  | _ => False
theorem i2_of {g : Int → Int → V} (x y : V) (H : Hp) (Q : VK) (h : i2 g x y H Q) : rI0 g x y H Q := by
  cases x <;> cases y <;> first
    | exact h.elim
    | exact ⟨_, _, rfl, rfl, h⟩
theorem i2c_of {C : Int → Int → Prop} {g : Int → Int → V} (x y : V) (H : Hp) (Q : VK) (h : i2c C g x y H Q) : rI C g x y H Q := by
  cases x <;> cases y <;> first
    | exact h.elim
    | exact ⟨_, _, rfl, rfl, h.1, h.2⟩
theorem i1_of {g : Int → V} (x : V) (H : Hp) (Q : VK) (h : i1 g x H Q) : rU g x H Q := by
  cases x <;> first
    | exact h.elim
    | exact ⟨_, rfl, h⟩
abbrev fAdd : R2 := i2 fun i j => .int (i + j)
abbrev fSub : R2 := i2 fun i j => .int (i - j)
abbrev fMul : R2 := i2c CMul fun i j => .int (i * j)
abbrev fMulW : R2 := i2c CMulW fun i j => .int (i * j)
abbrev fMod : R2 := i2c (fun _ j => 0 < j) fun i j => .int (i % j)
abbrev fDiv : R2 := i2c CDivW fun i j => .int (i / j)
abbrev fDivN : R2 := i2c CDivN fun i j => .int (i.fdiv j)
abbrev fPow : R2 := i2c CPow fun i j => .int (i ^ j.toNat)
abbrev fLt : R2 := i2 fun i j => .bl (decide (i < j))
abbrev fLe : R2 := i2 fun i j => .bl (decide (i ≤ j))
abbrev fGt : R2 := i2 fun i j => .bl (decide (j < i))
abbrev fGe : R2 := i2 fun i j => .bl (decide (j ≤ i))
abbrev fNeg : V → Hp → VK → Prop := i1 fun i => .int (-i)
/-- == of scalars -/
def fEq : R2 := fun x y H Q => match scal x y with
  | true => Q (.bl (decide (x = y))) H
  | false => False
def fNe : R2 := fun x y H Q => match scal x y with
  | true => Q (.bl (!decide (x = y))) H
  | false => False
/-- is None, is not None -/
def fIsN : R2 := fun x y H Q => match y with
  | .non => Q (.bl (decide (x = .non))) H
  | _ => False
def fNotN : R2 := fun x y H Q => match y with
  | .non => Q (.bl (!decide (x = .non))) H
  | _ => False
/-- texts -/
def fAddS : R2 := fun x y H Q => match x, y with
  | .str i, .str j => i.length + j.length ≤ sizeLine ∧ Q (.str (i ++ j)) H
  | _, _ => False
section
variable {X : Cx}
theorem o_add : OpR X (binaryOp .Add) fAdd := OpR.imp op_add i2_of
theorem o_sub : OpR X (binaryOp .Sub) fSub := OpR.imp op_sub i2_of
theorem o_mul : OpR X (binaryOp .Mult) fMul := OpR.imp op_mul i2c_of
theorem o_mulW : OpR X (binaryOp .Mult) fMulW := OpR.imp op_mulW i2c_of
theorem o_mod : OpR X (binaryOp .Mod) fMod := OpR.imp op_mod i2c_of
theorem o_div : OpR X (binaryOp .FloorDiv) fDiv := OpR.imp op_fdivW i2c_of
theorem o_divN : OpR X (binaryOp .FloorDiv) fDivN := OpR.imp op_fdivN i2c_of
theorem o_pow : OpR X (binaryOp .Pow) fPow := OpR.imp op_pow i2c_of
theorem o_lt : OpR X (compareOp .Lt) fLt := OpR.imp op_lt i2_of
theorem o_le : OpR X (compareOp .LtE) fLe := OpR.imp op_le i2_of
theorem o_gt : OpR X (compareOp .Gt) fGt := OpR.imp op_gt i2_of
theorem o_ge : OpR X (compareOp .GtE) fGe := OpR.imp op_ge i2_of
theorem o_neg : UnR X (unaryOp .USub) fNeg := UnR.imp un_neg i1_of
theorem o_eq : OpR X (compareOp .Eq) fEq := OpR.imp op_eq fun x y H Q h => by
  unfold fEq at h
  cases e : scal x y with
  | true => rw [e] at h; exact ⟨e, h⟩
  | false => rw [e] at h; exact h.elim
theorem o_ne : OpR X (compareOp .NotEq) fNe := OpR.imp op_ne fun x y H Q h => by
  unfold fNe at h
  cases e : scal x y with
  | true => rw [e] at h; exact ⟨e, h⟩
  | false => rw [e] at h; exact h.elim
theorem o_isN : OpR X (compareOp .Is) fIsN := OpR.imp op_isN fun x y H Q h => by
  cases y <;> first
    | exact h.elim
    | exact ⟨rfl, h⟩
theorem o_notN : OpR X (compareOp .IsNot) fNotN := OpR.imp op_notN fun x y H Q h => by
  cases y <;> first
    | exact h.elim
    | exact ⟨rfl, h⟩
theorem o_addS : OpR X (binaryOp .Add) fAddS := OpR.imp op_add_str fun x y H Q h => by
  cases x <;> cases y <;> first
    | exact h.elim
    | exact ⟨_, _, rfl, rfl, h.1, h.2⟩
end

/-! ### tests -/
def onB (x : V) (k : Bool → Prop) : Prop := match x with
  | .bl b => k b
  | _ => False
theorem onB_ex {x : V} {k : Bool → Prop} (h : onB x k) : ∃ b, x = .bl b ∧ k b := by
  cases x <;> first
    | exact h.elim
    | exact ⟨_, rfl, h⟩
def fT (t : TE) : TT := fun σ H Q => t σ H fun x H' => onB x fun k => Q k H'
def fChain (r r' : R2) (ta tb tc : TE) : TE := fun σ H Q => ta σ H fun x H1 => tb σ H1 fun y H2 => r x y H2 fun z H3 => onB z fun k =>
  (if k = true then tc σ H3 fun w' H4 => r' y w' H4 Q else Q (.bl false) H3)
def fAndV (ta tb : TE) : TE := fun σ H Q => ta σ H fun x H1 => onB x fun c => if c = true then tb σ H1 Q else Q (.bl false) H1
def fOrV (ta tb : TE) : TE := fun σ H Q => ta σ H fun x H1 => onB x fun c => if c = true then Q (.bl true) H1 else tb σ H1 Q
def fNotV (ta : TE) : TE := fun σ H Q => ta σ H fun x H1 => onB x fun c => Q (.bl (!c)) H1
section
variable {X : Cx} {a b c : Expr} {ta tb tc : TE} {pos : Pos} {rest : List Expr}
theorem t_cmp {op : CmpOp} {r : R2} (ho : OpR X (compareOp op) r) (ha : PE X a ta) (hb : PE X b tb) (hm : behindInMarks op b = false) : PT X (.Compare a [op] [b] pos) (fT (tOp r ta tb)) := by
  refine ⟨fun pins s σ H Q I h => ?_⟩
  refine wpAny_isTrue_Compare1 (thn (ha.run pins s σ H _ I h) fun v s1 ⟨x, H1, I1, r1, q1⟩ => thn (hb.run pins s1 σ H1 _ I1 q1) fun u s2 ⟨y, H2, I2, r2, q2⟩ =>
    thn (ho pins s2 σ H2 x y v u _ I2 r1 r2 q2) fun c s3 ⟨z, H3, I3, r3, q3⟩ => ?_) hm
  obtain ⟨k, rfl, q3⟩ := onB_ex q3
  cases r3
  exact wpAny_truthy_bool ⟨H3, I3, q3⟩
theorem t_val {e : Expr} {t : TE} (h : PE X e t) (he : ∀ whole, isTrue e X.env whole = (do let v ← whole; standAt e.pos; holding [v] (truthy v)) := by intro _; rfl) : PT X e (fT t) := by
  refine ⟨fun pins s σ H Q I hw => ?_⟩
  refine isTrue_plain (thn (h.run pins s σ H _ I hw) fun v s1 ⟨x, H1, I1, r1, q1⟩ => ?_) (he _)
  obtain ⟨k, rfl, q⟩ := onB_ex q1
  cases r1
  exact wpAny_truthy_bool ⟨H1, I1, q⟩
theorem e_chain {op op' : CmpOp} {r r' : R2} (ho : OpR X (compareOp op) r) (ho' : OpR X (compareOp op') r') (ha : PE X a ta) (hb : PE X b tb) (hc : PE X c tc)
    (hm : lastMarks [op, op'] [b, c] = false := by with_unfolding_all rfl) : PE X (.Compare a [op, op'] [b, c] pos) (fChain r r' ta tb tc) := by
  refine ⟨fun pins s σ H Q I h => ?_⟩
  refine Compare_chain (thn (ha.run pins s σ H _ I h) fun v s1 ⟨x, H1, I1, r1, q1⟩ => chain_link (thn (hb.run pins s1 σ H1 _ I1 q1) fun u s2 ⟨y, H2, I2, r2, q2⟩ =>
    thn (ho pins s2 σ H2 x y v u _ I2 r1 r2 q2) fun d s3 ⟨z, H3, I3, r3, q3⟩ => ?_)) hm
  obtain ⟨k, rfl, q3⟩ := onB_ex q3
  cases r3
  refine wpAny_truthy_bool ?_
  cases k with
  | false => exact ite_ff ⟨.bl false, H3, I3, rfl, q3⟩
  | true => exact ite_tt (chain_last (thn (hc.run pins s3 σ H3 _ I3 q3) fun w' s4 ⟨z', H4, I4, r4, q4⟩ => ho' pins s4 σ H4 y z' u w' Q I4 r2 r4 q4))
theorem t_chain {op op' : CmpOp} {r r' : R2} (ho : OpR X (compareOp op) r) (ho' : OpR X (compareOp op') r') (ha : PE X a ta) (hb : PE X b tb) (hc : PE X c tc)
    (hm : lastMarks [op, op'] [b, c] = false := by with_unfolding_all rfl) : PT X (.Compare a [op, op'] [b, c] pos) (fT (fChain r r' ta tb tc)) := by
  refine ⟨fun pins s σ H Q I h => ?_⟩
  refine isTrue_chain (thn (ha.run pins s σ H _ I h) fun v s1 ⟨x, H1, I1, r1, q1⟩ => test_link (thn (hb.run pins s1 σ H1 _ I1 q1) fun u s2 ⟨y, H2, I2, r2, q2⟩ =>
    thn (ho pins s2 σ H2 x y v u _ I2 r1 r2 q2) fun d s3 ⟨z, H3, I3, r3, q3⟩ => ?_)) hm
  obtain ⟨k, rfl, q3⟩ := onB_ex q3
  cases r3
  refine wpAny_truthy_bool ?_
  cases k with
  | false => exact ite_ff ⟨H3, I3, q3⟩
  | true =>
    refine ite_tt (test_last (thn (hc.run pins s3 σ H3 _ I3 q3) fun w' s4 ⟨z', H4, I4, r4, q4⟩ => thn (ho' pins s4 σ H4 y z' u w' _ I4 r2 r4 q4) fun d' s5 ⟨z2, H5, I5, r5, q5⟩ => ?_))
    obtain ⟨k2, rfl, q5⟩ := onB_ex q5
    cases r5
    exact wpAny_truthy_bool ⟨H5, I5, q5⟩
theorem e_and (ha : PE X a ta) (hb : PE X (.BoolOp .And (b :: rest) pos) tb) : PE X (.BoolOp .And (a :: b :: rest) pos) (fAndV ta tb) := by
  refine ⟨fun pins s σ H Q I h => ?_⟩
  refine BoolOp_and (thn (ha.run pins s σ H _ I h) fun v s1 ⟨x, H1, I1, r1, q1⟩ => ?_)
  obtain ⟨c, rfl, q1⟩ := onB_ex q1
  cases r1
  refine wpAny_truthy_bool ?_
  cases c with
  | true => exact hb.run pins s1 σ H1 Q I1 q1
  | false => exact ⟨.bl false, H1, I1, rfl, q1⟩
theorem e_or (ha : PE X a ta) (hb : PE X (.BoolOp .Or (b :: rest) pos) tb) : PE X (.BoolOp .Or (a :: b :: rest) pos) (fOrV ta tb) := by
  refine ⟨fun pins s σ H Q I h => ?_⟩
  refine BoolOp_or (thn (ha.run pins s σ H _ I h) fun v s1 ⟨x, H1, I1, r1, q1⟩ => ?_)
  obtain ⟨c, rfl, q1⟩ := onB_ex q1
  cases r1
  refine wpAny_truthy_bool ?_
  cases c with
  | false => exact hb.run pins s1 σ H1 Q I1 q1
  | true => exact ⟨.bl true, H1, I1, rfl, q1⟩
theorem e_not (ha : PE X a ta) : PE X (.UnaryOp .Not a pos) (fNotV ta) := by
  refine ⟨fun pins s σ H Q I h => ?_⟩
  refine UnaryOp_ (thn (ha.run pins s σ H _ I h) fun v s1 ⟨x, H1, I1, r1, q1⟩ => ?_)
  obtain ⟨c, rfl, q1⟩ := onB_ex q1
  cases r1
  exact not_of (wpAny_truthy_bool ⟨.bl (!c), H1, I1, rfl, q1⟩)
end

/-! ### items, slices -/
/-- an item of a list, of a tuple, of a text -/
def onRef (x : V) (k : Addr → Prop) : Prop := match x with
  | .ref a => k a
  | _ => False
theorem onRef_ex {x : V} {k : Addr → Prop} (h : onRef x k) : ∃ b, x = .ref b ∧ k b := by
  cases x <;> first
    | exact h.elim
    | exact ⟨_, rfl, h⟩
def onInt (x : V) (k : Int → Prop) : Prop := match x with
  | .int a => k a
  | _ => False
theorem onInt_ex {x : V} {k : Int → Prop} (h : onInt x k) : ∃ b, x = .int b ∧ k b := by
  cases x <;> first
    | exact h.elim
    | exact ⟨_, rfl, h⟩
def onStr (x : V) (k : Str → Prop) : Prop := match x with
  | .str a => k a
  | _ => False
theorem onStr_ex {x : V} {k : Str → Prop} (h : onStr x k) : ∃ b, x = .str b ∧ k b := by
  cases x <;> first
    | exact h.elim
    | exact ⟨_, rfl, h⟩
def fIxL (K : PySem.W.Frag) : R2 := fun x y H Q => onRef x fun p => onInt y fun i => ∃ xs, SqL K H p xs ∧ ∃ v, atI xs i = some v ∧ Q v H
def fIxT (K : PySem.W.Frag) : R2 := fun x y H Q => onRef x fun p => onInt y fun i => ∃ xs, SqT K H p xs ∧ ∃ v, atI xs i = some v ∧ Q v H
def fSetL : V → V → V → Hp → (Hp → Prop) → Prop := fun o i v H Q => onRef o fun p => onInt i fun k => ∃ xs, H p = some (.lst xs) ∧ ∃ j, ixN xs.length k = some j ∧ Q (upd H p (.lst (xs.set j v)))
def fCatL : R2 := fun x y H Q => onRef x fun l => onRef y fun b => ∃ xs zs, H l = some (.lst xs) ∧ H b = some (.lst zs) ∧ xs.length + zs.length ≤ sizeLine ∧ ∀ p, H p = none → Q (.ref p) (upd H p (.lst (xs ++ zs)))
section
variable {X : Cx}
theorem x_list : IxR X (fIxL X.K) := IxR.imp ix_list fun x y H Q h => by
  obtain ⟨p, rfl, h1⟩ := onRef_ex h
  obtain ⟨i, rfl, xs, h2, v, h3, h4⟩ := onInt_ex h1
  exact ⟨p, xs, i, v, rfl, rfl, h2, h3, h4⟩
theorem x_tup : IxR X (fIxT X.K) := IxR.imp ix_tup fun x y H Q h => by
  obtain ⟨p, rfl, h1⟩ := onRef_ex h
  obtain ⟨i, rfl, xs, h2, v, h3, h4⟩ := onInt_ex h1
  exact ⟨p, xs, i, v, rfl, rfl, h2, h3, h4⟩
theorem s_list : PSet X fSetL := PSet.imp set_list fun o i v H Q h => by
  obtain ⟨p, rfl, h1⟩ := onRef_ex h
  obtain ⟨k, rfl, xs, h2, j, h3, h4⟩ := onInt_ex h1
  exact ⟨p, xs, k, j, rfl, rfl, h2, h3, h4⟩
theorem o_catL : OpR X (binaryOp .Add) fCatL := OpR.imp op_cat fun x y H Q h => by
  obtain ⟨l, rfl, h1⟩ := onRef_ex h
  obtain ⟨b, rfl, xs, zs, h2⟩ := onRef_ex h1
  exact ⟨l, b, xs, zs, rfl, rfl, h2⟩
end

/-! ### calls of builtins -/
def on1 (xs : List V) (k : V → Prop) : Prop := match xs with
  | [x] => k x
  | _ => False
theorem on1_ex {xs : List V} {k : V → Prop} (h : on1 xs k) : ∃ x, xs = [x] ∧ k x := by
  cases xs with
  | nil => exact h.elim
  | cons x r =>
    cases r with
    | nil => exact ⟨_, rfl, h⟩
    | cons _ _ => exact h.elim
def on2 (xs : List V) (k : V → V → Prop) : Prop := match xs with
  | [x, y] => k x y
  | _ => False
theorem on2_ex {xs : List V} {k : V → V → Prop} (h : on2 xs k) : ∃ x y, xs = [x, y] ∧ k x y := by
  cases xs with
  | nil => exact h.elim
  | cons x r =>
    cases r with
    | nil => exact h.elim
    | cons y r =>
      cases r with
      | nil => exact ⟨_, _, rfl, h⟩
      | cons _ _ => exact h.elim
def fLen (K : PySem.W.Frag) : List V → Hp → VK → Prop := fun xs H Q => on1 xs fun x => match x with
  | .str y => y.length ≤ sizeLine ∧ Q (.int y.length) H
  | .ref p => ∃ ys, (SqL K H p ys ∨ SqT K H p ys) ∧ Q (.int ys.length) H
  | _ => False
def fInt1 : List V → Hp → VK → Prop := fun xs H Q => on1 xs fun x => match x with
  | .int i => Q (.int i) H
  | .bl k => Q (.int (if k then 1 else 0)) H
  | _ => False
def fAbs : List V → Hp → VK → Prop := fun xs H Q => on1 xs fun x => onInt x fun i => Q (.int (if i < 0 then -i else i)) H
def fMax2 : List V → Hp → VK → Prop := fun xs H Q => on2 xs fun x y => onInt x fun i => onInt y fun j => Q (.int (if j > i then j else i)) H
def fMin2 : List V → Hp → VK → Prop := fun xs H Q => on2 xs fun x y => onInt x fun i => onInt y fun j => Q (.int (if j < i then j else i)) H
def fDivmod : List V → Hp → VK → Prop := fun xs H Q => on2 xs fun x y => onInt x fun i => onInt y fun j => CDivW i j ∧ ∀ p, H p = none → Q (.ref p) (upd H p (.tup [.int (i / j), .int (i % j)]))
def fStrI : List V → Hp → VK → Prop := fun xs H Q => on1 xs fun x => onInt x fun i => i.natAbs.log2 < 1920 ∧ Q (.str (toString i)) H
def fTupOfL (K : PySem.W.Frag) : List V → Hp → VK → Prop := fun xs H Q => on1 xs fun x => onRef x fun p => ∃ ys, SqL K H p ys ∧ ∀ l, H l = none → Q (.ref l) (upd H l (.tup ys))
def fLstOf (K : PySem.W.Frag) : List V → Hp → VK → Prop := fun xs H Q => on1 xs fun x => onRef x fun p => ∃ ys, (SqL K H p ys ∨ SqT K H p ys) ∧ ∀ l, H l = none → Q (.ref l) (upd H l (.lst ys))
def fAll (K : PySem.W.Frag) : List V → Hp → VK → Prop := fun xs H Q => on1 xs fun x => onRef x fun p => ∃ bs : List Bool, SqL K H p (bs.map V.bl) ∧ Q (.bl (bs.all id)) H
section
variable {X : Cx}
theorem c_len : CallR X (.builtin "len") (fLen X.K) := fun pins s σ H xs us Q I r h => by
  obtain ⟨x, rfl, h⟩ := on1_ex h
  cases x with
  | str y => exact call_len_str pins s σ H _ us Q I r ⟨y, rfl, h.1, h.2⟩
  | ref p =>
    obtain ⟨ys, h1, h2⟩ := h
    exact call_len_seq pins s σ H _ us Q I r ⟨p, ys, rfl, h1, h2⟩
  | _ => exact h.elim
theorem c_int1 : CallR X (.type "int") fInt1 := fun pins s σ H xs us Q I r h => by
  obtain ⟨x, rfl, h⟩ := on1_ex h
  cases x with
  | int i => exact call_int1 pins s σ H _ us Q I r (.inl ⟨i, rfl, h⟩)
  | bl k => exact call_int1 pins s σ H _ us Q I r (.inr ⟨k, rfl, h⟩)
  | _ => exact h.elim
theorem c_abs : CallR X (.builtin "abs") fAbs := CallR.imp call_abs fun xs H Q h => by
  obtain ⟨x, rfl, h⟩ := on1_ex h
  obtain ⟨i, rfl, h⟩ := onInt_ex h
  exact ⟨i, rfl, h⟩
theorem c_max2 (hc : X.calm = true) : CallR X (.builtin "max") fMax2 := CallR.imp (call_max2 hc) fun xs H Q h => by
  obtain ⟨x, y, rfl, h⟩ := on2_ex h
  obtain ⟨i, rfl, h⟩ := onInt_ex h
  obtain ⟨j, rfl, h⟩ := onInt_ex h
  exact ⟨i, j, rfl, h⟩
theorem c_min2 (hc : X.calm = true) : CallR X (.builtin "min") fMin2 := CallR.imp (call_min2 hc) fun xs H Q h => by
  obtain ⟨x, y, rfl, h⟩ := on2_ex h
  obtain ⟨i, rfl, h⟩ := onInt_ex h
  obtain ⟨j, rfl, h⟩ := onInt_ex h
  exact ⟨i, j, rfl, h⟩
theorem c_divmod : CallR X (.builtin "divmod") fDivmod := CallR.imp call_divmodW fun xs H Q h => by
  obtain ⟨x, y, rfl, h⟩ := on2_ex h
  obtain ⟨i, rfl, h⟩ := onInt_ex h
  obtain ⟨j, rfl, h, q⟩ := onInt_ex h
  exact ⟨i, j, rfl, ⟨h.1, PyProof.noPylong_of_log2 h.2⟩, q⟩
theorem c_strI : CallR X (.type "str") fStrI := CallR.imp call_str_int fun xs H Q h => by
  obtain ⟨x, rfl, h⟩ := on1_ex h
  obtain ⟨i, rfl, h⟩ := onInt_ex h
  exact ⟨i, rfl, h⟩
theorem c_tupL : CallR X (.type "tuple") (fTupOfL X.K) := CallR.imp call_tuple_of fun xs H Q h => by
  obtain ⟨x, rfl, h⟩ := on1_ex h
  obtain ⟨p, rfl, ys, h1, h2⟩ := onRef_ex h
  exact ⟨p, ys, rfl, .inl ⟨h1, h2⟩⟩
theorem c_list : CallR X (.type "list") (fLstOf X.K) := CallR.imp call_list_of fun xs H Q h => by
  obtain ⟨x, rfl, h⟩ := on1_ex h
  obtain ⟨p, rfl, ys, h1, h2⟩ := onRef_ex h
  exact ⟨p, ys, rfl, h1, h2⟩
theorem c_all (hc : X.calm = true) : CallR X (.builtin "all") (fAll X.K) := CallR.imp (cr_all hc) fun xs H Q h => by
  obtain ⟨x, rfl, h⟩ := on1_ex h
  obtain ⟨p, rfl, bs, h1, h2⟩ := onRef_ex h
  exact ⟨p, bs, rfl, h1, h2⟩
end

/-! ### repr of data -/
/-- data at x, shown as y -/
def ShownAs (K : PySem.W.Frag) (H : Hp) (x : V) (y : Str) : Prop := ∃ d, Dp K H x d ∧ isDisplay d = true ∧ d.showable = true ∧ d.depth ≤ 60 ∧ d.shown.length ≤ sizeLine ∧ d.shown = y
def fRepr (K : PySem.W.Frag) : List V → Hp → VK → Prop := fun xs H Q => on1 xs fun x => ∃ y, ShownAs K H x y ∧ Q (.str y) H
theorem dp_noDict {K : PySem.W.Frag} {H : Hp} : ∀ (d : PyData) (v : V), Dp K H v d → d.hasDict = false := by
  intro d v h
  refine Dp.rec (motive_1 := fun v d _ => d.hasDict = false) (motive_2 := fun vs ds _ => PyData.hasDictAll ds = false) ?_ ?_ ?_ ?_ ?_ ?_ ?_ ?_ h
  · rfl
  · intro b; rfl
  · intro b; rfl
  · intro b; rfl
  · intro a xs ds _ _ ih; simpa [PyData.hasDict] using ih
  · intro a xs ds _ _ ih; simpa [PyData.hasDict] using ih
  · rfl
  · intro v vs d ds _ _ h1 h2; simp [PyData.hasDictAll, h1, h2]
section
variable {X : Cx}
theorem c_repr (hg : X.A.guards = some []) (hu : X.A.units + 64 < cLine) : CallR X (.builtin "repr") (fRepr X.K) := fun pins s σ H xs us Q I r h => by
  obtain ⟨x, rfl, _, ⟨d, hd, h1, h2, h3, h4, rfl⟩, q⟩ := on1_ex h
  obtain ⟨u, rfl, rx⟩ := vals1 r
  obtain ⟨as, rd⟩ := Dp.reads I d x u hd rx
  obtain ⟨a, rfl⟩ := isRef_of_reads rd h1
  exact repr_of_reads' rd h2 (PyData.noDict_hsm (dp_noDict _ _ hd)) hg (by omega) (fun _ _ e => e) (fun h' u tk hk => ⟨.str d.shown, H, I.kept hk, ⟨_, rfl⟩, q⟩) h4
end
/-! ### promises by number of arguments -/
theorem on1_len {xs : List V} {k : V → Prop} (h : on1 xs k) : xs.length = 1 := by
  obtain ⟨_, rfl, _⟩ := on1_ex h
  rfl
theorem on2_len {xs : List V} {k : V → V → Prop} (h : on2 xs k) : xs.length = 2 := by
  obtain ⟨_, _, rfl, _⟩ := on2_ex h
  rfl
def on0 (xs : List V) (k : Prop) : Prop := match xs with
  | [] => k
  | _ => False
theorem on0_ex {xs : List V} {k : Prop} (h : on0 xs k) : xs = [] ∧ k := by
  cases xs with
  | nil => exact ⟨rfl, h⟩
  | cons _ _ => exact h.elim
theorem on0_len {xs : List V} {k : Prop} (h : on0 xs k) : xs.length = 0 := by
  obtain ⟨rfl, _⟩ := on0_ex h
  rfl
def on3 (xs : List V) (k : V → V → V → Prop) : Prop := match xs with
  | [x, y, z] => k x y z
  | _ => False
theorem on3_ex {xs : List V} {k : V → V → V → Prop} (h : on3 xs k) : ∃ x y z, xs = [x, y, z] ∧ k x y z := by
  match xs, h with
  | [x, y, z], h => exact ⟨x, y, z, rfl, h⟩
  | [], h => exact h.elim
  | [_], h => exact h.elim
  | [_, _], h => exact h.elim
  | _ :: _ :: _ :: _ :: _, h => exact h.elim
theorem on3_len {xs : List V} {k : V → V → V → Prop} (h : on3 xs k) : xs.length = 3 := by
  obtain ⟨_, _, _, rfl, _⟩ := on3_ex h
  rfl
def on4 (xs : List V) (k : V → V → V → V → Prop) : Prop := match xs with
  | [x, y, z, u] => k x y z u
  | _ => False
theorem on4_ex {xs : List V} {k : V → V → V → V → Prop} (h : on4 xs k) : ∃ x y z u, xs = [x, y, z, u] ∧ k x y z u := by
  match xs, h with
  | [x, y, z, u], h => exact ⟨x, y, z, u, rfl, h⟩
  | [], h => exact h.elim
  | [_], h => exact h.elim
  | [_, _], h => exact h.elim
  | [_, _, _], h => exact h.elim
  | _ :: _ :: _ :: _ :: _ :: _, h => exact h.elim
theorem on4_len {xs : List V} {k : V → V → V → V → Prop} (h : on4 xs k) : xs.length = 4 := by
  obtain ⟨_, _, _, _, rfl, _⟩ := on4_ex h
  rfl
def on5 (xs : List V) (k : V → V → V → V → V → Prop) : Prop := match xs with
  | [x, y, z, u, t] => k x y z u t
  | _ => False
theorem on5_ex {xs : List V} {k : V → V → V → V → V → Prop} (h : on5 xs k) : ∃ x y z u t, xs = [x, y, z, u, t] ∧ k x y z u t := by
  match xs, h with
  | [x, y, z, u, t], h => exact ⟨x, y, z, u, t, rfl, h⟩
  | [], h => exact h.elim
  | [_], h => exact h.elim
  | [_, _], h => exact h.elim
  | [_, _, _], h => exact h.elim
  | [_, _, _, _], h => exact h.elim
  | _ :: _ :: _ :: _ :: _ :: _ :: _, h => exact h.elim
theorem on5_len {xs : List V} {k : V → V → V → V → V → Prop} (h : on5 xs k) : xs.length = 5 := by
  obtain ⟨_, _, _, _, _, rfl, _⟩ := on5_ex h
  rfl

/-! ### defs that are called where nothing is being shown (repr asks that) -/
structure FnG (P : Program) (w : World) (K : PySem.W.Frag) (mg : Str → Option Value) (base : Heap) (CX : CXT) (k : Nat) (f : Addr) (fd : FuncData) (ps : List Str) (sp : Sp) : Prop where
  len : ∀ vs H Q E, sp vs H Q E → vs.length = ps.length
  run : ∀ (A : Around) (outer : List Env) (s : Shared) (H : Hp) (args : Args) (us : List Value) (vs : List V) (Q : VK) (E : XK), A.guards = some [] → Room k A → Env0 P w K mg base A outer s H → BindsTo s fd args (ps.zip us) → Vals vs us → sp vs H Q E →
    codeAny (model P w) A (.call (.ref f) args) (CR CX outer P w H s Q E) s
section
variable {P : Program} {w : World} {K : PySem.W.Frag} {mg : Str → Option Value} {base : Heap} {CX : CXT} {k : Nat} {f : Addr} {fd : FuncData} {ps : List Str} {sp : Sp}
theorem gOk (F : FnOk P w K mg base CX k f fd ps sp) : FnG P w K mg base CX k f fd ps sp := ⟨F.len, fun A outer s H args us vs Q E _ hr => F.run A outer s H args us vs Q E hr⟩
end
theorem fnG_of {CX : CXT} {P : Program} {w : World} {K : PySem.W.Frag} {mg : Str → Option Value} {base : Heap} {k : Nat} {f : Addr} {name qual : Str} {params : Arguments} {body : List Stmt} {scope : Scope} {dV kV doc pm cdv ct oc : Value} {an od : Option Addr}
    {osl : Array (Option Value)} {N ps : List Str} {sp : Sp} (lk : K.lookup f = some ⟨oc, od, .func (PySem.W.fnOf name qual params body scope dV kV doc pm an cdv ct), osl⟩) (hcd : PySem.W.codeIn K cdv qual = true) (S : FnScope N ps scope)
    (len : ∀ vs H Q E, sp vs H Q E → vs.length = ps.length)
    (hbody : ∀ (A : Around) (outer : List Env) (s : Shared) (H : Hp) (vs : List V) (Q : VK) (E : XK), A.guards = some [] → Room k (A.deeper (envOfC qual scope s.heap.objs.size f cdv)) → sp vs H Q E →
      ∃ t, PSs (cxOf CX P w K mg base N qual scope f cdv A outer s H E) body t ∧ t { nx := fun _ H' => Q .non H', rt := Q } (L2.start N vs) H) :
    FnG P w K mg base CX (k + 1) f (PySem.W.fnOf name qual params body scope dV kV doc pm an cdv ct) ps sp := by
  refine ⟨len, fun A outer s H args us vs Q E hgd hr e0 hb r hsp => ?_⟩
  have hl := len _ _ _ _ hsp
  have KX : K.In s.heap := e0.mod.kin.keeps fun b o e => (e0.bs b o e).1
  have kinds : ∀ y ∈ ps.zip us, scope.names.lookup y.1 = some .local ∨ (scope.names.lookup y.1 = some .cell ∧ ((cellsFrom (s.heap.objs.size + 1) scope.names []).lookup y.1).isSome = true) := by
    rintro ⟨n, v⟩ hy
    exact (S.par n (List.of_mem_zip hy).1).imp id fun z => ⟨z, PySem.W.cellsFrom_some _ _ _ (.inl z)⟩
  refine codeAny_call_function hr.depth (KX _ _ lk) rfl S.co S.gen rfl (PySem.W.codeRec_of KX hcd) (hb _ _ _ _ (wpAny_newFunctionEnv_cells S.kind kinds fun env he s1 x => ?_))
  subst he
  refine ⟨(e0.mod.nolimit.keeps fun b o e => (e0.bs b o e).1).keeps x.toInCall.keep, codeAny_func ?_⟩
  obtain ⟨t, ht, hq⟩ := hbody A outer s H vs Q E hgd (hr.deeper _) hsp
  refine wpAny_mono (ht.run [] s1 (L2.start N vs) H _ (inv_start S hr.hd e0 hl r x) hq) (fun fl s' hs => ?_) fun e s' hs => hs
  cases fl with
  | ret u =>
    obtain ⟨v, _, H', J, rv, q⟩ := hs
    exact ⟨v, H', J.os, J.bare, J.base, J.hok, rv, q⟩
  | next =>
    obtain ⟨_, H', J, q⟩ := hs
    exact ⟨V.non, H', J.os, J.bare, J.base, J.hok, rfl, q⟩
  | brk => exact (hs.choose_spec.choose_spec.2 : False).elim
  | cont => exact (hs.choose_spec.choose_spec.2 : False).elim
theorem FunD.okG {P : Program} {w : World} {K : PySem.W.Frag} {mg : Str → Option Value} {base : Heap} {x qual : Str} {params : Arguments} {body : List Stmt} {scope : Scope} {dvs : List V} {kws : List (Str × V)} {f : Addr} {fd : FuncData} {CX : CXT} {N ps : List Str} {k : Nat} {sp : Sp}
    (F : FunD K x qual params body scope dvs kws f fd) (S : FnScope N ps scope) (len : ∀ vs H Q E, sp vs H Q E → vs.length = ps.length)
    (hbody : ∀ (cdv : Value) (A : Around) (outer : List Env) (s : Shared) (H : Hp) (vs : List V) (Q : VK) (E : XK), A.guards = some [] → Room k (A.deeper (envOfC qual scope s.heap.objs.size f cdv)) → sp vs H Q E →
      ∃ t, PSs (cxOf CX P w K mg base N qual scope f cdv A outer s H E) body t ∧ t { nx := fun _ H' => Q .non H', rt := Q } (L2.start N vs) H) : FnG P w K mg base CX (k + 1) f fd ps sp := by
  obtain ⟨oc, od, dV, kV, doc, pm, an, cdv, ct, osl, rfl, lk, hcd, _, _⟩ := F.ex
  exact fnG_of lk hcd S len fun A outer s H vs Q E hg hr hsp => hbody cdv A outer s H vs Q E hg hr hsp
section
variable {X : Cx} {CX : CXT} {k : Nat} {f C : Addr} {fd : FuncData} {ps : List Str} {sp : Sp} {dvs : List V} {ds : List Value} {E : XK} {x m : Str} {p pos apos : Pos} {e o : Expr} {es : List Expr} {ta : TE} {t : TA}
theorem run_fnG {pins : List (Addr × Obj)} {σ : L2.St} {H : Hp} {s : Shared} {Q : VK} {us : List Value} {vs : List V} (hgd : X.A.guards = some []) (F : FnG X.prog X.w X.K X.mg X.base CX k f fd ps sp) (hr : Room k X.A) (hb : Binds X.K fd ps ds) (hd : Vals dvs ds) (hx : Passes CX X E)
    (I : L2.Inv X pins σ H s) (r : Vals vs us) (h : sp (vs ++ dvs) H Q E) : wpAny (model X.prog X.w) X.A (call (.ref f) us) (EP X pins σ Q) X.xe s := by
  have r2 : Vals (vs ++ dvs) (us ++ ds) := r.append hd
  refine wpAny_call (codeAny_mono (F.run X.A X.stack s H ⟨us, []⟩ (us ++ ds) (vs ++ dvs) Q E hgd hr I.env0 (hb s us I.kIn (by rw [← r2.length]; exact F.len _ _ _ _ h)) r2 h) fun res s' hq => ?_)
  match res, hq with
  | .error e, hq => exact hx pins σ H s e s' I hq
  | .ok (.ret u), hq => exact I.after hq
  | .ok .next, hq => exact hq.elim
  | .ok .brk, hq => exact hq.elim
  | .ok .cont, hq => exact hq.elim
theorem e_callG (hgd : X.A.guards = some []) (F : FnG X.prog X.w X.K X.mg X.base CX k f fd ps sp) (hr : Room k X.A) (hg : Gl X x) (hm : X.mg x = some (.ref f)) (hk : PySem.W.keepIn X.K (.ref f) = true) (hb : Binds X.K fd ps ds) (hd : Vals dvs ds) (hx : Passes CX X E)
    (ha : PA X (e :: es) t) (hdb : (x == ("__debug__" : Str)) = false := by decide) (he : starEach (e :: es) X.env = (false, eval e X.env) :: starEach es X.env := by rfl) (hpl : (backTo pos (starEach es X.env)).any (·.1) = false := by rfl) :
    PE X (.Call (.Name x p) (e :: es) [] pos) (tCall sp dvs E t) :=
  ⟨fun pins s σ H Q I h => wpAny_Call_Name_kw (ld_glob I hg hm (PySem.W.callWith_K (h₀ := X.base) I.ok.mod.kin hk (thn (ha.run pos pins s σ H _ I h) fun us s1 ⟨vs, H1, I1, r, q⟩ => ⟨I1.kIn, run_fnG hgd F hr hb hd hx I1 r q⟩) he hpl) hdb)⟩
theorem e_call0G (hgd : X.A.guards = some []) (F : FnG X.prog X.w X.K X.mg X.base CX k f fd ps sp) (hr : Room k X.A) (hg : Gl X x) (hm : X.mg x = some (.ref f)) (hk : PySem.W.keepIn X.K (.ref f) = true) (hb : Binds X.K fd ps ds) (hd : Vals dvs ds) (hx : Passes CX X E)
    (hdb : (x == ("__debug__" : Str)) = false := by decide) : PE X (.Call (.Name x p) [] [] pos) (tCall sp dvs E tNil) :=
  ⟨fun pins s σ H Q I h => wpAny_Call_Name_kw (ld_glob I hg hm (PySem.W.callWith_K0 I.kIn hk (run_fnG (us := []) hgd F hr hb hd hx I .nil h)) hdb)⟩
end
end Sp
namespace Sp
open PySem PySem.Spec PyProof.Rows L2

/-! ### enumerate(tuple) -/
theorem meets_enumT (l : Addr) (items : Array Value) (n : Nat) (dct : Option Addr) (sl : Array (Option Value)) :
    Meets (Builtin.«enumerate.__new__» ⟨[.type "enumerate", .ref l], []⟩) (fun _ R s => s.heap.get? l = some { cls := .type "tuple", dict := dct, data := .seq items n, slots := sl } ∧
      R (.ok (.ret (.ref (s.heap.push { cls := .type "tuple_iterator", data := .fields #[.ref l, .int 0 0] }).objs.size)))
        { s with heap := (s.heap.push { cls := .type "tuple_iterator", data := .fields #[.ref l, .int 0 0] }).push { cls := .type "enumerate", data := .fields #[.none, .bool false, .ref s.heap.objs.size, rawInt 0, .none, .none] } }) :=
  .of_wp fun prog w A R s h => by
    obtain ⟨hp, g, d, tk, os⟩ := s
    obtain ⟨hl, h⟩ := h
    have sub := sub_enumerate
    have tt : Heap.IsTuple (Shared.heap ⟨hp, g, d, tk, os⟩) l items := ⟨_, hl, rfl, n, rfl⟩
    wp_walk using AutoSeq1.wpAny_loadPart' hl
    refine wpAny_stack_any fun st => wpAny_pure ?_
    split
    · rename_i c _ _ _ _ _
      cases (c == Value.type "enumerate") <;> (wp_walk using AutoSeq1.wpAny_loadPart' hl, wpAny_pyIter_tuple tt; exact ⟨_, rfl, h⟩)
    · wp_walk using AutoSeq1.wpAny_loadPart' hl, wpAny_pyIter_tuple tt
      exact ⟨_, rfl, h⟩
section
variable {prog : Program} {w : World} {A : Around} {E : Value → Shared → Prop} {s : Shared}
theorem call_enumT {l : Addr} {items : Array Value} {Q : Value → Shared → Prop} (hL : s.heap.IsTuple l items)
    (h : ∀ h', IsEnum h' (s.heap.objs.size + 1) s.heap.objs.size 0 .none → h'.IsTupleIter s.heap.objs.size l 0 → (∀ b o, s.heap.get? b = some o → h'.get? b = some o) → Q (.ref (s.heap.objs.size + 1)) { s with heap := h' }) :
    wpAny (model prog w) A (call (.type "enumerate") [.ref l]) Q E s := by
  obtain ⟨⟨c, dct, dt, sl⟩, hl, hc, n, hd⟩ := hL
  obtain rfl : c = .type "tuple" := hc
  obtain rfl : dt = .seq items n := hd
  refine callType_new F.called_enumerate (by decide) (F.typeCall_enumerate_1 _) (F.newCall_enumerate_1 _) (fun obj => F.args_object_init_2 obj _) F.entry_enumerate_new (meets_enumT l items n dct sl) ⟨hl, ?_⟩
  have hz : (s.heap.push { cls := .type "tuple_iterator", data := .fields #[.ref l, .int 0 0] }).objs.size = s.heap.objs.size + 1 := Heap.size_push ..
  show _ ∧ _
  rw [hz]
  have he : IsEnum ((s.heap.push { cls := .type "tuple_iterator", data := .fields #[.ref l, .int 0 0] }).push { cls := .type "enumerate", data := .fields #[.none, .bool false, .ref s.heap.objs.size, rawInt 0, .none, .none] }) (s.heap.objs.size + 1) s.heap.objs.size 0 .none := by
    have q := Heap.get?_push_size (s.heap.push { cls := .type "tuple_iterator", data := .fields #[.ref l, .int 0 0] }) (o := { cls := .type "enumerate", data := .fields #[.none, .bool false, .ref s.heap.objs.size, rawInt 0, .none, .none] }) rfl
    rw [hz] at q
    exact q
  exact ⟨⟨_, he, rfl⟩, h _ he ⟨_, Heap.get?_push_of_some _ (Heap.get?_push_size _ rfl), rfl, rfl⟩ fun b o x => Heap.get?_push_of_some _ (Heap.get?_push_of_some _ x)⟩
end
/-- the tuple at a, its items in new pairs with their places -/
def IteT (K : PySem.W.Frag) (a : Addr) : It where
  go := fun i H => ∃ (xs : List V) (x : V), SqT K H a xs ∧ xs[i]? = some x
  yld := fun i H v H' => ∃ T x, v = .ref T ∧ H T = none ∧ H' = upd H T (.tup [.int (i : Nat), x]) ∧ ∀ xs, SqT K H a xs → xs[i]? = some x
  stop := fun i H => ∃ xs : List V, SqT K H a xs ∧ xs.length = i
theorem turn_enumT {P : Program} {w : World} {K : PySem.W.Frag} {elts : List Expr} {kk : Nat} {tpos : Pos} (a e it : Addr) :
    Turn P w K (.Tuple elts kk tpos) (IteT K a) [e, it] e (fun i h => (∃ old, IsEnum h e it ((i : Nat) : Int) old) ∧ h.IsTupleIter it a i ∧ e ≠ it) where
  mem := by simp
  obj := fun i h st b hb => by
    obtain ⟨⟨old, he⟩, ⟨o, ho, hc, hd⟩, _⟩ := st
    rcases (by simpa using hb : b = e ∨ b = it) with rfl | rfl
    · exact ⟨_, he, fun v q => nomatch q⟩
    · exact ⟨o, ho, fun v q => by rw [hd] at q; cases q⟩
  keep := fun i h h' st k => let ⟨⟨old, he⟩, hi, hne⟩ := st; ⟨⟨old, k e (by simp) _ he⟩, hi.at fun o q => k it (by simp) o q, hne⟩
  item := by
    intro X hP hw hK hc i pins s σ H E I hf st hg
    subst hP hw hK
    obtain ⟨⟨old, he⟩, hit, hne⟩ := st
    obtain ⟨xs, x, hq, hx⟩ := hg
    obtain ⟨its, rv, tp, hz⟩ := I.tuple hq
    have tp0 : s.heap.IsTuple a its.toArray := tp
    have hai : a ≠ it := fun z => by
      obtain ⟨o, ho, hcl, _⟩ := tp
      obtain ⟨o2, ho2, hcl2, _⟩ := hit
      rw [z, ho2] at ho
      cases ho
      rw [hcl2] at hcl
      exact absurd hcl (by decide)
    have hea : e ≠ a := fun z => by
      obtain ⟨o, ho, hcl, _⟩ := tp
      have he2 := he
      unfold IsEnum at he2
      rw [z, ho] at he2
      cases he2
      exact absurd (show Value.type "enumerate" = Value.type "tuple" from hcl) (by decide)
    obtain ⟨u, hu, ru⟩ := rv.get hx
    have hel : e < s.heap.objs.size := Heap.lt_size he
    have hil : it < s.heap.objs.size := by obtain ⟨_, q, _⟩ := hit; exact Heap.lt_size q
    have hlt : i < its.toArray.size := by
      rw [List.size_toArray]
      exact (List.getElem?_eq_some_iff.mp hu).1
    refine wpAny_pyNext_enum_itemD (A := X.A) (Draws.tuple (A := X.A.in1) (I.ok.hd hc) it a hai its.toArray) he ⟨hit, tp0⟩ hlt hne (by simp [hne, hea]) fun x' h' tk hx' ho st' hT hsz hk => ?_
    have exu : x' = u := by
      have q : its.toArray[i]? = some x' := hx'
      simp only [List.getElem?_toArray] at q
      rw [hu] at q
      exact (Option.some.inj q).symm
    subst exu
    refine ⟨_, rfl, wpAny_letOwnedTupleGo_enum (s := { s with heap := h', toks := tk + 1 }) ho fun h'' he' sb => ?_⟩
    have hT2 := (sb.2 _ (Nat.ne_of_gt hel)).trans hT
    have new : ObjOk X.prog X.w (upd H s.heap.objs.size (.tup [.int (i : Nat), x])) h'' s.heap.objs.size (.tup [.int (i : Nat), x]) := ⟨by show 2 ≤ sizeLine; decide, [.int i tk, x'], .cons ⟨_, rfl⟩ (.cons ru .nil), ⟨_, hT2, rfl, _, rfl⟩⟩
    have I1 : L2.Inv X pins σ (upd H s.heap.objs.size (.tup [.int (i : Nat), x])) { s with heap := h'', toks := tk + 1 } := by
      refine I.turnedNew (ch := [e, it]) (fun b ob hb q => ?_) hf (Nat.le_refl _) new
      have n1 : b ≠ e := fun z => hb (by simp [z])
      have n2 : b ≠ it := fun z => hb (by simp [z])
      exact (sb.2 b n1).trans (hk b ob n1 n2 q)
    refine ⟨.ref s.heap.objs.size, _, I1, rfl, ⟨_, x, rfl, I.hok.fresh (Nat.le_refl _), rfl, fun ys hy => by rw [I.tuple_inj hy hq]; exact hx⟩, ⟨⟨x', by simpa using he'⟩, st'.1.at fun o q => (sb.2 it (Ne.symm hne)).trans q, hne⟩, fun b hb => ?_⟩
    have hb' : b < s.heap.objs.size := by
      rcases (by simpa using hb : b = e ∨ b = it) with rfl | rfl
      · exact hel
      · exact hil
    rw [upd_ne (Nat.ne_of_lt hb')]
    exact (hf b hb).1
  done := by
    intro X hP hw hK hc i pins s σ H E I hf st hg
    subst hP hw hK
    obtain ⟨⟨old, he⟩, hit, hne⟩ := st
    obtain ⟨xs, hq, hx⟩ := hg
    obtain ⟨its, rv, tp, hz⟩ := I.tuple hq
    have tp0 : s.heap.IsTuple a its.toArray := tp
    have hai : a ≠ it := fun z => by
      obtain ⟨o, ho, hcl, _⟩ := tp
      obtain ⟨o2, ho2, hcl2, _⟩ := hit
      rw [z, ho2] at ho
      cases ho
      rw [hcl2] at hcl
      exact absurd hcl (by decide)
    obtain ⟨f0, f1, f2, f3, f4, f5⟩ := hf it (by simp)
    have hn : i = its.toArray.size := by
      rw [List.size_toArray, ← rv.length, hx]
    exact wpAny_pyNext_enum_endD (A := X.A) (Draws.tuple (A := X.A.in1) (I.ok.hd hc) it a hai its.toArray) he ⟨by rw [← hn]; exact hit, tp0⟩ fun h' eb => ⟨rfl, I.turned (t' := s.toks) (fun b o hb q => eb b o hb q) f0 f1 f3 f4 f5⟩
  self := fun A i s Q E st h => let ⟨⟨_, he⟩, _⟩ := st; wpAny_pyIter_enum he h
def iEnumT (K : PySem.W.Frag) (ta : TA) : TI := fun σ H R => ta σ H fun vs H1 => on1 vs fun x => onRef x fun a => (∃ xs, SqT K H1 a xs) ∧ R (IteT K a) H1
theorem pi_enumT {X : Cx} {e : Expr} {ta : TA} {p pos tpos : Pos} {elts : List Expr} {kk : Nat} (hg : Gl X "enumerate") (hm : X.mg "enumerate" = none) (ha : PA X [e] ta) (hs : starEach [e] X.env = [(false, eval e X.env)] := by rfl) :
    PI X (.Tuple elts kk tpos) (.Call (.Name "enumerate" p) [e] [] pos) (iEnumT X.K ta) := by
  refine ⟨fun pins s σ H R I h => Call_ (ld_blt I hg hm boot_enumerate (PyProof.Rows.callWith_type1 (thn (ha.run pos pins s σ H _ I h) fun us s1 ⟨vs, H1, I1, r1, q1⟩ => ?_) hs rfl))⟩
  obtain ⟨x, rfl, q2⟩ := on1_ex q1
  obtain ⟨a, rfl, ⟨xs, hq⟩, q⟩ := onRef_ex q2
  obtain ⟨u, rfl, ru⟩ := vals1 r1
  cases ru
  obtain ⟨its, rv, tp, hz⟩ := I1.tuple hq
  refine call_enumT (show s1.heap.IsTuple a its.toArray from tp) fun h' he hit hk => wpAny_pyIter_enum he ?_
  refine ⟨s1.heap.objs.size + 1, [s1.heap.objs.size + 1, s1.heap.objs.size], _, _, H1, rfl, I1.kept (t' := s1.toks) hk, turn_enumT a (s1.heap.objs.size + 1) s1.heap.objs.size, ⟨⟨.none, he⟩, hit, Nat.succ_ne_self _⟩, fun b hb => ?_, q⟩
  have hle : s1.heap.objs.size ≤ b := by
    rcases (by simpa using hb : b = s1.heap.objs.size + 1 ∨ b = s1.heap.objs.size) with rfl | rfl <;> omega
  exact I1.fpOk hle (I1.hok.fresh hle)
/-- a for over enumerate(tuple) -/
theorem for_enumT {K : PySem.W.Frag} {a : Addr} {xs : List V} {g : TG} {tb : TS} {D : Ends} {σ : L2.St} {H : Hp} (Pv : Nat → L2.St → Hp → Prop) (h0 : Pv 0 σ H) (hG : ∀ i σ H, i ≤ xs.length → Pv i σ H → SqT K H a xs)
    (hs : ∀ i x σ H T, xs[i]? = some x → Pv i σ H → H T = none → g (.ref T) σ (upd H T (.tup [.int (i : Nat), x])) fun σ2 H2 => tb { D with nx := Pv (i + 1), ct := Pv (i + 1), bk := D.nx } σ2 H2) (hd : ∀ σ H, Pv xs.length σ H → D.nx σ H) :
    ∃ W : Nat → Nat → L2.St → Hp → Prop, (∃ m, W 0 m σ H) ∧ ∀ i m σ H, W i m σ H →
      ((IteT K a).stop i H ∧ D.nx σ H) ∨ ((IteT K a).go i H ∧ ∃ N : L2.St → Hp → Prop, (∀ σ' H', N σ' H' → ∃ m', m' < m ∧ W (i + 1) m' σ' H') ∧ ∀ x H', (IteT K a).yld i H x H' → g x σ H' fun σ2 H2 => tb { D with nx := N, ct := N, bk := D.nx } σ2 H2) := by
  refine ⟨fun i m σ H => m = xs.length - i ∧ i ≤ xs.length ∧ Pv i σ H, ⟨xs.length, by simp, Nat.zero_le _, h0⟩, ?_⟩
  rintro i m σ H ⟨rfl, hi, pv⟩
  have q := hG i σ H hi pv
  by_cases hlt : i < xs.length
  · refine .inr ⟨⟨xs, xs[i], q, by simp [hlt]⟩, Pv (i + 1), fun σ' H' p' => ⟨xs.length - (i + 1), by omega, rfl, hlt, p'⟩, fun v H' y => ?_⟩
    obtain ⟨T, x, rfl, hT, rfl, hx⟩ := y
    exact hs i x σ H T (hx xs q) pv hT
  · obtain rfl : i = xs.length := by omega
    exact .inl ⟨⟨xs, q, rfl⟩, hd σ H pv⟩

/-! ### isinstance, max, min -/
def fIsi (K : PySem.W.Frag) : List V → Hp → VK → Prop := fun xs H Q => on2 xs fun x c => ∃ (t u : Value) (b : Bool), ClsV c u ∧ TyX K H x t ∧ PySem.W.kitOne K t u = some b ∧ Q (.bl b) H
def fMax (K : PySem.W.Frag) : List V → Hp → VK → Prop := fun xs H Q => on1 xs fun x => onRef x fun a => ∃ ns : List Int, SqL K H a (ns.map V.int) ∧ 0 < ns.length ∧ ∀ m, m ∈ ns → (∀ y, y ∈ ns → y ≤ m) → Q (.int m) H
def fMin (K : PySem.W.Frag) : List V → Hp → VK → Prop := fun xs H Q => on1 xs fun x => onRef x fun a => ∃ ns : List Int, SqL K H a (ns.map V.int) ∧ 0 < ns.length ∧ ∀ m, m ∈ ns → (∀ y, y ∈ ns → m ≤ y) → Q (.int m) H
section
variable {X : Cx}
theorem c_isi : CallR X (.builtin "isinstance") (fIsi X.K) := CallR.imp call_isi fun xs H Q h => by
  obtain ⟨x, c, rfl, t, u, b, h1⟩ := on2_ex h
  exact ⟨x, c, t, u, b, rfl, h1⟩
theorem c_max (hc : X.calm = true) : CallR X (.builtin "max") (fMax X.K) := CallR.imp (cr_max hc) fun xs H Q h => by
  obtain ⟨x, rfl, h1⟩ := on1_ex h
  obtain ⟨a, rfl, ns, h2⟩ := onRef_ex h1
  exact ⟨a, ns, rfl, h2⟩
theorem c_min (hc : X.calm = true) : CallR X (.builtin "min") (fMin X.K) := CallR.imp (cr_min hc) fun xs H Q h => by
  obtain ⟨x, rfl, h1⟩ := on1_ex h
  obtain ⟨a, rfl, ns, h2⟩ := onRef_ex h1
  exact ⟨a, ns, rfl, h2⟩
end
/-- is it an int, a bool, .. -/
theorem isi_ty {K : PySem.W.Frag} {x c : V} {H : Hp} {Q : VK} {a b : String} {r : Bool} (hx : TyX K H x (.type a)) (hc : ClsV c (.type b)) (hk : kitB a b = some r) (q : Q (.bl r) H) : fIsi K [x, c] H Q := ⟨_, _, _, hc, hx, kit_ty hk, q⟩

/-! ### calls by keywords alone -/
section
variable {X : Cx} {CX : CXT} {k n : Nat} {f C : Addr} {fd : FuncData} {ps ks : List Str} {sp : L2.Sp} {E : XK} {x m : Str} {p pos apos : Pos} {o : Expr} {kws : List Keyword} {ta : TE} {t tk : TA} {g : List Value → List Value → List Value} {gV : List V → List V → List V}
theorem e_makeK0 (M : Mk X.K C f) (F : FnOk X.prog X.w X.K X.mg X.base CX k f fd ps sp) (hr : Room (k + 1) X.A) (hg : Gl X x) (hm : X.mg x = some (.ref C)) (hb : KBn X.K fd ps 1 ks g gV) (hx : Passes CX X E) (hkw : PK X kws tk)
    (hall : (backToKw pos (keywordEach kws X.env)).all (·.1.isSome) = true := by rfl) (hks : (backToKw pos (keywordEach kws X.env)).filterMap (·.1) = ks := by rfl) (hdb : (x == ("__debug__" : Str)) = false := by decide)
    (hpl : ((backTo pos (starEach [] X.env)).any (·.1) || (backToKw pos (keywordEach kws X.env)).any (·.1.isNone)) = false := by rfl) :
    PE X (.Call (.Name x p) [] kws pos) (tMakeN C 0 ks.length sp gV E tNil tk) := by
  refine ⟨fun pins s σ H Q I h => wpAny_Call_Name_kw (ld_glob I hg hm (PySem.W.callWith_KW0 (h₀ := X.base) I.ok.mod.kin M.kp hall (thn (hkw.run pos pins s σ H _ I h) fun ws s2 ⟨zs, H2, I2, rz, l1, l2, q2⟩ => ⟨I2.kIn, ?_⟩) hpl) hdb)⟩
  rw [hks]
  exact run_makeN (us := []) (vs := []) M F hr hb hx I2 .nil rz l1 l2 q2
/-- o.m(k = v, ..) -/
def tMethK (C : Addr) (m : Str) (mm : Nat) (sp : L2.Sp) (gV : List V → List V → List V) (E : XK) (ta : TE) (tk : TA) : TE := fun σ H Q => ta σ H fun x H1 => onRef x fun a => (∃ dx fs, H1 a = some (.ins C dx fs) ∧ fs.lookup m = none) ∧
  tk σ H1 fun zs H2 => zs.length = mm ∧ sp (gV [x] zs) H2 Q E
theorem e_methK0 {pl : Sem Bool} (he : PE X o ta) (c : Cls X.K C) (hm : Meth X.K C m f) (F : FnOk X.prog X.w X.K X.mg X.base CX k f fd ps sp) (hr : Room k X.A) (hb : KBn X.K fd ps 1 ks g gV) (hx : Passes CX X E) (hkw : PK X kws tk)
    (hall : (backToKw pos (keywordEach kws X.env)).all (·.1.isSome) = true := by rfl) (hks : (backToKw pos (keywordEach kws X.env)).filterMap (·.1) = ks := by rfl)
    (hpl : ((backTo pos (starEach [] X.env)).any (·.1) || (backToKw pos (keywordEach kws X.env)).any (·.1.isNone)) = false := by rfl)
    (ht : eval (.Call (.Attribute o m apos) [] kws pos) X.env = (do
      let ov ← eval o X.env
      standAt apos.atName
      let (f, first) ← holding [ov] (getMethod ov m pl)
      callWith pos f first (backTo pos (starEach [] X.env)) (backToKw pos (keywordEach kws X.env))) := by rfl) :
    PE X (.Call (.Attribute o m apos) [] kws pos) (tMethK C m ks.length sp gV E ta tk) := by
  refine ⟨fun pins s σ H Q I h => PySem.W.methodCall_KW (pl := pl) (thn (he.run pins s σ H _ I h) fun u s1 ⟨x, H1, I1, rx, q⟩ => ?_) ht⟩
  obtain ⟨a, rfl, ⟨dx, fs, ea, l⟩, q⟩ := onRef_ex q
  obtain rfl : u = Value.ref a := rx
  refine getmeth_ok I1 ea c hm l (PySem.W.callWith_KW0 (first := [.ref a]) (h₀ := X.base) I.ok.mod.kin hm.kp hall (thn (hkw.run pos pins s1 σ H1 _ I1 q) fun ws s2 ⟨zs, H2, I2, rz, l2, q2⟩ => ⟨I2.kIn, ?_⟩) hpl)
  rw [hks]
  exact run_fnN (us := [.ref a]) (vs := [.ref a]) F hr hb hx I2 (.cons rfl .nil) rz rfl l2 q2
end

/-! ### lists and tuples alike -/
def SqS (K : PySem.W.Frag) (H : Hp) (a : Addr) (xs : List V) : Prop := SqL K H a xs ∨ SqT K H a xs
def fIxQ (K : PySem.W.Frag) : R2 := fun x y H Q => onRef x fun p => onInt y fun i => ∃ xs, SqS K H p xs ∧ ∃ v, atI xs i = some v ∧ Q v H
def fSlQ (K : PySem.W.Frag) : V → Option Int → Option Int → Hp → VK → Prop := fun x lo hi H Q => rSlL K x lo hi H Q ∨ rSlA K x lo hi H Q
def fTupQ (K : PySem.W.Frag) : List V → Hp → VK → Prop := fun xs H Q => on1 xs fun x => onRef x fun p => ∃ ys, (SqL K H p ys ∧ ∀ l, H l = none → Q (.ref l) (upd H l (.tup ys))) ∨ (SqT K H p ys ∧ Q (.ref p) H)
section
variable {X : Cx}
theorem x_seq : IxR X (fIxQ X.K) := IxR.imp ix_seq fun x y H Q h => by
  obtain ⟨p, rfl, h1⟩ := onRef_ex h
  obtain ⟨i, rfl, xs, h2, v, h3, h4⟩ := onInt_ex h1
  rcases h2 with h2 | h2
  · exact .inl ⟨p, xs, i, v, rfl, rfl, h2, h3, h4⟩
  · exact .inr (.inl ⟨p, xs, i, v, rfl, rfl, h2, h3, h4⟩)
theorem sl_seq : SlR X (fSlQ X.K) := SlR.or sl_list sl_tupA
theorem c_tupQ : CallR X (.type "tuple") (fTupQ X.K) := CallR.imp call_tuple_of fun xs H Q h => by
  obtain ⟨x, rfl, h1⟩ := on1_ex h
  obtain ⟨p, rfl, ys, h2⟩ := onRef_ex h1
  exact ⟨p, ys, rfl, h2⟩
end
theorem Same.upd {H : Hp} {q : Addr} {o : HO} (hq : H q = none) : Same H (upd H q o) := fun b u h => by rw [upd_ne (ne_of_none h hq)]; exact h
theorem sameT {K : PySem.W.Frag} {H H' : Hp} {a : Addr} {xs : List V} (e : Same H H') (h : SqT K H a xs) : SqT K H' a xs := by
  rcases h with (h | ⟨o, h⟩) | h
  · exact .inl (.inl (e _ _ h))
  · exact .inl (.inr ⟨o, e _ _ h⟩)
  · exact .inr h
theorem sameS {K : PySem.W.Frag} {H H' : Hp} {a : Addr} {xs : List V} (e : Same H H') (h : SqS K H a xs) : SqS K H' a xs := h.imp (fun z => e.seq z) (fun z => sameT e z)

/-! ### comprehensions over a range: what holds between the turns -/
theorem lc_rangeI {lo : Int} {n : Nat} {g : TG} {te : TE} {vs : List Nat} {σ : L2.St} {H1 : Hp} {D : Addr} {Qd : Hp → Prop} (hz : n ≤ 1000000) (J : Nat → List V → Hp → Prop) (h0 : J 0 [] (upd H1 D (.lst [])))
    (hs : ∀ (i : Nat) (acc : List V) (H : Hp), i < n → acc.length = i → H D = some (.lst acc) → J i acc H → ∀ R : VK, (∀ y H4, H4 D = some (.lst acc) → J (i + 1) (acc ++ [y]) (upd H4 D (.lst (acc ++ [y]))) → R y H4) →
      g (.int (lo + i)) (wipe σ vs) H fun σ2 H2 => wipe σ2 vs = wipe σ vs ∧ te σ2 H2 R)
    (hd : ∀ acc H, acc.length = n → H D = some (.lst acc) → J n acc H → Qd H) :
    ∃ W : Nat → Nat → Hp → Prop, (∃ m, W 0 m (upd H1 D (.lst []))) ∧ ∀ i m H, W i m H →
      ((Itr lo n).stop i H ∧ Qd H) ∨ ((Itr lo n).go i H ∧ ∃ Nx : Hp → Prop, (∀ H', Nx H' → ∃ m', m' < m ∧ W (i + 1) m' H') ∧ ∀ x H', (Itr lo n).yld i H x H' → g x (wipe σ vs) H' fun σ2 H2 => wipe σ2 vs = wipe σ vs ∧ tYes σ2 H2 fun b H3 =>
        if b = true then te σ2 H3 fun y H4 => ∃ acc, H4 D = some (.lst acc) ∧ acc.length < sizeLine ∧ Nx (upd H4 D (.lst (acc ++ [y]))) else Nx H3) := by
  refine lc_range (fun i H => ∃ acc, acc.length = i ∧ H D = some (.lst acc) ∧ J i acc H) ⟨[], rfl, upd_same, h0⟩ (fun i H hi h => ?_) (fun H h => ?_)
  · obtain ⟨acc, hl, hD, hJ⟩ := h
    have q := hs i acc H hi hl hD hJ (fun y H4 => ∃ acc, H4 D = some (.lst acc) ∧ acc.length < sizeLine ∧ ∃ ac2, ac2.length = i + 1 ∧ (upd H4 D (.lst (acc ++ [y]))) D = some (.lst ac2) ∧ J (i + 1) ac2 (upd H4 D (.lst (acc ++ [y])))) (fun y H4 e j => ⟨acc, e, by rw [hl, sizeLine_eq]; omega, acc ++ [y], by simp [hl], upd_same, j⟩)
    exact q
  · obtain ⟨acc, hl, hD, hJ⟩ := h
    exact hd acc H hl hD hJ
/-- the elements are f i, nothing else changes -/
theorem lc_rangeF {lo : Int} {n : Nat} {g : TG} {te : TE} {vs : List Nat} {σ : L2.St} {H1 : Hp} {D : Addr} {Qd : Hp → Prop} (f : Nat → V) (hn : H1 D = none) (hz : n ≤ 1000000)
    (hs : ∀ (i : Nat) (H : Hp), i < n → Same H1 H → ∀ R : VK, (∀ H4, Same H H4 → R (f i) H4) → g (.int (lo + i)) (wipe σ vs) H fun σ2 H2 => wipe σ2 vs = wipe σ vs ∧ te σ2 H2 R)
    (hd : ∀ H, Same H1 H → H D = some (.lst ((List.range n).map f)) → Qd H) :
    ∃ W : Nat → Nat → Hp → Prop, (∃ m, W 0 m (upd H1 D (.lst []))) ∧ ∀ i m H, W i m H →
      ((Itr lo n).stop i H ∧ Qd H) ∨ ((Itr lo n).go i H ∧ ∃ Nx : Hp → Prop, (∀ H', Nx H' → ∃ m', m' < m ∧ W (i + 1) m' H') ∧ ∀ x H', (Itr lo n).yld i H x H' → g x (wipe σ vs) H' fun σ2 H2 => wipe σ2 vs = wipe σ vs ∧ tYes σ2 H2 fun b H3 =>
        if b = true then te σ2 H3 fun y H4 => ∃ acc, H4 D = some (.lst acc) ∧ acc.length < sizeLine ∧ Nx (upd H4 D (.lst (acc ++ [y]))) else Nx H3) := by
  refine lc_rangeI hz (fun i acc H => acc = (List.range i).map f ∧ Same H1 H) ⟨rfl, Same.upd hn⟩ (fun i acc H hi hl hD hJ R hR => ?_) (fun acc H hl hD hJ => ?_)
  · refine hs i H hi hJ.2 R fun H4 e => hR (f i) H4 (e _ _ hD) ⟨?_, fun b o h => ?_⟩
    · rw [List.range_succ, List.map_append, ← hJ.1]
      rfl
    · rw [upd_ne (ne_of_none h hn)]
      exact e _ _ (hJ.2 _ _ h)
  · exact hd H hJ.2 (by rw [hD, hJ.1])

/-! ### range(a, b) of ints of any size -/
theorem turn_long {P : Program} {w : World} {K : PySem.W.Frag} {tg : Expr} (it : Addr) (lo : Int) (n : Nat) : Turn P w K tg (Itr lo n) [it] it (fun i h => IsLongIter h it (lo + (i : Nat) * 1) ((n : Int) - (i : Nat)) 1) where
  mem := by simp
  obj := fun i h st b hb => by
    obtain rfl : b = it := by simpa using hb
    exact ⟨_, st, fun v z => nomatch z⟩
  keep := fun i h h' st k => k it (by simp) _ st
  item := by
    intro X hP hw hK hc i pins s σ H E I hf st hg
    subst hP hw hK
    obtain ⟨f0, f1, f2, f3, f4, f5⟩ := hf it (by simp)
    have hg2 : i < n := hg
    refine wpAny_pyNext_long_item st (by omega) fun h' st' sb => ?_
    have I1 : L2.Inv X pins σ H { s with heap := h', toks := s.toks + 1 } := I.turned (fun b o hb e => (sb.2 b hb).trans e) f0 f1 f3 f4 f5
    have st2 : IsLongIter h' it (lo + ((i + 1 : Nat) : Int) * 1) ((n : Int) - ((i + 1 : Nat) : Int)) 1 := by
      have e1 : lo + ((i + 1 : Nat) : Int) * 1 = lo + (i : Int) * 1 + 1 := by omega
      have e2 : (n : Int) - ((i + 1 : Nat) : Int) = (n : Int) - (i : Int) - 1 := by omega
      rw [e1, e2]
      exact st'
    refine ⟨_, rfl, go_of (s := { s with heap := h', toks := s.toks + 1 }) (n := "longrange_iterator") st2 rfl rfl (by decide) ⟨.int (lo + i), H, I1, ⟨s.toks, by rw [Int.mul_one]⟩, ⟨rfl, rfl⟩, st2, fun b hb => (hf b hb).1⟩⟩
  done := by
    intro X hP hw hK hc i pins s σ H E I hf st hg
    subst hP hw hK
    obtain ⟨f0, f1, f2, f3, f4, f5⟩ := hf it (by simp)
    have hg2 : n ≤ i := hg
    exact wpAny_pyNext_long_end (I.ok.hd hc) st (by omega) fun h' eb => ⟨rfl, I.turned (t' := s.toks) (fun b o hb e => eb b o hb e) f0 f1 f3 f4 f5⟩
  self := fun _ _ _ _ _ st h => wpAny_pyIter_longiter st h
def iRngL (ta : TA) : TI := fun σ H R => ta σ H fun vs H1 => on2 vs fun x y => onInt x fun i => onInt y fun j => R (Itr i (j - i).toNat) H1
section
variable {X : Cx} {tg : Expr}
theorem rangeL_it {pins : List (Addr × Obj)} {σ : L2.St} {H : Hp} {s : Shared} {R : It → Hp → Prop} {E : Value → Shared → Prop} {lo hi : Int} {t u v : Tok} {tk : Nat} (I : L2.Inv X pins σ H s)
    (q : R (Itr lo (hi - lo).toNat) H) : wpAny (model X.prog X.w) X.A (pyIter (.ref s.heap.objs.size)) (PIE X pins σ tg R) E { s with heap := s.heap.push { cls := .type "range", data := .fields #[.int lo t, .int hi u, .int 1 v] }, toks := tk } := by
  have I1 : L2.Inv X pins σ H { s with heap := s.heap.push { cls := .type "range", data := .fields #[.int lo t, .int hi u, .int 1 v] }, toks := tk } := I.kept fun b o e => Heap.get?_push_of_some _ e
  have e1 : lo + ((0 : Nat) : Int) * 1 = lo := by simp
  have e2 : (((hi - lo).toNat : Nat) : Int) - ((0 : Nat) : Int) = Builtin.Range.rangeSize lo hi 1 := by rw [rangeSize_one]; split <;> omega
  have fp : ∀ b, b ∈ [(s.heap.push { cls := .type "range", data := .fields #[.int lo t, .int hi u, .int 1 v] }).objs.size] → FpOk X pins H b := fun b hb => by
    obtain rfl : b = (s.heap.push { cls := .type "range", data := .fields #[.int lo t, .int hi u, .int 1 v] }).objs.size := by simpa using hb
    exact I1.fpOk (Nat.le_refl _) (I1.hok.fresh (Nat.le_refl _))
  cases hs : Builtin.Range.small lo hi 1 with
  | true =>
    refine wpAny_pyIter_range (IsRange.new ..) hs ⟨_, [(s.heap.push { cls := .type "range", data := .fields #[.int lo t, .int hi u, .int 1 v] }).objs.size], _, _, H, rfl, I1.kept (t' := tk) fun b o e => Heap.get?_push_of_some _ e, turn_range _ lo (hi - lo).toNat, ?_, fp, q⟩
    show IsRangeIter _ _ (lo + ((0 : Nat) : Int) * 1) ((((hi - lo).toNat : Nat) : Int) - ((0 : Nat) : Int)) 1
    rw [e1, e2]
    exact Heap.get?_push_size _ rfl
  | false =>
    refine wpAny_pyIter_longrange (IsRange.new ..) hs ⟨_, [(s.heap.push { cls := .type "range", data := .fields #[.int lo t, .int hi u, .int 1 v] }).objs.size], _, _, H, rfl, I1.kept (t' := tk) fun b o e => Heap.get?_push_of_some _ e, turn_long _ lo (hi - lo).toNat, ?_, fp, q⟩
    show IsLongIter _ _ (lo + ((0 : Nat) : Int) * 1) ((((hi - lo).toNat : Nat) : Int) - ((0 : Nat) : Int)) 1
    rw [e1, e2]
    exact Heap.get?_push_size _ rfl
theorem pi_rangeL {a b : Expr} {ta : TA} {p pos : Pos} (hg : Gl X "range") (hm : X.mg "range" = none) (ha : PA X [a, b] ta) (hs : starEach [a, b] X.env = (false, eval a X.env) :: starEach [b] X.env := by rfl) (hs2 : starEach [b] X.env = [(false, eval b X.env)] := by rfl) :
    PI X tg (.Call (.Name "range" p) [a, b] [] pos) (iRngL ta) := by
  refine ⟨fun pins s σ H R I h => Call_ (ld_blt I hg hm boot_range (PyProof.Rows.callWith_type1 (thn (ha.run pos pins s σ H _ I h) fun us s1 ⟨vs, H1, I1, r1, q1⟩ => ?_) (by rw [hs, hs2]) (by rw [hs2]; rfl)))⟩
  obtain ⟨x, y, rfl, q2⟩ := on2_ex q1
  obtain ⟨i, rfl, q3⟩ := onInt_ex q2
  obtain ⟨j, rfl, q⟩ := onInt_ex q3
  obtain ⟨u, v, rfl, ⟨t, rfl⟩, ⟨t', rfl⟩⟩ := vals2 r1
  exact call_range_2 (rangeL_it I1 q)
end

/-- a comprehension over a list: what holds between the turns -/
theorem lc_listI {K : PySem.W.Frag} {a : Addr} {xs : List V} {g : TG} {te : TE} {vs : List Nat} {σ : L2.St} {H1 : Hp} {D : Addr} {Qd : Hp → Prop} (hz : xs.length ≤ 1000000) (J : Nat → List V → Hp → Prop) (h0 : J 0 [] (upd H1 D (.lst [])))
    (hl : ∀ i acc H, i ≤ xs.length → H D = some (.lst acc) → J i acc H → SqL K H a xs)
    (hs : ∀ (i : Nat) (x : V) (acc : List V) (H : Hp), xs[i]? = some x → acc.length = i → H D = some (.lst acc) → J i acc H → ∀ R : VK, (∀ y H4, H4 D = some (.lst acc) → J (i + 1) (acc ++ [y]) (upd H4 D (.lst (acc ++ [y]))) → R y H4) →
      g x (wipe σ vs) H fun σ2 H2 => wipe σ2 vs = wipe σ vs ∧ te σ2 H2 R)
    (hd : ∀ acc H, acc.length = xs.length → H D = some (.lst acc) → J xs.length acc H → Qd H) :
    ∃ W : Nat → Nat → Hp → Prop, (∃ m, W 0 m (upd H1 D (.lst []))) ∧ ∀ i m H, W i m H →
      ((Itl K a).stop i H ∧ Qd H) ∨ ((Itl K a).go i H ∧ ∃ Nx : Hp → Prop, (∀ H', Nx H' → ∃ m', m' < m ∧ W (i + 1) m' H') ∧ ∀ x H', (Itl K a).yld i H x H' → g x (wipe σ vs) H' fun σ2 H2 => wipe σ2 vs = wipe σ vs ∧ tYes σ2 H2 fun b H3 =>
        if b = true then te σ2 H3 fun y H4 => ∃ acc, H4 D = some (.lst acc) ∧ acc.length < sizeLine ∧ Nx (upd H4 D (.lst (acc ++ [y]))) else Nx H3) := by
  refine lc_list (xs := xs) (fun i H => ∃ acc, acc.length = i ∧ H D = some (.lst acc) ∧ J i acc H) ⟨[], rfl, upd_same, h0⟩ (fun i H hi h => ?_) (fun i x H hx h => ?_) (fun H h => ?_)
  · obtain ⟨acc, _, hD, hJ⟩ := h
    exact hl i acc H hi hD hJ
  · obtain ⟨acc, hac, hD, hJ⟩ := h
    have hi := (List.getElem?_eq_some_iff.mp hx).1
    exact hs i x acc H hx hac hD hJ (fun y H4 => ∃ acc, H4 D = some (.lst acc) ∧ acc.length < sizeLine ∧ ∃ ac2, ac2.length = i + 1 ∧ (upd H4 D (.lst (acc ++ [y]))) D = some (.lst ac2) ∧ J (i + 1) ac2 (upd H4 D (.lst (acc ++ [y])))) (fun y H4 e j => ⟨acc, e, by rw [hac, sizeLine_eq]; omega, acc ++ [y], by simp [hac], upd_same, j⟩)
  · obtain ⟨acc, hac, hD, hJ⟩ := h
    exact hd acc H hac hD hJ
/-- the elements are f of the items, nothing else changes -/
theorem lc_listF {K : PySem.W.Frag} {a : Addr} {xs : List V} {g : TG} {te : TE} {vs : List Nat} {σ : L2.St} {H1 : Hp} {D : Addr} {Qd : Hp → Prop} (f : V → V) (hn : H1 D = none) (hz : xs.length ≤ 1000000) (hS : SqL K H1 a xs)
    (hs : ∀ (i : Nat) (x : V) (H : Hp), xs[i]? = some x → Same H1 H → ∀ R : VK, (∀ H4, Same H H4 → R (f x) H4) → g x (wipe σ vs) H fun σ2 H2 => wipe σ2 vs = wipe σ vs ∧ te σ2 H2 R)
    (hd : ∀ H, Same H1 H → H D = some (.lst (xs.map f)) → Qd H) :
    ∃ W : Nat → Nat → Hp → Prop, (∃ m, W 0 m (upd H1 D (.lst []))) ∧ ∀ i m H, W i m H →
      ((Itl K a).stop i H ∧ Qd H) ∨ ((Itl K a).go i H ∧ ∃ Nx : Hp → Prop, (∀ H', Nx H' → ∃ m', m' < m ∧ W (i + 1) m' H') ∧ ∀ x H', (Itl K a).yld i H x H' → g x (wipe σ vs) H' fun σ2 H2 => wipe σ2 vs = wipe σ vs ∧ tYes σ2 H2 fun b H3 =>
        if b = true then te σ2 H3 fun y H4 => ∃ acc, H4 D = some (.lst acc) ∧ acc.length < sizeLine ∧ Nx (upd H4 D (.lst (acc ++ [y]))) else Nx H3) := by
  refine lc_listI (xs := xs) hz (fun i acc H => acc = (xs.take i).map f ∧ Same H1 H) ⟨rfl, Same.upd hn⟩ (fun i acc H _ _ hJ => hJ.2.seq hS) (fun i x acc H hx hl hD hJ R hR => ?_) (fun acc H hl hD hJ => ?_)
  · refine hs i x H hx hJ.2 R fun H4 e => hR (f x) H4 (e _ _ hD) ⟨?_, fun b o h => ?_⟩
    · have hi := (List.getElem?_eq_some_iff.mp hx).1
      rw [List.take_add_one, hx, List.map_append, ← hJ.1]
      rfl
    · rw [upd_ne (ne_of_none h hn)]
      exact e _ _ (hJ.2 _ _ h)
  · exact hd H hJ.2 (by rw [hD, hJ.1, List.take_length])

/-- keywords where there are no defaults -/
theorem FunD.kbinds0 {K : PySem.W.Frag} {x qual : Str} {params : Arguments} {body : List Stmt} {scope : Scope} {kws : List (Str × V)} {f : Addr} {fd : FuncData} {ps : List Str} (F : FunD K x qual params body scope [] kws f fd) (n : Nat) (ks : List Str) (g : {α : Type} → List α → List α → List α)
    (hrel : ∀ {vs zs : List V} {us ws : List Value}, Vals vs us → Vals zs ws → Vals (g vs zs) (g us ws))
    (h : ∀ (kV doc pm : Value) (an : Option Addr) (cdv ct : Value) (us ws : List Value), us.length = n → ws.length = ks.length → bindArgs (PySem.W.fnOf x qual params body scope .none kV doc pm an cdv ct) ⟨us, ks.zip ws⟩ = pure (ps.zip (g us ws))) :
    KBn K fd ps n ks (fun us ws => g us ws) (fun vs zs => g vs zs) := by
  obtain ⟨oc, od, dV, kV, doc, pm, an, cdv, ct, osl, rfl, lk, hcd, hD, hK⟩ := F.ex
  rcases hD with ⟨_, rfl⟩ | ⟨e, _⟩
  · exact ⟨fun s us ws X l1 l2 => .of_eq (h kV doc pm an cdv ct us ws l1 l2), fun r1 r2 => hrel r1 r2⟩
  · exact absurd rfl e
end Sp
namespace Sp
open PySem PySem.Spec PyProof.Rows L2

/-! ### a def that can be called from below a running body -/
def CallK (X : Cx) (k : Nat) (f : Addr) (sp : L2.Sp) (E : XK) : Prop :=
  ∀ (A : Around) (pins : List (Addr × Obj)) (s : Shared) (σ : L2.St) (H : Hp) (us : List Value) (vs : List V) (Q : VK), Room k A → A.frames = X.A.frames → A.guards = X.A.guards → L2.Inv X pins σ H s → Vals vs us → sp vs H Q E →
    codeAny (model X.prog X.w) A (.call (.ref f) ⟨us, []⟩) (fun r s' => match r with
      | .ok (.ret v) => EP X pins σ Q v s'
      | .ok _ => False
      | .error e => X.xe e s') s
section
variable {X : Cx} {CX : CXT} {k : Nat} {f C : Addr} {fd : FuncData} {ps : List Str} {sp : L2.Sp} {dvs : List V} {ds : List Value} {E : XK} {x m : Str} {p pos apos : Pos} {e o : Expr} {es : List Expr} {ta tf : TE} {t : TA}
theorem env0_at {A : Around} {pins : List (Addr × Obj)} {σ : L2.St} {H : Hp} {s : Shared} (hf : A.frames = X.A.frames) (I : L2.Inv X pins σ H s) : Env0 X.prog X.w X.K X.mg X.base A X.stack s H := by
  have e := I.env0
  exact ⟨by rw [hf]; exact e.frames, e.mod, e.bs, e.bsz, e.funs, e.frf, e.hok, e.bare⟩
theorem ckOk (F : FnOk X.prog X.w X.K X.mg X.base CX k f fd ps sp) (hb : Binds X.K fd ps ds) (hd : Vals dvs ds) (hx : Passes CX X E) : CallK X k f (fun vs => sp (vs ++ dvs)) E := by
  intro A pins s σ H us vs Q hr hf hg I r h
  have r2 : Vals (vs ++ dvs) (us ++ ds) := r.append hd
  refine codeAny_mono (F.run A X.stack s H ⟨us, []⟩ (us ++ ds) (vs ++ dvs) Q E hr (env0_at hf I) (hb s us I.kIn (by rw [← r2.length]; exact F.len _ _ _ _ h)) r2 h) fun res s' hq => ?_
  match res, hq with
  | .error e, hq => exact hx pins σ H s e s' I hq
  | .ok (.ret u), hq => exact I.after hq
  | .ok .next, hq => exact hq.elim
  | .ok .brk, hq => exact hq.elim
  | .ok .cont, hq => exact hq.elim
theorem ckG (hgd : X.A.guards = some []) (F : FnG X.prog X.w X.K X.mg X.base CX k f fd ps sp) (hb : Binds X.K fd ps ds) (hd : Vals dvs ds) (hx : Passes CX X E) : CallK X k f (fun vs => sp (vs ++ dvs)) E := by
  intro A pins s σ H us vs Q hr hf hg I r h
  have r2 : Vals (vs ++ dvs) (us ++ ds) := r.append hd
  refine codeAny_mono (F.run A X.stack s H ⟨us, []⟩ (us ++ ds) (vs ++ dvs) Q E (hg.trans hgd) hr (env0_at hf I) (hb s us I.kIn (by rw [← r2.length]; exact F.len _ _ _ _ h)) r2 h) fun res s' hq => ?_
  match res, hq with
  | .error e, hq => exact hx pins σ H s e s' I hq
  | .ok (.ret u), hq => exact I.after hq
  | .ok .next, hq => exact hq.elim
  | .ok .brk, hq => exact hq.elim
  | .ok .cont, hq => exact hq.elim
theorem CallK.run {A : Around} {pins : List (Addr × Obj)} {σ : L2.St} {H : Hp} {s : Shared} {Q : VK} {us : List Value} {vs : List V} (c : CallK X k f sp E) (hr : Room k A) (hf : A.frames = X.A.frames) (hg : A.guards = X.A.guards) (I : L2.Inv X pins σ H s) (r : Vals vs us) (h : sp vs H Q E) :
    wpAny (model X.prog X.w) A (call (.ref f) us) (EP X pins σ Q) X.xe s := by
  refine wpAny_call (codeAny_mono (c A pins s σ H us vs Q hr hf hg I r h) fun res s' hq => ?_)
  match res, hq with
  | .error e, hq => exact hq
  | .ok (.ret u), hq => exact hq
  | .ok .next, hq => exact hq.elim
  | .ok .brk, hq => exact hq.elim
  | .ok .cont, hq => exact hq.elim

/-- o is an instance of C -/
def InsV (C : Addr) (H : Hp) (a : Addr) : Prop := ∃ dx fs, H a = some (.ins C dx fs)

/-! ### e.f, a property -/
def tPropV (C : Addr) (sp : L2.Sp) (E : XK) (ta : TE) : TE := fun σ H Q => ta σ H fun x H1 => onRef x fun a => InsV C H1 a ∧ sp [.ref a] H1 Q E
theorem e_prop {g pa : Addr} (he : PE X e ta) (c : Cls X.K C) (hp : PropOf X.K C m pa g) (F : CallK X.nox k g sp E) (hr : Room (k + 1) X.A)
    (hab : attributeBase e m X.env (eval e X.env) = eval e X.env := by rfl) : PE X (.Attribute e m pos) (tPropV C sp E ta) := by
  refine ⟨fun pins s σ H Q I h => ?_⟩
  refine attr_of hab (thn (he.run pins s σ H _ I h) fun u s1 ⟨x, H1, I1, rx, q⟩ => ?_)
  obtain ⟨a, rfl, ⟨dx, fs, ea⟩, q⟩ := onRef_ex q
  obtain rfl : u = Value.ref a := rx
  obtain ⟨mA, O, _, _, _, _⟩ := ins_get I1.hok ea
  obtain ⟨od, J, _⟩ := O.look
  obtain ⟨rest, hrec⟩ := hp.rec_
  have I2 := I1.tok (s1.toks + 1)
  have hc : (PySem.W.clsIn X.K C).isSome = true := by
    obtain ⟨cd, hc, _⟩ := PySem.W.any_some c.hd
    rw [hc]
    rfl
  refine PySem.W.get_bind I1.kIn J (PySem.W.plainGet_of (c.get m)).1 (PySem.W.findObj_data hc hp.at_ hp.get hp.tak) (PySem.W.plainGet_of (c.get m)).2 (wpAny_call (PySem.W.prop_get (s := { s1 with toks := s1.toks + 1 }) I1.kIn hrec ?_))
  refine codeAny_mono (F X.A.in1 pins { s1 with toks := s1.toks + 1 } σ H1 [.ref a] [.ref a] Q hr.in1 rfl rfl (I2.wish _) (.cons rfl .nil) q) fun r s' hq => ?_
  match r, hq with
  | .error e, hq => exact False.elim hq
  | .ok (.ret u), hq =>
    obtain ⟨v, H', I3, rv, q3⟩ := hq
    show wpAny _ _ (handedOut u) _ _ _
    rw [PySem.W.handedOut_of (handed_of rv)]
    exact wpAny_pure ⟨v, H', I3.unwish, rv, q3⟩
  | .ok .next, hq => exact hq.elim
  | .ok .brk, hq => exact hq.elim
  | .ok .cont, hq => exact hq.elim

/-! ### o(e, ..), o an instance -/
def tCallV (C : Addr) (sp : L2.Sp) (E : XK) (tf : TE) (t : TA) : TE := fun σ H Q => tf σ H fun y H1 => onRef y fun a => t σ H1 fun vs H2 => InsV C H2 a ∧ sp (.ref a :: vs) H2 Q E
theorem e_callI {g : Addr} {fe : Expr} (hf : PE X fe tf) (c : Meth X.K C "__call__" g) (hfi : PySem.W.fnIn X.K g = true) (F : CallK X k g sp E) (hr : Room k X.A) (ha : PA X (e :: es) t)
    (ht : eval (.Call fe (e :: es) [] pos) X.env = (do callWith pos (← eval fe X.env) [] (backTo pos (starEach (e :: es) X.env)) (backToKw pos (keywordEach [] X.env))) := by rfl)
    (he : starEach (e :: es) X.env = (false, eval e X.env) :: starEach es X.env := by rfl) (hpl : (backTo pos (starEach es X.env)).any (·.1) = false := by rfl) : PE X (.Call fe (e :: es) [] pos) (tCallV C sp E tf t) := by
  refine ⟨fun pins s σ H Q I h => ?_⟩
  refine Call_ (thn (hf.run pins s σ H _ I h) fun u s1 ⟨y, H1, I1, ry, q⟩ => ?_) ht
  obtain ⟨a, rfl, q⟩ := onRef_ex q
  obtain rfl : u = Value.ref a := ry
  refine StX.callO_with (thn (ha.run pos pins s1 σ H1 _ I1 q) fun us s2 ⟨vs, H2, I2, r, ⟨dx, fs, hi⟩, q2⟩ => ?_) he hpl
  obtain ⟨mA, O, _⟩ := ins_get I2.hok hi
  obtain ⟨od, J, _⟩ := O.look
  refine ⟨⟨C, _, _, J, rfl⟩, wpAny_call (PySem.W.kco_code I2.kIn J rfl c.at_ c.fn hfi (codeAny_mono (F X.A pins s2 σ H2 (.ref a :: us) (.ref a :: vs) Q hr rfl rfl I2 (.cons rfl r) q2) fun res s' hq => ?_))⟩
  match res, hq with
  | .error e, hq => exact hq
  | .ok (.ret u), hq => exact hq
  | .ok .next, hq => exact hq.elim
  | .ok .brk, hq => exact hq.elim
  | .ok .cont, hq => exact hq.elim
theorem fnIn_of {K : PySem.W.Frag} {x qual : Str} {params : Arguments} {body : List Stmt} {scope : Scope} {dvs : List V} {kws : List (Str × V)} {f : Addr} {fd : FuncData} (F : FunD K x qual params body scope dvs kws f fd) : PySem.W.fnIn K f = true := by
  obtain ⟨oc, od, dV, kV, doc, pm, an, cdv, ct, osl, rfl, lk, _⟩ := F.ex
  unfold PySem.W.fnIn
  rw [lk]

/-! ### == and != by an own __eq__ -/
def onBl (v : V) (k : Bool → Prop) : Prop := match v with
  | .bl b => k b
  | _ => False
theorem onBl_ex {v : V} {k : Bool → Prop} (h : onBl v k) : ∃ b, v = .bl b ∧ k b := by
  cases v with
  | bl b => exact ⟨b, rfl, h⟩
  | _ => exact h.elim
def fOwnEq (K : PySem.W.Frag) (C : Addr) (sp : L2.Sp) (E : XK) : R2 := fun x y H Q => onRef x fun a => InsV C H a ∧ (∃ t, TyX K H y t ∧ PySem.W.notFirst K C t = true) ∧ sp [x, y] H (fun v H' => onBl v fun b => Q (.bl b) H') E
def fOwnNe (K : PySem.W.Frag) (C : Addr) (sp : L2.Sp) (E : XK) : R2 := fun x y H Q => onRef x fun a => InsV C H a ∧ (∃ t, TyX K H y t ∧ PySem.W.notFirst K C t = true) ∧ sp [x, y] H (fun v H' => onBl v fun b => Q (.bl (!b)) H') E
theorem o_ownEq {g : Addr} (c : Meth X.K C "__eq__" g) (F : CallK X k g sp E) (hr : Room k X.A) : OpR X (compareOp .Eq) (fOwnEq X.K C sp E) := by
  intro pins s σ H x y v u Q I rx ry hq
  obtain ⟨a, rfl, ⟨dx, fs, ea⟩, ⟨t, ty, hn⟩, h⟩ := onRef_ex hq
  cases (show v = Value.ref a from rx)
  obtain ⟨mA, O, _⟩ := ins_get I.hok ea
  obtain ⟨od, J, _⟩ := O.look
  obtain ⟨m, hF⟩ := I.fr
  obtain ⟨P, kx, hP, _⟩ := kit_of I ry ty
  show wpAny (model X.prog X.w) X.A (richCompare .Eq (.ref a) u) (EP X pins σ Q) X.xe s
  refine PySem.W.cmp_K (op := .Eq) (tb := t) hr.units0 hF I.ok.mod.kin J (kx.ty _ _ I.kIn hP) hn c.at_ c.fn ?_
  refine wpAny_mono (F.run hr rfl rfl I (.cons (show RelV (.ref a) (Value.ref a) from rfl) (.cons ry .nil)) h) (fun r s' hs => ?_) fun _ _ x => x
  obtain ⟨z, H', I', rz, hz⟩ := hs
  obtain ⟨b, rfl, q⟩ := onBl_ex hz
  cases rz
  exact ⟨.bl b, H', I', rfl, q⟩

/-- what isinstance, != ask of a class -/
structure InsF (K : PySem.W.Frag) (C : Addr) : Prop where
  ca : PySem.W.findIn K (.ref C) "__class__" = some (some (.builtin "object.__class__"))
  cg : PySem.W.specialIn K (.builtin "object.__class__") "__get__" = some (some (.builtin "getset_descriptor.__get__"))
  ct : PySem.W.takesIn K (.builtin "object.__class__") = some true
  ob : PySem.W.mroIn K C (.type "object") = some true
theorem bind_ne (self : Value) : bindSpecial (.builtin "object.__ne__") self = pure (.builtin "object.__ne__", [self]) :=
  (Slot.of (T := "object") (name := "__ne__") (owner := "object") (n := "__ne__") (by rw [typeLookup_type, builtinLookup_eq_fast]; kernel_rfl) (by decide +kernel) (by decide +kernel) (by decide +kernel)
    (.inl (by decide +kernel)) (by rw [isSubtype_type]; kernel_rfl)).bind self
theorem plain_ne : plainId "object.__ne__" = true := by decide +kernel
theorem ifBound_ne {M : Model} {A : Around} {E : Value → Shared → Prop} {s : Shared} {K : PySem.W.Frag} {x C : Addr} {ox : Obj} {od : Option Obj} {args : List Value} {Q : Option Value → Shared → Prop} (X : K.In s.heap) (I : PySem.W.InstAt s.heap x ox C od)
    (hs : PySem.W.findIn K (.ref C) "__ne__" = some (some (.builtin "object.__ne__")))
    (h : wpAny M A (call (.builtin "object.__ne__") (.ref x :: args)) (fun v => Q (some v)) E s) : wpAny M A (callSpecialIfBound? (.ref x) "__ne__" args) Q E s := by
  simp only [callSpecialIfBound?, bindSpecialIfBound?]
  refine wpAny_holding (wpAny_bind (wpAny_bind (wpAny_bind (I.type.here ((PySem.W.looks_findIn X hs).here ?_)))))
  simp only [bind_ne]
  refine wpAny_bind (wpAny_askSetting (wpAny_ite ?_))
  have fin : wpAny M A (call (.builtin "object.__ne__") ([.ref x] ++ args) >>= fun v => pure (some v)) Q E s := wpAny_bind (wpAny_mono h (fun v s' h' => wpAny_pure h') fun _ _ h' => h')
  split
  · exact wpAny_bind (wpAny_pure (wpAny_pure fin))
  · exact wpAny_tryCatch (wpAny_bind (wpAny_pure (wpAny_pure fin)))
theorem objNe_K {prog : Program} {w : World} {A : Around} {E : Value → Shared → Prop} {s : Shared} {K : PySem.W.Frag} {x C g : Addr} {b : Value} {ox : Obj} {od : Option Obj} {Q : Fin → Shared → Prop} (X : K.In s.heap) (I : PySem.W.InstAt s.heap x ox C od) (hu : A.units < cLine)
    (hs : PySem.W.findIn K (.ref C) "__eq__" = some (some (.ref g))) (hf : PySem.W.isFn K (.ref g) = true)
    (hcall : wpAny (model prog w) A (call (.ref g) [.ref x, b]) (fun v s' => ∃ b, v = .bool b ∧ Q (.done (.ret (.bool (!b)))) s') E s) :
    wpAny (model prog w) A (Builtin.«object.__ne__» ⟨[.ref x, b], []⟩) Q E s := by
  obtain ⟨h, gs, d, t, os⟩ := s
  unfold Builtin.«object.__ne__»
  repeat (first
    | with_reducible refine wpAny_cRoomFor hu ?_
    | (refine wpAny_bind (m := callSpecialIfBound? (.ref x) (Str.ofString "__eq__") [b])
        (PySem.W.ifBound_K X I hs hf (wpAny_mono hcall (fun r s' hr => by
          obtain ⟨b, rfl, hq⟩ := hr
          repeat (first | exact hq | exact wpAny_pure hq | exact wpAny_truthy_bool hq | (refine wpAny_bind (m := truthy (.bool _)) (wpAny_truthy_bool ?_)) | wp_step)) fun _ _ e => e)))
    | wp_step)
theorem o_ownNe {g : Addr} (c : Meth X.K C "__eq__" g) (hne : PySem.W.findIn X.K (.ref C) "__ne__" = some (some (.builtin "object.__ne__"))) (hI : InsF X.K C) (F : CallK X k g sp E) (hr : Room (k + 1) X.A) : OpR X (compareOp .NotEq) (fOwnNe X.K C sp E) := by
  intro pins s σ H x y v u Q I rx ry hq
  obtain ⟨a, rfl, ⟨dx, fs, ea⟩, ⟨t, ty, hn⟩, h⟩ := onRef_ex hq
  cases (show v = Value.ref a from rx)
  obtain ⟨mA, O, _⟩ := ins_get I.hok ea
  obtain ⟨od, J, _⟩ := O.look
  obtain ⟨m, hF⟩ := I.fr
  obtain ⟨P, kx, hP, _⟩ := kit_of I ry ty
  have key : wpAny (model X.prog X.w) X.A.in1 (call (.ref g) [.ref a, u]) (fun v s' => ∃ b, v = .bool b ∧ EP X pins σ Q (.bool (!b)) s') X.xe s := by
    refine wpAny_mono (F.run hr.in1 rfl rfl I (.cons (show RelV (.ref a) (Value.ref a) from rfl) (.cons ry .nil)) h) (fun r s' hs => ?_) fun _ _ x => x
    obtain ⟨z, H', I', rz, hz⟩ := hs
    obtain ⟨b, rfl, q⟩ := onBl_ex hz
    cases rz
    exact ⟨b, rfl, .bl (!b), H', I', rfl, q⟩
  have hi : PySem.W.Looks (model X.prog X.w) s.heap (isInstance (.ref a) (.type "object")) true := by
    unfold isInstance
    exact J.type.andThen (PySem.W.looks_subIn (t := .ref C) I.kIn hI.ob)
  have one : wpAny (model X.prog X.w) X.A (tryCompare (.ref a) (cmpInfo .NotEq).2.1 u) (fun r s' => ∃ v, r = some v ∧ EP X pins σ Q v s') X.xe s := by
    rw [cmpInfo_NotEq]
    dsimp only
    unfold tryCompare
    refine wpAny_bind (ifBound_ne I.kIn J hne (wpAny_call (codeAny_call_builtin plain_ne PySem.F.cmpEntry_ne (PySem.W.check_slot PySem.F.cmpKind_ne PySem.F.cmpSplit_ne hi (PySem.F.cmpArgs_ne _ _) ?_))))
    refine objNe_K (A := X.A.in1) I.kIn J hr.in1.units0 c.at_ c.fn (wpAny_mono key (fun v s' hv => ?_) fun _ _ e => e)
    obtain ⟨b, rfl, hq⟩ := hv
    exact ⟨b, rfl, wpAny_pure ⟨_, rfl, hq⟩⟩
  show wpAny (model X.prog X.w) X.A (richCompare .NotEq (.ref a) u) (EP X pins σ Q) X.xe s
  unfold richCompare
  simp only [oneThing_ref]
  refine wpAny_holding (wpAny_bind (wpAny_cRoomFor hr.units0 ?_))
  refine wpAny_bind (J.type.here (wpAny_bind ((kx.ty _ _ I.kIn hP).here ?_)))
  split
  · rename_i q
    have e : PySem.W.subIn X.K t (.ref C) = some false := by
      rcases Bool.or_eq_true_iff.mp hn with e | e
      · rw [beq_iff_eq.mp e] at q; simp at q
      · exact beq_iff_eq.mp e
    refine wpAny_bind ((PySem.W.looks_subIn I.kIn e).here ?_)
    simp only [Bool.false_eq_true, if_false]
    refine wpAny_bind (wpAny_mono one (fun r s' z => ?_) fun _ _ e => e)
    obtain ⟨v, rfl, hq⟩ := z
    exact wpAny_pure hq
  · refine wpAny_bind (wpAny_pure ?_)
    simp only [Bool.false_eq_true, if_false]
    refine wpAny_bind (wpAny_mono one (fun r s' z => ?_) fun _ _ e => e)
    obtain ⟨v, rfl, hq⟩ := z
    exact wpAny_pure hq

/-! ### repr, str, bool of an instance -/
def fReprI (C : Addr) (sp : L2.Sp) (E : XK) : List V → Hp → VK → Prop := fun xs H Q => on1 xs fun x => onRef x fun a => InsV C H a ∧ sp [x] H (fun v H' => onStr v fun y => Q (.str y) H') E
theorem c_reprI {g : Addr} (c : Meth X.K C "__repr__" g) (F : CallK X k g sp E) (hr : Room (k + 1) X.A) : CallR X (.builtin "repr") (fReprI C sp E) := by
  intro pins s σ H xs us Q I r h
  obtain ⟨x, rfl, h⟩ := on1_ex h
  obtain ⟨a, rfl, ⟨dx, fs, ea⟩, h⟩ := onRef_ex h
  obtain ⟨u, rfl, rx⟩ := vals1 r
  cases (show u = Value.ref a from rx)
  obtain ⟨mA, O, _⟩ := ins_get I.hok ea
  obtain ⟨od, J, _⟩ := O.look
  obtain ⟨m, hF⟩ := I.fr
  refine PySem.W.repr_K hr.in1.units0 hF I.ok.mod.kin J c.at_ c.fn ?_
  refine wpAny_mono (F.run hr.in1 rfl rfl I (.cons (show RelV (.ref a) (Value.ref a) from rfl) .nil) h) (fun r s' hs => ?_) fun _ _ x => x
  obtain ⟨z, H', I', rz, hz⟩ := hs
  obtain ⟨y, rfl, q⟩ := onStr_ex hz
  obtain ⟨tk, rfl⟩ := rz
  exact ⟨.str y, H', I', ⟨tk, rfl⟩, q⟩
/-- str(o) by an own __str__ -/
theorem c_strO {g : Addr} (c : Meth X.K C "__str__" g) (F : CallK X k g sp E) (hr : Room (k + 2) X.A) : CallR X (.type "str") (fReprI C sp E) := by
  intro pins s σ H xs us Q I r h
  obtain ⟨x, rfl, h⟩ := on1_ex h
  obtain ⟨a, rfl, ⟨dx, fs, ea⟩, h⟩ := onRef_ex h
  obtain ⟨u, rfl, rx⟩ := vals1 r
  cases (show u = Value.ref a from rx)
  obtain ⟨mA, O, _⟩ := ins_get I.hok ea
  obtain ⟨od, J, _⟩ := O.look
  refine PySem.W.kso_call hr.in1.in1.units0 I.kIn J c.at_ c.fn ?_
  refine wpAny_mono (F.run hr.in1.in1 rfl rfl I (.cons (show RelV (.ref a) (Value.ref a) from rfl) .nil) h) (fun r s' hs => ?_) fun _ _ x => x
  obtain ⟨z, H', I', rz, hz⟩ := hs
  obtain ⟨y, rfl, q⟩ := onStr_ex hz
  obtain ⟨tk, rfl⟩ := rz
  exact ⟨.str y, H', I', ⟨tk, rfl⟩, q⟩
theorem truthy_I {M : Model} {A : Around} {E : Value → Shared → Prop} {s : Shared} {K : PySem.W.Frag} {x C : Addr} {ox : Obj} {od : Option Obj} {Q : Bool → Shared → Prop} (X : K.In s.heap) (I : PySem.W.InstAt s.heap x ox C od) (hs : NoAttr K C "__bool__") (hl : NoAttr K C "__len__")
    (h : Q true s) : wpAny M A (truthy (.ref x)) Q E s := by
  unfold truthy
  refine wpAny_bind (m := callSpecial? (.ref x) (Str.ofString "__bool__")) (wpAny_bind (wpAny_bind (I.type.here ((PySem.W.looks_findIn X hs).here (wpAny_pure ?_)))))
  refine wpAny_bind (wpAny_bind (I.type.here ((PySem.W.looks_findIn X hl).here ?_)))
  exact wpAny_pure h
theorem meets_bool_I (K : PySem.W.Frag) (x C : Addr) (hb : NoAttr K C "__bool__") (hl : NoAttr K C "__len__") :
    Meets (Builtin.«bool.__new__» ⟨[.type "bool", .ref x], []⟩) (fun _ R s => (K.In s.heap ∧ ∃ ox od, PySem.W.InstAt s.heap x ox C od) ∧ R (.ok (.ret (.bool true))) s) :=
  Meets.of_wp fun prog w A R s hs => by
    obtain ⟨⟨hK, ox, od, J⟩, hs⟩ := hs
    obtain ⟨hp, g, d, tk, os⟩ := s
    have f1 := PySem.F.conv_sub_bool
    repeat (any_goals (first | assumption | (with_reducible refine truthy_I hK J hb hl ?_) | wp_step))
    all_goals first | exact ⟨_, rfl, hs⟩ | exact hs | skip
def fBoolI (C : Addr) : List V → Hp → VK → Prop := fun xs H Q => on1 xs fun x => onRef x fun a => InsV C H a ∧ Q (.bl true) H
theorem c_boolI (hb : NoAttr X.K C "__bool__") (hl : NoAttr X.K C "__len__") : CallR X (.type "bool") (fBoolI C) := by
  intro pins s σ H xs us Q I r h
  obtain ⟨x, rfl, h⟩ := on1_ex h
  obtain ⟨a, rfl, ⟨dx, fs, ea⟩, h⟩ := onRef_ex h
  obtain ⟨u, rfl, rx⟩ := vals1 r
  cases (show u = Value.ref a from rx)
  obtain ⟨mA, O, _⟩ := ins_get I.hok ea
  obtain ⟨od, J, _⟩ := O.look
  exact call_bool_1 (meets_bool_I X.K a C hb hl) ⟨⟨I.kIn, _, _, J⟩, rfl, .bl true, H, I, rfl, h⟩

/-! ### f-strings -/
/-- {x!r} of data -/
def tFmtD (K : PySem.W.Frag) (te : TE) : TE := fun σ H Q => te σ H fun x H1 => fRepr K [x] H1 Q
theorem e_fmtD {pos : Pos} (hg : X.A.guards = some []) (hu : X.A.units + 64 < cLine) (he : PE X e ta) : PE X (.FormattedValue e 114 none pos) (tFmtD X.K ta) := by
  refine ⟨fun pins s σ H Q I h => ?_⟩
  refine wpAny_FormattedValue_repr (thn (he.run pins s σ H _ I h) fun u s1 hv => ?_)
  obtain ⟨x, H1, I1, rx, _, ⟨d, hd, h1, h2, h3, h4, rfl⟩, q⟩ := hv
  obtain ⟨as, rd⟩ := Dp.reads I1 d x u hd rx
  obtain ⟨a, rfl⟩ := isRef_of_reads rd h1
  exact pyReprObj_of_reads rd h2 (PyData.noDict_hsm (dp_noDict _ _ hd)) hg (by omega) (fun _ _ e => e) (fun h' u tk hk => wpAny_formatField_str ⟨.str d.shown, H1, I1.kept hk, ⟨_, rfl⟩, q⟩ ⟨.str d.shown, H1, (I1.kept (t' := tk) hk).tok _, ⟨_, rfl⟩, q⟩ h4) h4
/-- {x} of an int, a text -/
def tFmtV (te : TE) : TE := fun σ H Q => te σ H fun x H1 => match x with
  | .int i => i.natAbs.log2 < 1920 ∧ Q (.str (toString i)) H1
  | .str y => y.length ≤ sizeLine ∧ Q (.str y) H1
  | _ => False
theorem e_fmtV {pos : Pos} (he : PE X e ta) : PE X (.FormattedValue e (-1) none pos) (tFmtV ta) := by
  refine ⟨fun pins s σ H Q I h => ?_⟩
  refine wpAny_FormattedValue_plain (thn (he.run pins s σ H _ I h) fun v s1 hv => ?_)
  obtain ⟨x, H1, I1, r1, q⟩ := hv
  cases x with
  | str y =>
    obtain ⟨t, rfl⟩ := r1
    obtain ⟨hz, q⟩ := q
    exact wpAny_formatField_str ⟨.str y, H1, I1, ⟨t, rfl⟩, q⟩ ⟨.str y, H1, I1.tok _, ⟨_, rfl⟩, q⟩ hz
  | int i =>
    obtain ⟨t, rfl⟩ := r1
    obtain ⟨hz, q⟩ := q
    exact wpAny_formatField_int hz ⟨.str (toString i), H1, I1.tok _, ⟨_, rfl⟩, q⟩
  | _ => exact q.elim
def tJsV : List TE → Str → L2.St → Hp → (Str → Hp → Prop) → Prop
  | [], acc, _, H, Q => Q acc H
  | t :: ts, acc, σ, H, Q => t σ H fun x H1 => onStr x fun y => (acc ++ y).length ≤ sizeLine ∧ tJsV ts (acc ++ y) σ H1 Q
theorem pjV_run {pins : List (Addr × Obj)} {σ : L2.St} {es : List Expr} {ts : List TE} (h : PJ X es ts) : ∀ (acc : Str) (s : Shared) (H : Hp) (Q : Str → Hp → Prop) (R : Str → Shared → Prop), acc.length ≤ sizeLine → L2.Inv X pins σ H s → tJsV ts acc σ H Q →
    (∀ out s1 H1, out.length ≤ sizeLine → L2.Inv X pins σ H1 s1 → Q out H1 → R out s1) → Joins (model X.prog X.w) X.A X.xe (evalEach es X.env) acc R s := by
  induction h with
  | nil =>
    intro acc s H Q R hz I q k
    have e0 : evalEach [] X.env = [] := by first | rfl | simp [evalEach]
    rw [e0]
    exact k acc s H hz I q
  | @cons e t es ts he r ih =>
    intro acc s H Q R hz I q k
    have e0 : evalEach (e :: es) X.env = eval e X.env :: evalEach es X.env := by first | rfl | simp [evalEach]
    rw [e0]
    refine thn (he.run pins s σ H _ I q) fun v s1 hv => ?_
    obtain ⟨x, H1, I1, r1, h1⟩ := hv
    obtain ⟨y, rfl, hy, q1⟩ := onStr_ex h1
    obtain ⟨tk, rfl⟩ := r1
    exact ⟨y, tk, rfl, hy, ih (acc ++ y) s1 H1 Q R hy I1 q1 k⟩
def tJn (ts : List TE) : TE := fun σ H Q => tJsV ts Str.empty σ H fun out H1 => Q (.str out) H1
/-- f'..' of two parts or more -/
theorem e_joined {v1 v2 : Expr} {rest : List Expr} {ts : List TE} {pos : Pos} (h : PJ X (v1 :: v2 :: rest) ts) : PE X (.JoinedStr (v1 :: v2 :: rest) pos) (tJn ts) := by
  refine ⟨fun pins s σ H Q I q => ?_⟩
  exact wpAny_JoinedStr (pjV_run h Str.empty s H (fun out H1 => Q (.str out) H1) _ (Nat.zero_le _) I q fun out s1 H1 hz I1 q1 => ⟨hz, .str out, H1, I1.tok _, ⟨_, rfl⟩, q1⟩)
end

/-! ### a Hook with defs at any place, and any facts -/
def fnAt (K : PySem.W.Frag) (f : Addr) : He.FnW := match K.lookup f with
  | some ⟨_, _, .func fd, _⟩ => some (fd.name, fd.qualname, fd.params, fd.body, fd.scope, fd.globals, fd.closure, fd.builtins)
  | _ => none
structure DefA where
  at_ : PySem.W.Frag → Addr
  name : Str
  qual : Str
  params : Arguments
  body : List Stmt
  scope : Scope
  dfl : List He.Dv := []
  kwd : List (Str × He.Dv) := []
def DefA.val (d : DefA) : He.FnW := some (d.name, d.qual, d.params, .stmts d.body, d.scope, mainGlobals, [], builtinsNs)
def DefA.dvs (K : PySem.W.Frag) (d : DefA) : List V := d.dfl.map (He.Dv.v K)
def DefA.kws (K : PySem.W.Frag) (d : DefA) : List (Str × V) := d.kwd.map fun q => (q.1, q.2.v K)
def DefA.ok (K : PySem.W.Frag) (d : DefA) : Bool := PySem.W.keepIn K (.ref (d.at_ K)) && (match K.lookup (d.at_ K) with
  | some ⟨_, _, .func fd, _⟩ => PySem.W.codeIn K fd.code d.qual && (He.dflB K fd.defaults (d.dvs K) && He.kwdB K fd.kwdefaults (d.kws K))
  | _ => false)
theorem DefA.funD {K : PySem.W.Frag} {d : DefA} (e : fnAt K (d.at_ K) = d.val) (c : d.ok K = true) : ∃ fd, FunD K d.name d.qual d.params d.body d.scope (d.dvs K) (d.kws K) (d.at_ K) fd := by
  obtain ⟨kp, c2⟩ := He.ba c
  unfold fnAt at e
  cases q : K.lookup (d.at_ K) with
  | none =>
    rw [q] at c2
    cases c2
  | some o =>
    obtain ⟨oc, od, dt, osl⟩ := o
    rw [q] at c2 e
    cases dt with
    | func fd =>
      obtain ⟨n1, n2, n3, n4, n5, n6, n7, n8, n9, n10, n11, n12, n13, n14, n15⟩ := fd
      have e2 : (some (n1, n2, n3, n4, n5, n6, n7, n15) : He.FnW) = some (d.name, d.qual, d.params, .stmts d.body, d.scope, mainGlobals, [], builtinsNs) := e
      simp only [Option.some.injEq, Prod.mk.injEq] at e2
      obtain ⟨h1, h2, h3, h4, h5, h6, h7, h8⟩ := e2
      subst h1 h2 h3 h4 h5 h6 h7 h8
      have c3 : (PySem.W.codeIn K n13 d.qual && (He.dflB K n8 (d.dvs K) && He.kwdB K n9 (d.kws K))) = true := c2
      obtain ⟨k1, k2⟩ := He.ba c3
      obtain ⟨k3, k4⟩ := He.ba k2
      exact ⟨_, ⟨oc, od, n8, n9, n10, n11, n12, n13, n14, osl, rfl, q, k1, He.dflB_ok k3, He.kwdB_ok k4⟩, kp⟩
    | _ => cases c2
abbrev AlA : Type := He.AlX × List He.FnW
def allB (da : List DefA) (exs : List (PySem.W.Frag → Bool)) (K : PySem.W.Frag) : Bool := (da.all fun d => d.ok K) && exs.all fun f => f K
def obsA (n : Nat) (fa : List He.Fa) (fn : List He.DefD) (da : List DefA) (exs : List (PySem.W.Frag → Bool)) (g : Addr → Option Obj) : AlA :=
  (He.obsX n fa fn [] [] (allB da exs) g, da.map fun d => fnAt (He.frT g (He.asD g n)) (d.at_ (He.frT g (He.asD g n))))
def valA (fn : List He.DefD) (da : List DefA) (w : World) : AlA := (He.valX fn [] w, da.map DefA.val)
structure SaysA (fa : List He.Fa) (fn : List He.DefD) (da : List DefA) (exs : List (PySem.W.Frag → Bool)) (K : PySem.W.Frag) : Prop where
  d : He.SaysD fa fn K
  ok : allB da exs K = true
  fn : (da.map fun d => fnAt K (d.at_ K)) = da.map DefA.val
theorem SaysA.def_ {fa : List He.Fa} {fn : List He.DefD} {da : List DefA} {exs : List (PySem.W.Frag → Bool)} {K : PySem.W.Frag} (c : SaysA fa fn da exs K) (i : Nat) {d : DefA} (h : da[i]? = some d := by rfl) : ∃ fd, FunD K d.name d.qual d.params d.body d.scope (d.dvs K) (d.kws K) (d.at_ K) fd := by
  have c2 := (He.ba c.ok).1
  have e2 : (da.map fun d => fnAt K (d.at_ K))[i]? = (da.map DefA.val)[i]? := by rw [c.fn]
  rw [List.getElem?_map, List.getElem?_map, h] at e2
  exact DefA.funD (Option.some.inj e2) (List.all_eq_true.mp c2 d (List.mem_of_getElem? h))
theorem SaysA.ex {fa : List He.Fa} {fn : List He.DefD} {da : List DefA} {exs : List (PySem.W.Frag → Bool)} {K : PySem.W.Frag} (c : SaysA fa fn da exs K) (i : Nat) {f : PySem.W.Frag → Bool} (h : exs[i]? = some f := by rfl) : f K = true :=
  List.all_eq_true.mp (He.ba c.ok).2 f (List.mem_of_getElem? h)
def hookA (n : Nat) (fa : List He.Fa) (fn : List He.DefD) (da : List DefA) (exs : List (PySem.W.Frag → Bool)) : PySem.W.Hook where
  α := AlA
  obs := fun s => obsA n fa fn da exs s.heap.get?
  val := fun w => valA fn da w
  says := fun w h => ∃ K : PySem.W.Frag, K.In h ∧ SaysA fa fn da exs K
  of := fun _ _ e => by
    have e1 := congrArg Prod.fst e
    have e2 := congrArg Prod.snd e
    have q := He.saysX_of e1
    exact ⟨_, He.frT_in, q.t.d, q.more, e2⟩
  keeps := fun _ _ _ ⟨K, hK, c⟩ k => ⟨K, PySem.W.Frag.In.keeps hK k, c⟩
theorem obsA_eq {n : Nat} {fa : List He.Fa} {fn : List He.DefD} {da : List DefA} {exs : List (PySem.W.Frag → Bool)} {g : Addr → Option Obj} {s : Shared} (h : ∀ a, g a = s.heap.get? a) : obsA n fa fn da exs g = (hookA n fa fn da exs).obs s := by
  have e : g = s.heap.get? := funext h
  rw [e] <;> rfl
/-! facts for it -/
def pA (C m : Str) (K : PySem.W.Frag) : Addr := He.ma K (He.ga K C) m
def recA (T : String) (C m : Str) (K : PySem.W.Frag) : Addr := match PySem.W.recIn K (pA C m K) T with
  | some (.ref g :: _) => g
  | _ => 0
def propB (C m : Str) (K : PySem.W.Frag) : Bool := He.eqO (PySem.W.findIn K (.ref (He.ga K C)) m) (some (some (.ref (pA C m K)))) && (He.eqO (PySem.W.specialIn K (.ref (pA C m K)) "__get__") (some (some (.builtin "property.__get__"))) &&
  (decide (PySem.W.takesIn K (.ref (pA C m K)) = some true) && (match PySem.W.recIn K (pA C m K) "property" with
    | some (.ref _ :: _) => true
    | _ => false)))
theorem propB_ok {C m : Str} {K : PySem.W.Frag} (h : propB C m K = true) : PropOf K (He.ga K C) m (pA C m K) (recA "property" C m K) := by
  obtain ⟨h1, h⟩ := He.ba h
  obtain ⟨h2, h⟩ := He.ba h
  obtain ⟨h3, h⟩ := He.ba h
  refine ⟨He.eqO_ok h1, He.eqO_ok h2, of_decide_eq_true h3, ?_⟩
  unfold recA
  cases e : PySem.W.recIn K (pA C m K) "property" with
  | none => rw [e] at h; cases h
  | some r =>
    rw [e] at h
    cases r with
    | nil => cases h
    | cons u rest =>
      cases u with
      | ref g => exact ⟨rest, rfl⟩
      | _ => cases h
def insB (C : Str) (K : PySem.W.Frag) : Bool := He.eqO (PySem.W.findIn K (.ref (He.ga K C)) "__class__") (some (some (.builtin "object.__class__"))) && (He.eqO (PySem.W.specialIn K (.builtin "object.__class__") "__get__") (some (some (.builtin "getset_descriptor.__get__"))) &&
  (decide (PySem.W.takesIn K (.builtin "object.__class__") = some true) && decide (PySem.W.mroIn K (He.ga K C) (.type "object") = some true)))
theorem insB_ok {C : Str} {K : PySem.W.Frag} (h : insB C K = true) : InsF K (He.ga K C) := by
  obtain ⟨h1, h⟩ := He.ba h
  obtain ⟨h2, h⟩ := He.ba h
  obtain ⟨h3, h4⟩ := He.ba h
  exact ⟨He.eqO_ok h1, He.eqO_ok h2, of_decide_eq_true h3, of_decide_eq_true h4⟩
def blB (C m : Str) (id : String) (K : PySem.W.Frag) : Bool := He.eqO (PySem.W.findIn K (.ref (He.ga K C)) m) (some (some (.builtin id)))
theorem blB_ok {C m : Str} {id : String} {K : PySem.W.Frag} (h : blB C m id K = true) : PySem.W.findIn K (.ref (He.ga K C)) m = some (some (.builtin id)) := He.eqO_ok h
def sfB (C : Str) (K : PySem.W.Frag) : Bool := PySem.W.selfFirst K (He.ga K C)
/-- the class of an instance by its name is another one than that -/
def unB (C D : Str) (K : PySem.W.Frag) : Bool := decide (PySem.W.subIn K (.ref (He.ga K C)) (.ref (He.ga K D)) = some false)
theorem InsF.ty {K : PySem.W.Frag} {C a dx : Addr} {fs : List (Str × V)} {H : Hp} (I : InsF K C) (c : Cls K C) (e : H a = some (.ins C dx fs)) : TyX K H (.ref a) (.ref C) := .base (.ins e c I.ca I.cg I.ct I.ob)
theorem nf_self {K : PySem.W.Frag} {C : Addr} : PySem.W.notFirst K C (.ref C) = true := by simp [PySem.W.notFirst]

/-! ### calls without defaults; isinstance of an own class -/
section
variable {X : Cx} {CX : CXT} {k : Nat} {f C : Addr} {fd : FuncData} {ps : List Str} {sp : L2.Sp} {E : XK}
theorem ck0 (F : FnOk X.prog X.w X.K X.mg X.base CX k f fd ps sp) (hb : Binds X.K fd ps []) (hx : Passes CX X E) : CallK X k f sp E := by
  have h := ckOk F hb .nil hx
  simp only [List.append_nil] at h
  exact h
theorem ckG0 (hgd : X.A.guards = some []) (F : FnG X.prog X.w X.K X.mg X.base CX k f fd ps sp) (hb : Binds X.K fd ps []) (hx : Passes CX X E) : CallK X k f sp E := by
  have h := ckG hgd F hb .nil hx
  simp only [List.append_nil] at h
  exact h
end
/-- is it of this own class -/
def ownB (C : Str) (K : PySem.W.Frag) : Bool := (["NoneType", "bool", "int", "str", "list", "tuple", "dict", "float", "set", "bytes"] : List String).all fun T => decide (PySem.W.kitOne K (.type T) (.ref (He.ga K C)) = some false) && PySem.W.notFirst K (He.ga K C) (.type T)
/-- a value of a built-in type -/
structure OwnF (K : PySem.W.Frag) (C : Addr) : Prop where
  isi : ∀ T ∈ (["NoneType", "bool", "int", "str", "list", "tuple", "dict", "float", "set", "bytes"] : List String), PySem.W.kitOne K (.type T) (.ref C) = some false
  nf : ∀ T ∈ (["NoneType", "bool", "int", "str", "list", "tuple", "dict", "float", "set", "bytes"] : List String), PySem.W.notFirst K C (.type T) = true
theorem ownB_ok {C : Str} {K : PySem.W.Frag} (h : ownB C K = true) : OwnF K (He.ga K C) :=
  ⟨fun T hT => of_decide_eq_true (He.ba (List.all_eq_true.mp h T hT)).1, fun T hT => (He.ba (List.all_eq_true.mp h T hT)).2⟩
theorem kit_self {K : PySem.W.Frag} {C : Addr} : PySem.W.kitOne K (.ref C) (.ref C) = some true := by simp [PySem.W.kitOne]
/-- two own classes -/
def isoB (C D : Str) (b : Bool) (K : PySem.W.Frag) : Bool := decide (PySem.W.kitOne K (.ref (He.ga K C)) (.ref (He.ga K D)) = some b)

/-! ### the end, where the law's def may show things -/
theorem lawG {P : Program} {w : World} {K : PySem.W.Frag} {mg mb : Str → Option Value} {CX : CXT} {k : Nat} {fa a : Addr} {fd : FuncData} {x : Str} {sp : L2.Sp} {s : Shared} {vs : List Value} {ns : List Int}
    (KX : K.In s.heap) (hns : s.heap.Ns mainGlobals mg) (hb : s.heap.Ns builtinsNs mb) (hbb : ∀ x : Str, x ≠ "__name__" → mb x = bootBuiltins x) (hlim : s.heap.NoLimit) (hg : s.gens = #[])
    (ha : s.heap.get? a = some { cls := .type "list", data := .seq vs.toArray }) (hi : IntsAre vs ns) (hl : ns.length ≤ sizeLine) (hr : Room k callerA)
    (F : ∀ base : Heap, FnG P w K mg base CX k fa fd [x] sp) (hbind : ∀ (s : Shared) (u : Value), BindsTo s fd ⟨[u], []⟩ [(x, u)])
    (hsp : ∀ H : Hp, SqL K H a (ns.map V.int) → sp [.ref a] H (fun v _ => v = .bl true) fun _ _ _ => False)
    (hCX : ∀ H e s', CX [] H s (fun _ _ _ => False) e s' → False) :
    codeAny (model P w) callerA (.call (.ref fa) ⟨[.ref a], []⟩) (fun r s' => r = .ok (.ret (.bool true)) ∧ OldK s.heap s'.heap ∧ s'.os = s.os ∧ AllBare s'.gens) s := by
  have rv := vals_ints hi
  have lenV := hi.length
  -- what is tracked is the script or nothing
  have go : ∀ H : Hp, SqL K H a (ns.map V.int) → HOk P w H s.heap → (∀ b u, H b = some u → b = a ∧ K.lookup a = none ∧ ∃ o xs, u = .frz o (.lst xs)) →
      codeAny (model P w) callerA (.call (.ref fa) ⟨[.ref a], []⟩) (fun r s' => r = .ok (.ret (.bool true)) ∧ OldK s.heap s'.heap ∧ s'.os = s.os ∧ AllBare s'.gens) s := by
    intro H hS hok hA
    have none_of : ∀ {b : Addr}, b ≠ a → H b = none := fun {b} hne => by
      cases q : H b with
      | none => rfl
      | some u => exact absurd (hA b u q).1 hne
    have ns_of : ∀ {b : Addr} {m : Str → Option Value}, s.heap.Ns b m → (hidT s.heap H).Ns b m := fun {b m} ⟨o, es, ep, e, d, r⟩ => by
      refine ⟨o, es, ep, hidT_get e (none_of fun z => ?_), d, r⟩
      rw [z, ha] at e
      cases e
      cases d
    have hK : K.In (hidT s.heap H) := fun b o e => by
      refine hidT_get (KX b o e) ?_
      cases q : H b with
      | none => rfl
      | some u =>
        obtain ⟨z, l, _⟩ := hA b u q
        rw [z, l] at e
        cases e
    obtain ⟨mc, l1, l2⟩ := hlim
    have e0 : Env0 P w K mg (hidT s.heap H) callerA [] s H := ⟨rfl, ⟨hK, ns_of hns, ⟨mb, ns_of hb, hbb⟩, ⟨mc, ns_of l1, l2⟩⟩, fun b o e => of_hidT e, Nat.le_of_eq (hidT_size _ _), trivial, fun b hb => absurd (show b ∈ ([] : List Addr) from hb) (by simp), hok, .of_eq hg⟩
    refine codeAny_mono ((F _).run callerA [] s H ⟨[.ref a], []⟩ [.ref a] [.ref a] _ _ rfl hr e0 (hbind s (.ref a)) (.cons rfl .nil) (hsp H hS)) fun r s' h => ?_
    match r, h with
    | .error e, h => exact (hCX H e s' h).elim
    | .ok .next, h => exact False.elim h
    | .ok .brk, h => exact False.elim h
    | .ok .cont, h => exact False.elim h
    | .ok (.ret u), h =>
      obtain ⟨v, H', os, bare, un, hok', r', q⟩ := h
      cases (show v = .bl true from q)
      obtain rfl : u = Value.bool true := r'
      refine ⟨rfl, OldK.of_keep fun b o e => ?_, os, bare⟩
      cases q : H b with
      | none => exact un.keep b o e q (by intro z; exact absurd (show b ∈ ([] : List Addr) from z) (by simp)) (by simp)
      | some u =>
        obtain ⟨_, _, ob, xs, rfl⟩ := hA b u q
        have e1 := (hok b _ q).1
        have e2 := (hok' b _ (un.frzs b ob _ q)).1
        rw [e] at e1
        cases e1
        exact e2
  cases hk : K.lookup a with
  | some o =>
    have e := KX a o hk
    rw [ha] at e
    cases e
    exact go (fun _ => none) (.inr ⟨_, vs.toArray, _, hk, rfl, rfl, rfl, by rw [List.size_toArray, lenV]; exact hl, by simpa using rv⟩) (fun b u z => by cases z) fun b u z => by cases z
  | none =>
    refine go (fun b => if b = a then some (.frz { cls := .type "list", data := .seq vs.toArray } (.lst (ns.map V.int))) else none) (.inl (.inr ⟨{ cls := .type "list", data := .seq vs.toArray }, if_pos rfl⟩)) (fun b u z => ?_) (fun b u z => ?_)
    · by_cases hb : b = a
      · cases (if_pos hb).symm.trans z
        rw [hb]
        exact ⟨ha, by rw [List.length_map]; exact hl, vs, _, rv, ha⟩
      · cases (if_neg hb).symm.trans z
    · by_cases hb : b = a
      · cases (if_pos hb).symm.trans z
        exact ⟨hb, hk, _, _, rfl⟩
      · cases (if_neg hb).symm.trans z
theorem walkG {l : PySem.W.OpenLaw} {n k : Nat} {q : Program} {loose : List Str} {XP : (Str → Option Value) → Heap → Prop} {YP : World → Heap → Prop} {d : DefRec} {x : Str}
    (hn : l.most = some n) (hn2 : n ≤ sizeLine) (hdf : d.params.defaults = []) (hr : Room k callerA)
    (F : ∀ (w : World) (mg : Str → Option Value) (fa : Addr) (h : Heap), YP w h → h.Ns mainGlobals mg → mg d.name = some (.ref fa) → ∃ K : PySem.W.Frag, K.In h ∧ ∃ fd sp, (∀ (s : Shared) (u : Value), BindsTo s fd ⟨[u], []⟩ [(x, u)]) ∧
      (∀ (H : Hp) (a : Addr) (ns : List Int), ns.length ≤ n → SqL K H a (ns.map V.int) → sp [.ref a] H (fun v _ => v = .bl true) fun _ _ _ => False) ∧ ∀ base : Heap, FnG l.prog w K mg base CX0 k fa fd [x] sp) :
    PySem.W.WalkO q loose XP YP l.row.toRowW d [] (fun f vs => PySem.call f vs) := by
  refine Att.attach_callB hn hdf fun w s₀ s₁ mg mb fa o pm cd doc a vs ns G Y ho hd hcd hmg hobj hints hlen hbits hg => ?_
  obtain ⟨K, KX, fd, sp, hb, hsp, hF⟩ := F w mg fa _ Y G.T.g hmg
  exact lawG KX G.T.g G.T.b G.T.builtins G.T.nolimit hg hobj hints (Nat.le_trans hlen hn2) hr hF hb (fun H hS => hsp H a ns hlen hS) fun _ _ _ z => z

/-! ### how long what is shown is -/
mutual
def cells : PyData → Nat
  | .none | .bool _ | .int _ => 1
  | .str x => 1 + (reprText x).length
  | .list xs | .tuple xs => 1 + cellsAll xs
  | .dict _ => 0
def cellsAll : List PyData → Nat
  | [] => 0
  | x :: xs => cells x + cellsAll xs
end
theorem shownAll_len (xs : List PyData) : (PyData.shownAll xs).length = xs.length := by
  induction xs with
  | nil => rfl
  | cons x r ih => simp [PyData.shownAll, ih]
mutual
theorem shownAll_le : ∀ (xs : List PyData), PyData.showableAll xs = true → PyData.hasDictAll xs = false → ((PyData.shownAll xs).map (·.length)).sum + 2 * xs.length ≤ 2000 * cellsAll xs
  | [], _, _ => by simp [PyData.shownAll, cellsAll]
  | x :: xs, h, hd => by
    simp only [PyData.showableAll, Bool.and_eq_true] at h
    simp only [PyData.hasDictAll, Bool.or_eq_false_iff] at hd
    have a := shown_le' x h.1 hd.1
    have b := shownAll_le xs h.2 hd.2
    simp only [PyData.shownAll, List.map_cons, List.sum_cons, cellsAll, List.length_cons]
    omega
theorem shown_le' : ∀ (d : PyData), d.showable = true → d.hasDict = false → d.shown.length + 2 ≤ 2000 * cells d
  | .none, _, _ => by show (4 : Nat) + 2 ≤ 2000 * 1; decide
  | .bool b, _, _ => by cases b <;> (show _ + 2 ≤ 2000 * 1; decide)
  | .int i, h, _ => by
    have e := int_text_length_le (a := i) (k := 1920) (by decide) (by simpa [PyData.showable] using h)
    simp only [PyData.shown, cells, PySem.ofString_length]
    omega
  | .str x, _, _ => by
    simp only [PyData.shown, cells]
    omega
  | .list xs, h, hd => by
    have e := shownAll_le xs (by simpa [PyData.showable] using h) (by simpa [PyData.hasDict] using hd)
    have e2 := listText_len_le (PyData.shownAll xs)
    rw [shownAll_len] at e2
    simp only [PyData.shown, cells]
    omega
  | .tuple xs, h, hd => by
    have e := shownAll_le xs (by simpa [PyData.showable] using h) (by simpa [PyData.hasDict] using hd)
    have e2 := tupleText_len_le (PyData.shownAll xs)
    rw [shownAll_len] at e2
    simp only [PyData.shown, cells]
    omega
  | .dict kvs, _, hd => by simp [PyData.hasDict] at hd
end
theorem shown_le (d : PyData) (h : d.showable = true) (hd : d.hasDict = false) : d.shown.length ≤ 2000 * cells d := by
  have := shown_le' d h hd
  omega
theorem log_of {i : Int} (h : i.natAbs ≤ 10 ^ 100) : i.natAbs.log2 < 1920 := by
  rcases Nat.eq_zero_or_pos i.natAbs with z | z
  · rw [z]
    decide
  · refine (Nat.log2_lt (by omega)).mpr (Nat.lt_of_le_of_lt h ?_)
    have e : (10 : Nat) ^ 100 < 2 ^ 400 := by decide +kernel
    exact Nat.lt_trans e (Nat.pow_lt_pow_right (by decide) (by decide))
theorem showInts : ∀ {ns : List Int}, (∀ z ∈ ns, z.natAbs ≤ 10 ^ 100) → PyData.showableAll (ns.map PyData.int) = true
  | [], _ => rfl
  | n :: ns, h => by
    rw [List.map_cons]
    simp only [PyData.showableAll, PyData.showable, Bool.and_eq_true]
    exact ⟨decide_eq_true (log_of (h n (List.mem_cons_self ..))), showInts fun z hz => h z (List.mem_cons_of_mem _ hz)⟩
theorem cellsInts : ∀ (ns : List Int), cellsAll (ns.map PyData.int) = ns.length
  | [] => rfl
  | n :: ns => by rw [List.map_cons]; simp only [cellsAll, cells, cellsInts ns, List.length_cons]; omega
theorem depthInts : ∀ (ns : List Int), PyData.depthAll (ns.map PyData.int) ≤ 1
  | [] => by simp [PyData.depthAll]
  | n :: ns => by have := depthInts ns; simp [PyData.depthAll, PyData.depth]; omega
theorem hdInts : ∀ (ns : List Int), PyData.hasDictAll (ns.map PyData.int) = false
  | [] => rfl
  | n :: ns => by have := hdInts ns; simp [PyData.hasDictAll, PyData.hasDict]; simpa using this
end Sp
namespace Sp
open PySem PySem.Spec PyProof.Rows L2

theorem intAdd_ref {prog : Program} {w : World} {A : Around} {E : Value → Shared → Prop} {s : Shared} {Q : Fin → Shared → Prop} {i : Int} {t : Tok} {x C dx : Addr} (hx : s.heap.get? x = some (PySem.W.instObj C dx)) (h : Q (.done (.ret .notImplemented)) s) :
    wpAny (model prog w) A (Builtin.«int.__add__» ⟨[.int i t, .ref x], []⟩) Q E s := by
  obtain ⟨hp, g, d, tk, os⟩ := s
  unfold Builtin.«int.__add__» Builtin.Int.intBinary
  repeat (first
    | exact h
    | (with_reducible refine wpAny_load hx ?_)
    | wp_step)
theorem intAdd_call {prog : Program} {w : World} {A : Around} {E : Value → Shared → Prop} {s : Shared} {P : Shared → Prop} {i : Int} {t : Tok} {x C dx : Addr} (hx : s.heap.get? x = some (PySem.W.instObj C dx)) (h : P s) :
    wpAny (model prog w) A (call (.builtin "int.__add__") [.int i t, .ref x]) (fun v s' => v = .notImplemented ∧ P s') E s :=
  wpAny_call (codeAny_call_builtin (id := "int.__add__") F.slot_int_add.plain F.entry_int_add (F.slot_int_add.check _ _ _ _ _ _ _ _ (typeIs_int s i t) (F.args_int_add_2 _ _) (intAdd_ref hx ⟨rfl, h⟩)))
theorem intAdd_try {prog : Program} {w : World} {A : Around} {E : Value → Shared → Prop} {s : Shared} {R : Option Value → Shared → Prop} {i : Int} {t : Tok} {x C dx : Addr} (hx : s.heap.get? x = some (PySem.W.instObj C dx)) (h : R none s) :
    wpAny (model prog w) A (tryMethod (.int i t) (PySem.dunder "add") (.ref x)) R E s :=
  wpAny_tryMethod_declines (self := .int i t) (name := PySem.dunder "add") (id := "int.__add__") (T := "int") (Q := R) (typeIs_int s i t) F.slot_int_add (intAdd_call (P := fun s' => R none s') hx h)
theorem relNI {v : V} {u : Value} (r : RelV v u) : u ≠ .notImplemented := by
  intro z
  cases v <;> subst z <;> first | (obtain ⟨_, r⟩ := r; cases r) | cases r
theorem backNI {Q : Value → Shared → Prop} {u : Value} {s' : Shared} (h : u ≠ .notImplemented) (q : Q u s') : PySem.W.CmpBack Q u s' := by
  cases u <;> first | exact absurd rfl h | exact q
section
variable {prog : Program} {w : World} {A : Around} {E : Value → Shared → Prop} {s : Shared} {K : PySem.W.Frag} {x C dx f g : Addr} {od : Option Obj}
theorem radd_K {i : Int} {t : Tok} {Q : Value → Shared → Prop} (X : K.In s.heap) (I : PySem.W.InstAt s.heap x (PySem.W.instObj C dx) C od) (hx : s.heap.get? x = some (PySem.W.instObj C dx)) (hc : PySem.W.selfFirst K C = true)
    (ha : PySem.W.findIn K (.ref C) "__add__" = some (some (.ref g))) (hs : PySem.W.findIn K (.ref C) "__radd__" = some (some (.ref f))) (hf : PySem.W.isFn K (.ref f) = true) (hsub : PySem.W.subIn K (.ref C) (.type "int") = some false)
    (h : wpAny (model prog w) A (call (.ref f) [.ref x, .int i t]) (PySem.W.CmpBack Q) E s) : wpAny (model prog w) A (binaryOp .Add (.int i t) (.ref x)) Q E s := by
  obtain ⟨cd, rest, hcd, hm⟩ := PySem.W.ksp_first hc
  have er : ("__radd__" : Str) = PySem.dunderR "add" := by decide +kernel
  rw [er] at hs
  have one := PySem.W.ksp_try X I hs hf h
  have L3 : PySem.W.Looks (model prog w) s.heap (fillsNumberSlot (.ref C) "add") true := PySem.W.fills_K X hcd hm ha
  have L5 : PySem.W.Looks (model prog w) s.heap (isSubtype (.ref C) (.type "int")) false := PySem.W.looks_subIn X hsub
  simp only [binaryOp, Operator.info]
  refine wpAny_holding (wpAny_bind ?_)
  unfold binaryOp1
  refine wpAny_bind (wpAny_typeOf (typeIs_int s i t) ?_)
  refine wpAny_bind (I.type.here ?_)
  refine wpAny_bind ?_
  refine wpAny_of_eq F.fills_int_add ?_
  have hne : (Value.type "int" == Value.ref C) = false := Bool.eq_false_iff.mpr fun q => by cases beq_iff_eq.mp q
  simp only [hne, Bool.false_eq_true, if_false]
  refine wpAny_bind (L3.here ?_)
  simp only [Bool.and_self, if_true]
  refine wpAny_bind (L5.here ?_)
  have hpy : numberSlotInPython (.type "int") "add" = pure false := rfl
  simp only [Bool.false_eq_true, if_false, pure_bind, Bool.not_false, Bool.and_self, if_true, hpy]
  refine wpAny_bind (m := tryMethod (.int i t) (PySem.dunder "add") (.ref x)) ?_
  refine intAdd_try hx ?_
  refine wpAny_bind (wpAny_mono one (fun r s' hr => ?_) fun _ _ e => e)
  obtain ⟨v, rfl, hq⟩ := hr
  exact wpAny_bind (wpAny_rule (wpAny_pure (wpAny_pure hq)))
end
/-- what + asks of a class -/
structure AddF (K : PySem.W.Frag) (C : Addr) : Prop where
  ia : (PySem.W.findIn K (.type "int") "__add__").isSome = true
  ir : (PySem.W.findIn K (.type "int") "__radd__").isSome = true
  s1 : PySem.W.subIn K (.type "int") (.ref C) = some false
  s2 : PySem.W.subIn K (.ref C) (.type "int") = some false
def addB (C : Str) (K : PySem.W.Frag) : Bool := (PySem.W.findIn K (.type "int") "__add__").isSome && ((PySem.W.findIn K (.type "int") "__radd__").isSome && (decide (PySem.W.subIn K (.type "int") (.ref (He.ga K C)) = some false) && decide (PySem.W.subIn K (.ref (He.ga K C)) (.type "int") = some false)))
theorem addB_ok {C : Str} {K : PySem.W.Frag} (h : addB C K = true) : AddF K (He.ga K C) := by
  obtain ⟨h1, h⟩ := He.ba h
  obtain ⟨h2, h⟩ := He.ba h
  obtain ⟨h3, h4⟩ := He.ba h
  exact ⟨h1, h2, of_decide_eq_true h3, of_decide_eq_true h4⟩
/-- o + p by own methods: p an instance of the same class, or an int; or o an int -/
def fOwnAdd (C : Addr) (sp spR : L2.Sp) (E : XK) : R2 := fun x y H Q => match x, y with
  | .ref a, .ref b => InsV C H a ∧ InsV C H b ∧ sp [x, y] H Q E
  | .ref a, .int _ => InsV C H a ∧ sp [x, y] H Q E
  | .int _, .ref b => InsV C H b ∧ spR [y, x] H Q E
  | _, _ => False
section
variable {X : Cx} {k : Nat} {C : Addr} {sp spR : L2.Sp} {E : XK}
theorem o_ownAdd {g g' : Addr} (c : Meth X.K C "__add__" g) (c' : Meth X.K C "__radd__" g') (hsf : PySem.W.selfFirst X.K C = true) (hA : AddF X.K C) (F : CallK X k g sp E) (F' : CallK X k g' spR E) (hr : Room k X.A) : OpR X (binaryOp .Add) (fOwnAdd C sp spR E) := by
  intro pins s σ H x y v u Q I rx ry hq
  have back : ∀ {M : Sem Value}, wpAny (model X.prog X.w) X.A M (EP X pins σ Q) X.xe s → wpAny (model X.prog X.w) X.A M (PySem.W.CmpBack (EP X pins σ Q)) X.xe s := fun h => by
    refine wpAny_mono h (fun r s' hs => ?_) fun _ _ e => e
    obtain ⟨z, H', I', rz, hz⟩ := id hs
    exact backNI (relNI rz) hs
  obtain ⟨m, hF⟩ := I.fr
  match x, y, rx, ry, hq with
  | .ref a, .ref b, rx, ry, hq =>
    obtain ⟨⟨dx, fs, ea⟩, ⟨dx', fs', eb⟩, h⟩ := hq
    cases (show v = Value.ref a from rx)
    cases (show u = Value.ref b from ry)
    obtain ⟨mA, O, _⟩ := ins_get I.hok ea
    obtain ⟨od, J, _⟩ := O.look
    obtain ⟨mB, O', _⟩ := ins_get I.hok eb
    obtain ⟨od', J', _⟩ := O'.look
    exact PySem.W.binop_K hF I.ok.mod.kin J J'.type hsf c.at_ c.fn (back (F.run hr rfl rfl I (.cons (show RelV (.ref a) (Value.ref a) from rfl) (.cons ry .nil)) h))
  | .ref a, .int i, rx, ry, hq =>
    obtain ⟨⟨dx, fs, ea⟩, h⟩ := hq
    cases (show v = Value.ref a from rx)
    obtain ⟨tk, rfl⟩ := id ry
    obtain ⟨mA, O, _⟩ := ins_get I.hok ea
    obtain ⟨od, J, _⟩ := O.look
    obtain ⟨fo, h1⟩ := Option.isSome_iff_exists.mp hA.ia
    obtain ⟨ro, h2⟩ := Option.isSome_iff_exists.mp hA.ir
    exact PySem.W.ksp_binT (T := "int") (op := .Add) hF I.ok.mod.kin J rfl hsf c.at_ c.fn c'.at_ (.inr ⟨_, rfl⟩) h1 h2 hA.s1 (back (F.run hr rfl rfl I (.cons (show RelV (.ref a) (Value.ref a) from rfl) (.cons ry .nil)) h))
  | .int i, .ref b, rx, ry, hq =>
    obtain ⟨⟨dx, fs, eb⟩, h⟩ := hq
    cases (show u = Value.ref b from ry)
    obtain ⟨tk, rfl⟩ := id rx
    obtain ⟨mA, O, _⟩ := ins_get I.hok eb
    obtain ⟨od, J, _⟩ := O.look
    exact radd_K I.kIn J O.1 hsf c.at_ c'.at_ c'.fn hA.s2 (back (F'.run hr rfl rfl I (.cons (show RelV (.ref b) (Value.ref b) from rfl) (.cons rx .nil)) h))
  | .non, _, _, _, hq => exact hq.elim
  | .bl _, _, _, _, hq => exact hq.elim
  | .str _, _, _, _, hq => exact hq.elim
  | .int _, .non, _, _, hq => exact hq.elim
end

/-- a comprehension over zip of two lists of one length: the elements are f of the items, nothing else changes -/
theorem lc_zipF {K : PySem.W.Frag} {a b : Addr} {xs ys : List V} {g : TG} {te : TE} {vs : List Nat} {σ : L2.St} {H1 : Hp} {D : Addr} {Qd : Hp → Prop} (f : V → V → V) (hn : H1 D = none) (hl : xs.length = ys.length) (hz : xs.length ≤ 1000000) (hA : SqL K H1 a xs) (hB : SqL K H1 b ys)
    (hs : ∀ (i : Nat) (x y : V) (T : Addr) (H : Hp), xs[i]? = some x → ys[i]? = some y → Same H1 H → H T = none → ∀ R : VK, (∀ H4, Same (upd H T (.tup [x, y])) H4 → R (f x y) H4) → g (.ref T) (wipe σ vs) (upd H T (.tup [x, y])) fun σ2 H2 => wipe σ2 vs = wipe σ vs ∧ te σ2 H2 R)
    (hd : ∀ H, Same H1 H → H D = some (.lst (List.zipWith f xs ys)) → Qd H) :
    ∃ W : Nat → Nat → Hp → Prop, (∃ m, W 0 m (upd H1 D (.lst []))) ∧ ∀ i m H, W i m H →
      ((Itz K a b).stop i H ∧ Qd H) ∨ ((Itz K a b).go i H ∧ ∃ Nx : Hp → Prop, (∀ H', Nx H' → ∃ m', m' < m ∧ W (i + 1) m' H') ∧ ∀ x H', (Itz K a b).yld i H x H' → g x (wipe σ vs) H' fun σ2 H2 => wipe σ2 vs = wipe σ vs ∧ tYes σ2 H2 fun b H3 =>
        if b = true then te σ2 H3 fun y H4 => ∃ acc, H4 D = some (.lst acc) ∧ acc.length < sizeLine ∧ Nx (upd H4 D (.lst (acc ++ [y]))) else Nx H3) := by
  have hzl : (List.zipWith f xs ys).length = xs.length := by rw [List.length_zipWith]; omega
  refine ⟨fun i m H => m = xs.length - i ∧ i ≤ xs.length ∧ Same H1 H ∧ H D = some (.lst ((List.zipWith f xs ys).take i)), ⟨xs.length, rfl, Nat.zero_le _, Same.upd hn, upd_same⟩, ?_⟩
  rintro i m H ⟨rfl, hi, e1, hD⟩
  have qx := e1.seq hA
  have qy := e1.seq hB
  by_cases hlt : i < xs.length
  · have hx : xs[i]? = some xs[i] := List.getElem?_eq_getElem hlt
    have hlt2 : i < ys.length := by omega
    have hy : ys[i]? = some ys[i] := List.getElem?_eq_getElem hlt2
    refine .inr ⟨⟨xs, ys, _, _, qx, qy, hx, hy⟩, fun H' => Same H1 H' ∧ H' D = some (.lst ((List.zipWith f xs ys).take (i + 1))), fun H' p' => ⟨xs.length - (i + 1), by omega, rfl, hlt, p'⟩, fun v H' y => ?_⟩
    obtain ⟨T, x', y', rfl, hT, rfl, f1, f2⟩ := y
    have hx' := f1 xs qx
    have hy' := f2 ys qy
    refine hs i x' y' T H hx' hy' e1 hT _ fun H4 e4 => ?_
    have hTD : D ≠ T := ne_of_none hD hT
    have hD4 : H4 D = some (.lst ((List.zipWith f xs ys).take i)) := e4 _ _ (by rw [upd_ne hTD]; exact hD)
    have hget : (List.zipWith f xs ys)[i]? = some (f x' y') := by rw [List.getElem?_zipWith, hx', hy']
    refine ⟨_, hD4, by rw [List.length_take, sizeLine_eq]; omega, fun b o hb => ?_, ?_⟩
    · rw [upd_ne (ne_of_none hb hn)]
      exact e4 _ _ (by rw [upd_ne (ne_of_none (e1 _ _ hb) hT)]; exact e1 _ _ hb)
    · rw [upd_same, List.take_add_one, hget]
      rfl
  · have e : i = xs.length := by omega
    subst e
    refine .inl ⟨⟨xs, ys, qx, qy, Or.inl (Nat.le_refl _)⟩, hd H e1 ?_⟩
    rw [hD, List.take_of_length_le (by omega)]
end Sp
namespace Sp
open PySem PySem.Spec PyProof.Rows L2
/-- a comprehension over a list: the elements are f of the places, nothing else changes -/
theorem lc_listN {K : PySem.W.Frag} {a : Addr} {xs : List V} {g : TG} {te : TE} {vs : List Nat} {σ : L2.St} {H1 : Hp} {D : Addr} {Qd : Hp → Prop} (f : Nat → V) (hn : H1 D = none) (hz : xs.length ≤ 1000000) (hS : SqL K H1 a xs)
    (hs : ∀ (i : Nat) (x : V) (H : Hp), xs[i]? = some x → Same H1 H → ∀ R : VK, (∀ H4, Same H H4 → R (f i) H4) → g x (wipe σ vs) H fun σ2 H2 => wipe σ2 vs = wipe σ vs ∧ te σ2 H2 R)
    (hd : ∀ H, Same H1 H → H D = some (.lst ((List.range xs.length).map f)) → Qd H) :
    ∃ W : Nat → Nat → Hp → Prop, (∃ m, W 0 m (upd H1 D (.lst []))) ∧ ∀ i m H, W i m H →
      ((Itl K a).stop i H ∧ Qd H) ∨ ((Itl K a).go i H ∧ ∃ Nx : Hp → Prop, (∀ H', Nx H' → ∃ m', m' < m ∧ W (i + 1) m' H') ∧ ∀ x H', (Itl K a).yld i H x H' → g x (wipe σ vs) H' fun σ2 H2 => wipe σ2 vs = wipe σ vs ∧ tYes σ2 H2 fun b H3 =>
        if b = true then te σ2 H3 fun y H4 => ∃ acc, H4 D = some (.lst acc) ∧ acc.length < sizeLine ∧ Nx (upd H4 D (.lst (acc ++ [y]))) else Nx H3) := by
  refine lc_listI (xs := xs) hz (fun i acc H => acc = (List.range i).map f ∧ Same H1 H) ⟨rfl, Same.upd hn⟩ (fun i acc H _ _ hJ => hJ.2.seq hS) (fun i x acc H hx hl hD hJ R hR => ?_) (fun acc H hl hD hJ => ?_)
  · refine hs i x H hx hJ.2 R fun H4 e => hR (f i) H4 (e _ _ hD) ⟨?_, fun b o h => ?_⟩
    · rw [List.range_succ, List.map_append, ← hJ.1]
      rfl
    · rw [upd_ne (ne_of_none h hn)]
      exact e _ _ (hJ.2 _ _ h)
  · exact hd H hJ.2 (by rw [hD, hJ.1])
/-! ### where ways meet again -/
def tCut (t u : TS) : TS := fun D σ H => ∃ Mid : L2.St → Hp → Prop, t { D with nx := Mid } σ H ∧ ∀ σ' H', Mid σ' H' → u D σ' H'
theorem pss_cut {X : Cx} {st : Stmt} {rest : List Stmt} {t u : TS} (h1 : PS X st t) (h2 : PSs X rest u) : PSs X (st :: rest) (tCut t u) := by
  refine ⟨fun pins s σ H D I h => ?_⟩
  obtain ⟨Mid, hm, hu⟩ := h
  refine wpAny_execs_cons (thn (h1.run pins s σ H { D with nx := Mid } I hm) fun f s1 q => ?_)
  cases f with
  | next =>
    obtain ⟨σ', H', I', q⟩ := q
    exact h2.run pins s1 σ' H' D I' (hu σ' H' q)
  | ret v => exact q
  | brk => exact q
  | cont => exact q
end Sp
namespace K05
open PySem PySem.Spec PyProof.Rows L2 Sp
def top (i : Nat) : Stmt := PySem.Challenge.pw_spillruns_k05_whole_algebra_of_forms.main.body.getD i (.Pass ⟨0, 0, 0, 0⟩)
abbrev c_WrongValue : Stmt := top 1
abbrev c_InvalidNumber : Stmt := top 2
abbrev c_InvalidPeriod : Stmt := top 3
abbrev c_NotAForm : Stmt := top 4
abbrev c_InvalidNumbers : Stmt := top 5
abbrev c_NoAnswer : Stmt := top 6
abbrev c_TooMany : Stmt := top 7
abbrev s_is_integer : Stmt := top 10
def d_is_integer : He.DefD := ⟨("is_integer", none), "is_integer", "is_integer", defArgs s_is_integer, defBody s_is_integer, defScope s_is_integer, [], []⟩
abbrev s_check_number : Stmt := top 11
def d_check_number : He.DefD := ⟨("check_number", none), "check_number", "check_number", defArgs s_check_number, defBody s_check_number, defScope s_check_number, [], []⟩
abbrev s_check_values : Stmt := top 13
def d_check_values : He.DefD := ⟨("check_values", none), "check_values", "check_values", defArgs s_check_values, defBody s_check_values, defScope s_check_values, [], []⟩
abbrev s_value_at : Stmt := top 14
def d_value_at : He.DefD := ⟨("value_at", none), "value_at", "value_at", defArgs s_value_at, defBody s_value_at, defScope s_value_at, [], []⟩
abbrev s_least_period : Stmt := top 15
def d_least_period : He.DefD := ⟨("least_period", none), "least_period", "least_period", defArgs s_least_period, defBody s_least_period, defScope s_least_period, [], []⟩
abbrev s_least_listed : Stmt := top 16
def d_least_listed : He.DefD := ⟨("least_listed", none), "least_listed", "least_listed", defArgs s_least_listed, defBody s_least_listed, defScope s_least_listed, [], []⟩
abbrev s_form_of : Stmt := top 17
def d_form_of : He.DefD := ⟨("form_of", none), "form_of", "form_of", defArgs s_form_of, defBody s_form_of, defScope s_form_of, [], []⟩
abbrev s_common_multiple : Stmt := top 18
def d_common_multiple : He.DefD := ⟨("common_multiple", none), "common_multiple", "common_multiple", defArgs s_common_multiple, defBody s_common_multiple, defScope s_common_multiple, [], []⟩
abbrev s_parts_of : Stmt := top 19
def d_parts_of : He.DefD := ⟨("parts_of", none), "parts_of", "parts_of", defArgs s_parts_of, defBody s_parts_of, defScope s_parts_of, [], []⟩
abbrev s_joined : Stmt := top 20
def d_joined : He.DefD := ⟨("joined", none), "joined", "joined", defArgs s_joined, defBody s_joined, defScope s_joined, [], []⟩
abbrev s_never_above : Stmt := top 21
def d_never_above : He.DefD := ⟨("never_above", none), "never_above", "never_above", defArgs s_never_above, defBody s_never_above, defScope s_never_above, [], []⟩
abbrev c_Form : Stmt := top 22
abbrev s_Form_init : Stmt := inClass c_Form 0
def d_Form_init : He.DefD := ⟨("Form", some "__init__"), "__init__", "Form.__init__", defArgs s_Form_init, defBody s_Form_init, defScope s_Form_init, [.int 1, .int 0], []⟩
abbrev s_Form_listed : Stmt := inClass c_Form 1
def d_Form_listed : DefA := ⟨recA "property" "Form" "listed", "listed", "Form.listed", defArgs s_Form_listed, defBody s_Form_listed, defScope s_Form_listed, [], []⟩
abbrev s_Form_period : Stmt := inClass c_Form 2
def d_Form_period : DefA := ⟨recA "property" "Form" "period", "period", "Form.period", defArgs s_Form_period, defBody s_Form_period, defScope s_Form_period, [], []⟩
abbrev s_Form_step : Stmt := inClass c_Form 3
def d_Form_step : DefA := ⟨recA "property" "Form" "step", "step", "Form.step", defArgs s_Form_step, defBody s_Form_step, defScope s_Form_step, [], []⟩
abbrev s_Form_start : Stmt := inClass c_Form 4
def d_Form_start : DefA := ⟨recA "property" "Form" "start", "start", "Form.start", defArgs s_Form_start, defBody s_Form_start, defScope s_Form_start, [], []⟩
abbrev s_Form_call : Stmt := inClass c_Form 5
def d_Form_call : He.DefD := ⟨("Form", some "__call__"), "__call__", "Form.__call__", defArgs s_Form_call, defBody s_Form_call, defScope s_Form_call, [], []⟩
abbrev s_Form_eq : Stmt := inClass c_Form 6
def d_Form_eq : He.DefD := ⟨("Form", some "__eq__"), "__eq__", "Form.__eq__", defArgs s_Form_eq, defBody s_Form_eq, defScope s_Form_eq, [], []⟩
abbrev s_Form_repr : Stmt := inClass c_Form 7
def d_Form_repr : He.DefD := ⟨("Form", some "__repr__"), "__repr__", "Form.__repr__", defArgs s_Form_repr, defBody s_Form_repr, defScope s_Form_repr, [], []⟩
abbrev s_Form_add : Stmt := inClass c_Form 8
def d_Form_add : He.DefD := ⟨("Form", some "__add__"), "__add__", "Form.__add__", defArgs s_Form_add, defBody s_Form_add, defScope s_Form_add, [], []⟩
abbrev s_Form_radd : Stmt := inClass c_Form 9
def d_Form_radd : He.DefD := ⟨("Form", some "__radd__"), "__radd__", "Form.__radd__", defArgs s_Form_radd, defBody s_Form_radd, defScope s_Form_radd, [], []⟩
abbrev s_Form_at_most : Stmt := inClass c_Form 10
def d_Form_at_most : He.DefD := ⟨("Form", some "at_most"), "at_most", "Form.at_most", defArgs s_Form_at_most, defBody s_Form_at_most, defScope s_Form_at_most, [], []⟩
abbrev s_Form_at_least : Stmt := inClass c_Form 11
def d_Form_at_least : He.DefD := ⟨("Form", some "at_least"), "at_least", "Form.at_least", defArgs s_Form_at_least, defBody s_Form_at_least, defScope s_Form_at_least, [], []⟩
abbrev s_Form_first : Stmt := inClass c_Form 12
def d_Form_first : He.DefD := ⟨("Form", some "first"), "first", "Form.first", defArgs s_Form_first, defBody s_Form_first, defScope s_Form_first, [], []⟩
abbrev s_least_common_period : Stmt := top 23
def d_least_common_period : He.DefD := ⟨("least_common_period", none), "least_common_period", "least_common_period", defArgs s_least_common_period, defBody s_least_common_period, defScope s_least_common_period, [], []⟩
abbrev s_summed : Stmt := top 24
def d_summed : He.DefD := ⟨("summed", none), "summed", "summed", defArgs s_summed, defBody s_summed, defScope s_summed, [], []⟩
abbrev s__law_source : Stmt := top 26
def d__law_source : He.DefD := ⟨("_law_source", none), "_law_source", "_law_source", defArgs s__law_source, defBody s__law_source, defScope s__law_source, [], []⟩
abbrev s__law_draw : Stmt := top 27
def d__law_draw : He.DefD := ⟨("_law_draw", none), "_law_draw", "_law_draw", defArgs s__law_draw, defBody s__law_draw, defScope s__law_draw, [], []⟩
abbrev s__law_pick : Stmt := top 28
def d__law_pick : He.DefD := ⟨("_law_pick", none), "_law_pick", "_law_pick", defArgs s__law_pick, defBody s__law_pick, defScope s__law_pick, [], []⟩
abbrev s__law_at : Stmt := top 29
def d__law_at : He.DefD := ⟨("_law_at", none), "_law_at", "_law_at", defArgs s__law_at, defBody s__law_at, defScope s__law_at, [], []⟩
abbrev s__law_row : Stmt := top 30
def d__law_row : He.DefD := ⟨("_law_row", none), "_law_row", "_law_row", defArgs s__law_row, defBody s__law_row, defScope s__law_row, [], []⟩
abbrev s__law_longer : Stmt := top 31
def d__law_longer : He.DefD := ⟨("_law_longer", none), "_law_longer", "_law_longer", defArgs s__law_longer, defBody s__law_longer, defScope s__law_longer, [], []⟩
abbrev s__law_form : Stmt := top 32
def d__law_form : He.DefD := ⟨("_law_form", none), "_law_form", "_law_form", defArgs s__law_form, defBody s__law_form, defScope s__law_form, [], []⟩
abbrev s__law_sums_right : Stmt := top 33
def d__law_sums_right : He.DefD := ⟨("_law_sums_right", none), "_law_sums_right", "_law_sums_right", defArgs s__law_sums_right, defBody s__law_sums_right, defScope s__law_sums_right, [], []⟩
abbrev s__law_far_right : Stmt := top 34
def d__law_far_right : He.DefD := ⟨("_law_far_right", none), "_law_far_right", "_law_far_right", defArgs s__law_far_right, defBody s__law_far_right, defScope s__law_far_right, [], []⟩
abbrev s__law_order_right : Stmt := top 35
def d__law_order_right : He.DefD := ⟨("_law_order_right", none), "_law_order_right", "_law_order_right", defArgs s__law_order_right, defBody s__law_order_right, defScope s__law_order_right, [], []⟩
abbrev s__law_near : Stmt := top 36
def d__law_near : He.DefD := ⟨("_law_near", none), "_law_near", "_law_near", defArgs s__law_near, defBody s__law_near, defScope s__law_near, [], []⟩
abbrev s__law_right : Stmt := top 37
def d__law_right : He.DefD := ⟨("_law_right", none), "_law_right", "_law_right", defArgs s__law_right, defBody s__law_right, defScope s__law_right, [], []⟩
abbrev s_law : Stmt := top 38
def d_law : He.DefD := ⟨("law", none), "law", "law", defArgs s_law, defBody s_law, defScope s_law, [], []⟩
def fn : List He.DefD := [d_is_integer, d_check_number, d_check_values, d_value_at, d_least_period, d_least_listed, d_form_of, d_common_multiple, d_parts_of, d_joined, d_never_above, d_Form_init, d_Form_call, d_Form_eq, d_Form_repr, d_Form_add, d_Form_radd, d_Form_at_most, d_Form_at_least, d_Form_first, d_least_common_period, d_summed, d__law_source, d__law_draw, d__law_pick, d__law_at, d__law_row, d__law_longer, d__law_form, d__law_sums_right, d__law_far_right, d__law_order_right, d__law_near, d__law_right, d_law]
def fa : List He.Fa := [.glo "WrongValue", .glo "InvalidNumber", .glo "InvalidPeriod", .glo "NotAForm", .glo "InvalidNumbers", .glo "NoAnswer", .glo "TooMany", .int "MOST_FORM" 5000, .glo "is_integer", .glo "check_number", .glo "check_values", .glo "value_at", .glo "least_period", .glo "least_listed", .glo "form_of", .glo "common_multiple", .glo "parts_of", .glo "joined", .glo "never_above", .glo "Form", .cls "Form", .mkr "Form", .noat "Form" "spec", .noat "Form" "__bool__", .noat "Form" "__len__", .meth "Form" "__call__", .meth "Form" "__eq__", .meth "Form" "__repr__", .meth "Form" "__add__", .meth "Form" "__radd__", .meth "Form" "at_most", .meth "Form" "at_least", .meth "Form" "first", .glo "least_common_period", .glo "summed", .glo "_law_source", .glo "_law_draw", .glo "_law_pick", .glo "_law_at", .glo "_law_row", .glo "_law_longer", .glo "_law_form", .glo "_law_sums_right", .glo "_law_far_right", .glo "_law_order_right", .glo "_law_near", .glo "_law_right", .glo "law", .free "ArithmeticError", .free "ValueError", .free "abs", .free "all", .free "bool", .free "divmod", .free "enumerate", .free "int", .free "isinstance", .free "len", .free "max", .free "min", .free "property", .free "range", .free "repr", .free "sum", .free "tuple", .free "zip"]
def fdA (K : PySem.W.Frag) (f : Addr) : FuncData := match K.lookup f with
  | some ⟨_, _, .func fd, _⟩ => fd
  | _ => default
theorem funD_fd {K : PySem.W.Frag} {x qual : Str} {params : Arguments} {body : List Stmt} {scope : Scope} {dvs : List V} {kws : List (Str × V)} {f : Addr} (h : ∃ fd, FunD K x qual params body scope dvs kws f fd) : FunD K x qual params body scope dvs kws f (fdA K f) := by
  obtain ⟨fd, F⟩ := h
  obtain ⟨oc, od, dV, kV, doc, pm, an, cdv, ct, osl, e, lk, r⟩ := F.ex
  have e2 : fdA K f = fd := by
    unfold fdA
    rw [lk]
  rw [e2]
  exact F
/-- what the text says -/
structure Tx (K : PySem.W.Frag) (mg : Str → Option Value) : Prop where
  g_WrongValue : mg "WrongValue" = some (.ref (He.ga K "WrongValue"))
  g_InvalidNumber : mg "InvalidNumber" = some (.ref (He.ga K "InvalidNumber"))
  g_InvalidPeriod : mg "InvalidPeriod" = some (.ref (He.ga K "InvalidPeriod"))
  g_NotAForm : mg "NotAForm" = some (.ref (He.ga K "NotAForm"))
  g_InvalidNumbers : mg "InvalidNumbers" = some (.ref (He.ga K "InvalidNumbers"))
  g_NoAnswer : mg "NoAnswer" = some (.ref (He.ga K "NoAnswer"))
  g_TooMany : mg "TooMany" = some (.ref (He.ga K "TooMany"))
  i_MOST_FORM : ∃ t, mg "MOST_FORM" = some (.int 5000 t)
  g_is_integer : mg "is_integer" = some (.ref (He.ga K "is_integer"))
  F_is_integer : FunD K "is_integer" "is_integer" (defArgs s_is_integer) (defBody s_is_integer) (defScope s_is_integer) [] [] (He.fAd K d_is_integer.at_) (fdA K (He.fAd K d_is_integer.at_))
  g_check_number : mg "check_number" = some (.ref (He.ga K "check_number"))
  F_check_number : FunD K "check_number" "check_number" (defArgs s_check_number) (defBody s_check_number) (defScope s_check_number) [] [] (He.fAd K d_check_number.at_) (fdA K (He.fAd K d_check_number.at_))
  g_check_values : mg "check_values" = some (.ref (He.ga K "check_values"))
  F_check_values : FunD K "check_values" "check_values" (defArgs s_check_values) (defBody s_check_values) (defScope s_check_values) [] [] (He.fAd K d_check_values.at_) (fdA K (He.fAd K d_check_values.at_))
  g_value_at : mg "value_at" = some (.ref (He.ga K "value_at"))
  F_value_at : FunD K "value_at" "value_at" (defArgs s_value_at) (defBody s_value_at) (defScope s_value_at) [] [] (He.fAd K d_value_at.at_) (fdA K (He.fAd K d_value_at.at_))
  g_least_period : mg "least_period" = some (.ref (He.ga K "least_period"))
  F_least_period : FunD K "least_period" "least_period" (defArgs s_least_period) (defBody s_least_period) (defScope s_least_period) [] [] (He.fAd K d_least_period.at_) (fdA K (He.fAd K d_least_period.at_))
  g_least_listed : mg "least_listed" = some (.ref (He.ga K "least_listed"))
  F_least_listed : FunD K "least_listed" "least_listed" (defArgs s_least_listed) (defBody s_least_listed) (defScope s_least_listed) [] [] (He.fAd K d_least_listed.at_) (fdA K (He.fAd K d_least_listed.at_))
  g_form_of : mg "form_of" = some (.ref (He.ga K "form_of"))
  F_form_of : FunD K "form_of" "form_of" (defArgs s_form_of) (defBody s_form_of) (defScope s_form_of) [] [] (He.fAd K d_form_of.at_) (fdA K (He.fAd K d_form_of.at_))
  g_common_multiple : mg "common_multiple" = some (.ref (He.ga K "common_multiple"))
  F_common_multiple : FunD K "common_multiple" "common_multiple" (defArgs s_common_multiple) (defBody s_common_multiple) (defScope s_common_multiple) [] [] (He.fAd K d_common_multiple.at_) (fdA K (He.fAd K d_common_multiple.at_))
  g_parts_of : mg "parts_of" = some (.ref (He.ga K "parts_of"))
  F_parts_of : FunD K "parts_of" "parts_of" (defArgs s_parts_of) (defBody s_parts_of) (defScope s_parts_of) [] [] (He.fAd K d_parts_of.at_) (fdA K (He.fAd K d_parts_of.at_))
  g_joined : mg "joined" = some (.ref (He.ga K "joined"))
  F_joined : FunD K "joined" "joined" (defArgs s_joined) (defBody s_joined) (defScope s_joined) [] [] (He.fAd K d_joined.at_) (fdA K (He.fAd K d_joined.at_))
  g_never_above : mg "never_above" = some (.ref (He.ga K "never_above"))
  F_never_above : FunD K "never_above" "never_above" (defArgs s_never_above) (defBody s_never_above) (defScope s_never_above) [] [] (He.fAd K d_never_above.at_) (fdA K (He.fAd K d_never_above.at_))
  g_Form : mg "Form" = some (.ref (He.ga K "Form"))
  cl_Form : Cls K (He.ga K "Form")
  mk_Form : Mk K (He.ga K "Form") (He.ma K (He.ga K "Form") "__init__")
  no_Form_spec : NoAttr K (He.ga K "Form") "spec"
  I_Form : InsF K (He.ga K "Form")
  O_Form : OwnF K (He.ga K "Form")
  sf_Form : PySem.W.selfFirst K (He.ga K "Form") = true
  A_Form : AddF K (He.ga K "Form")
  ne_Form : PySem.W.findIn K (.ref (He.ga K "Form")) "__ne__" = some (some (.builtin "object.__ne__"))
  no_Form___bool__ : NoAttr K (He.ga K "Form") "__bool__"
  no_Form___len__ : NoAttr K (He.ga K "Form") "__len__"
  F_Form_init : FunD K "__init__" "Form.__init__" (defArgs s_Form_init) (defBody s_Form_init) (defScope s_Form_init) [V.int 1, V.int 0] [] (He.fAd K d_Form_init.at_) (fdA K (He.fAd K d_Form_init.at_))
  p_Form_listed : PropOf K (He.ga K "Form") "listed" (pA "Form" "listed" K) (d_Form_listed.at_ K)
  F_Form_listed : FunD K "listed" "Form.listed" (defArgs s_Form_listed) (defBody s_Form_listed) (defScope s_Form_listed) [] [] (d_Form_listed.at_ K) (fdA K (d_Form_listed.at_ K))
  p_Form_period : PropOf K (He.ga K "Form") "period" (pA "Form" "period" K) (d_Form_period.at_ K)
  F_Form_period : FunD K "period" "Form.period" (defArgs s_Form_period) (defBody s_Form_period) (defScope s_Form_period) [] [] (d_Form_period.at_ K) (fdA K (d_Form_period.at_ K))
  p_Form_step : PropOf K (He.ga K "Form") "step" (pA "Form" "step" K) (d_Form_step.at_ K)
  F_Form_step : FunD K "step" "Form.step" (defArgs s_Form_step) (defBody s_Form_step) (defScope s_Form_step) [] [] (d_Form_step.at_ K) (fdA K (d_Form_step.at_ K))
  p_Form_start : PropOf K (He.ga K "Form") "start" (pA "Form" "start" K) (d_Form_start.at_ K)
  F_Form_start : FunD K "start" "Form.start" (defArgs s_Form_start) (defBody s_Form_start) (defScope s_Form_start) [] [] (d_Form_start.at_ K) (fdA K (d_Form_start.at_ K))
  m_Form_call : Meth K (He.ga K "Form") "__call__" (He.ma K (He.ga K "Form") "__call__")
  F_Form_call : FunD K "__call__" "Form.__call__" (defArgs s_Form_call) (defBody s_Form_call) (defScope s_Form_call) [] [] (He.fAd K d_Form_call.at_) (fdA K (He.fAd K d_Form_call.at_))
  m_Form_eq : Meth K (He.ga K "Form") "__eq__" (He.ma K (He.ga K "Form") "__eq__")
  F_Form_eq : FunD K "__eq__" "Form.__eq__" (defArgs s_Form_eq) (defBody s_Form_eq) (defScope s_Form_eq) [] [] (He.fAd K d_Form_eq.at_) (fdA K (He.fAd K d_Form_eq.at_))
  m_Form_repr : Meth K (He.ga K "Form") "__repr__" (He.ma K (He.ga K "Form") "__repr__")
  F_Form_repr : FunD K "__repr__" "Form.__repr__" (defArgs s_Form_repr) (defBody s_Form_repr) (defScope s_Form_repr) [] [] (He.fAd K d_Form_repr.at_) (fdA K (He.fAd K d_Form_repr.at_))
  m_Form_add : Meth K (He.ga K "Form") "__add__" (He.ma K (He.ga K "Form") "__add__")
  F_Form_add : FunD K "__add__" "Form.__add__" (defArgs s_Form_add) (defBody s_Form_add) (defScope s_Form_add) [] [] (He.fAd K d_Form_add.at_) (fdA K (He.fAd K d_Form_add.at_))
  m_Form_radd : Meth K (He.ga K "Form") "__radd__" (He.ma K (He.ga K "Form") "__radd__")
  F_Form_radd : FunD K "__radd__" "Form.__radd__" (defArgs s_Form_radd) (defBody s_Form_radd) (defScope s_Form_radd) [] [] (He.fAd K d_Form_radd.at_) (fdA K (He.fAd K d_Form_radd.at_))
  m_Form_at_most : Meth K (He.ga K "Form") "at_most" (He.ma K (He.ga K "Form") "at_most")
  F_Form_at_most : FunD K "at_most" "Form.at_most" (defArgs s_Form_at_most) (defBody s_Form_at_most) (defScope s_Form_at_most) [] [] (He.fAd K d_Form_at_most.at_) (fdA K (He.fAd K d_Form_at_most.at_))
  m_Form_at_least : Meth K (He.ga K "Form") "at_least" (He.ma K (He.ga K "Form") "at_least")
  F_Form_at_least : FunD K "at_least" "Form.at_least" (defArgs s_Form_at_least) (defBody s_Form_at_least) (defScope s_Form_at_least) [] [] (He.fAd K d_Form_at_least.at_) (fdA K (He.fAd K d_Form_at_least.at_))
  m_Form_first : Meth K (He.ga K "Form") "first" (He.ma K (He.ga K "Form") "first")
  F_Form_first : FunD K "first" "Form.first" (defArgs s_Form_first) (defBody s_Form_first) (defScope s_Form_first) [] [] (He.fAd K d_Form_first.at_) (fdA K (He.fAd K d_Form_first.at_))
  g_least_common_period : mg "least_common_period" = some (.ref (He.ga K "least_common_period"))
  F_least_common_period : FunD K "least_common_period" "least_common_period" (defArgs s_least_common_period) (defBody s_least_common_period) (defScope s_least_common_period) [] [] (He.fAd K d_least_common_period.at_) (fdA K (He.fAd K d_least_common_period.at_))
  g_summed : mg "summed" = some (.ref (He.ga K "summed"))
  F_summed : FunD K "summed" "summed" (defArgs s_summed) (defBody s_summed) (defScope s_summed) [] [] (He.fAd K d_summed.at_) (fdA K (He.fAd K d_summed.at_))
  g__law_source : mg "_law_source" = some (.ref (He.ga K "_law_source"))
  F__law_source : FunD K "_law_source" "_law_source" (defArgs s__law_source) (defBody s__law_source) (defScope s__law_source) [] [] (He.fAd K d__law_source.at_) (fdA K (He.fAd K d__law_source.at_))
  g__law_draw : mg "_law_draw" = some (.ref (He.ga K "_law_draw"))
  F__law_draw : FunD K "_law_draw" "_law_draw" (defArgs s__law_draw) (defBody s__law_draw) (defScope s__law_draw) [] [] (He.fAd K d__law_draw.at_) (fdA K (He.fAd K d__law_draw.at_))
  g__law_pick : mg "_law_pick" = some (.ref (He.ga K "_law_pick"))
  F__law_pick : FunD K "_law_pick" "_law_pick" (defArgs s__law_pick) (defBody s__law_pick) (defScope s__law_pick) [] [] (He.fAd K d__law_pick.at_) (fdA K (He.fAd K d__law_pick.at_))
  g__law_at : mg "_law_at" = some (.ref (He.ga K "_law_at"))
  F__law_at : FunD K "_law_at" "_law_at" (defArgs s__law_at) (defBody s__law_at) (defScope s__law_at) [] [] (He.fAd K d__law_at.at_) (fdA K (He.fAd K d__law_at.at_))
  g__law_row : mg "_law_row" = some (.ref (He.ga K "_law_row"))
  F__law_row : FunD K "_law_row" "_law_row" (defArgs s__law_row) (defBody s__law_row) (defScope s__law_row) [] [] (He.fAd K d__law_row.at_) (fdA K (He.fAd K d__law_row.at_))
  g__law_longer : mg "_law_longer" = some (.ref (He.ga K "_law_longer"))
  F__law_longer : FunD K "_law_longer" "_law_longer" (defArgs s__law_longer) (defBody s__law_longer) (defScope s__law_longer) [] [] (He.fAd K d__law_longer.at_) (fdA K (He.fAd K d__law_longer.at_))
  g__law_form : mg "_law_form" = some (.ref (He.ga K "_law_form"))
  F__law_form : FunD K "_law_form" "_law_form" (defArgs s__law_form) (defBody s__law_form) (defScope s__law_form) [] [] (He.fAd K d__law_form.at_) (fdA K (He.fAd K d__law_form.at_))
  g__law_sums_right : mg "_law_sums_right" = some (.ref (He.ga K "_law_sums_right"))
  F__law_sums_right : FunD K "_law_sums_right" "_law_sums_right" (defArgs s__law_sums_right) (defBody s__law_sums_right) (defScope s__law_sums_right) [] [] (He.fAd K d__law_sums_right.at_) (fdA K (He.fAd K d__law_sums_right.at_))
  g__law_far_right : mg "_law_far_right" = some (.ref (He.ga K "_law_far_right"))
  F__law_far_right : FunD K "_law_far_right" "_law_far_right" (defArgs s__law_far_right) (defBody s__law_far_right) (defScope s__law_far_right) [] [] (He.fAd K d__law_far_right.at_) (fdA K (He.fAd K d__law_far_right.at_))
  g__law_order_right : mg "_law_order_right" = some (.ref (He.ga K "_law_order_right"))
  F__law_order_right : FunD K "_law_order_right" "_law_order_right" (defArgs s__law_order_right) (defBody s__law_order_right) (defScope s__law_order_right) [] [] (He.fAd K d__law_order_right.at_) (fdA K (He.fAd K d__law_order_right.at_))
  g__law_near : mg "_law_near" = some (.ref (He.ga K "_law_near"))
  F__law_near : FunD K "_law_near" "_law_near" (defArgs s__law_near) (defBody s__law_near) (defScope s__law_near) [] [] (He.fAd K d__law_near.at_) (fdA K (He.fAd K d__law_near.at_))
  g__law_right : mg "_law_right" = some (.ref (He.ga K "_law_right"))
  F__law_right : FunD K "_law_right" "_law_right" (defArgs s__law_right) (defBody s__law_right) (defScope s__law_right) [] [] (He.fAd K d__law_right.at_) (fdA K (He.fAd K d__law_right.at_))
  g_law : mg "law" = some (.ref (He.ga K "law"))
  F_law : FunD K "law" "law" (defArgs s_law) (defBody s_law) (defScope s_law) [] [] (He.fAd K d_law.at_) (fdA K (He.fAd K d_law.at_))
  b_ArithmeticError : mg "ArithmeticError" = none
  b_ValueError : mg "ValueError" = none
  b_abs : mg "abs" = none
  b_all : mg "all" = none
  b_bool : mg "bool" = none
  b_divmod : mg "divmod" = none
  b_enumerate : mg "enumerate" = none
  b_int : mg "int" = none
  b_isinstance : mg "isinstance" = none
  b_len : mg "len" = none
  b_max : mg "max" = none
  b_min : mg "min" = none
  b_property : mg "property" = none
  b_range : mg "range" = none
  b_repr : mg "repr" = none
  b_sum : mg "sum" = none
  b_tuple : mg "tuple" = none
  b_zip : mg "zip" = none
def loose : List Str := (["WrongValue", "InvalidNumber", "InvalidPeriod", "NotAForm", "InvalidNumbers", "NoAnswer", "TooMany", "MOST_FORM", "is_integer", "check_number", "check_values", "value_at", "least_period", "least_listed", "form_of", "common_multiple", "parts_of", "joined", "never_above", "Form", "least_common_period", "summed", "_law_source", "_law_draw", "_law_pick", "_law_at", "_law_row", "_law_longer", "_law_form", "_law_sums_right"] : List Str) ++ (["_law_far_right", "_law_order_right", "_law_near", "_law_right"] : List Str)
abbrev R : PySem.W.OpenRow := PySem.W.OpenLaw.row PySem.Challenge.rw_spillruns_k05_whole_algebra_of_forms
def da : List DefA := [d_Form_listed, d_Form_period, d_Form_step, d_Form_start]
def exs : List (PySem.W.Frag → Bool) := [insB "Form", ownB "Form", sfB "Form", addB "Form", blB "Form" "__ne__" "object.__ne__", propB "Form" "listed", propB "Form" "period", propB "Form" "step", propB "Form" "start"]
abbrev hk : PySem.W.Hook := hookA 6 fa fn da exs
def ob (s : PySem.W.SharedT) : AlA := obsA 6 fa fn da exs (HandSHeadRun.getT s)
theorem ob_eq (s : PySem.W.SharedT) : ob s = hk.obs s.abs := obsA_eq (HandSHeadRun.getT_eq s)
theorem run (w : World) : HandSHeadRun.RunEq R (PySem.W.view R.prog [38]) hk ob 20000 loose w := by
  intro os
  kernel_rfl
theorem tx_of {K : PySem.W.Frag} {h : Heap} {mg : Str → Option Value} (X : K.In h) (G : h.Ns mainGlobals mg) (c : SaysA fa fn da exs K) : Tx K mg :=
  ⟨He.glo_ok X G (c.d.fact 0),
   He.glo_ok X G (c.d.fact 1),
   He.glo_ok X G (c.d.fact 2),
   He.glo_ok X G (c.d.fact 3),
   He.glo_ok X G (c.d.fact 4),
   He.glo_ok X G (c.d.fact 5),
   He.glo_ok X G (c.d.fact 6),
   He.int_ok X G (c.d.fact 7),
   He.glo_ok X G (c.d.fact 8),
   funD_fd (c.d.def_ 0 (d := d_is_integer) rfl),
   He.glo_ok X G (c.d.fact 9),
   funD_fd (c.d.def_ 1 (d := d_check_number) rfl),
   He.glo_ok X G (c.d.fact 10),
   funD_fd (c.d.def_ 2 (d := d_check_values) rfl),
   He.glo_ok X G (c.d.fact 11),
   funD_fd (c.d.def_ 3 (d := d_value_at) rfl),
   He.glo_ok X G (c.d.fact 12),
   funD_fd (c.d.def_ 4 (d := d_least_period) rfl),
   He.glo_ok X G (c.d.fact 13),
   funD_fd (c.d.def_ 5 (d := d_least_listed) rfl),
   He.glo_ok X G (c.d.fact 14),
   funD_fd (c.d.def_ 6 (d := d_form_of) rfl),
   He.glo_ok X G (c.d.fact 15),
   funD_fd (c.d.def_ 7 (d := d_common_multiple) rfl),
   He.glo_ok X G (c.d.fact 16),
   funD_fd (c.d.def_ 8 (d := d_parts_of) rfl),
   He.glo_ok X G (c.d.fact 17),
   funD_fd (c.d.def_ 9 (d := d_joined) rfl),
   He.glo_ok X G (c.d.fact 18),
   funD_fd (c.d.def_ 10 (d := d_never_above) rfl),
   He.glo_ok X G (c.d.fact 19),
   He.cls_ok (c.d.fact 20),
   He.mkr_ok (c.d.fact 21),
   He.noat_ok (c.d.fact 22),
   insB_ok (c.ex 0),
   ownB_ok (c.ex 1),
   c.ex 2,
   addB_ok (c.ex 3),
   blB_ok (c.ex 4),
   He.noat_ok (c.d.fact 23),
   He.noat_ok (c.d.fact 24),
   funD_fd (c.d.def_ 11 (d := d_Form_init) rfl),
   propB_ok (c.ex 5),
   funD_fd (c.def_ 0 (d := d_Form_listed) rfl),
   propB_ok (c.ex 6),
   funD_fd (c.def_ 1 (d := d_Form_period) rfl),
   propB_ok (c.ex 7),
   funD_fd (c.def_ 2 (d := d_Form_step) rfl),
   propB_ok (c.ex 8),
   funD_fd (c.def_ 3 (d := d_Form_start) rfl),
   He.meth_ok (c.d.fact 25),
   funD_fd (c.d.def_ 12 (d := d_Form_call) rfl),
   He.meth_ok (c.d.fact 26),
   funD_fd (c.d.def_ 13 (d := d_Form_eq) rfl),
   He.meth_ok (c.d.fact 27),
   funD_fd (c.d.def_ 14 (d := d_Form_repr) rfl),
   He.meth_ok (c.d.fact 28),
   funD_fd (c.d.def_ 15 (d := d_Form_add) rfl),
   He.meth_ok (c.d.fact 29),
   funD_fd (c.d.def_ 16 (d := d_Form_radd) rfl),
   He.meth_ok (c.d.fact 30),
   funD_fd (c.d.def_ 17 (d := d_Form_at_most) rfl),
   He.meth_ok (c.d.fact 31),
   funD_fd (c.d.def_ 18 (d := d_Form_at_least) rfl),
   He.meth_ok (c.d.fact 32),
   funD_fd (c.d.def_ 19 (d := d_Form_first) rfl),
   He.glo_ok X G (c.d.fact 33),
   funD_fd (c.d.def_ 20 (d := d_least_common_period) rfl),
   He.glo_ok X G (c.d.fact 34),
   funD_fd (c.d.def_ 21 (d := d_summed) rfl),
   He.glo_ok X G (c.d.fact 35),
   funD_fd (c.d.def_ 22 (d := d__law_source) rfl),
   He.glo_ok X G (c.d.fact 36),
   funD_fd (c.d.def_ 23 (d := d__law_draw) rfl),
   He.glo_ok X G (c.d.fact 37),
   funD_fd (c.d.def_ 24 (d := d__law_pick) rfl),
   He.glo_ok X G (c.d.fact 38),
   funD_fd (c.d.def_ 25 (d := d__law_at) rfl),
   He.glo_ok X G (c.d.fact 39),
   funD_fd (c.d.def_ 26 (d := d__law_row) rfl),
   He.glo_ok X G (c.d.fact 40),
   funD_fd (c.d.def_ 27 (d := d__law_longer) rfl),
   He.glo_ok X G (c.d.fact 41),
   funD_fd (c.d.def_ 28 (d := d__law_form) rfl),
   He.glo_ok X G (c.d.fact 42),
   funD_fd (c.d.def_ 29 (d := d__law_sums_right) rfl),
   He.glo_ok X G (c.d.fact 43),
   funD_fd (c.d.def_ 30 (d := d__law_far_right) rfl),
   He.glo_ok X G (c.d.fact 44),
   funD_fd (c.d.def_ 31 (d := d__law_order_right) rfl),
   He.glo_ok X G (c.d.fact 45),
   funD_fd (c.d.def_ 32 (d := d__law_near) rfl),
   He.glo_ok X G (c.d.fact 46),
   funD_fd (c.d.def_ 33 (d := d__law_right) rfl),
   He.glo_ok X G (c.d.fact 47),
   funD_fd (c.d.def_ 34 (d := d_law) rfl),
   He.free_ok X G (c.d.fact 48),
   He.free_ok X G (c.d.fact 49),
   He.free_ok X G (c.d.fact 50),
   He.free_ok X G (c.d.fact 51),
   He.free_ok X G (c.d.fact 52),
   He.free_ok X G (c.d.fact 53),
   He.free_ok X G (c.d.fact 54),
   He.free_ok X G (c.d.fact 55),
   He.free_ok X G (c.d.fact 56),
   He.free_ok X G (c.d.fact 57),
   He.free_ok X G (c.d.fact 58),
   He.free_ok X G (c.d.fact 59),
   He.free_ok X G (c.d.fact 60),
   He.free_ok X G (c.d.fact 61),
   He.free_ok X G (c.d.fact 62),
   He.free_ok X G (c.d.fact 63),
   He.free_ok X G (c.d.fact 64),
   He.free_ok X G (c.d.fact 65)⟩
end K05
namespace K05
open PySem PySem.Spec PyProof.Rows L2 Sp
variable {P : Program} {w : World} {K : PySem.W.Frag} {mg : Str → Option Value} {base : Heap}
/-! ### the functions, plain -/
/-- the value at n: the last p of the values ns are followed with the step s -/
def valueAt (ns : List Int) (p : Nat) (s : Int) (n : Nat) : Int :=
  if n < ns.length then ns.getD n 0 else ns.getD (ns.length - p + (n - (ns.length - p)) % p) 0 + ((n - (ns.length - p)) / p : Nat) * s
/-- the i-th value behind the start -/
def tailAt (ns : List Int) (p : Nat) (s : Int) (i : Nat) : Int := valueAt ns p s (ns.length - p + i)
def rises (ns : List Int) (p : Nat) (s : Int) (q : Nat) : Bool := (List.range p).all fun i => tailAt ns p s (i + q) - tailAt ns p s i == tailAt ns p s q - tailAt ns p s 0
def shorterOk (ns : List Int) (p : Nat) (s : Int) (q : Nat) : Bool := p % q == 0 && rises ns p s q
def leastFrom (ns : List Int) (p : Nat) (s : Int) : Nat → Nat → Nat × Int
  | 0, _ => (p, s)
  | k + 1, q => if shorterOk ns p s q = true then (q, tailAt ns p s q - tailAt ns p s 0) else leastFrom ns p s k (q + 1)
def leastP (ns : List Int) (p : Nat) (s : Int) : Nat × Int := leastFrom ns p s (p - 1) 1
theorem leastFrom_skip {ns : List Int} {p : Nat} {s : Int} : ∀ (j k q : Nat), j ≤ k → (∀ i, i < j → shorterOk ns p s (q + i) = false) → leastFrom ns p s k q = leastFrom ns p s (k - j) (q + j)
  | 0, k, q, _, _ => rfl
  | j + 1, 0, q, h, _ => by omega
  | j + 1, k + 1, q, h, hn => by
    have h0 := hn 0 (by omega)
    rw [Nat.add_zero] at h0
    show (if shorterOk ns p s q = true then _ else leastFrom ns p s k (q + 1)) = _
    rw [h0, if_neg (by decide), leastFrom_skip j k (q + 1) (by omega) (fun i hi => by rw [Nat.add_assoc, Nat.add_comm 1 i]; exact hn (i + 1) (by omega))]
    congr 1 <;> omega
theorem leastP_found {ns : List Int} {p : Nat} {s : Int} {i : Nat} (hi : i < p - 1) (hn : ∀ j, j < i → shorterOk ns p s (1 + j) = false) (h : shorterOk ns p s (1 + i) = true) : leastP ns p s = (1 + i, tailAt ns p s (1 + i) - tailAt ns p s 0) := by
  unfold leastP
  rw [leastFrom_skip i (p - 1) 1 (by omega) hn]
  obtain ⟨k, hk⟩ : ∃ k, p - 1 - i = k + 1 := ⟨p - 1 - i - 1, by omega⟩
  rw [hk]
  show (if shorterOk ns p s (1 + i) = true then _ else _) = _
  rw [if_pos h]
theorem leastP_none {ns : List Int} {p : Nat} {s : Int} (hn : ∀ j, j < p - 1 → shorterOk ns p s (1 + j) = false) : leastP ns p s = (p, s) := by
  unfold leastP
  rw [leastFrom_skip (p - 1) (p - 1) 1 (Nat.le_refl _) hn, Nat.sub_self]
  rfl
def leastS (ns : List Int) (p : Nat) (s : Int) : Nat → Nat
  | 0 => 0
  | k + 1 => if valueAt ns p s (k + p) = ns.getD k 0 + s then leastS ns p s k else k + 1
def leastL (ns : List Int) (p : Nat) (s : Int) : List Int := ns.take (leastS ns p s (ns.length - p) + p)
/-- a form's spec -/
def formOf (ns : List Int) (p : Nat) (s : Int) : List Int × Nat × Int := (leastL ns (leastP ns p s).1 (leastP ns p s).2, (leastP ns p s).1, (leastP ns p s).2)
/-- of a size that may be multiplied -/
def Sm (x : Int) : Prop := x.natAbs < 2 ^ 1000
theorem Sm.mulW {i j : Int} (a : Sm i) (b : Sm j) : CMulW i j := wide_mul (a := 1000) (b := 1000) a b (by decide) (by decide) (by decide)
theorem atI_ints {ns : List Int} {z : Int} {j : Nat} (e : z = (j : Int)) (h : j < ns.length) : atI (ns.map V.int) z = some (.int (ns.getD j 0)) := by
  rw [e]
  refine atI_nat ?_
  rw [List.getElem?_map, List.getElem?_eq_getElem h]
  simp [List.getD, List.getElem?_eq_getElem h]
theorem atI_range {f : Nat → V} {n : Nat} {z : Int} {j : Nat} (e : z = (j : Int)) (h : j < n) : atI ((List.range n).map f) z = some (f j) := by
  rw [e]
  refine atI_nat ?_
  rw [List.getElem?_map, List.getElem?_range h]
  rfl

/-! ### draws -/
def Pool (H : Hp) (p : Addr) : Prop := ∃ a b c : Int, H p = some (.lst [.int a, .int b, .int c]) ∧ 0 ≤ a ∧ a < 2147483629 ∧ 0 ≤ c
/-- all but p is as it was -/
def Kp (p : Addr) (H H' : Hp) : Prop := ∀ b o, b ≠ p → H b = some o → H' b = some o
theorem Kp.refl {p : Addr} {H : Hp} : Kp p H H := fun _ _ _ h => h
theorem Kp.trans {p : Addr} {H H1 H2 : Hp} (a : Kp p H H1) (b : Kp p H1 H2) : Kp p H H2 := fun c o n h => b c o n (a c o n h)
theorem Kp.new {p q : Addr} {H : Hp} {o : HO} (hq : H q = none) : Kp p H (upd H q o) := fun b u _ h => by rw [upd_ne (ne_of_none h hq)]; exact h
theorem Kp.put {p : Addr} {H : Hp} {o : HO} : Kp p H (upd H p o) := fun b u n h => by rw [upd_ne n]; exact h
theorem Kp.same {p : Addr} {H H' : Hp} (e : Same H H') : Kp p H H' := fun b u _ h => e b u h
def sp__law_draw (K : PySem.W.Frag) : L2.Sp := fun vs H Q _ => on2 vs fun x y => onRef x fun p => onInt y fun m => Pool H p ∧ 0 < m ∧ m < 2 ^ 200 ∧
  ∀ (r : Int) (H' : Hp), 0 ≤ r → r < m → Pool H' p → Kp p H H' → Q (.int r) H'
abbrev N__law_draw : List Str := ["_law_pool", "_law_many", "_law_seed", "_law_figure"]
theorem sc__law_draw : FnScope N__law_draw ["_law_pool", "_law_many"] (defScope s__law_draw) := ⟨rfl, rfl, rfl, by decide +kernel, rfl, by decide +kernel, by decide +kernel⟩
def t__law_draw (K : PySem.W.Frag) : TS :=
    tSeq (tAsg (tOp fAdd (tOp (fIxL K) (fV 0) (tC (.int 1))) (tC (.int 1))) (gSub (fV 0) (tC (.int 1)) fSetL))
    (tSeq (tAsg (tCB fInt1 (tCons (tOp (fIxL K) (fV 0) (tC (.int 0))) tNil)) (gName 2))
    (tSeq (tAsg (tOp fMod (tCB fInt1 (tCons (tOp fAdd (tOp fAdd (tOp fAdd (tOp fMulW (fV 2) (fV 2)) (tOp fMul (tC (.int 69621)) (fV 2))) (tOp fMul (tC (.int 48611)) (tOp (fIxL K) (fV 0) (tC (.int 1))))) (tC (.int 11))) tNil)) (tC (.int 2147483629))) (gSub (fV 0) (tC (.int 0)) fSetL))
    (tSeq (tIfS (fT (tOp fGt (tOp (fIxL K) (fV 0) (tC (.int 2))) (tC (.int 0))))
    (tSeq (tAsg (tCB fDivmod (tCons (tOp (fIxL K) (fV 0) (tC (.int 2))) (tCons (fV 1) tNil))) (gTup K 2 (gCons (gSub (fV 0) (tC (.int 2)) fSetL) (gCons (gName 3) gNil))))
    (tRet (fV 3))) tNext)
    (tRet (tOp fMod (tCB fInt1 (tCons (tOp fDiv (tOp (fIxL K) (fV 0) (tC (.int 0))) (tC (.int 97))) tNil)) (fV 1))))))
abbrev Pure__law_draw (K : PySem.W.Frag) : Prop := ∀ (vs : List V) (H : Hp) (Q : VK) (E : XK), sp__law_draw K vs H Q E → t__law_draw K { nx := fun _ H' => Q .non H', rt := Q } (L2.start N__law_draw vs) H
theorem mW {m : Int} (h0 : 0 < m) (h1 : m < 2 ^ 200) (x : Int) : CDivW x m := wide_div (b := 200) h0 (by omega) (by decide) (by decide)
theorem pure__law_draw (T : Tx K mg) : Pure__law_draw K := by
  intro vs H Q E h
  obtain ⟨x, y, rfl, h⟩ := on2_ex h
  obtain ⟨p, rfl, h⟩ := onRef_ex h
  obtain ⟨m, rfl, ⟨a, b, c, hp, ha0, ha1, hc⟩, hm0, hm1, hQ⟩ := onInt_ex h
  refine ⟨_, SqL.of hp, _, rfl, _, hp, _, rfl, ?_⟩
  refine ⟨_, SqL.of upd_same, _, rfl, ?_⟩
  refine ⟨wide_mul (a := 31) (b := 31) (by omega) (by omega) (by decide) (by decide) (by decide), .inl ⟨by decide, by decide⟩, ?_⟩
  refine ⟨_, SqL.of upd_same, _, rfl, .inl ⟨by decide, by decide⟩, by show (0 : Int) < _; decide, _, upd_same, _, rfl, ?_⟩
  refine ⟨_, SqL.of upd_same, _, rfl, ?_⟩
  have hb0 : ∀ z : Int, 0 ≤ z % 2147483629 ∧ z % 2147483629 < 2147483629 := fun z => by omega
  refine ite2 (fun h => ?_) (fun h => ?_)
  · have h : (0 : Int) < c := of_decide_eq_true h
    refine ⟨_, SqL.of upd_same, _, rfl, mW hm0 hm1 _, fun q hq => ?_⟩
    have hqp : p ≠ q := ne_of_none upd_same hq
    refine ⟨q, _, rfl, SqT.of upd_same, rfl, _, _, rfl, ?_⟩
    refine ⟨_, (by rw [upd_ne hqp]; exact upd_same), _, rfl, _, _, rfl, rfl, ?_⟩
    refine hQ (c % m) _ (Int.emod_nonneg _ (by omega)) (Int.emod_lt_of_pos _ hm0) ⟨_, _, _, upd_same, (hb0 _).1, (hb0 _).2, Int.ediv_nonneg hc (by omega)⟩ ?_
    exact ((Kp.put.trans Kp.put).trans (Kp.new hq)).trans Kp.put
  · refine ⟨_, SqL.of upd_same, _, rfl, wide_div (b := 7) (by decide) (by decide) (by decide) (by decide), hm0, ?_⟩
    exact hQ _ _ (Int.emod_nonneg _ (by omega)) (Int.emod_lt_of_pos _ hm0) ⟨_, _, _, upd_same, (hb0 _).1, (hb0 _).2, hc⟩ (Kp.put.trans Kp.put)
theorem b__law_draw (T : Tx K mg) : Binds K (fdA K (He.fAd K d__law_draw.at_)) ["_law_pool", "_law_many"] [] := T.F__law_draw.bindsN fun _ _ _ _ _ _ us hl => match us, hl with | [_, _], _ => rfl
theorem ok__law_draw (T : Tx K mg) : FnOk P w K mg base CX0 1 (He.fAd K d__law_draw.at_) (fdA K (He.fAd K d__law_draw.at_)) ["_law_pool", "_law_many"] (sp__law_draw K) :=
  T.F__law_draw.ok sc__law_draw (fun _ _ _ _ h => on2_len h) (fun cdv A outer s H vs Q E hr h => ⟨t__law_draw K, PSs.nox ((pss_cons (ps_asg (pe_op o_add (pe_ix x_list (vv 0) pe_int (fun _ _ => rfl)) pe_int) (pg_sub (vv 0) pe_int s_list))
      (pss_cons (ps_set (i := 2) sc__law_draw.nd rfl (.inl rfl) (pe_callTy c_int1 (by rfl) T.b_int boot_int (pa_cons (pe_ix x_list (vv 0) pe_int (fun _ _ => rfl)) pa_nil)))
      (pss_cons (ps_asg (pe_op o_mod (pe_callTy c_int1 (by rfl) T.b_int boot_int (pa_cons (pe_op o_add (pe_op o_add (pe_op o_add (pe_op o_mulW (vv 2) (vv 2)) (pe_op o_mul pe_int (vv 2))) (pe_op o_mul pe_int (pe_ix x_list (vv 0) pe_int (fun _ _ => rfl)))) pe_int) pa_nil)) pe_int) (pg_sub (vv 0) pe_int s_list))
      (pss_cons (ps_if (t_cmp o_gt (pe_ix x_list (vv 0) pe_int (fun _ _ => rfl)) pe_int (nomark _))
      (pss_cons (ps_asg (pe_callB c_divmod (by rfl) T.b_divmod boot_divmod (pa_cons (pe_ix x_list (vv 0) pe_int (fun _ _ => rfl)) (pa_cons (vv 1) pa_nil))) (pg_tup rfl (pgs_cons (pg_sub (vv 0) pe_int s_list) (pgs_cons (pg_name (i := 3) sc__law_draw.nd rfl (.inl rfl)) pgs_nil))))
      (pss_one (ps_ret (vv 3)))) pss_nil)
      (pss_one (ps_ret (pe_op o_mod (pe_callTy c_int1 (by rfl) T.b_int boot_int (pa_cons (pe_op o_div (pe_ix x_list (vv 0) pe_int (fun _ _ => rfl)) pe_int) pa_nil)) (vv 1))))))))), pure__law_draw T vs H Q E h⟩)
/-- one of the things in a list -/
def sp__law_pick (K : PySem.W.Frag) : L2.Sp := fun vs H Q _ => on2 vs fun x y => onRef x fun p => onRef y fun m => Pool H p ∧ ∃ xs, SqL K H m xs ∧ m ≠ p ∧ xs ≠ [] ∧ xs.length < 1000 ∧
  ∀ (i : Nat) (v : V) (H' : Hp), xs[i]? = some v → Pool H' p → Kp p H H' → Q v H'
abbrev N__law_pick : List Str := ["_law_pool", "_law_menu"]
theorem sc__law_pick : FnScope N__law_pick ["_law_pool", "_law_menu"] (defScope s__law_pick) := ⟨rfl, rfl, rfl, by decide +kernel, rfl, by decide +kernel, by decide +kernel⟩
def t__law_pick (K : PySem.W.Frag) : TS :=
    tRet (tOp (fIxL K) (fV 1) (tCall (sp__law_draw K) [] E0 (tCons (fV 0) (tCons (tCB (fLen K) (tCons (fV 1) tNil)) tNil))))
abbrev Pure__law_pick (K : PySem.W.Frag) : Prop := ∀ (vs : List V) (H : Hp) (Q : VK) (E : XK), sp__law_pick K vs H Q E → t__law_pick K { nx := fun _ H' => Q .non H', rt := Q } (L2.start N__law_pick vs) H
theorem kpL {p : Addr} {H H' : Hp} {m : Addr} {xs : List V} (e : Kp p H H') (n : m ≠ p) (h : SqL K H m xs) : SqL K H' m xs := by
  rcases h with (h | ⟨o, h⟩) | h
  · exact .inl (.inl (e _ _ n h))
  · exact .inl (.inr ⟨o, e _ _ n h⟩)
  · exact .inr h
theorem kpT {p : Addr} {H H' : Hp} {m : Addr} {xs : List V} (e : Kp p H H') (n : m ≠ p) (h : SqT K H m xs) : SqT K H' m xs := by
  rcases h with (h | ⟨o, h⟩) | h
  · exact .inl (.inl (e _ _ n h))
  · exact .inl (.inr ⟨o, e _ _ n h⟩)
  · exact .inr h
theorem pure__law_pick (T : Tx K mg) : Pure__law_pick K := by
  intro vs H Q E h
  obtain ⟨x, y, rfl, h⟩ := on2_ex h
  obtain ⟨p, rfl, h⟩ := onRef_ex h
  obtain ⟨m, rfl, hp, xs, hx, hmp, hne, hl, hQ⟩ := onRef_ex h
  have hpos : 0 < xs.length := List.length_pos_iff.mpr hne
  refine ⟨_, .inl hx, hp, by omega, by omega, fun r H' h0 h1 hp' hk => ?_⟩
  have hr : r.toNat < xs.length := by omega
  exact ⟨_, kpL hk hmp hx, xs[r.toNat], at_of (j := r.toNat) (by omega) (by simp [hr]), hQ r.toNat _ H' (by simp [hr]) hp' hk⟩
theorem b__law_pick (T : Tx K mg) : Binds K (fdA K (He.fAd K d__law_pick.at_)) ["_law_pool", "_law_menu"] [] := T.F__law_pick.bindsN fun _ _ _ _ _ _ us hl => match us, hl with | [_, _], _ => rfl
theorem ok__law_pick (T : Tx K mg) : FnOk P w K mg base CX0 2 (He.fAd K d__law_pick.at_) (fdA K (He.fAd K d__law_pick.at_)) ["_law_pool", "_law_menu"] (sp__law_pick K) :=
  T.F__law_pick.ok sc__law_pick (fun _ _ _ _ h => on2_len h) (fun cdv A outer s H vs Q E hr h => ⟨t__law_pick K, PSs.nox ((pss_one (ps_ret (pe_ix x_list (vv 1) (pe_call (ok__law_draw T) (hr.mono (by decide)) (by rfl) T.g__law_draw T.F__law_draw.kp (b__law_draw T) .nil pass0 (pa_cons (vv 0) (pa_cons (pe_callB c_len (by rfl) T.b_len boot_len (pa_cons (vv 1) pa_nil)) pa_nil))) (fun _ _ => rfl))))), pure__law_pick T vs H Q E h⟩)
/-- a new pool -/
def sp__law_source (K : PySem.W.Frag) : L2.Sp := fun vs H Q _ => on2 vs fun x y => onRef x fun c => onInt y fun k => ∃ ns : List Int, SqL K H c (ns.map V.int) ∧ ns.length ≤ 1000 ∧ 0 ≤ k ∧ k ≤ 100 ∧
  ∀ (p : Addr) (H' : Hp), H p = none → Pool H' p → Same H H' → Q (.ref p) H'
abbrev N__law_source : List Str := ["_law_cells", "_law_k", "_law_figures", "_law_seed", "_law_cell"]
theorem sc__law_source : FnScope N__law_source ["_law_cells", "_law_k"] (defScope s__law_source) := ⟨rfl, rfl, rfl, by decide +kernel, rfl, by decide +kernel, by decide +kernel⟩
def t__law_source (K : PySem.W.Frag) : TS :=
    tSeq (tIfS (fT (tOp fLt (fV 1) (tCB (fLen K) (tCons (fV 0) tNil))))
    (tSeq (tAsg (tIf (tOr (fT (tOp fLt (tOp (fIxL K) (fV 0) (fV 1)) (tC (.int 0)))) (fT (tOp fGe (tOp (fIxL K) (fV 0) (fV 1)) (tOp fPow (tC (.int 10)) (tC (.int 18)))))) (tCB fAbs (tCons (tOp (fIxL K) (fV 0) (fV 1)) tNil)) (tC (.int 0))) (gName 2))
    (tRet (tLst (tCons (tOp fMod (tCB fInt1 (tCons (tOp fAdd (tOp fAdd (tOp fMul (tOp (fIxL K) (fV 0) (fV 1)) (tC (.int 40507))) (tOp fMul (tC (.int 977)) (fV 1))) (tC (.int 1))) tNil)) (tC (.int 2147483629))) (tCons (tC (.int 0)) (tCons (fV 2) tNil)))))) tNext)
    (tSeq (tAsg (tOp fAdd (tOp fMul (tC (.int 31)) (fV 1)) (tC (.int 7))) (gName 3))
    (tSeq (tFor (iList K (tSl (rSlL K) (fV 0) tNoPart (tPart (tC (.int 4))))) (gName 4)
    (tAsg (tOp fMod (tCB fInt1 (tCons (tOp fAdd (tOp fMul (fV 3) (tC (.int 48271))) (fV 4)) tNil)) (tC (.int 2147483587))) (gName 3)))
    (tRet (tLst (tCons (fV 3) (tCons (tC (.int 0)) (tCons (tC (.int 0)) tNil)))))))
abbrev Pure__law_source (K : PySem.W.Frag) : Prop := ∀ (vs : List V) (H : Hp) (Q : VK) (E : XK), sp__law_source K vs H Q E → t__law_source K { nx := fun _ H' => Q .non H', rt := Q } (L2.start N__law_source vs) H
theorem pure__law_source (T : Tx K mg) : Pure__law_source K := by
  intro vs H Q E h
  obtain ⟨x, y, rfl, h⟩ := on2_ex h
  obtain ⟨c, rfl, h⟩ := onRef_ex h
  obtain ⟨k, rfl, ns, hS, hl, hk0, hk1, hQ⟩ := onInt_ex h
  refine ⟨_, .inl hS, ?_⟩
  have hb0 : ∀ z : Int, 0 ≤ z % 2147483629 ∧ z % 2147483629 < 2147483629 := fun z => by omega
  refine ite2 (fun h => ?_) (fun h => ?_)
  · have h : k < ((ns.map V.int).length : Int) := of_decide_eq_true h
    rw [List.length_map] at h
    have ek : k = (k.toNat : Int) := by omega
    have hkl : k.toNat < ns.length := by omega
    have hat := atI_ints (ns := ns) (z := k) (j := k.toNat) ek hkl
    generalize ns.getD k.toNat 0 = z at hat
    have fin : ∀ f : Int, 0 ≤ f → tRet (tLst (tCons (tOp fMod (tCB fInt1 (tCons (tOp fAdd (tOp fAdd (tOp fMul (tOp (fIxL K) (fV 0) (fV 1)) (tC (.int 40507))) (tOp fMul (tC (.int 977)) (fV 1))) (tC (.int 1))) tNil)) (tC (.int 2147483629))) (tCons (tC (.int 0)) (tCons (fV 2) tNil)))) { nx := fun _ H' => Q .non H', rt := Q } [some (.ref c), some (.int k), some (.int f), none, none] H := fun f hf => by
      refine ⟨_, hS, _, hat, .inr ⟨by decide, by decide⟩, .inl ⟨by decide, by decide⟩, by show (0 : Int) < _; decide, by show 3 ≤ sizeLine; decide, fun p hp => ?_⟩
      exact hQ p _ hp ⟨_, _, _, upd_same, (hb0 _).1, (hb0 _).2, hf⟩ (Same.upd hp)
    refine ⟨_, hS, _, hat, ite2 (fun h1 => ?_) (fun h1 => ?_)⟩
    · refine iteT ⟨_, hS, _, hat, ?_⟩
      refine fin _ ?_
      split <;> omega
    · refine ⟨_, hS, _, hat, ⟨by decide, by decide, by decide⟩, ?_⟩
      refine ite2 (fun h2 => ?_) (fun h2 => ?_)
      · refine ⟨_, hS, _, hat, ?_⟩
        refine fin _ ?_
        split <;> omega
      · exact fin 0 (by omega)
  · refine ⟨.inl ⟨by decide, by decide⟩, _, rfl, _, _, rfl, hS, fun q hq => ?_⟩
    refine ⟨_, rfl, ⟨_, SqL.of upd_same⟩, ?_⟩
    refine for_list (K := K) (a := q) (xs := cutV (ns.map V.int) none (some 4)) (fun i σ H1 => Same (upd H q (.lst (cutV (ns.map V.int) none (some 4)))) H1 ∧ ∃ (s : Int) (o : Option V), 0 ≤ s ∧ s < 2147483629 ∧ σ = [some (.ref c), some (.int k), none, some (.int s), o]) ⟨Same.refl _, 31 * k + 7, none, by omega, by omega, rfl⟩ (fun i σ H1 _ hp => hp.1.seq (SqL.of upd_same)) (fun i x σ H1 hx hp => ?_) (fun σ H1 hp => ?_)
    · obtain ⟨e1, s, o, h0, h1, rfl⟩ := hp
      have : ∃ z : Int, x = .int z := by
        have hm := List.mem_of_getElem? hx
        have hm2 : x ∈ ns.map V.int := List.mem_of_mem_drop (List.mem_of_mem_take hm)
        obtain ⟨z, _, rfl⟩ := List.mem_map.mp hm2
        exact ⟨z, rfl⟩
      obtain ⟨z, rfl⟩ := this
      refine ⟨.inr ⟨by decide, by decide⟩, by show (0 : Int) < _; decide, e1, _, some (.int z), ?_, ?_, rfl⟩
      · exact Int.emod_nonneg _ (by decide)
      · exact Int.lt_trans (Int.emod_lt_of_pos _ (by decide)) (by decide)
    · obtain ⟨e1, s, o, h0, h1, rfl⟩ := hp
      refine ⟨by show 3 ≤ sizeLine; decide, fun p hp => ?_⟩
      refine hQ p _ ((Same.upd hq).free (e1.free hp)) ⟨_, _, _, upd_same, h0, h1, by omega⟩ (((Same.upd hq).trans e1).trans (Same.upd hp))
theorem b__law_source (T : Tx K mg) : Binds K (fdA K (He.fAd K d__law_source.at_)) ["_law_cells", "_law_k"] [] := T.F__law_source.bindsN fun _ _ _ _ _ _ us hl => match us, hl with | [_, _], _ => rfl
theorem ok__law_source (T : Tx K mg) : FnOk P w K mg base CX0 1 (He.fAd K d__law_source.at_) (fdA K (He.fAd K d__law_source.at_)) ["_law_cells", "_law_k"] (sp__law_source K) :=
  T.F__law_source.ok sc__law_source (fun _ _ _ _ h => on2_len h) (fun cdv A outer s H vs Q E hr h => ⟨t__law_source K, PSs.nox ((pss_cons (ps_if (t_cmp o_lt (vv 1) (pe_callB c_len (by rfl) T.b_len boot_len (pa_cons (vv 0) pa_nil)) (nomark _))
      (pss_cons (ps_set (i := 2) sc__law_source.nd rfl (.inl rfl) (pe_ifExp (PW.pt (pw_or (t_cmp o_lt (pe_ix x_list (vv 0) (vv 1) (fun _ _ => rfl)) pe_int (nomark _)) (pw_or1 (t_cmp o_ge (pe_ix x_list (vv 0) (vv 1) (fun _ _ => rfl)) (pe_op o_pow pe_int pe_int) (nomark _))))) (pe_callB c_abs (by rfl) T.b_abs boot_abs (pa_cons (pe_ix x_list (vv 0) (vv 1) (fun _ _ => rfl)) pa_nil)) pe_int))
      (pss_one (ps_ret (pe_lst (pa_cons (pe_op o_mod (pe_callTy c_int1 (by rfl) T.b_int boot_int (pa_cons (pe_op o_add (pe_op o_add (pe_op o_mul (pe_ix x_list (vv 0) (vv 1) (fun _ _ => rfl)) pe_int) (pe_op o_mul pe_int (vv 1))) pe_int) pa_nil)) pe_int) (pa_cons pe_int (pa_cons (vv 2) pa_nil))))))) pss_nil)
      (pss_cons (ps_set (i := 3) sc__law_source.nd rfl (.inl rfl) (pe_op o_add (pe_op o_mul pe_int (vv 1)) pe_int))
      (pss_cons (ps_for PassesOwn.never (by rfl) (pi_list (pe_slice sl_list (vv 0) po_none (po_some pe_int))) (pg_name (i := 4) sc__law_source.nd rfl (.inl rfl))
      (pss_one (ps_set (i := 3) sc__law_source.nd rfl (.inl rfl) (pe_op o_mod (pe_callTy c_int1 (by rfl) T.b_int boot_int (pa_cons (pe_op o_add (pe_op o_mul (vv 3) pe_int) (vv 4)) pa_nil)) pe_int))))
      (pss_one (ps_ret (pe_lst (pa_cons (vv 3) (pa_cons pe_int (pa_cons pe_int pa_nil)))))))))), pure__law_source T vs H Q E h⟩)

end K05
namespace K05
open PySem PySem.Spec PyProof.Rows L2 Sp
variable {P : Program} {w : World} {K : PySem.W.Frag} {mg : Str → Option Value} {base : Heap}
/-! ### forms -/
def sp_is_integer (K : PySem.W.Frag) : L2.Sp := fun vs H Q _ => on1 vs fun x => onInt x fun _ => Q (.bl true) H
abbrev N_is_integer : List Str := ["value"]
theorem sc_is_integer : FnScope N_is_integer ["value"] (defScope s_is_integer) := ⟨rfl, rfl, rfl, by decide +kernel, rfl, by decide +kernel, by decide +kernel⟩
def t_is_integer (K : PySem.W.Frag) : TS :=
    tRet (fAndV (tCB (fIsi K) (tCons (fV 0) (tCons (tC (.ty "int")) tNil))) (fNotV (tCB (fIsi K) (tCons (fV 0) (tCons (tC (.ty "bool")) tNil)))))
abbrev Pure_is_integer (K : PySem.W.Frag) : Prop := ∀ (vs : List V) (H : Hp) (Q : VK) (E : XK), sp_is_integer K vs H Q E → t_is_integer K { nx := fun _ H' => Q .non H', rt := Q } (L2.start N_is_integer vs) H
theorem pure_is_integer (T : Tx K mg) : Pure_is_integer K := by
  intro vs H Q E h
  obtain ⟨x, rfl, h⟩ := on1_ex h
  obtain ⟨i, rfl, hQ⟩ := onInt_ex h
  refine ⟨_, _, true, .ty "int", .base (.int i), kit_ty (by decide +kernel), ?_⟩
  exact ⟨_, _, false, .ty "bool", .base (.int i), kit_ty (by decide +kernel), hQ⟩
theorem b_is_integer (T : Tx K mg) : Binds K (fdA K (He.fAd K d_is_integer.at_)) ["value"] [] := T.F_is_integer.bindsN fun _ _ _ _ _ _ us hl => match us, hl with | [_], _ => rfl
theorem ok_is_integer (T : Tx K mg) : FnOk P w K mg base CX0 1 (He.fAd K d_is_integer.at_) (fdA K (He.fAd K d_is_integer.at_)) ["value"] (sp_is_integer K) :=
  T.F_is_integer.ok sc_is_integer (fun _ _ _ _ h => on1_len h) (fun cdv A outer s H vs Q E hr h => ⟨t_is_integer K, PSs.nox ((pss_one (ps_ret (e_and (pe_callB c_isi (by rfl) T.b_isinstance boot_isinstance (pa_cons (vv 0) (pa_cons (pe_bltn (by rfl) T.b_int boot_int rfl) pa_nil))) (pe_one (e_not (pe_callB c_isi (by rfl) T.b_isinstance boot_isinstance (pa_cons (vv 0) (pa_cons (pe_bltn (by rfl) T.b_bool boot_bool rfl) pa_nil))))))))), pure_is_integer T vs H Q E h⟩)
/-- a tuple of ints, at least one -/
def sp_check_values (K : PySem.W.Frag) : L2.Sp := fun vs H Q _ => on1 vs fun x => onRef x fun a => ∃ ns : List Int, SqT K H a (ns.map V.int) ∧ ns ≠ [] ∧ ns.length ≤ 5000 ∧ ∀ H', Same H H' → Q .non H'
theorem dpInts (H : Hp) (ms : List Int) : DpAll K H (ms.map V.int) (ms.map PyData.int) := by
  induction ms with
  | nil => exact .nil
  | cons m r ih => exact .cons (.int m) ih
theorem shapedInts (ms : List Int) : SeqAt.shaped (.tuple (ms.map PyData.int)) = true := by
  have h1 : ∀ l : List Int, PyData.canLayAll0 (l.map PyData.int) = true := fun l => by
    induction l with
    | nil => rfl
    | cons m r ih => simp [PyData.canLayAll0, PyData.canLay0, ih]
  have h2 : ∀ l : List Int, PyData.depthAll (l.map PyData.int) ≤ 1 := fun l => by
    induction l with
    | nil => simp [PyData.depthAll]
    | cons m r ih => simp [PyData.depthAll, PyData.depth]; omega
  unfold SeqAt.shaped
  rw [Bool.and_eq_true]
  refine ⟨by simpa [PyData.canLay0] using h1 ms, decide_eq_true ?_⟩
  have := h2 ms
  simp only [PyData.depth]
  omega
theorem tyx_tup {H : Hp} {l : Addr} {xs : List V} (h : SqT K H l xs) : TyX K H (.ref l) (.type "tuple") := by
  rcases h with (h | ⟨o, h⟩) | ⟨o, its, n, h, c, _⟩
  · exact .base (.tup h)
  · exact .fTuple h
  · exact .kTuple h c
abbrev N_check_values : List Str := ["values", "index", "number"]
theorem sc_check_values : FnScope N_check_values ["values"] (defScope s_check_values) := ⟨rfl, rfl, rfl, by decide +kernel, rfl, by decide +kernel, by decide +kernel⟩
def t_check_values (K : PySem.W.Frag) : TS :=
    tSeq (tIfS (tOr (tNot (fT (tCB (fIsi K) (tCons (fV 0) (tCons (tC (.ty "tuple")) tNil))))) (fT (tOp (rEqD K) (fV 0) (tTup tNil))))
    tNever tNext)
    (tFor (iEnumT K (tCons (fV 0) tNil)) (gTup K 2 (gCons (gName 1) (gCons (gName 2) gNil)))
    (tIfS (tOr (fT (tOp fEq (fV 1) (tC (.int 5000)))) (tNot (fT (tCall (sp_is_integer K) [] E0 (tCons (fV 2) tNil)))))
    tNever tNext))
abbrev Pure_check_values (K : PySem.W.Frag) : Prop := ∀ (vs : List V) (H : Hp) (Q : VK) (E : XK), sp_check_values K vs H Q E → t_check_values K { nx := fun _ H' => Q .non H', rt := Q } (L2.start N_check_values vs) H
theorem pure_check_values (T : Tx K mg) : Pure_check_values K := by
  intro vs H Q E h
  obtain ⟨x, rfl, h⟩ := on1_ex h
  obtain ⟨a, rfl, ns, ha, hne, hl, hQ⟩ := onRef_ex h
  refine ⟨_, _, true, .ty "tuple", tyx_tup ha, kit_ty (by decide +kernel), ?_⟩
  refine ⟨by show 0 ≤ sizeLine; decide, fun q hq => ?_⟩
  have ha1 := sameT (Same.upd (o := .tup []) hq) ha
  refine ⟨_, _, .tup (ha1) (dpInts _ ns), .tup (SqT.of upd_same) .nil, shapedInts ns, rfl, ?_⟩
  have e0 : PyData.eqv (.tuple (ns.map PyData.int)) (.tuple []) = false := by
    cases ns with
    | nil => exact absurd rfl hne
    | cons m r => rfl
  rw [e0]
  refine ⟨⟨_, ha1⟩, ?_⟩
  have e1 := Same.upd (o := .tup []) hq
  refine for_enumT (K := K) (a := a) (xs := ns.map V.int) (fun i σ H1 => Same H H1 ∧ ∃ o1 o2, σ = [some (.ref a), o1, o2]) ⟨e1, none, none, rfl⟩ (fun i σ H1 _ hp => sameT hp.1 ha) (fun i x σ H1 T' hx hp hT' => ?_) (fun σ H1 hp => hQ H1 hp.1)
  obtain ⟨s1, o1, o2, rfl⟩ := hp
  have hi : i < ns.length := by
    have := (List.getElem?_eq_some_iff.mp hx).1
    simpa using this
  obtain ⟨z, rfl⟩ : ∃ z, x = .int z := by
    obtain ⟨z, _, rfl⟩ := List.mem_map.mp (List.mem_of_getElem? hx)
    exact ⟨z, rfl⟩
  refine ⟨_, _, rfl, SqT.of upd_same, rfl, _, _, rfl, _, _, rfl, rfl, ?_⟩
  have e2 : decide (V.int (i : Nat) = V.int 5000) = false := decide_eq_false (fun z => by injection z with z; omega)
  show (if decide (V.int (i : Nat) = V.int 5000) = true then _ else _)
  rw [e2]
  exact ⟨s1.trans (Same.upd hT'), _, _, rfl⟩
theorem b_check_values (T : Tx K mg) : Binds K (fdA K (He.fAd K d_check_values.at_)) ["values"] [] := T.F_check_values.bindsN fun _ _ _ _ _ _ us hl => match us, hl with | [_], _ => rfl
theorem ok_check_values (T : Tx K mg) : FnOk P w K mg base CX0 2 (He.fAd K d_check_values.at_) (fdA K (He.fAd K d_check_values.at_)) ["values"] (sp_check_values K) :=
  T.F_check_values.ok sc_check_values (fun _ _ _ _ h => on1_len h) (fun cdv A outer s H vs Q E hr h => ⟨t_check_values K, PSs.nox ((pss_cons (ps_if (PW.pt (pw_or (pt_not (t_val (pe_callB c_isi (by rfl) T.b_isinstance boot_isinstance (pa_cons (vv 0) (pa_cons (pe_bltn (by rfl) T.b_tuple boot_tuple rfl) pa_nil))))) (pw_or1 (t_cmp (op_eqD hr.units) (vv 0) (pe_tup pa_nil) (nomark _)))))
      (pss_one ps_never) pss_nil)
      (pss_one (ps_for PassesOwn.never (by rfl) (pi_enumT (by rfl) T.b_enumerate (pa_cons (vv 0) pa_nil)) (pg_tup rfl (pgs_cons (pg_name (i := 1) sc_check_values.nd rfl (.inl rfl)) (pgs_cons (pg_name (i := 2) sc_check_values.nd rfl (.inl rfl)) pgs_nil)))
      (pss_one (ps_if (PW.pt (pw_or (t_cmp o_eq (vv 1) (pe_glob (by rfl) (T.i_MOST_FORM).choose_spec ⟨_, rfl⟩) (nomark _)) (pw_or1 (pt_not (t_val (pe_call (ok_is_integer T) (hr.mono (by decide)) (by rfl) T.g_is_integer T.F_is_integer.kp (b_is_integer T) .nil pass0 (pa_cons (vv 2) pa_nil)))))))
      (pss_one ps_never) pss_nil)))))), pure_check_values T vs H Q E h⟩)
/-- what value_at may be asked -/
structure Ask (ns : List Int) (p : Nat) (s : Int) : Prop where
  p1 : 1 ≤ p
  pl : p ≤ ns.length
  len : ns.length ≤ 5000
  step : Sm s
def sp_value_at (K : PySem.W.Frag) : L2.Sp := fun vs H Q _ => on4 vs fun v p s n => onRef v fun a => onInt p fun p => onInt s fun s => onInt n fun n => ∃ (ns : List Int) (P N : Nat), SqS K H a (ns.map V.int) ∧ p = P ∧ n = N ∧ Ask ns P s ∧ N < 2 ^ 1000 ∧
  ∀ H', Same H H' → Q (.int (valueAt ns P s N)) H'
abbrev N_value_at : List Str := ["values", "period", "step", "n", "first", "rounds", "place"]
theorem sc_value_at : FnScope N_value_at ["values", "period", "step", "n"] (defScope s_value_at) := ⟨rfl, rfl, rfl, by decide +kernel, rfl, by decide +kernel, by decide +kernel⟩
def t_value_at (K : PySem.W.Frag) : TS :=
    tSeq (tIfS (fT (tOp fLt (fV 3) (tCB (fLen K) (tCons (fV 0) tNil))))
    (tRet (tOp (fIxQ K) (fV 0) (fV 3))) tNext)
    (tSeq (tAsg (tOp fSub (tCB (fLen K) (tCons (fV 0) tNil)) (fV 1)) (gName 4))
    (tSeq (tAsg (tCB fDivmod (tCons (tOp fSub (fV 3) (fV 4)) (tCons (fV 1) tNil))) (gTup K 2 (gCons (gName 5) (gCons (gName 6) gNil))))
    (tRet (tOp fAdd (tOp (fIxQ K) (fV 0) (tOp fAdd (fV 4) (fV 6))) (tOp fMulW (fV 5) (fV 2))))))
abbrev Pure_value_at (K : PySem.W.Frag) : Prop := ∀ (vs : List V) (H : Hp) (Q : VK) (E : XK), sp_value_at K vs H Q E → t_value_at K { nx := fun _ H' => Q .non H', rt := Q } (L2.start N_value_at vs) H
theorem pure_value_at (T : Tx K mg) : Pure_value_at K := by
  intro vs H Q E h
  obtain ⟨x1, x2, x3, x4, rfl, h⟩ := on4_ex h
  obtain ⟨a, rfl, h⟩ := onRef_ex h
  obtain ⟨p, rfl, h⟩ := onInt_ex h
  obtain ⟨s, rfl, h⟩ := onInt_ex h
  obtain ⟨n, rfl, ns, P, N, hS, rfl, rfl, ⟨hp1, hpl, hl, hs⟩, hN, hQ⟩ := onInt_ex h
  refine ⟨_, hS, ite2 (fun h1 => ?_) (fun h1 => ?_)⟩
  · have h2 : N < ns.length := by
      have := of_decide_eq_true h1
      rw [List.length_map] at this
      omega
    refine ⟨_, hS, _, atI_ints (j := N) rfl h2, ?_⟩
    have e := hQ H (Same.refl H)
    unfold valueAt at e
    rw [if_pos h2] at e
    exact e
  · have h2 : ¬ N < ns.length := fun z => h1 (decide_eq_true (by rw [List.length_map]; omega))
    refine ⟨_, hS, wide_div (b := 13) (by omega) (by omega) (by decide) (by decide), fun q hq => ?_⟩
    refine ⟨q, _, rfl, SqT.of upd_same, rfl, _, _, rfl, _, _, rfl, rfl, ?_⟩
    rw [List.length_map]
    have e1 : (N : Int) - ((ns.length : Int) - (P : Int)) = ((N - (ns.length - P) : Nat) : Int) := by omega
    have e2 : ((N : Int) - ((ns.length : Int) - (P : Int))) / (P : Int) = (((N - (ns.length - P)) / P : Nat) : Int) := by rw [e1]; rfl
    have e3 : ((N : Int) - ((ns.length : Int) - (P : Int))) % (P : Int) = (((N - (ns.length - P)) % P : Nat) : Int) := by rw [e1]; rfl
    rw [e2, e3]
    have hm : (N - (ns.length - P)) % P < P := Nat.mod_lt _ (by omega)
    refine ⟨_, sameS (Same.upd hq) hS, _, atI_ints (j := ns.length - P + (N - (ns.length - P)) % P) (by omega) (by omega), ?_⟩
    refine ⟨Sm.mulW ?_ hs, ?_⟩
    · have : (N - (ns.length - P)) / P ≤ N := Nat.le_trans (Nat.div_le_self _ _) (Nat.sub_le _ _)
      show Int.natAbs _ < _
      rw [Int.natAbs_natCast]
      omega
    · have e := hQ _ (Same.upd (o := .tup [.int (((N - (ns.length - P)) / P : Nat) : Int), .int (((N - (ns.length - P)) % P : Nat) : Int)]) hq)
      unfold valueAt at e
      rw [if_neg h2] at e
      exact e
theorem b_value_at (T : Tx K mg) : Binds K (fdA K (He.fAd K d_value_at.at_)) ["values", "period", "step", "n"] [] := T.F_value_at.bindsN fun _ _ _ _ _ _ us hl => match us, hl with | [_, _, _, _], _ => rfl
theorem ok_value_at (T : Tx K mg) : FnOk P w K mg base CX0 1 (He.fAd K d_value_at.at_) (fdA K (He.fAd K d_value_at.at_)) ["values", "period", "step", "n"] (sp_value_at K) :=
  T.F_value_at.ok sc_value_at (fun _ _ _ _ h => on4_len h) (fun cdv A outer s H vs Q E hr h => ⟨t_value_at K, PSs.nox ((pss_cons (ps_if (t_cmp o_lt (vv 3) (pe_callB c_len (by rfl) T.b_len boot_len (pa_cons (vv 0) pa_nil)) (nomark _))
      (pss_one (ps_ret (pe_ix x_seq (vv 0) (vv 3) (fun _ _ => rfl)))) pss_nil)
      (pss_cons (ps_set (i := 4) sc_value_at.nd rfl (.inl rfl) (pe_op o_sub (pe_callB c_len (by rfl) T.b_len boot_len (pa_cons (vv 0) pa_nil)) (vv 1)))
      (pss_cons (ps_asg (pe_callB c_divmod (by rfl) T.b_divmod boot_divmod (pa_cons (pe_op o_sub (vv 3) (vv 4)) (pa_cons (vv 1) pa_nil))) (pg_tup rfl (pgs_cons (pg_name (i := 5) sc_value_at.nd rfl (.inl rfl)) (pgs_cons (pg_name (i := 6) sc_value_at.nd rfl (.inl rfl)) pgs_nil))))
      (pss_one (ps_ret (pe_op o_add (pe_ix x_seq (vv 0) (pe_op o_add (vv 4) (vv 6)) (fun _ _ => rfl)) (pe_op o_mulW (vv 5) (vv 2))))))))), pure_value_at T vs H Q E h⟩)
def sp_least_period (K : PySem.W.Frag) : L2.Sp := fun vs H Q _ => on3 vs fun v p s => onRef v fun a => onInt p fun p => onInt s fun s => ∃ (ns : List Int) (P : Nat), SqS K H a (ns.map V.int) ∧ p = P ∧ Ask ns P s ∧
  ∀ (t : Addr) (H' : Hp), Same H H' → H t = none → H' t = some (.tup [.int (leastP ns P s).1, .int (leastP ns P s).2]) → Q (.ref t) H'
abbrev N_least_period : List Str := ["values", "period", "step", "first", "tail", "shorter", "rise", "place"]
theorem sc_least_period : FnScope N_least_period ["values", "period", "step"] (defScope s_least_period) := ⟨rfl, rfl, rfl, by decide +kernel, rfl, by decide +kernel, by decide +kernel⟩
def t_least_period (K : PySem.W.Frag) : TS :=
    tSeq (tAsg (tOp fSub (tCB (fLen K) (tCons (fV 0) tNil)) (fV 1)) (gName 3))
    (tSeq (tAsg (tLc (iRng1 (tCons (tOp fMul (tC (.int 2)) (fV 1)) tNil)) (gName 7) tYes (tCall (sp_value_at K) [] E0 (tCons (fV 0) (tCons (fV 1) (tCons (fV 2) (tCons (tOp fAdd (fV 3) (fV 7)) tNil))))) [7]) (gName 4))
    (tSeq (tFor (iRngL (tCons (tC (.int 1)) (tCons (fV 1) tNil))) (gName 5)
    (tIfS (fT (tOp fEq (tOp fMod (fV 1) (fV 5)) (tC (.int 0))))
    (tSeq (tAsg (tOp fSub (tOp (fIxL K) (fV 4) (fV 5)) (tOp (fIxL K) (fV 4) (tC (.int 0)))) (gName 6))
    (tIfS (fT (tCB (fAll K) (tCons (tLc (iRng1 (tCons (fV 1) tNil)) (gName 7) tYes (tOp fEq (tOp fSub (tOp (fIxL K) (fV 4) (tOp fAdd (fV 7) (fV 5))) (tOp (fIxL K) (fV 4) (fV 7))) (fV 6)) [7]) tNil)))
    (tRet (tTup (tCons (fV 5) (tCons (fV 6) tNil)))) tNext)) tNext))
    (tRet (tTup (tCons (fV 1) (tCons (fV 2) tNil))))))
abbrev Pure_least_period (K : PySem.W.Frag) : Prop := ∀ (vs : List V) (H : Hp) (Q : VK) (E : XK), sp_least_period K vs H Q E → t_least_period K { nx := fun _ H' => Q .non H', rt := Q } (L2.start N_least_period vs) H
theorem pure_least_period (T : Tx K mg) : Pure_least_period K := by
  intro vs H Q E h
  obtain ⟨x1, x2, x3, rfl, h⟩ := on3_ex h
  obtain ⟨a, rfl, h⟩ := onRef_ex h
  obtain ⟨p, rfl, h⟩ := onInt_ex h
  obtain ⟨s, rfl, ns, P, hS, rfl, A, hQ⟩ := onInt_ex h
  obtain ⟨hp1, hpl, hl, hs⟩ := id A
  refine ⟨_, hS, ?_⟩
  refine ⟨.inl ⟨by decide, by decide⟩, _, rfl, by omega, by omega, fun D hD => ?_⟩
  refine lc_rangeF (fun k => .int (tailAt ns P s k)) hD (by omega) (fun i H1 hi e1 R hR => ?_) (fun H1 e1 hD1 => ?_)
  · refine ⟨rfl, ?_⟩
    refine ⟨ns, P, ns.length - P + i, sameS e1 hS, rfl, ?_, A, by omega, fun H' e2 => hR H' e2⟩
    rw [List.length_map]
    omega
  · have en : (2 * (P : Int)).toNat = 2 * P := by omega
    rw [en] at hD1
    refine for_range (lo := 1) (n := ((P : Int) - 1).toNat) (fun i σ H2 => Same H1 H2 ∧ (∀ j, j < i → shorterOk ns P s (1 + j) = false) ∧ ∃ o5 o6 o7, σ = [some (.ref a), some (.int P), some (.int s), some (.int ((ns.map V.int).length - P)), some (.ref D), o5, o6, o7])
      ⟨Same.refl _, fun j hj => by omega, _, _, _, rfl⟩ (fun i σ H2 hi hp => ?_) (fun σ H2 hp => ?_)
    · obtain ⟨e2, hn, o5, o6, o7, rfl⟩ := hp
      have hD2 := e2 _ _ hD1
      refine ⟨by omega, ?_⟩
      have em : (P : Int) % (1 + (i : Int)) = ((P % (1 + i) : Nat) : Int) := by
        rw [show (1 + (i : Int)) = ((1 + i : Nat) : Int) by omega]
        rfl
      refine ite2 (fun h1 => ?_) (fun h1 => ?_)
      · have h2 : P % (1 + i) = 0 := by
          have z := of_decide_eq_true h1
          injection z with z
          rw [em] at z
          omega
        refine ⟨_, SqL.of hD2, _, atI_range (j := 1 + i) (by omega) (by omega), _, SqL.of hD2, _, atI_range (j := 0) rfl (by omega), ?_⟩
        refine ⟨_, rfl, by omega, by omega, fun D' hD' => ?_⟩
        refine lc_rangeF (fun k => .bl (decide (V.int (tailAt ns P s (k + (1 + i)) - tailAt ns P s k) = V.int (tailAt ns P s (1 + i) - tailAt ns P s 0)))) hD' (by omega) (fun k H3 hk e3 R hR => ?_) (fun H3 e3 hD3 => ?_)
        · refine ⟨rfl, _, SqL.of (e3 _ _ hD2), _, atI_range (j := k + (1 + i)) (by omega) (by omega), _, SqL.of (e3 _ _ hD2), _, atI_range (j := k) (by omega) (by omega), ?_⟩
          exact hR H3 (Same.refl _)
        · refine ⟨(List.range P).map fun k => decide (V.int (tailAt ns P s (k + (1 + i)) - tailAt ns P s k) = V.int (tailAt ns P s (1 + i) - tailAt ns P s 0)), SqL.of (by rw [hD3, List.map_map]; rfl), ?_⟩
          have er : (((List.range P).map fun k => decide (V.int (tailAt ns P s (k + (1 + i)) - tailAt ns P s k) = V.int (tailAt ns P s (1 + i) - tailAt ns P s 0))).all id) = rises ns P s (1 + i) := by
            unfold rises
            rw [List.all_map]
            congr 1
            funext k
            simp [Bool.beq_eq_decide_eq]
          have es : shorterOk ns P s (1 + i) = rises ns P s (1 + i) := by
            unfold shorterOk
            rw [h2]
            rfl
          refine ite2 (fun h3 => ?_) (fun h3 => ?_)
          · rw [er] at h3
            have hf := leastP_found (ns := ns) (p := P) (s := s) (i := i) (by omega) hn (es.trans h3)
            refine ⟨by show 2 ≤ sizeLine; decide, fun t ht => ?_⟩
            refine hQ t _ (((e1.trans e2).trans e3).trans (Same.upd ht)) ((e1.trans (e2.trans e3)).free ht) ?_
            rw [upd_same, hf]
            simp
          · rw [er] at h3
            refine ⟨e2.trans e3, fun j hj => ?_, _, _, _, rfl⟩
            by_cases hji : j = i
            · subst hji
              rw [es]
              simpa using h3
            · exact hn j (by omega)
      · refine ⟨e2, fun j hj => ?_, _, _, _, rfl⟩
        by_cases hji : j = i
        · subst hji
          have : (P % (1 + j) == 0) = false := by
            rw [beq_eq_false_iff_ne]
            intro z
            exact h1 (decide_eq_true (by show V.int ((P : Int) % (1 + (j : Int))) = V.int 0; rw [em, z]; rfl))
          unfold shorterOk
          rw [this]
          rfl
        · exact hn j (by omega)
    · obtain ⟨e2, hn, o5, o6, o7, rfl⟩ := hp
      refine ⟨by show 2 ≤ sizeLine; decide, fun t ht => ?_⟩
      refine hQ t _ ((e1.trans e2).trans (Same.upd ht)) ((e1.trans e2).free ht) ?_
      rw [upd_same, leastP_none (fun j hj => hn j (by omega))]
theorem b_least_period (T : Tx K mg) : Binds K (fdA K (He.fAd K d_least_period.at_)) ["values", "period", "step"] [] := T.F_least_period.bindsN fun _ _ _ _ _ _ us hl => match us, hl with | [_, _, _], _ => rfl
theorem ok_least_period (T : Tx K mg) : FnOk P w K mg base CX0 2 (He.fAd K d_least_period.at_) (fdA K (He.fAd K d_least_period.at_)) ["values", "period", "step"] (sp_least_period K) :=
  T.F_least_period.ok sc_least_period (fun _ _ _ _ h => on3_len h) (fun cdv A outer s H vs Q E hr h => ⟨t_least_period K, PSs.nox ((pss_cons (ps_set (i := 3) sc_least_period.nd rfl (.inr rfl) (pe_op o_sub (pe_callB c_len (by rfl) T.b_len boot_len (pa_cons (vv 0) pa_nil)) (vv 1)))
      (pss_cons (ps_set (i := 4) sc_least_period.nd rfl (.inr rfl) (pe_lc (own := [("place", 7)]) (g := gName 7) (by rfl) sc_least_period.nd (pi_range1 (by rfl) T.b_range (pa_cons (pe_op o_mul pe_int (vv 1)) pa_nil)) (blkOk_by (own := [("place", 7)]) (N := N_least_period) (sc := defScope s_least_period) (by decide +kernel)) (fun _ _ _ _ _ => (pg_name (i := 7) sc_least_period.nd rfl (.inl rfl))) (fun _ _ _ _ _ => pts_nil) (fun _ _ _ _ _ => (pe_call (ok_value_at T) (hr.mono (by decide)) (by rfl) T.g_value_at T.F_value_at.kp (b_value_at T) .nil pass0 (pa_cons (vv 0) (pa_cons (vv 1) (pa_cons (vv 2) (pa_cons (pe_op o_add (vv 3) (vv 7)) pa_nil))))))))
      (pss_cons (ps_for PassesOwn.never (by rfl) (pi_rangeL (by rfl) T.b_range (pa_cons pe_int (pa_cons (vv 1) pa_nil))) (pg_name (i := 5) sc_least_period.nd rfl (.inr rfl))
      (pss_one (ps_if (t_cmp o_eq (pe_op o_mod (vv 1) (vv 5)) pe_int (nomark _))
      (pss_cons (ps_set (i := 6) sc_least_period.nd rfl (.inr rfl) (pe_op o_sub (pe_ix x_list (vv 4) (vv 5) (fun _ _ => rfl)) (pe_ix x_list (vv 4) pe_int (fun _ _ => rfl))))
      (pss_one (ps_if (t_val (pe_callB (c_all rfl) (by rfl) T.b_all boot_all (pa_cons (pe_lc (own := [("place", 7)]) (g := gName 7) (by rfl) sc_least_period.nd (pi_range1 (by rfl) T.b_range (pa_cons (vv 1) pa_nil)) (blkOk_by (own := [("place", 7)]) (N := N_least_period) (sc := defScope s_least_period) (by decide +kernel)) (fun _ _ _ _ _ => (pg_name (i := 7) sc_least_period.nd rfl (.inl rfl))) (fun _ _ _ _ _ => pts_nil) (fun _ _ _ _ _ => (pe_cmpR o_eq (pe_op o_sub (pe_ix x_list (vv 4) (pe_op o_add (vv 7) (vv 5)) (fun _ _ => rfl)) (pe_ix x_list (vv 4) (vv 7) (fun _ _ => rfl))) (vv 6) (nomark _)))) pa_nil)))
      (pss_one (ps_ret (pe_tup (pa_cons (vv 5) (pa_cons (vv 6) pa_nil))))) pss_nil))) pss_nil)))
      (pss_one (ps_ret (pe_tup (pa_cons (vv 1) (pa_cons (vv 2) pa_nil))))))))), pure_least_period T vs H Q E h⟩)
def sp_least_listed (K : PySem.W.Frag) : L2.Sp := fun vs H Q _ => on3 vs fun v p s => onRef v fun a => onInt p fun p => onInt s fun s => ∃ (ns : List Int) (P : Nat), SqS K H a (ns.map V.int) ∧ p = P ∧ Ask ns P s ∧
  ∀ (t : Addr) (H' : Hp), Same H H' → SqT K H' t ((leastL ns P s).map V.int) → Q (.ref t) H'
abbrev N_least_listed : List Str := ["values", "period", "step", "start"]
theorem sc_least_listed : FnScope N_least_listed ["values", "period", "step"] (defScope s_least_listed) := ⟨rfl, rfl, rfl, by decide +kernel, rfl, by decide +kernel, by decide +kernel⟩
def t_least_listed (K : PySem.W.Frag) : TS :=
    tSeq (tAsg (tOp fSub (tCB (fLen K) (tCons (fV 0) tNil)) (fV 1)) (gName 3))
    (tSeq (tWhile (tAnd (fT (tOp fGt (fV 3) (tC (.int 0)))) (fT (tOp fEq (tCall (sp_value_at K) [] E0 (tCons (fV 0) (tCons (fV 1) (tCons (fV 2) (tCons (tOp fAdd (tOp fSub (fV 3) (tC (.int 1))) (fV 1)) tNil))))) (tOp fAdd (tOp (fIxQ K) (fV 0) (tOp fSub (fV 3) (tC (.int 1)))) (fV 2)))))
    (tAsg (tOp fSub (fV 3) (tC (.int 1))) (gName 3)))
    (tRet (tCB (fTupQ K) (tCons (tSl (fSlQ K) (fV 0) tNoPart (tPart (tOp fAdd (fV 3) (fV 1)))) tNil))))
abbrev Pure_least_listed (K : PySem.W.Frag) : Prop := ∀ (vs : List V) (H : Hp) (Q : VK) (E : XK), sp_least_listed K vs H Q E → t_least_listed K { nx := fun _ H' => Q .non H', rt := Q } (L2.start N_least_listed vs) H
theorem cut_take (xs : List V) {z : Int} {k : Nat} (e : z = (k : Int)) : cutV xs none (some z) = xs.take k := by
  unfold cutV
  rw [e, HT.sIx_none, HT.sIx_nat]
  simp only [List.drop_zero, Nat.sub_zero]
  rw [List.take_eq_take_iff]
  omega
theorem cut_whole {xs : List V} {lo hi : Option Int} (h : HT.sIx xs.length 0 lo = 0 ∧ HT.sIx xs.length xs.length hi = xs.length) : cutV xs lo hi = xs := by
  unfold cutV
  rw [h.1, h.2]
  simp
theorem leastS_le (ns : List Int) (p : Nat) (s : Int) : ∀ k, leastS ns p s k ≤ k
  | 0 => Nat.le_refl _
  | k + 1 => by
    unfold leastS
    split
    · exact Nat.le_succ_of_le (leastS_le ns p s k)
    · exact Nat.le_refl _
theorem pure_least_listed (T : Tx K mg) : Pure_least_listed K := by
  intro vs H Q E h
  obtain ⟨x1, x2, x3, rfl, h⟩ := on3_ex h
  obtain ⟨a, rfl, h⟩ := onRef_ex h
  obtain ⟨p, rfl, h⟩ := onInt_ex h
  obtain ⟨s, rfl, ns, P, hS, rfl, A, hQ⟩ := onInt_ex h
  obtain ⟨hp1, hpl, hl, hs⟩ := id A
  refine ⟨_, hS, ?_⟩
  rw [List.length_map]
  refine ⟨fun m σ H1 => Same H H1 ∧ m ≤ ns.length - P ∧ leastS ns P s (ns.length - P) = leastS ns P s m ∧ σ = [some (.ref a), some (.int P), some (.int s), some (.int m)], ⟨ns.length - P, Same.refl _, Nat.le_refl _, rfl, ?_⟩, ?_⟩
  · show [some (V.ref a), some (V.int P), some (V.int s), some (V.int ((ns.length : Int) - P))] = _
    rw [show ((ns.length : Int) - P) = ((ns.length - P : Nat) : Int) by omega]
  rintro m σ H1 ⟨e1, hm, hmm, rfl⟩
  have fin : ∀ (m : Nat) (H1 : Hp), Same H H1 → m ≤ ns.length - P → leastS ns P s (ns.length - P) = m →
      tRet (tCB (fTupQ K) (tCons (tSl (fSlQ K) (fV 0) tNoPart (tPart (tOp fAdd (fV 3) (fV 1)))) tNil)) { nx := fun _ H' => Q .non H', rt := Q } [some (.ref a), some (.int P), some (.int s), some (.int m)] H1 := fun m H1 e1 hm hmm => by
    have ec := cut_take (ns.map V.int) (z := (m : Int) + P) (k := m + P) (by omega)
    have el : (ns.take (m + P)).map V.int = (leastL ns P s).map V.int := by
      unfold leastL
      rw [hmm]
    rw [← List.map_take, el] at ec
    refine ⟨_, rfl, ?_⟩
    rcases sameS e1 hS with hL | hT
    · refine .inl ⟨a, _, rfl, hL, fun p hp => ⟨_, .inl ⟨SqL.of upd_same, fun l hl => ?_⟩⟩⟩
      refine hQ l _ ((e1.trans (Same.upd hp)).trans (Same.upd hl)) (SqT.of ?_)
      rw [upd_same, ec]
    · refine .inr ⟨a, _, rfl, hT, fun hw => ⟨_, .inr ⟨hT, hQ a _ e1 ?_⟩⟩, fun _ p hp => ⟨_, .inr ⟨SqT.of upd_same, hQ p _ (e1.trans (Same.upd hp)) (SqT.of ?_)⟩⟩⟩
      · have e2 : cutV (ns.map V.int) none (some ((m : Int) + P)) = ns.map V.int := cut_whole hw
        rw [← ec, e2]
        exact hT
      · rw [upd_same, ec]
  cases m with
  | zero => exact fin 0 H1 e1 hm hmm
  | succ k =>
    refine ite2 (fun _ => ?_) (fun hz => absurd (decide_eq_true (show (0 : Int) < ((k + 1 : Nat) : Int) by omega)) hz)
    refine ⟨ns, P, k + P, sameS e1 hS, rfl, by omega, A, by omega, fun H2 e2 => ?_⟩
    refine ⟨_, sameS (e1.trans e2) hS, _, atI_ints (j := k) (by omega) (by omega), ?_⟩
    refine ite2 (fun hy => ?_) (fun hy => ?_)
    · have hy2 : valueAt ns P s (k + P) = ns.getD k 0 + s := by
        have z := of_decide_eq_true hy
        injection z
      refine ⟨fun σ' H' => Same H H' ∧ σ' = [some (.ref a), some (.int P), some (.int s), some (.int k)], fun σ' H' z => ⟨k, by omega, z.1, by omega, ?_, z.2⟩, e1.trans e2, ?_⟩
      · rw [hmm]
        show (if valueAt ns P s (k + P) = ns.getD k 0 + s then leastS ns P s k else k + 1) = _
        rw [if_pos hy2]
      · show [some (V.ref a), some (V.int P), some (V.int s), some (V.int (((k + 1 : Nat) : Int) - 1))] = _
        rw [show (((k + 1 : Nat) : Int) - 1) = (k : Int) by omega]
    · refine fin (k + 1) H2 (e1.trans e2) hm ?_
      rw [hmm]
      show (if valueAt ns P s (k + P) = ns.getD k 0 + s then leastS ns P s k else k + 1) = _
      rw [if_neg (fun z => hy (decide_eq_true (by show V.int _ = V.int _; rw [z])))]
theorem b_least_listed (T : Tx K mg) : Binds K (fdA K (He.fAd K d_least_listed.at_)) ["values", "period", "step"] [] := T.F_least_listed.bindsN fun _ _ _ _ _ _ us hl => match us, hl with | [_, _, _], _ => rfl
theorem ok_least_listed (T : Tx K mg) : FnOk P w K mg base CX0 2 (He.fAd K d_least_listed.at_) (fdA K (He.fAd K d_least_listed.at_)) ["values", "period", "step"] (sp_least_listed K) :=
  T.F_least_listed.ok sc_least_listed (fun _ _ _ _ h => on3_len h) (fun cdv A outer s H vs Q E hr h => ⟨t_least_listed K, PSs.nox ((pss_cons (ps_set (i := 3) sc_least_listed.nd rfl (.inl rfl) (pe_op o_sub (pe_callB c_len (by rfl) T.b_len boot_len (pa_cons (vv 0) pa_nil)) (vv 1)))
      (pss_cons (ps_while PassesOwn.never (PW.pt (pw_and (t_cmp o_gt (vv 3) pe_int (nomark _)) (pw_and1 (t_cmp o_eq (pe_call (ok_value_at T) (hr.mono (by decide)) (by rfl) T.g_value_at T.F_value_at.kp (b_value_at T) .nil pass0 (pa_cons (vv 0) (pa_cons (vv 1) (pa_cons (vv 2) (pa_cons (pe_op o_add (pe_op o_sub (vv 3) pe_int) (vv 1)) pa_nil))))) (pe_op o_add (pe_ix x_seq (vv 0) (pe_op o_sub (vv 3) pe_int) (fun _ _ => rfl)) (vv 2)) (nomark _)))))
      (pss_one (ps_set (i := 3) sc_least_listed.nd rfl (.inl rfl) (pe_op o_sub (vv 3) pe_int))))
      (pss_one (ps_ret (pe_callTy c_tupQ (by rfl) T.b_tuple boot_tuple (pa_cons (pe_slice sl_seq (vv 0) po_none (po_some (pe_op o_add (vv 3) (vv 1)))) pa_nil))))))), pure_least_listed T vs H Q E h⟩)
theorem leastFrom_le {ns : List Int} {p : Nat} {s : Int} : ∀ (k q : Nat), 1 ≤ q → q + k ≤ p → 1 ≤ (leastFrom ns p s k q).1 ∧ (leastFrom ns p s k q).1 ≤ p
  | 0, q, h1, h2 => ⟨by show 1 ≤ p; omega, Nat.le_refl _⟩
  | k + 1, q, h1, h2 => by
    unfold leastFrom
    split
    · exact ⟨h1, by show q ≤ p; omega⟩
    · exact leastFrom_le k (q + 1) (by omega) (by omega)
theorem leastP_le {ns : List Int} {p : Nat} {s : Int} (h : 1 ≤ p) : 1 ≤ (leastP ns p s).1 ∧ (leastP ns p s).1 ≤ p := leastFrom_le (p - 1) 1 (by omega) (by omega)
/-- a form at a: its spec -/
def FormAt (K : PySem.W.Frag) (H : Hp) (a : Addr) (f : List Int × Nat × Int) : Prop := ∃ dx t l, H a = some (.ins (He.ga K "Form") dx [("spec", .ref t)]) ∧ H t = some (.tup [.ref l, .int f.2.1, .int f.2.2]) ∧ SqT K H l (f.1.map V.int)
theorem FormAt.same {H H' : Hp} {a : Addr} {f : List Int × Nat × Int} (e : Same H H') (h : FormAt K H a f) : FormAt K H' a f := by
  obtain ⟨dx, t, l, h1, h2, h3⟩ := h
  exact ⟨dx, t, l, e _ _ h1, e _ _ h2, sameT e h3⟩
def sp_Form_init (K : PySem.W.Frag) : L2.Sp := fun vs H Q _ => on4 vs fun x v p s => onRef x fun x => onRef v fun a => onInt p fun p => onInt s fun s => ∃ (ns : List Int) (P : Nat) (dx : Addr), H x = some (.ins (He.ga K "Form") dx []) ∧ SqT K H a (ns.map V.int) ∧ p = P ∧ Ask ns P s ∧
  Sm (leastP ns P s).2 ∧ ∀ H', (∀ b o, b ≠ x → H b = some o → H' b = some o) → FormAt K H' x (formOf ns P s) → Q .non H'
abbrev N_Form_init : List Str := ["self", "values", "period", "step", "shorter", "rise"]
theorem sc_Form_init : FnScope N_Form_init ["self", "values", "period", "step"] (defScope s_Form_init) := ⟨rfl, rfl, rfl, by decide +kernel, rfl, by decide +kernel, by decide +kernel⟩
def t_Form_init (K : PySem.W.Frag) : TS :=
    tSeq (tDrop (tCall (sp_check_values K) [] E0 (tCons (fV 1) tNil)))
    (tSeq (tIfS (tOr (tNot (fT (tCall (sp_is_integer K) [] E0 (tCons (fV 2) tNil)))) (tNot (fT (fChain fLe fLe (tC (.int 1)) (fV 2) (tCB (fLen K) (tCons (fV 1) tNil))))))
    tNever tNext)
    (tSeq (tIfS (tNot (fT (tCall (sp_is_integer K) [] E0 (tCons (fV 3) tNil))))
    tNever tNext)
    (tSeq (tAsg (tCall (sp_least_period K) [] E0 (tCons (fV 1) (tCons (fV 2) (tCons (fV 3) tNil)))) (gTup K 2 (gCons (gName 4) (gCons (gName 5) gNil))))
    (sFld K (fV 0) (tTup (tCons (tCall (sp_least_listed K) [] E0 (tCons (fV 1) (tCons (fV 4) (tCons (fV 5) tNil)))) (tCons (fV 4) (tCons (fV 5) tNil)))) "spec"))))
abbrev Pure_Form_init (K : PySem.W.Frag) : Prop := ∀ (vs : List V) (H : Hp) (Q : VK) (E : XK), sp_Form_init K vs H Q E → t_Form_init K { nx := fun _ H' => Q .non H', rt := Q } (L2.start N_Form_init vs) H
theorem sqt_ins {H : Hp} {x l C dx : Addr} {fs : List (Str × V)} {o : HO} {xs : List V} (h : SqT K H l xs) (hx : H x = some (.ins C dx fs)) : SqT K (upd H x o) l xs := by
  rcases h with (h | ⟨ob, h⟩) | h
  · exact .inl (.inl (by rw [upd_ne (ne_of h hx (fun z => by cases z))]; exact h))
  · exact .inl (.inr ⟨ob, by rw [upd_ne (ne_of h hx (fun z => by cases z))]; exact h⟩)
  · exact .inr h
theorem pure_Form_init (T : Tx K mg) : Pure_Form_init K := by
  intro vs H Q E h
  obtain ⟨x1, x2, x3, x4, rfl, h⟩ := on4_ex h
  obtain ⟨x, rfl, h⟩ := onRef_ex h
  obtain ⟨a, rfl, h⟩ := onRef_ex h
  obtain ⟨p, rfl, h⟩ := onInt_ex h
  obtain ⟨s, rfl, ns, P, dx, hx, ha, rfl, A, hsm, hQ⟩ := onInt_ex h
  obtain ⟨hp1, hpl, hl, hs⟩ := id A
  refine ⟨ns, ha, fun z => ?_, hl, fun H1 e1 => ?_⟩
  · rw [z] at hpl
    exact absurd hpl (by simp; omega)
  have ha1 := sameT e1 ha
  refine ite2 (fun _ => ⟨_, .inr ha1, ?_⟩) (fun hz => absurd (decide_eq_true (show (1 : Int) ≤ (P : Int) by omega)) hz)
  refine ite2 (fun hz => ?_) (fun _ => ?_)
  · have z : decide ((P : Int) ≤ ((ns.map V.int).length : Int)) = true := decide_eq_true (by rw [List.length_map]; omega)
    rw [z] at hz
    exact absurd hz (by decide)
  refine ⟨ns, P, .inr ha1, rfl, A, fun t H2 e2 ht ht2 => ?_⟩
  refine ⟨t, _, rfl, SqT.of ht2, rfl, _, _, rfl, _, _, rfl, rfl, ?_⟩
  have hq := leastP_le (ns := ns) (s := s) hp1
  refine ⟨ns, (leastP ns P s).1, .inr (sameT e2 ha1), rfl, ⟨hq.1, by omega, hl, hsm⟩, fun l H3 e3 hl3 => ?_⟩
  refine ⟨by show 3 ≤ sizeLine; decide, fun u hu => ?_⟩
  have e13 := (e1.trans e2).trans e3
  have hxu : x ≠ u := ne_of_none (e13 _ _ hx) hu
  refine ⟨x, _, dx, _, rfl, by rw [upd_ne hxu]; exact e13 _ _ hx, T.cl_Form, T.no_Form_spec, by show 0 < 1000; decide, ?_⟩
  refine hQ _ (fun b o nb hb => ?_) ⟨dx, u, l, ?_, ?_, ?_⟩
  · rw [upd_ne nb, upd_ne (ne_of_none (e13 _ _ hb) hu)]
    exact e13 _ _ hb
  · rw [upd_same]
    rfl
  · rw [upd_ne (Ne.symm hxu), upd_same]
    rfl
  · have h5 := sameT (Same.upd (o := .tup [V.ref l, V.int (leastP ns P s).1, V.int (leastP ns P s).2]) hu) hl3
    exact sqt_ins h5 (by rw [upd_ne hxu]; exact e13 _ _ hx)
theorem ok_Form_init (T : Tx K mg) : FnOk P w K mg base CX0 3 (He.fAd K d_Form_init.at_) (fdA K (He.fAd K d_Form_init.at_)) ["self", "values", "period", "step"] (sp_Form_init K) :=
  T.F_Form_init.ok sc_Form_init (fun _ _ _ _ h => on4_len h) (fun cdv A outer s H vs Q E hr h => ⟨t_Form_init K, PSs.nox ((pss_cons (ps_expr (pe_call (ok_check_values T) (hr.mono (by decide)) (by rfl) T.g_check_values T.F_check_values.kp (b_check_values T) .nil pass0 (pa_cons (vv 1) pa_nil)))
      (pss_cons (ps_if (PW.pt (pw_or (pt_not (t_val (pe_call (ok_is_integer T) (hr.mono (by decide)) (by rfl) T.g_is_integer T.F_is_integer.kp (b_is_integer T) .nil pass0 (pa_cons (vv 2) pa_nil)))) (pw_or1 (pt_not (t_chain o_le o_le pe_int (vv 2) (pe_callB c_len (by rfl) T.b_len boot_len (pa_cons (vv 1) pa_nil)))))))
      (pss_one ps_never) pss_nil)
      (pss_cons (ps_if (pt_not (t_val (pe_call (ok_is_integer T) (hr.mono (by decide)) (by rfl) T.g_is_integer T.F_is_integer.kp (b_is_integer T) .nil pass0 (pa_cons (vv 3) pa_nil))))
      (pss_one ps_never) pss_nil)
      (pss_cons (ps_asg (pe_call (ok_least_period T) (hr.mono (by decide)) (by rfl) T.g_least_period T.F_least_period.kp (b_least_period T) .nil pass0 (pa_cons (vv 1) (pa_cons (vv 2) (pa_cons (vv 3) pa_nil)))) (pg_tup rfl (pgs_cons (pg_name (i := 4) sc_Form_init.nd rfl (.inl rfl)) (pgs_cons (pg_name (i := 5) sc_Form_init.nd rfl (.inl rfl)) pgs_nil))))
      (pss_one (ps_fld (vv 0) (pe_tup (pa_cons (pe_call (ok_least_listed T) (hr.mono (by decide)) (by rfl) T.g_least_listed T.F_least_listed.kp (b_least_listed T) .nil pass0 (pa_cons (vv 1) (pa_cons (vv 4) (pa_cons (vv 5) pa_nil)))) (pa_cons (vv 4) (pa_cons (vv 5) pa_nil)))) rfl))))))), pure_Form_init T vs H Q E h⟩)

theorem tailAt_lt {ns : List Int} {p : Nat} {s : Int} {i : Nat} (hp : p ≤ ns.length) (hi : i < p) : tailAt ns p s i = ns.getD (ns.length - p + i) 0 := by
  unfold tailAt valueAt
  rw [if_pos (by omega)]
theorem leastFrom_step {ns : List Int} {p : Nat} {s : Int} (hp : p ≤ ns.length) : ∀ (k q : Nat), q + k ≤ p → (leastFrom ns p s k q).2 = s ∨ ∃ i, i < p ∧ (leastFrom ns p s k q).2 = ns.getD (ns.length - p + i) 0 - ns.getD (ns.length - p + 0) 0
  | 0, q, _ => .inl rfl
  | k + 1, q, h => by
    unfold leastFrom
    split
    · refine .inr ⟨q, by omega, ?_⟩
      show tailAt ns p s q - tailAt ns p s 0 = _
      rw [tailAt_lt hp (by omega), tailAt_lt hp (by omega)]
    · exact leastFrom_step hp k (q + 1) (by omega)
theorem leastP_step {ns : List Int} {p : Nat} {s : Int} (h1 : 1 ≤ p) (hp : p ≤ ns.length) : (leastP ns p s).2 = s ∨ ∃ i, i < p ∧ (leastP ns p s).2 = ns.getD (ns.length - p + i) 0 - ns.getD (ns.length - p + 0) 0 := leastFrom_step hp (p - 1) 1 (by omega)
theorem getD_le {ns : List Int} {B : Nat} (h : ∀ z ∈ ns, z.natAbs ≤ B) (i : Nat) : (ns.getD i 0).natAbs ≤ B := by
  by_cases hi : i < ns.length
  · rw [List.getD_eq_getElem?_getD, List.getElem?_eq_getElem hi]
    exact h _ (List.getElem_mem hi)
  · rw [List.getD_eq_getElem?_getD, List.getElem?_eq_none (by omega)]
    exact Nat.zero_le _
theorem rise_le {ns : List Int} {p : Nat} {s : Int} {B : Nat} (h1 : 1 ≤ p) (hp : p ≤ ns.length) (h : ∀ z ∈ ns, z.natAbs ≤ B) (hs : s.natAbs ≤ B) : ((leastP ns p s).2).natAbs ≤ 2 * B := by
  rcases leastP_step (s := s) h1 hp with e | ⟨i, _, e⟩
  · rw [e]
    omega
  · rw [e]
    have a := getD_le h (ns.length - p + i)
    have b := getD_le h (ns.length - p + 0)
    omega
theorem big_sm {x : Int} (h : x.natAbs ≤ 10 ^ 60) : Sm x := by
  have e : (10 : Nat) ^ 60 < 2 ^ 200 := by decide
  have e2 : (2 : Nat) ^ 1000 = 2 ^ 200 * 2 ^ 800 := (Nat.pow_add 2 200 800)
  have e3 : 0 < (2 : Nat) ^ 800 := Nat.pow_pos (by decide)
  unfold Sm
  rw [e2]
  generalize (2 : Nat) ^ 800 = A at *
  calc x.natAbs < 2 ^ 200 := by omega
    _ ≤ 2 ^ 200 * A := Nat.le_mul_of_pos_right _ e3
theorem leastL_len {ns : List Int} {p : Nat} {s : Int} (hp : p ≤ ns.length) : (leastL ns p s).length = leastS ns p s (ns.length - p) + p := by
  unfold leastL
  rw [List.length_take]
  have := leastS_le ns p s (ns.length - p)
  omega

/-! ### the functions' theory -/
theorem val_head {ns : List Int} {p : Nat} {s : Int} {n : Nat} (h : n < ns.length) : valueAt ns p s n = ns.getD n 0 := by
  unfold valueAt
  rw [if_pos h]
theorem val_tail {ns : List Int} {p : Nat} {s : Int} {n : Nat} (hp : p ≤ ns.length) (h : ns.length - p ≤ n) : valueAt ns p s n = ns.getD (ns.length - p + (n - (ns.length - p)) % p) 0 + ((n - (ns.length - p)) / p : Nat) * s := by
  by_cases hn : n < ns.length
  · rw [val_head hn]
    have h1 : n - (ns.length - p) < p := by omega
    rw [Nat.mod_eq_of_lt h1, Nat.div_eq_of_lt h1, show ns.length - p + (n - (ns.length - p)) = n by omega]
    simp
  · unfold valueAt
    rw [if_neg hn]
theorem val_shift {ns : List Int} {p : Nat} {s : Int} {n : Nat} (h1 : 1 ≤ p) (hp : p ≤ ns.length) (h : ns.length - p ≤ n) : valueAt ns p s (n + p) = valueAt ns p s n + s := by
  rw [val_tail hp (by omega), val_tail hp h]
  have e : n + p - (ns.length - p) = n - (ns.length - p) + p := by omega
  rw [e, Nat.add_mod_right, Nat.add_div_right _ (by omega)]
  have : (((n - (ns.length - p)) / p + 1 : Nat) : Int) * s = ((n - (ns.length - p)) / p : Nat) * s + s := by
    rw [Int.natCast_add, Int.add_mul]
    simp
  show _ + (((n - (ns.length - p)) / p + 1 : Nat) : Int) * s = _
  rw [this]
  omega
theorem iter_shift {F : Nat → Int} {a q : Nat} {c : Int} (h : ∀ n, a ≤ n → F (n + q) = F n + c) : ∀ (m n : Nat), a ≤ n → F (n + m * q) = F n + m * c
  | 0, n, _ => by simp
  | m + 1, n, hn => by
    have e : n + (m + 1) * q = (n + m * q) + q := by rw [Nat.add_mul]; omega
    rw [e, h _ (by omega), iter_shift h m n hn, Int.natCast_add, Int.add_mul]
    omega
/-- a function that rises by c over q from a on is told by its values up to a + q -/
theorem val_of_shift {F : Nat → Int} {ns : List Int} {q : Nat} {c : Int} (h1 : 1 ≤ q) (hq : q ≤ ns.length) (hv : ∀ n, n < ns.length → F n = ns.getD n 0) (hs : ∀ n, ns.length - q ≤ n → F (n + q) = F n + c) (n : Nat) : valueAt ns q c n = F n := by
  by_cases hn : n < ns.length
  · rw [val_head hn, hv n hn]
  · have hle : ns.length - q ≤ n := by omega
    rw [val_tail hq hle]
    have hm := Nat.mod_lt (n - (ns.length - q)) (show 0 < q by omega)
    have e : n = ns.length - q + (n - (ns.length - q)) % q + (n - (ns.length - q)) / q * q := by
      have := Nat.div_add_mod (n - (ns.length - q)) q
      rw [Nat.mul_comm] at this
      omega
    have e2 := iter_shift hs ((n - (ns.length - q)) / q) (ns.length - q + (n - (ns.length - q)) % q) (by omega)
    rw [← e] at e2
    rw [e2, hv _ (by omega)]
theorem rises_all {ns : List Int} {p : Nat} {s : Int} {q : Nat} (h1 : 1 ≤ p) (hp : p ≤ ns.length) (h : rises ns p s q = true) : ∀ n, ns.length - p ≤ n → valueAt ns p s (n + q) = valueAt ns p s n + (tailAt ns p s q - tailAt ns p s 0) := fun n hn => by
  have hm := Nat.mod_lt (n - (ns.length - p)) (show 0 < p by omega)
  have e : n = ns.length - p + (n - (ns.length - p)) % p + (n - (ns.length - p)) / p * p := by
    have := Nat.div_add_mod (n - (ns.length - p)) p
    rw [Nat.mul_comm] at this
    omega
  have sh : ∀ n, ns.length - p ≤ n → valueAt ns p s (n + p) = valueAt ns p s n + s := fun n hn => val_shift h1 hp hn
  have a1 := iter_shift sh ((n - (ns.length - p)) / p) (ns.length - p + (n - (ns.length - p)) % p) (by omega)
  have a2 := iter_shift sh ((n - (ns.length - p)) / p) (ns.length - p + (n - (ns.length - p)) % p + q) (by omega)
  have a3 := List.all_eq_true.mp h ((n - (ns.length - p)) % p) (List.mem_range.mpr hm)
  have a4 : tailAt ns p s ((n - (ns.length - p)) % p + q) - tailAt ns p s ((n - (ns.length - p)) % p) = tailAt ns p s q - tailAt ns p s 0 := by simpa using a3
  rw [← e] at a1
  have e2 : ns.length - p + (n - (ns.length - p)) % p + q + (n - (ns.length - p)) / p * p = n + q := by omega
  rw [e2] at a2
  have a5 : tailAt ns p s ((n - (ns.length - p)) % p + q) = valueAt ns p s (ns.length - p + (n - (ns.length - p)) % p + q) := by
    unfold tailAt
    rw [Nat.add_assoc]
  have a6 : tailAt ns p s ((n - (ns.length - p)) % p) = valueAt ns p s (ns.length - p + (n - (ns.length - p)) % p) := rfl
  rw [a1, a2, ← a5, ← a6]
  omega
/-- what leastP tells -/
theorem leastP_tells {ns : List Int} {p : Nat} {s : Int} (h1 : 1 ≤ p) (hp : p ≤ ns.length) :
    (∀ n, ns.length - p ≤ n → valueAt ns p s (n + (leastP ns p s).1) = valueAt ns p s n + (leastP ns p s).2) ∧ p % (leastP ns p s).1 = 0 := by
  have key : ∀ k q, 1 ≤ q → ((∀ n, ns.length - p ≤ n → valueAt ns p s (n + (leastFrom ns p s k q).1) = valueAt ns p s n + (leastFrom ns p s k q).2) ∧ p % (leastFrom ns p s k q).1 = 0) := by
    intro k
    induction k with
    | zero => exact fun q _ => ⟨fun n hn => val_shift h1 hp hn, Nat.mod_self p⟩
    | succ k ih =>
      intro q hq
      unfold leastFrom
      split
      · rename_i hs
        unfold shorterOk at hs
        rw [Bool.and_eq_true] at hs
        exact ⟨rises_all h1 hp hs.2, by simpa using hs.1⟩
      · exact ih (q + 1) (by omega)
  exact key (p - 1) 1 (by omega)
theorem leastS_tells (ns : List Int) (q : Nat) (c : Int) : ∀ k j, leastS ns q c k ≤ j → j < k → valueAt ns q c (j + q) = ns.getD j 0 + c
  | 0, j, _, h => by omega
  | k + 1, j, h, hj => by
    unfold leastS at h
    split at h
    · rename_i hk
      by_cases e : j = k
      · rw [e]
        exact hk
      · exact leastS_tells ns q c k j h (by omega)
    · omega
/-- a form's values are the ones that were told -/
theorem formOf_val {ns : List Int} {p : Nat} {s : Int} (h1 : 1 ≤ p) (hp : p ≤ ns.length) (n : Nat) : valueAt (formOf ns p s).1 (formOf ns p s).2.1 (formOf ns p s).2.2 n = valueAt ns p s n := by
  have hq := leastP_le (ns := ns) (s := s) h1
  have ht := (leastP_tells (s := s) h1 hp).1
  generalize eq : (leastP ns p s).1 = q at *
  generalize ec : (leastP ns p s).2 = c at *
  have hql : q ≤ ns.length := Nat.le_trans hq.2 hp
  have g : ∀ n, valueAt ns q c n = valueAt ns p s n := val_of_shift hq.1 hql (fun n hn => val_head hn) (fun n hn => ht n (by omega))
  show valueAt (leastL ns (leastP ns p s).1 (leastP ns p s).2) (leastP ns p s).1 (leastP ns p s).2 n = _
  rw [eq, ec]
  have hlen := leastL_len (s := c) hql
  have hS := leastS_le ns q c (ns.length - q)
  have gt : ∀ i, i < leastS ns q c (ns.length - q) + q → (leastL ns q c).getD i 0 = ns.getD i 0 := fun i hi => by
    unfold leastL
    rw [List.getD_eq_getElem?_getD, List.getD_eq_getElem?_getD, List.getElem?_take_of_lt hi]
  refine val_of_shift (F := valueAt ns p s) hq.1 (by omega) (fun n hn => ?_) (fun n hn => ?_) n
  · rw [gt n (by omega), ← g n, val_head (by omega)]
  · rw [hlen, Nat.add_sub_cancel] at hn
    by_cases hk : n < ns.length - q
    · have := leastS_tells ns q c (ns.length - q) n hn hk
      rw [g] at this
      rw [this, ← g n, val_head (by omega)]
    · exact ht n (by omega)
theorem rise_sign {ns : List Int} {p : Nat} {s : Int} (h1 : 1 ≤ p) (hp : p ≤ ns.length) (hc : (leastP ns p s).2 ≤ 0) : s ≤ 0 := by
  obtain ⟨ht, hd⟩ := leastP_tells (s := s) h1 hp
  have hq := leastP_le (ns := ns) (s := s) h1
  have a1 := iter_shift ht (p / (leastP ns p s).1) (ns.length - p) (Nat.le_refl _)
  rw [Nat.div_mul_cancel (Nat.dvd_of_mod_eq_zero hd), val_shift h1 hp (Nat.le_refl _)] at a1
  have a2 : s = ((p / (leastP ns p s).1 : Nat) : Int) * (leastP ns p s).2 := by omega
  rw [a2]
  exact Int.mul_nonpos_of_nonneg_of_nonpos (Int.natCast_nonneg _) hc

/-! ### a form tells a function in one way -/
structure Canon (F : Nat → Int) (f : List Int × Nat × Int) : Prop where
  p1 : 1 ≤ f.2.1
  pl : f.2.1 ≤ f.1.length
  val : ∀ n, valueAt f.1 f.2.1 f.2.2 n = F n
  per : ∀ (r : Nat) (d : Int) (N : Nat), 1 ≤ r → (∀ n, N ≤ n → F (n + r) = F n + d) → f.2.1 ≤ r
  start : ∀ k, f.1.length - f.2.1 = k + 1 → F (k + f.2.1) ≠ F k + f.2.2
theorem Canon.shift {F : Nat → Int} {f : List Int × Nat × Int} (c : Canon F f) {n : Nat} (h : f.1.length - f.2.1 ≤ n) : F (n + f.2.1) = F n + f.2.2 := by
  rw [← c.val, ← c.val]
  exact val_shift c.p1 c.pl h
theorem Canon.one {F : Nat → Int} {f g : List Int × Nat × Int} (a : Canon F f) (b : Canon F g) : f = g := by
  have hq : f.2.1 = g.2.1 := Nat.le_antisymm (a.per _ g.2.2 _ b.p1 fun n hn => b.shift hn) (b.per _ f.2.2 _ a.p1 fun n hn => a.shift hn)
  have hc : f.2.2 = g.2.2 := by
    have x := a.shift (n := f.1.length + g.1.length) (by omega)
    have y := b.shift (n := f.1.length + g.1.length) (by omega)
    rw [hq] at x
    omega
  have hs : f.1.length = g.1.length := by
    have p1 := a.pl
    have p2 := b.pl
    rcases Nat.lt_trichotomy (f.1.length - f.2.1) (g.1.length - g.2.1) with z | z | z
    · refine absurd (a.shift (n := g.1.length - g.2.1 - 1) (by omega)) ?_
      rw [hq, hc]
      exact b.start _ (by omega)
    · omega
    · refine absurd (b.shift (n := f.1.length - f.2.1 - 1) (by omega)) ?_
      rw [← hq, ← hc]
      exact a.start _ (by omega)
  have hl : f.1 = g.1 := by
    refine List.ext_getElem hs fun i h1 h2 => ?_
    have x := a.val i
    have y := b.val i
    rw [val_head h1] at x
    rw [val_head h2] at y
    rw [List.getD_eq_getElem?_getD, List.getElem?_eq_getElem h1] at x
    rw [List.getD_eq_getElem?_getD, List.getElem?_eq_getElem h2] at y
    exact x.trans y.symm
  obtain ⟨l, q, c⟩ := f
  obtain ⟨l', q', c'⟩ := g
  dsimp only at *
  rw [hl, hq, hc]
theorem leastFrom_min {ns : List Int} {p : Nat} {s : Int} {j : Nat} (hj : shorterOk ns p s j = true) : ∀ k q, q ≤ j → j < q + k → (leastFrom ns p s k q).1 ≤ j
  | 0, q, h1, h2 => by omega
  | k + 1, q, h1, h2 => by
    unfold leastFrom
    split
    · exact h1
    · rename_i hn
      refine leastFrom_min hj k (q + 1) ?_ (by omega)
      rcases Nat.lt_or_ge q j with z | z
      · exact z
      · obtain rfl : q = j := by omega
        exact absurd hj hn
theorem leastP_min {ns : List Int} {p : Nat} {s : Int} {j : Nat} (h1 : 1 ≤ j) (h2 : j < p) (hj : shorterOk ns p s j = true) : (leastP ns p s).1 ≤ j := leastFrom_min hj (p - 1) 1 h1 (by omega)
theorem leastS_stop (ns : List Int) (q : Nat) (c : Int) : ∀ m k, leastS ns q c m = k + 1 → valueAt ns q c (k + q) ≠ ns.getD k 0 + c
  | 0, k, h => by cases h
  | m + 1, k, h => by
    unfold leastS at h
    split at h
    · exact leastS_stop ns q c m k h
    · rename_i hn
      obtain rfl : m = k := by omega
      exact hn
/-- the values are those of the least period, too -/
theorem least_val {ns : List Int} {p : Nat} {s : Int} (h1 : 1 ≤ p) (hp : p ≤ ns.length) (n : Nat) : valueAt ns (leastP ns p s).1 (leastP ns p s).2 n = valueAt ns p s n := by
  have hq := leastP_le (ns := ns) (s := s) h1
  have ht := (leastP_tells (s := s) h1 hp).1
  exact val_of_shift hq.1 (Nat.le_trans hq.2 hp) (fun n hn => val_head hn) (fun n hn => ht n (by omega)) n
/-- rises that hold from somewhere on hold from the start on -/
theorem from_start {ns : List Int} {p : Nat} {s : Int} (h1 : 1 ≤ p) (hp : p ≤ ns.length) {r N : Nat} {d : Int} (h : ∀ n, N ≤ n → valueAt ns p s (n + r) = valueAt ns p s n + d) : ∀ n, ns.length - p ≤ n → valueAt ns p s (n + r) = valueAt ns p s n + d := fun n hn => by
  have sh : ∀ n, ns.length - p ≤ n → valueAt ns p s (n + p) = valueAt ns p s n + s := fun n hn => val_shift h1 hp hn
  have a1 := iter_shift sh N n hn
  have a2 := iter_shift sh N (n + r) (by omega)
  have a3 := h (n + N * p) (Nat.le_trans (Nat.le_mul_of_pos_right N h1) (Nat.le_add_left _ _))
  rw [show n + r + N * p = n + N * p + r by omega] at a2
  rw [a2, a1] at a3
  omega
/-- the least rising distance divides the period -/
theorem divides {ns : List Int} {p : Nat} {s : Int} (h1 : 1 ≤ p) (hp : p ≤ ns.length) : ∀ (m r : Nat) (d : Int), r ≤ m → 1 ≤ r → (∀ n, ns.length - p ≤ n → valueAt ns p s (n + r) = valueAt ns p s n + d) →
    ∃ r0 d0, 1 ≤ r0 ∧ r0 ≤ r ∧ p % r0 = 0 ∧ ∀ n, ns.length - p ≤ n → valueAt ns p s (n + r0) = valueAt ns p s n + d0
  | 0, r, d, h, h0, _ => by omega
  | m + 1, r, d, h, h0, hr => by
    by_cases hz : p % r = 0
    · exact ⟨r, d, h0, Nat.le_refl _, hz, hr⟩
    · have hlt := Nat.mod_lt p (show 0 < r by omega)
      obtain ⟨r0, d0, a, b, c, e⟩ := divides (s := s) h1 hp m (p % r) (s - (p / r : Nat) * d) (by omega) (by omega) fun n hn => by
        have e1 := iter_shift hr (p / r) (n + p % r) (by omega)
        have e2 : n + p % r + p / r * r = n + p := by
          have := Nat.div_add_mod p r
          rw [Nat.mul_comm] at this
          omega
        rw [e2, val_shift h1 hp hn] at e1
        omega
      exact ⟨r0, d0, a, by omega, c, e⟩
theorem canon_of {ns : List Int} {p : Nat} {s : Int} (h1 : 1 ≤ p) (hp : p ≤ ns.length) : Canon (valueAt ns p s) (formOf ns p s) := by
  have hq := leastP_le (ns := ns) (s := s) h1
  have hql : (leastP ns p s).1 ≤ ns.length := Nat.le_trans hq.2 hp
  have hlen := leastL_len (s := (leastP ns p s).2) hql
  refine ⟨hq.1, ?_, fun n => formOf_val h1 hp n, fun r d N hr h => ?_, fun k hk => ?_⟩
  · show (leastP ns p s).1 ≤ (leastL ns (leastP ns p s).1 (leastP ns p s).2).length
    omega
  · show (leastP ns p s).1 ≤ r
    obtain ⟨r0, d0, a, b, c, e⟩ := divides (s := s) h1 hp r r d (Nat.le_refl _) hr (from_start h1 hp h)
    by_cases hz : r0 < p
    · refine Nat.le_trans (leastP_min a hz ?_) b
      unfold shorterOk
      rw [c]
      unfold rises
      simp only [beq_self_eq_true, Bool.true_and]
      refine List.all_eq_true.mpr fun i _ => ?_
      have x := e (ns.length - p + i) (by omega)
      have y := e (ns.length - p + 0) (by omega)
      have x1 : tailAt ns p s (i + r0) = valueAt ns p s (ns.length - p + i + r0) := by unfold tailAt; rw [Nat.add_assoc]
      have x2 : tailAt ns p s i = valueAt ns p s (ns.length - p + i) := rfl
      have y1 : tailAt ns p s r0 = valueAt ns p s (ns.length - p + 0 + r0) := by unfold tailAt; rw [Nat.add_zero]
      have y2 : tailAt ns p s 0 = valueAt ns p s (ns.length - p + 0) := rfl
      rw [x1, x2, y1, y2, x, y]
      rw [beq_iff_eq]
      omega
    · omega
  · have hk2 : leastS ns (leastP ns p s).1 (leastP ns p s).2 (ns.length - (leastP ns p s).1) = k + 1 := by
      have : (leastL ns (leastP ns p s).1 (leastP ns p s).2).length - (leastP ns p s).1 = k + 1 := hk
      omega
    have a := leastS_stop _ _ _ _ _ hk2
    have b := leastS_le ns (leastP ns p s).1 (leastP ns p s).2 (ns.length - (leastP ns p s).1)
    have c := least_val (s := s) h1 hp (k + (leastP ns p s).1)
    have d : valueAt ns p s k = ns.getD k 0 := val_head (by omega)
    rw [c, ← d] at a
    exact a
/-- how great a value is -/
theorem val_le {ns : List Int} {p : Nat} {s : Int} {B : Nat} (h : ∀ z ∈ ns, z.natAbs ≤ B) (hs : s.natAbs ≤ B) (n : Nat) : (valueAt ns p s n).natAbs ≤ B + n * B := by
  unfold valueAt
  split
  · exact Nat.le_trans (getD_le h n) (Nat.le_add_right _ _)
  · have a := getD_le h (ns.length - p + (n - (ns.length - p)) % p)
    have b : (((n - (ns.length - p)) / p : Nat) * s).natAbs ≤ n * B := by
      rw [Int.natAbs_mul, Int.natAbs_natCast]
      exact Nat.mul_le_mul (Nat.le_trans (Nat.div_le_self _ _) (Nat.sub_le _ _)) hs
    omega
/-! what the law looks for -/
def lawT (F : Nat → Int) (L p j : Nat) : Bool := (List.range p).all fun k => decide (V.int (F (L + k + j) - F (L + k)) = V.int (F (L + j) - F L))
theorem lawT_all {ns : List Int} {p : Nat} {s : Int} {j : Nat} (h1 : 1 ≤ p) (hp : p ≤ ns.length) (h : lawT (valueAt ns p s) ns.length p j = true) : ∀ n, ns.length ≤ n → valueAt ns p s (n + j) = valueAt ns p s n + (valueAt ns p s (ns.length + j) - valueAt ns p s ns.length) := fun n hn => by
  have hm := Nat.mod_lt (n - ns.length) (show 0 < p by omega)
  have e : n = ns.length + (n - ns.length) % p + (n - ns.length) / p * p := by
    have := Nat.div_add_mod (n - ns.length) p
    rw [Nat.mul_comm] at this
    omega
  have sh : ∀ n, ns.length - p ≤ n → valueAt ns p s (n + p) = valueAt ns p s n + s := fun n hn => val_shift h1 hp hn
  have a1 := iter_shift sh ((n - ns.length) / p) (ns.length + (n - ns.length) % p) (by omega)
  have a2 := iter_shift sh ((n - ns.length) / p) (ns.length + (n - ns.length) % p + j) (by omega)
  have a3 := of_decide_eq_true (List.all_eq_true.mp h ((n - ns.length) % p) (List.mem_range.mpr hm))
  injection a3 with a3
  rw [← e] at a1
  rw [show ns.length + (n - ns.length) % p + j + (n - ns.length) / p * p = n + j by omega] at a2
  rw [a1, a2]
  omega
/-- what is found first is the least period -/
theorem law_found {ns : List Int} {p : Nat} {s : Int} (h1 : 1 ≤ p) (hp : p ≤ ns.length) {j : Nat} (hj : 1 ≤ j) (h : lawT (valueAt ns p s) ns.length p j = true) (hn : ∀ i, 1 ≤ i → i < j → lawT (valueAt ns p s) ns.length p i = false) :
    j = (formOf ns p s).2.1 ∧ valueAt ns p s (ns.length + j) - valueAt ns p s ns.length = (formOf ns p s).2.2 := by
  have c := canon_of (s := s) h1 hp
  have a := lawT_all h1 hp h
  have le := c.per j _ ns.length hj a
  have hq := leastP_le (ns := ns) (s := s) h1
  have hlen := leastL_len (s := (leastP ns p s).2) (Nat.le_trans hq.2 hp)
  have hsl := leastS_le ns (leastP ns p s).1 (leastP ns p s).2 (ns.length - (leastP ns p s).1)
  have hst : (formOf ns p s).1.length - (formOf ns p s).2.1 ≤ ns.length := by
    show (leastL ns (leastP ns p s).1 (leastP ns p s).2).length - (leastP ns p s).1 ≤ ns.length
    omega
  have hT : lawT (valueAt ns p s) ns.length p (formOf ns p s).2.1 = true := by
    refine List.all_eq_true.mpr fun k _ => decide_eq_true ?_
    rw [c.shift (n := ns.length + k) (by omega), c.shift (n := ns.length) hst]
    exact congrArg V.int (by omega)
  have e : j = (formOf ns p s).2.1 := by
    rcases Nat.lt_or_ge (formOf ns p s).2.1 j with z | z
    · rw [hn _ c.p1 z] at hT
      cases hT
    · omega
  refine ⟨e, ?_⟩
  rw [e, c.shift (n := ns.length) hst]
  omega
theorem law_finds {ns : List Int} {p : Nat} {s : Int} (h1 : 1 ≤ p) (hp : p ≤ ns.length) : lawT (valueAt ns p s) ns.length p p = true := by
  refine List.all_eq_true.mpr fun k _ => decide_eq_true ?_
  rw [val_shift (n := ns.length + k) h1 hp (by omega), val_shift (n := ns.length) h1 hp (by omega)]
  exact congrArg V.int (by omega)

end K05
namespace K05
open PySem PySem.Spec PyProof.Rows L2 Sp
variable {P : Program} {w : World} {K : PySem.W.Frag} {mg : Str → Option Value} {base : Heap}
/-! ### forms are made -/
def dv_Form_1 : List V := [.int 1, .int 0]
def dv_Form_2 : List V := [.int 0]
def dv_Form_3 : List V := []
abbrev ps_Form : List Str := ["self", "values", "period", "step"]
theorem mb_Form_1 (T : Tx K mg) : ∃ ds, Vals dv_Form_1 ds ∧ Binds K (fdA K (He.fAd K d_Form_init.at_)) ps_Form ds :=
  T.F_Form_init.binds1 2 0 (by decide) (by decide) fun _ _ _ _ _ _ _ us its h1 h2 => match us, its, h1, h2 with | [_, _], [_, _], _, _ => ⟨_, rfl, rfl⟩
theorem mb_Form_2 (T : Tx K mg) : ∃ ds, Vals dv_Form_2 ds ∧ Binds K (fdA K (He.fAd K d_Form_init.at_)) ps_Form ds :=
  T.F_Form_init.binds1 3 1 (by decide) (by decide) fun _ _ _ _ _ _ _ us its h1 h2 => match us, its, h1, h2 with | [_, _, _], [_, _], _, _ => ⟨_, rfl, rfl⟩
theorem mb_Form_3 (T : Tx K mg) : ∃ ds, Vals dv_Form_3 ds ∧ Binds K (fdA K (He.fAd K d_Form_init.at_)) ps_Form ds :=
  T.F_Form_init.binds1 4 2 (by decide) (by decide) fun _ _ _ _ _ _ _ us its h1 h2 => match us, its, h1, h2 with | [_, _, _, _], [_, _], _, _ => ⟨_, rfl, rfl⟩
def gSVP {α : Type} (us its ws : List α) : List α := us ++ match ws with
  | [s, v, p] => [v, p, s]
  | _ => []
def gV_Form_0_step_values_period : List V → List V → List V := fun vs zs => gSVP vs [.int 1, .int 0] zs
theorem mb_Form_0_step_values_period (T : Tx K mg) : ∃ its : List Value, KBn K (fdA K (He.fAd K d_Form_init.at_)) ps_Form 1 ["step", "values", "period"] (fun us ws => gSVP us its ws) gV_Form_0_step_values_period :=
  T.F_Form_init.kbindsD 1 ["step", "values", "period"] gSVP (by decide)
    (fun r1 r2 r3 => r1.append (by
      cases r3 with
      | nil => exact .nil
      | cons a r3 =>
        cases r3 with
        | nil => exact .nil
        | cons b r3 =>
          cases r3 with
          | nil => exact .nil
          | cons c r3 =>
            cases r3 with
            | nil => exact .cons b (.cons c (.cons a .nil))
            | cons _ _ => exact .nil))
    fun _ _ _ _ _ _ _ us its ws h1 h2 h3 => match us, its, ws, h1, h2, h3 with | [_], [_, _], [_, _, _], _, _, _ => ⟨_, rfl, rfl⟩

/-! ### rows -/
/-- the row at r: a list of values, a period, a step -/
def RowAt (K : PySem.W.Frag) (H : Hp) (r : Addr) (f : List Int × Nat × Int) : Prop := ∃ l, H r = some (.tup [.ref l, .int f.2.1, .int f.2.2]) ∧ H l = some (.lst (f.1.map V.int))
theorem RowAt.same {H H' : Hp} {a : Addr} {f : List Int × Nat × Int} (e : Same H H') (h : RowAt K H a f) : RowAt K H' a f := by
  obtain ⟨l, h1, h2⟩ := h
  exact ⟨l, e _ _ h1, e _ _ h2⟩
theorem RowAt.kp {H H' : Hp} {p a : Addr} {f : List Int × Nat × Int} (e : Kp p H H') (hp : Pool H p) (h : RowAt K H a f) (hne : ∀ l, H a = some (.tup [.ref l, .int f.2.1, .int f.2.2]) → l ≠ p) : RowAt K H' a f := by
  obtain ⟨l, h1, h2⟩ := h
  obtain ⟨_, _, _, h3, _⟩ := hp
  exact ⟨l, e _ _ (ne_of h1 h3 (fun z => by cases z)) h1, e _ _ (hne l h1) h2⟩
def sp__law_at (K : PySem.W.Frag) : L2.Sp := fun vs H Q _ => on2 vs fun x n => onRef x fun r => onInt n fun n => ∃ (f : List Int × Nat × Int) (N : Nat), RowAt K H r f ∧ n = N ∧ Ask f.1 f.2.1 f.2.2 ∧ N < 2 ^ 1000 ∧ ∀ H', Same H H' → Q (.int (valueAt f.1 f.2.1 f.2.2 N)) H'
abbrev N__law_at : List Str := ["_law_row_here", "_law_n", "_law_first", "_law_many", "_law_by", "_law_rounds", "_law_place"]
theorem sc__law_at : FnScope N__law_at ["_law_row_here", "_law_n"] (defScope s__law_at) := ⟨rfl, rfl, rfl, by decide +kernel, rfl, by decide +kernel, by decide +kernel⟩
def t__law_at (K : PySem.W.Frag) : TS :=
    tSeq (tAsg (fV 0) (gTup K 3 (gCons (gName 2) (gCons (gName 3) (gCons (gName 4) gNil)))))
    (tSeq (tIfS (fT (tOp fLt (fV 1) (tCB (fLen K) (tCons (fV 2) tNil))))
    (tRet (tOp (fIxL K) (fV 2) (fV 1))) tNext)
    (tSeq (tAsg (tCB fDivmod (tCons (tOp fAdd (tOp fSub (fV 1) (tCB (fLen K) (tCons (fV 2) tNil))) (fV 3)) (tCons (fV 3) tNil))) (gTup K 2 (gCons (gName 5) (gCons (gName 6) gNil))))
    (tRet (tOp fAdd (tOp (fIxL K) (fV 2) (tOp fAdd (tOp fSub (tCB (fLen K) (tCons (fV 2) tNil)) (fV 3)) (fV 6))) (tOp fMulW (fV 5) (fV 4))))))
abbrev Pure__law_at (K : PySem.W.Frag) : Prop := ∀ (vs : List V) (H : Hp) (Q : VK) (E : XK), sp__law_at K vs H Q E → t__law_at K { nx := fun _ H' => Q .non H', rt := Q } (L2.start N__law_at vs) H
theorem pure__law_at (T : Tx K mg) : Pure__law_at K := by
  intro vs H Q E h
  obtain ⟨x1, x2, rfl, h⟩ := on2_ex h
  obtain ⟨r, rfl, h⟩ := onRef_ex h
  obtain ⟨n, rfl, ⟨ns, P, s⟩, N, ⟨l, hr, hl⟩, rfl, ⟨hp1, hpl, hlen, hs⟩, hN, hQ⟩ := onInt_ex h
  dsimp only at *
  refine ⟨r, _, rfl, SqT.of hr, rfl, _, _, rfl, _, _, rfl, _, _, rfl, rfl, ?_⟩
  refine ⟨_, .inl (SqL.of hl), ite2 (fun h1 => ?_) (fun h1 => ?_)⟩
  · have h2 : N < ns.length := by
      have := of_decide_eq_true h1
      rw [List.length_map] at this
      omega
    refine ⟨_, SqL.of hl, _, atI_ints (j := N) rfl h2, ?_⟩
    have e := hQ H (Same.refl H)
    unfold valueAt at e
    rw [if_pos h2] at e
    exact e
  · have h2 : ¬ N < ns.length := fun z => h1 (decide_eq_true (by rw [List.length_map]; omega))
    refine ⟨_, .inl (SqL.of hl), wide_div (b := 13) (by omega) (by omega) (by decide) (by decide), fun q hq => ?_⟩
    have e0 := Same.upd (o := .tup [.int (((N : Int) - ((ns.map V.int).length : Int) + (P : Int)) / (P : Int)), .int (((N : Int) - ((ns.map V.int).length : Int) + (P : Int)) % (P : Int))]) hq
    refine ⟨q, _, rfl, SqT.of upd_same, rfl, _, _, rfl, _, _, rfl, rfl, ?_⟩
    refine ⟨_, .inl (SqL.of (e0 _ _ hl)), ?_⟩
    rw [List.length_map] at *
    have e1 : (N : Int) - (ns.length : Int) + (P : Int) = ((N - (ns.length - P) : Nat) : Int) := by omega
    have e2 : ((N : Int) - (ns.length : Int) + (P : Int)) / (P : Int) = (((N - (ns.length - P)) / P : Nat) : Int) := by rw [e1]; rfl
    have e3 : ((N : Int) - (ns.length : Int) + (P : Int)) % (P : Int) = (((N - (ns.length - P)) % P : Nat) : Int) := by rw [e1]; rfl
    have hm : (N - (ns.length - P)) % P < P := Nat.mod_lt _ (by omega)
    refine ⟨_, SqL.of (e0 _ _ hl), _, atI_ints (j := ns.length - P + (N - (ns.length - P)) % P) (by rw [e3]; omega) (by omega), ?_⟩
    refine ⟨Sm.mulW ?_ hs, ?_⟩
    · have : (N - (ns.length - P)) / P ≤ N := Nat.le_trans (Nat.div_le_self _ _) (Nat.sub_le _ _)
      rw [e2]
      show Int.natAbs _ < _
      rw [Int.natAbs_natCast]
      omega
    · have e := hQ _ e0
      unfold valueAt at e
      rw [if_neg h2] at e
      rw [← e2] at e
      exact e
theorem b__law_at (T : Tx K mg) : Binds K (fdA K (He.fAd K d__law_at.at_)) ["_law_row_here", "_law_n"] [] := T.F__law_at.bindsN fun _ _ _ _ _ _ us hl => match us, hl with | [_, _], _ => rfl
theorem ok__law_at (T : Tx K mg) : FnOk P w K mg base CX0 1 (He.fAd K d__law_at.at_) (fdA K (He.fAd K d__law_at.at_)) ["_law_row_here", "_law_n"] (sp__law_at K) :=
  T.F__law_at.ok sc__law_at (fun _ _ _ _ h => on2_len h) (fun cdv A outer s H vs Q E hr h => ⟨t__law_at K, PSs.nox ((pss_cons (ps_asg (vv 0) (pg_tup rfl (pgs_cons (pg_name (i := 2) sc__law_at.nd rfl (.inl rfl)) (pgs_cons (pg_name (i := 3) sc__law_at.nd rfl (.inl rfl)) (pgs_cons (pg_name (i := 4) sc__law_at.nd rfl (.inl rfl)) pgs_nil)))))
      (pss_cons (ps_if (t_cmp o_lt (vv 1) (pe_callB c_len (by rfl) T.b_len boot_len (pa_cons (vv 2) pa_nil)) (nomark _))
      (pss_one (ps_ret (pe_ix x_list (vv 2) (vv 1) (fun _ _ => rfl)))) pss_nil)
      (pss_cons (ps_asg (pe_callB c_divmod (by rfl) T.b_divmod boot_divmod (pa_cons (pe_op o_add (pe_op o_sub (vv 1) (pe_callB c_len (by rfl) T.b_len boot_len (pa_cons (vv 2) pa_nil))) (vv 3)) (pa_cons (vv 3) pa_nil))) (pg_tup rfl (pgs_cons (pg_name (i := 5) sc__law_at.nd rfl (.inl rfl)) (pgs_cons (pg_name (i := 6) sc__law_at.nd rfl (.inl rfl)) pgs_nil))))
      (pss_one (ps_ret (pe_op o_add (pe_ix x_list (vv 2) (pe_op o_add (pe_op o_sub (pe_callB c_len (by rfl) T.b_len boot_len (pa_cons (vv 2) pa_nil)) (vv 3)) (vv 6)) (fun _ _ => rfl)) (pe_op o_mulW (vv 5) (vv 4))))))))), pure__law_at T vs H Q E h⟩)
theorem Pool.same {H H' : Hp} {p : Addr} (e : Same H H') (h : Pool H p) : Pool H' p := by
  obtain ⟨a, b, c, h1, h2⟩ := h
  exact ⟨a, b, c, e _ _ h1, h2⟩
theorem Pool.ne {H : Hp} {p q : Addr} (h : Pool H p) (hq : H q = none) : q ≠ p := by
  obtain ⟨a, b, c, h1, _⟩ := h
  exact (ne_of_none h1 hq).symm
/-- .. beside a pool -/
def RowP (K : PySem.W.Frag) (H : Hp) (p r : Addr) (f : List Int × Nat × Int) : Prop := ∃ l, H r = some (.tup [.ref l, .int f.2.1, .int f.2.2]) ∧ H l = some (.lst (f.1.map V.int)) ∧ r ≠ p ∧ l ≠ p
theorem RowP.kp {H H' : Hp} {p a : Addr} {f : List Int × Nat × Int} (e : Kp p H H') (h : RowP K H p a f) : RowP K H' p a f := by
  obtain ⟨l, h1, h2, h3, h4⟩ := h
  exact ⟨l, e _ _ h3 h1, e _ _ h4 h2, h3, h4⟩
theorem RowP.at {H : Hp} {p a : Addr} {f : List Int × Nat × Int} (h : RowP K H p a f) : RowAt K H a f := by
  obtain ⟨l, h1, h2, h3, h4⟩ := h
  exact ⟨l, h1, h2⟩
/-- what a row has -/
structure RAskB (L B : Nat) (f : List Int × Nat × Int) : Prop where
  p1 : 1 ≤ f.2.1
  pl : f.2.1 ≤ f.1.length
  len : f.1.length ≤ L
  vals : ∀ z ∈ f.1, z.natAbs ≤ B
  step : f.2.2.natAbs ≤ B
/-- a drawn row; any other one -/
abbrev RAsk (f : List Int × Nat × Int) : Prop := RAskB 60 (10 ^ 20) f
abbrev WAsk (f : List Int × Nat × Int) : Prop := RAskB 500 (10 ^ 25) f
abbrev XAsk (f : List Int × Nat × Int) : Prop := RAskB 500 (10 ^ 40) f
theorem RAskB.mono {L L' B B' : Nat} {f : List Int × Nat × Int} (h : RAskB L B f) (hL : L ≤ L') (hB : B ≤ B') : RAskB L' B' f := ⟨h.p1, h.pl, Nat.le_trans h.len hL, fun z hz => Nat.le_trans (h.vals z hz) hB, Nat.le_trans h.step hB⟩
theorem WAsk.x {f : List Int × Nat × Int} (h : WAsk f) : XAsk f := RAskB.mono h (by decide) (by decide)
theorem XAsk.ask {f : List Int × Nat × Int} (h : XAsk f) : Ask f.1 f.2.1 f.2.2 := ⟨h.p1, h.pl, by have := h.len; omega, big_sm (by have := h.step; omega)⟩
theorem RAsk.wide {f : List Int × Nat × Int} (h : RAsk f) : WAsk f := ⟨h.p1, h.pl, by have := h.len; omega, fun z hz => by have := h.vals z hz; omega, by have := h.step; omega⟩
theorem WAsk.ask {f : List Int × Nat × Int} (h : WAsk f) : Ask f.1 f.2.1 f.2.2 := ⟨h.p1, h.pl, by have := h.len; omega, big_sm (by have := h.step; omega)⟩
theorem ints_of {Pz : Int → Prop} : ∀ {acc : List V}, (∀ v ∈ acc, ∃ z, v = .int z ∧ Pz z) → ∃ ns : List Int, acc = ns.map V.int ∧ ∀ z ∈ ns, Pz z
  | [], _ => ⟨[], rfl, fun _ h => by cases h⟩
  | v :: r, h => by
    obtain ⟨z, rfl, hz⟩ := h v (List.mem_cons_self ..)
    obtain ⟨ns, rfl, hn⟩ := ints_of (acc := r) fun u hu => h u (List.mem_cons_of_mem _ hu)
    refine ⟨z :: ns, rfl, fun y hy => ?_⟩
    rcases List.mem_cons.mp hy with rfl | hy
    · exact hz
    · exact hn y hy
def sp__law_row (K : PySem.W.Frag) : L2.Sp := fun vs H Q _ => on2 vs fun x n => onRef x fun p => onInt n fun n => Pool H p ∧ 1 ≤ n ∧ n ≤ 30 ∧ ∀ r f H', Pool H' p → Kp p H H' → RowP K H' p r f → RAsk f → (f.2.1 : Int) ≤ n → (f.1.length : Int) ≤ 2 * n → Q (.ref r) H'
abbrev N__law_row : List Str := ["_law_pool", "_law_long", "_law_many", "_law_size", "_law_wide", "_law_first", "_law_k"]
theorem sc__law_row : FnScope N__law_row ["_law_pool", "_law_long"] (defScope s__law_row) := ⟨rfl, rfl, rfl, by decide +kernel, rfl, by decide +kernel, by decide +kernel⟩
def t__law_row (K : PySem.W.Frag) : TS :=
    tSeq (tAsg (tOp fAdd (tC (.int 1)) (tCall (sp__law_draw K) [] E0 (tCons (fV 0) (tCons (fV 1) tNil)))) (gName 2))
    (tSeq (tAsg (tOp fAdd (fV 2) (tCall (sp__law_draw K) [] E0 (tCons (fV 0) (tCons (fV 1) tNil)))) (gName 3))
    (tSeq (tAsg (tCall (sp__law_pick K) [] E0 (tCons (fV 0) (tCons (tLst (tCons (tC (.int 2)) (tCons (tC (.int 3)) (tCons (tC (.int 5)) (tCons (tOp fPow (tC (.int 10)) (tC (.int 6))) (tCons (tOp fPow (tC (.int 10)) (tC (.int 20))) tNil)))))) tNil))) (gName 4))
    (tSeq (tAsg (tLc (iRng1 (tCons (fV 3) tNil)) (gName 6) tYes (tOp fSub (tCall (sp__law_draw K) [] E0 (tCons (fV 0) (tCons (fV 4) tNil))) (tOp fDiv (fV 4) (tC (.int 3)))) [6]) (gName 5))
    (tRet (tTup (tCons (fV 5) (tCons (fV 2) (tCons (tCall (sp__law_pick K) [] E0 (tCons (fV 0) (tCons (tLst (tCons (tC (.int 0)) (tCons (tC (.int 1)) (tCons (tUn fNeg (tC (.int 1))) (tCons (tC (.int 2)) (tCons (tC (.int 5)) (tCons (tCall (sp__law_draw K) [] E0 (tCons (fV 0) (tCons (fV 4) tNil))) (tCons (tUn fNeg (tOp fPow (tC (.int 10)) (tC (.int 18)))) tNil)))))))) tNil))) tNil))))))))
abbrev Pure__law_row (K : PySem.W.Frag) : Prop := ∀ (vs : List V) (H : Hp) (Q : VK) (E : XK), sp__law_row K vs H Q E → t__law_row K { nx := fun _ H' => Q .non H', rt := Q } (L2.start N__law_row vs) H
theorem pure__law_row (T : Tx K mg) : Pure__law_row K := by
  intro vs H Q E h
  obtain ⟨x1, x2, rfl, h⟩ := on2_ex h
  obtain ⟨p, rfl, h⟩ := onRef_ex h
  obtain ⟨n, rfl, hp, hn1, hn2, hQ⟩ := onInt_ex h
  refine ⟨hp, by omega, by omega, fun r1 H1 h10 h11 hp1 hk1 => ?_⟩
  refine ⟨hp1, by omega, by omega, fun r2 H2 h20 h21 hp2 hk2 => ?_⟩
  refine ⟨⟨by decide, by decide, by decide⟩, ⟨by decide, by decide, by decide⟩, by show 5 ≤ sizeLine; decide, fun q hq => ?_⟩
  refine ⟨hp2.same (Same.upd hq), _, SqL.of upd_same, hp2.ne hq, by simp, by simp, fun i v H3 hv hp3 hk3 => ?_⟩
  obtain ⟨w', rfl, hw1, hw2⟩ : ∃ w' : Int, v = .int w' ∧ 2 ≤ w' ∧ w' ≤ 10 ^ 20 := by
    have hm := List.mem_of_getElem? hv
    simp only [List.mem_cons, List.not_mem_nil, or_false] at hm
    rcases hm with rfl | rfl | rfl | rfl | rfl <;> exact ⟨_, rfl, by decide, by decide⟩
  have hk03 : Kp p H H3 := ((hk1.trans hk2).trans (Kp.new hq)).trans hk3
  refine ⟨_, rfl, by omega, by omega, fun D hD => ?_⟩
  have hDp := hp3.ne hD
  refine lc_rangeI (by omega) (fun i acc H4 => (∀ v ∈ acc, ∃ z, v = .int z ∧ z.natAbs ≤ 10 ^ 20) ∧ Pool H4 p ∧ Kp p H3 H4) ⟨fun v hv => (by cases hv), hp3.same (Same.upd hD), Kp.new hD⟩ (fun i acc H4 hi hl hD4 hJ R hR => ?_) (fun acc H4 hl hD4 hJ => ?_)
  · obtain ⟨ha, hp4, hk4⟩ := hJ
    refine ⟨rfl, hp4, by omega, by omega, fun r H5 h50 h51 hp5 hk5 => ?_⟩
    refine ⟨wide_div (b := 2) (by decide) (by decide) (by decide) (by decide), hR _ H5 (hk5 _ _ hDp hD4) ⟨fun v hv => ?_, ?_, ?_⟩⟩
    · rcases List.mem_append.mp hv with hv | hv
      · exact ha v hv
      · obtain rfl := List.mem_singleton.mp hv
        exact ⟨_, rfl, by omega⟩
    · obtain ⟨a, b, c, h1, h2⟩ := hp5
      exact ⟨a, b, c, by rw [upd_ne (Ne.symm hDp)]; exact h1, h2⟩
    · refine fun b o hb h => ?_
      rw [upd_ne (ne_of_none h hD)]
      exact (hk4.trans hk5) b o hb h
  · obtain ⟨ha, hp4, hk4⟩ := hJ
    obtain ⟨ns, rfl, hns⟩ := ints_of ha
    rw [List.length_map] at hl
    refine ⟨hp4, by omega, by omega, fun r5 H5 h50 h51 hp5 hk5 => ?_⟩
    refine ⟨⟨by decide, by decide, by decide⟩, by show 7 ≤ sizeLine; decide, fun q' hq' => ?_⟩
    refine ⟨hp5.same (Same.upd hq'), _, SqL.of upd_same, hp5.ne hq', by simp, by simp, fun j v H6 hv hp6 hk6 => ?_⟩
    obtain ⟨by', rfl, hby⟩ : ∃ z : Int, v = .int z ∧ z.natAbs ≤ 10 ^ 20 := by
      have hm := List.mem_of_getElem? hv
      simp only [List.mem_cons, List.not_mem_nil, or_false] at hm
      rcases hm with rfl | rfl | rfl | rfl | rfl | rfl | rfl <;> exact ⟨_, rfl, by first | decide | omega⟩
    refine ⟨by show 3 ≤ sizeLine; decide, fun r hr => ?_⟩
    have hk46 : Kp p H4 H6 := (hk5.trans (Kp.new hq')).trans hk6
    have hlD : H6 D = some (.lst (ns.map V.int)) := hk46 _ _ hDp hD4
    refine hQ r (ns, (1 + r1).toNat, by') _ (hp6.same (Same.upd hr)) (((hk03.trans hk4).trans hk46).trans (Kp.new hr)) ⟨D, ?_, ?_, hp6.ne hr, hDp⟩ ⟨by show 1 ≤ (1 + r1).toNat; omega, by show (1 + r1).toNat ≤ ns.length; omega, by show ns.length ≤ 60; omega, hns, hby⟩ (by show (((1 + r1).toNat : Nat) : Int) ≤ n; omega) (by show ((ns.length : Nat) : Int) ≤ 2 * n; omega)
    · rw [upd_same]
      show some (HO.tup [V.ref D, V.int (1 + r1), V.int by']) = some (HO.tup [V.ref D, V.int (((1 + r1).toNat : Nat) : Int), V.int by'])
      rw [show (((1 + r1).toNat : Nat) : Int) = 1 + r1 by omega]
    · rw [upd_ne (ne_of_none hlD hr)]
      exact hlD
theorem b__law_row (T : Tx K mg) : Binds K (fdA K (He.fAd K d__law_row.at_)) ["_law_pool", "_law_long"] [] := T.F__law_row.bindsN fun _ _ _ _ _ _ us hl => match us, hl with | [_, _], _ => rfl
theorem ok__law_row (T : Tx K mg) : FnOk P w K mg base CX0 3 (He.fAd K d__law_row.at_) (fdA K (He.fAd K d__law_row.at_)) ["_law_pool", "_law_long"] (sp__law_row K) :=
  T.F__law_row.ok sc__law_row (fun _ _ _ _ h => on2_len h) (fun cdv A outer s H vs Q E hr h => ⟨t__law_row K, PSs.nox ((pss_cons (ps_set (i := 2) sc__law_row.nd rfl (.inl rfl) (pe_op o_add pe_int (pe_call (ok__law_draw T) (hr.mono (by decide)) (by rfl) T.g__law_draw T.F__law_draw.kp (b__law_draw T) .nil pass0 (pa_cons (vv 0) (pa_cons (vv 1) pa_nil)))))
      (pss_cons (ps_set (i := 3) sc__law_row.nd rfl (.inl rfl) (pe_op o_add (vv 2) (pe_call (ok__law_draw T) (hr.mono (by decide)) (by rfl) T.g__law_draw T.F__law_draw.kp (b__law_draw T) .nil pass0 (pa_cons (vv 0) (pa_cons (vv 1) pa_nil)))))
      (pss_cons (ps_set (i := 4) sc__law_row.nd rfl (.inr rfl) (pe_call (ok__law_pick T) (hr.mono (by decide)) (by rfl) T.g__law_pick T.F__law_pick.kp (b__law_pick T) .nil pass0 (pa_cons (vv 0) (pa_cons (pe_lst (pa_cons pe_int (pa_cons pe_int (pa_cons pe_int (pa_cons (pe_op o_pow pe_int pe_int) (pa_cons (pe_op o_pow pe_int pe_int) pa_nil)))))) pa_nil))))
      (pss_cons (ps_setLc (i := 5) (own := [("_law_k", 6)]) (g := gName 6) (by rfl) sc__law_row.nd rfl rfl (sw_true rfl rfl rfl (by decide +kernel)) (pi_range1 (by rfl) T.b_range (pa_cons (vv 3) pa_nil)) (blkOk_by (own := [("_law_k", 6)]) (N := N__law_row) (sc := defScope s__law_row) (by decide +kernel)) (fun _ _ _ _ _ => (pg_name (i := 6) sc__law_row.nd rfl (.inl rfl))) (fun _ _ _ _ _ => pts_nil) (fun _ _ _ _ _ => (pe_op o_sub (pe_call (ok__law_draw T) (hr.mono (by decide)) (by rfl) T.g__law_draw T.F__law_draw.kp (b__law_draw T) .nil pass0 (pa_cons (vv 0) (pa_cons (vv 4) pa_nil))) (pe_op o_div (vv 4) pe_int))))
      (pss_one (ps_ret (pe_tup (pa_cons (vv 5) (pa_cons (vv 2) (pa_cons (pe_call (ok__law_pick T) (hr.mono (by decide)) (by rfl) T.g__law_pick T.F__law_pick.kp (b__law_pick T) .nil pass0 (pa_cons (vv 0) (pa_cons (pe_lst (pa_cons pe_int (pa_cons pe_int (pa_cons (pe_un o_neg pe_int) (pa_cons pe_int (pa_cons pe_int (pa_cons (pe_call (ok__law_draw T) (hr.mono (by decide)) (by rfl) T.g__law_draw T.F__law_draw.kp (b__law_draw T) .nil pass0 (pa_cons (vv 0) (pa_cons (vv 4) pa_nil))) (pa_cons (pe_un o_neg (pe_op o_pow pe_int pe_int)) pa_nil)))))))) pa_nil))) pa_nil))))))))))), pure__law_row T vs H Q E h⟩)

theorem FormAt.kp {H H' : Hp} {p a : Addr} {f : List Int × Nat × Int} (e : Kp p H H') (hp : Pool H p) (h : FormAt K H a f) : FormAt K H' a f := by
  obtain ⟨dx, t, l, h1, h2, h3⟩ := h
  obtain ⟨x, y, z, h4, _⟩ := hp
  refine ⟨dx, t, l, e _ _ (ne_of h1 h4 (fun q => by cases q)) h1, e _ _ (ne_of h2 h4 (fun q => by cases q)) h2, ?_⟩
  rcases h3 with (h | ⟨o, h⟩) | h
  · exact .inl (.inl (e _ _ (ne_of h h4 (fun q => by cases q)) h))
  · exact .inl (.inr ⟨o, e _ _ (ne_of h h4 (fun q => by cases q)) h⟩)
  · exact .inr h
def sp__law_form (K : PySem.W.Frag) : L2.Sp := fun vs H Q _ => on2 vs fun x r => onRef x fun p => onRef r fun r => Pool H p ∧ ∃ f, RowP K H p r f ∧ WAsk f ∧ ∀ a H', Pool H' p → Kp p H H' → FormAt K H' a (formOf f.1 f.2.1 f.2.2) → Q (.ref a) H'
abbrev N__law_form : List Str := ["_law_pool", "_law_row_here", "_law_first", "_law_many", "_law_by"]
theorem sc__law_form : FnScope N__law_form ["_law_pool", "_law_row_here"] (defScope s__law_form) := ⟨rfl, rfl, rfl, by decide +kernel, rfl, by decide +kernel, by decide +kernel⟩
def t__law_form (K : PySem.W.Frag) : TS :=
    tSeq (tAsg (fV 1) (gTup K 3 (gCons (gName 2) (gCons (gName 3) (gCons (gName 4) gNil)))))
    (tSeq (tIfS (fT (tOp fEq (tCall (sp__law_draw K) [] E0 (tCons (fV 0) (tCons (tC (.int 2)) tNil))) (tC (.int 0))))
    (tRet (tMake (He.ga K "Form") (sp_Form_init K) dv_Form_3 E0 (tCons (tCB (fTupOfL K) (tCons (fV 2) tNil)) (tCons (fV 3) (tCons (fV 4) tNil))))) tNext)
    (tRet (tMakeN (He.ga K "Form") 0 (List.length (["step", "values", "period"] : List Str)) (sp_Form_init K) gV_Form_0_step_values_period E0 tNil (tCons (fV 4) (tCons (tCB (fTupOfL K) (tCons (fV 2) tNil)) (tCons (fV 3) tNil))))))
abbrev Pure__law_form (K : PySem.W.Frag) : Prop := ∀ (vs : List V) (H : Hp) (Q : VK) (E : XK), sp__law_form K vs H Q E → t__law_form K { nx := fun _ H' => Q .non H', rt := Q } (L2.start N__law_form vs) H
theorem made {H H' : Hp} {x dx p : Addr} {o1 o2 : HO} (hp : Pool H p) (hx : H x = none) (hdx : H dx = none) (k : ∀ b o, b ≠ x → (upd (upd H dx o1) x o2) b = some o → H' b = some o) : Pool H' p ∧ Same H H' := by
  have e : Same H H' := fun b o h => k b o (ne_of_none h hx) (by rw [upd_ne (ne_of_none h hx), upd_ne (ne_of_none h hdx)]; exact h)
  exact ⟨hp.same e, e⟩
theorem pure__law_form (T : Tx K mg) : Pure__law_form K := by
  intro vs H Q E h
  obtain ⟨x1, x2, rfl, h⟩ := on2_ex h
  obtain ⟨p, rfl, h⟩ := onRef_ex h
  obtain ⟨r, rfl, hp, ⟨ns, P, s⟩, ⟨l, hr, hl, hrp, hlp⟩, ra, hQ⟩ := onRef_ex h
  have ask := ra.ask
  have hsm : Sm (leastP ns P s).2 := big_sm (Nat.le_trans (rise_le ra.p1 ra.pl ra.vals ra.step) (by decide))
  dsimp only at *
  refine ⟨r, _, rfl, SqT.of hr, rfl, _, _, rfl, _, _, rfl, _, _, rfl, rfl, ?_⟩
  refine ⟨hp, by decide, by decide, fun d H1 hd0 hd1 hp1 hk1 => ?_⟩
  have hl1 := hk1 _ _ hlp hl
  refine ite2 (fun _ => ?_) (fun _ => ?_)
  · refine ⟨_, SqL.of hl1, fun q hq x dx hx hdx hne => ?_⟩
    have hqx : q ≠ x := ne_of_none upd_same hx
    have hqd : q ≠ dx := ne_of_none upd_same hdx
    refine ⟨ns, P, dx, upd_same, SqT.of (by rw [upd_ne hqx, upd_ne hqd]; exact upd_same), rfl, ask, hsm, fun H2 hk2 hf => ⟨rfl, ?_⟩⟩
    obtain ⟨hp2, e2⟩ := made (hp1.same (Same.upd hq)) hx hdx hk2
    exact hQ x H2 hp2 ((hk1.trans (Kp.new hq)).trans (Kp.same e2)) hf
  · refine ⟨_, SqL.of hl1, fun q hq => ⟨rfl, rfl, fun x dx hx hdx hne => ?_⟩⟩
    have hqx : q ≠ x := ne_of_none upd_same hx
    have hqd : q ≠ dx := ne_of_none upd_same hdx
    refine ⟨ns, P, dx, upd_same, SqT.of (by rw [upd_ne hqx, upd_ne hqd]; exact upd_same), rfl, ask, hsm, fun H2 hk2 hf => ⟨rfl, ?_⟩⟩
    obtain ⟨hp2, e2⟩ := made (hp1.same (Same.upd hq)) hx hdx hk2
    exact hQ x H2 hp2 ((hk1.trans (Kp.new hq)).trans (Kp.same e2)) hf
theorem b__law_form (T : Tx K mg) : Binds K (fdA K (He.fAd K d__law_form.at_)) ["_law_pool", "_law_row_here"] [] := T.F__law_form.bindsN fun _ _ _ _ _ _ us hl => match us, hl with | [_, _], _ => rfl
theorem ok__law_form (T : Tx K mg) : FnOk P w K mg base CX0 5 (He.fAd K d__law_form.at_) (fdA K (He.fAd K d__law_form.at_)) ["_law_pool", "_law_row_here"] (sp__law_form K) :=
  T.F__law_form.ok sc__law_form (fun _ _ _ _ h => on2_len h) (fun cdv A outer s H vs Q E hr h => ⟨t__law_form K, PSs.nox ((pss_cons (ps_asg (vv 1) (pg_tup rfl (pgs_cons (pg_name (i := 2) sc__law_form.nd rfl (.inl rfl)) (pgs_cons (pg_name (i := 3) sc__law_form.nd rfl (.inl rfl)) (pgs_cons (pg_name (i := 4) sc__law_form.nd rfl (.inl rfl)) pgs_nil)))))
      (pss_cons (ps_if (t_cmp o_eq (pe_call (ok__law_draw T) (hr.mono (by decide)) (by rfl) T.g__law_draw T.F__law_draw.kp (b__law_draw T) .nil pass0 (pa_cons (vv 0) (pa_cons pe_int pa_nil))) pe_int (nomark _))
      (pss_one (ps_ret (pe_make T.mk_Form (ok_Form_init T) (hr.mono (by decide)) (by rfl) T.g_Form (mb_Form_3 T).choose_spec.2 (mb_Form_3 T).choose_spec.1 pass0 (pa_cons (pe_callTy c_tupL (by rfl) T.b_tuple boot_tuple (pa_cons (vv 2) pa_nil)) (pa_cons (vv 3) (pa_cons (vv 4) pa_nil)))))) pss_nil)
      (pss_one (ps_ret (e_makeK0 T.mk_Form (ok_Form_init T) (hr.mono (by decide)) (by rfl) T.g_Form (mb_Form_0_step_values_period T).choose_spec pass0 (pk_cons (vv 4) (pk_cons (pe_callTy c_tupL (by rfl) T.b_tuple boot_tuple (pa_cons (vv 2) pa_nil)) (pk_cons (vv 3) pk_nil))))))))), pure__law_form T vs H Q E h⟩)

end K05
namespace K05
open PySem PySem.Spec PyProof.Rows L2 Sp
variable {P : Program} {w : World} {K : PySem.W.Frag} {mg : Str → Option Value} {base : Heap}
/-! ### what a form tells -/
def sp_check_number (K : PySem.W.Frag) : L2.Sp := fun vs H Q _ => on3 vs fun x l m => onInt x fun n => onInt l fun l => m = .non ∧ l ≤ n ∧ Q .non H
abbrev N_check_number : List Str := ["number", "least", "most"]
theorem sc_check_number : FnScope N_check_number ["number", "least", "most"] (defScope s_check_number) := ⟨rfl, rfl, rfl, by decide +kernel, rfl, by decide +kernel, by decide +kernel⟩
def t_check_number (K : PySem.W.Frag) : TS :=
    tIfS (tOr (tNot (fT (tCall (sp_is_integer K) [] E0 (tCons (fV 0) tNil)))) (tOr (fT (tOp fLt (fV 0) (fV 1))) (tAnd (fT (tOp fNotN (fV 2) (tC .non))) (fT (tOp fGt (fV 0) (fV 2))))))
    tNever tNext
abbrev Pure_check_number (K : PySem.W.Frag) : Prop := ∀ (vs : List V) (H : Hp) (Q : VK) (E : XK), sp_check_number K vs H Q E → t_check_number K { nx := fun _ H' => Q .non H', rt := Q } (L2.start N_check_number vs) H
theorem pure_check_number (T : Tx K mg) : Pure_check_number K := by
  intro vs H Q E h
  obtain ⟨x, y, z, rfl, h⟩ := on3_ex h
  obtain ⟨n, rfl, h⟩ := onInt_ex h
  obtain ⟨l, rfl, rfl, hl, hQ⟩ := onInt_ex h
  refine ite2 (fun h1 => ?_) (fun h1 => hQ)
  exact absurd (of_decide_eq_true h1) (by omega)
theorem b_check_number (T : Tx K mg) : Binds K (fdA K (He.fAd K d_check_number.at_)) ["number", "least", "most"] [] := T.F_check_number.bindsN fun _ _ _ _ _ _ us hl => match us, hl with | [_, _, _], _ => rfl
theorem ok_check_number (T : Tx K mg) : FnOk P w K mg base CX0 2 (He.fAd K d_check_number.at_) (fdA K (He.fAd K d_check_number.at_)) ["number", "least", "most"] (sp_check_number K) :=
  T.F_check_number.ok sc_check_number (fun _ _ _ _ h => on3_len h) (fun cdv A outer s H vs Q E hr h => ⟨t_check_number K, PSs.nox ((pss_one (ps_if (PW.pt (pw_or (pt_not (t_val (pe_call (ok_is_integer T) (hr.mono (by decide)) (by rfl) T.g_is_integer T.F_is_integer.kp (b_is_integer T) .nil pass0 (pa_cons (vv 0) pa_nil)))) (pw_or (t_cmp o_lt (vv 0) (vv 1) (nomark _)) (pw_or1 (PW.pt (pw_and (t_cmp o_notN (vv 2) pe_non (nomark _)) (pw_and1 (t_cmp o_gt (vv 0) (vv 2) (nomark _)))))))))
      (pss_one ps_never) pss_nil))), pure_check_number T vs H Q E h⟩)
def sp_Form_listed (K : PySem.W.Frag) : L2.Sp := fun vs H Q _ => on1 vs fun x => onRef x fun a => ∃ f, FormAt K H a f ∧ ∀ l, SqT K H l (f.1.map V.int) → Q (.ref l) H
abbrev N_Form_listed : List Str := ["self"]
theorem sc_Form_listed : FnScope N_Form_listed ["self"] (defScope s_Form_listed) := ⟨rfl, rfl, rfl, by decide +kernel, rfl, by decide +kernel, by decide +kernel⟩
def t_Form_listed (K : PySem.W.Frag) : TS :=
    tRet (tOp (fIxT K) (tFld K (fV 0) "spec") (tC (.int 0)))
abbrev Pure_Form_listed (K : PySem.W.Frag) : Prop := ∀ (vs : List V) (H : Hp) (Q : VK) (E : XK), sp_Form_listed K vs H Q E → t_Form_listed K { nx := fun _ H' => Q .non H', rt := Q } (L2.start N_Form_listed vs) H
theorem pure_Form_listed (T : Tx K mg) : Pure_Form_listed K := by
  intro vs H Q E h
  obtain ⟨x, rfl, h⟩ := on1_ex h
  obtain ⟨a, rfl, f, ⟨dx, t, l, ha, ht, hl⟩, hQ⟩ := onRef_ex h
  refine ⟨a, _, dx, _, _, rfl, ha, T.cl_Form, T.no_Form_spec, rfl, ?_⟩
  exact ⟨_, SqT.of ht, _, rfl, hQ l hl⟩
theorem b_Form_listed (T : Tx K mg) : Binds K (fdA K (d_Form_listed.at_ K)) ["self"] [] := T.F_Form_listed.bindsN fun _ _ _ _ _ _ us hl => match us, hl with | [_], _ => rfl
theorem ok_Form_listed (T : Tx K mg) : FnOk P w K mg base CX0 1 (d_Form_listed.at_ K) (fdA K (d_Form_listed.at_ K)) ["self"] (sp_Form_listed K) :=
  T.F_Form_listed.ok sc_Form_listed (fun _ _ _ _ h => on1_len h) (fun cdv A outer s H vs Q E hr h => ⟨t_Form_listed K, PSs.nox ((pss_one (ps_ret (pe_ix x_tup (pe_fld (vv 0) rfl) pe_int (fun _ _ => rfl))))), pure_Form_listed T vs H Q E h⟩)
def sp_Form_period (K : PySem.W.Frag) : L2.Sp := fun vs H Q _ => on1 vs fun x => onRef x fun a => ∃ f, FormAt K H a f ∧ Q (.int f.2.1) H
abbrev N_Form_period : List Str := ["self"]
theorem sc_Form_period : FnScope N_Form_period ["self"] (defScope s_Form_period) := ⟨rfl, rfl, rfl, by decide +kernel, rfl, by decide +kernel, by decide +kernel⟩
def t_Form_period (K : PySem.W.Frag) : TS :=
    tRet (tOp (fIxT K) (tFld K (fV 0) "spec") (tC (.int 1)))
abbrev Pure_Form_period (K : PySem.W.Frag) : Prop := ∀ (vs : List V) (H : Hp) (Q : VK) (E : XK), sp_Form_period K vs H Q E → t_Form_period K { nx := fun _ H' => Q .non H', rt := Q } (L2.start N_Form_period vs) H
theorem pure_Form_period (T : Tx K mg) : Pure_Form_period K := by
  intro vs H Q E h
  obtain ⟨x, rfl, h⟩ := on1_ex h
  obtain ⟨a, rfl, f, ⟨dx, t, l, ha, ht, hl⟩, hQ⟩ := onRef_ex h
  refine ⟨a, _, dx, _, _, rfl, ha, T.cl_Form, T.no_Form_spec, rfl, ?_⟩
  exact ⟨_, SqT.of ht, _, rfl, hQ⟩
theorem b_Form_period (T : Tx K mg) : Binds K (fdA K (d_Form_period.at_ K)) ["self"] [] := T.F_Form_period.bindsN fun _ _ _ _ _ _ us hl => match us, hl with | [_], _ => rfl
theorem ok_Form_period (T : Tx K mg) : FnOk P w K mg base CX0 1 (d_Form_period.at_ K) (fdA K (d_Form_period.at_ K)) ["self"] (sp_Form_period K) :=
  T.F_Form_period.ok sc_Form_period (fun _ _ _ _ h => on1_len h) (fun cdv A outer s H vs Q E hr h => ⟨t_Form_period K, PSs.nox ((pss_one (ps_ret (pe_ix x_tup (pe_fld (vv 0) rfl) pe_int (fun _ _ => rfl))))), pure_Form_period T vs H Q E h⟩)
def sp_Form_step (K : PySem.W.Frag) : L2.Sp := fun vs H Q _ => on1 vs fun x => onRef x fun a => ∃ f, FormAt K H a f ∧ Q (.int f.2.2) H
abbrev N_Form_step : List Str := ["self"]
theorem sc_Form_step : FnScope N_Form_step ["self"] (defScope s_Form_step) := ⟨rfl, rfl, rfl, by decide +kernel, rfl, by decide +kernel, by decide +kernel⟩
def t_Form_step (K : PySem.W.Frag) : TS :=
    tRet (tOp (fIxT K) (tFld K (fV 0) "spec") (tC (.int 2)))
abbrev Pure_Form_step (K : PySem.W.Frag) : Prop := ∀ (vs : List V) (H : Hp) (Q : VK) (E : XK), sp_Form_step K vs H Q E → t_Form_step K { nx := fun _ H' => Q .non H', rt := Q } (L2.start N_Form_step vs) H
theorem pure_Form_step (T : Tx K mg) : Pure_Form_step K := by
  intro vs H Q E h
  obtain ⟨x, rfl, h⟩ := on1_ex h
  obtain ⟨a, rfl, f, ⟨dx, t, l, ha, ht, hl⟩, hQ⟩ := onRef_ex h
  refine ⟨a, _, dx, _, _, rfl, ha, T.cl_Form, T.no_Form_spec, rfl, ?_⟩
  exact ⟨_, SqT.of ht, _, rfl, hQ⟩
theorem b_Form_step (T : Tx K mg) : Binds K (fdA K (d_Form_step.at_ K)) ["self"] [] := T.F_Form_step.bindsN fun _ _ _ _ _ _ us hl => match us, hl with | [_], _ => rfl
theorem ok_Form_step (T : Tx K mg) : FnOk P w K mg base CX0 1 (d_Form_step.at_ K) (fdA K (d_Form_step.at_ K)) ["self"] (sp_Form_step K) :=
  T.F_Form_step.ok sc_Form_step (fun _ _ _ _ h => on1_len h) (fun cdv A outer s H vs Q E hr h => ⟨t_Form_step K, PSs.nox ((pss_one (ps_ret (pe_ix x_tup (pe_fld (vv 0) rfl) pe_int (fun _ _ => rfl))))), pure_Form_step T vs H Q E h⟩)
def sp_Form_start (K : PySem.W.Frag) : L2.Sp := fun vs H Q _ => on1 vs fun x => onRef x fun a => ∃ f, FormAt K H a f ∧ f.2.1 ≤ f.1.length ∧ Q (.int ((f.1.length - f.2.1 : Nat) : Int)) H
abbrev N_Form_start : List Str := ["self"]
theorem sc_Form_start : FnScope N_Form_start ["self"] (defScope s_Form_start) := ⟨rfl, rfl, rfl, by decide +kernel, rfl, by decide +kernel, by decide +kernel⟩
def t_Form_start (K : PySem.W.Frag) : TS :=
    tRet (tOp fSub (tCB (fLen K) (tCons (tOp (fIxT K) (tFld K (fV 0) "spec") (tC (.int 0))) tNil)) (tOp (fIxT K) (tFld K (fV 0) "spec") (tC (.int 1))))
abbrev Pure_Form_start (K : PySem.W.Frag) : Prop := ∀ (vs : List V) (H : Hp) (Q : VK) (E : XK), sp_Form_start K vs H Q E → t_Form_start K { nx := fun _ H' => Q .non H', rt := Q } (L2.start N_Form_start vs) H
theorem pure_Form_start (T : Tx K mg) : Pure_Form_start K := by
  intro vs H Q E h
  obtain ⟨x, rfl, h⟩ := on1_ex h
  obtain ⟨a, rfl, f, ⟨dx, t, l, ha, ht, hl⟩, hle, hQ⟩ := onRef_ex h
  refine ⟨a, _, dx, _, _, rfl, ha, T.cl_Form, T.no_Form_spec, rfl, ?_⟩
  refine ⟨_, SqT.of ht, _, rfl, _, .inr hl, ?_⟩
  refine ⟨a, _, dx, _, _, rfl, ha, T.cl_Form, T.no_Form_spec, rfl, ?_⟩
  refine ⟨_, SqT.of ht, _, rfl, ?_⟩
  rw [List.length_map]
  rw [show ((f.1.length - f.2.1 : Nat) : Int) = (f.1.length : Int) - (f.2.1 : Int) by omega] at hQ
  exact hQ
theorem b_Form_start (T : Tx K mg) : Binds K (fdA K (d_Form_start.at_ K)) ["self"] [] := T.F_Form_start.bindsN fun _ _ _ _ _ _ us hl => match us, hl with | [_], _ => rfl
theorem ok_Form_start (T : Tx K mg) : FnOk P w K mg base CX0 1 (d_Form_start.at_ K) (fdA K (d_Form_start.at_ K)) ["self"] (sp_Form_start K) :=
  T.F_Form_start.ok sc_Form_start (fun _ _ _ _ h => on1_len h) (fun cdv A outer s H vs Q E hr h => ⟨t_Form_start K, PSs.nox ((pss_one (ps_ret (pe_op o_sub (pe_callB c_len (by rfl) T.b_len boot_len (pa_cons (pe_ix x_tup (pe_fld (vv 0) rfl) pe_int (fun _ _ => rfl)) pa_nil)) (pe_ix x_tup (pe_fld (vv 0) rfl) pe_int (fun _ _ => rfl)))))), pure_Form_start T vs H Q E h⟩)
def sp_Form_call (K : PySem.W.Frag) : L2.Sp := fun vs H Q _ => on2 vs fun x n => onRef x fun a => onInt n fun n => ∃ f N, FormAt K H a f ∧ n = ((N : Nat) : Int) ∧ Ask f.1 f.2.1 f.2.2 ∧ N < 2 ^ 1000 ∧ ∀ H', Same H H' → Q (.int (valueAt f.1 f.2.1 f.2.2 N)) H'
abbrev N_Form_call : List Str := ["self", "n"]
theorem sc_Form_call : FnScope N_Form_call ["self", "n"] (defScope s_Form_call) := ⟨rfl, rfl, rfl, by decide +kernel, rfl, by decide +kernel, by decide +kernel⟩
def t_Form_call (K : PySem.W.Frag) : TS :=
    tSeq (tDrop (tCall (sp_check_number K) [] E0 (tCons (fV 1) (tCons (tC (.int 0)) (tCons (tC .non) tNil)))))
    (tRet (tCall (sp_value_at K) [] E0 (tCons (tOp (fIxT K) (tFld K (fV 0) "spec") (tC (.int 0))) (tCons (tOp (fIxT K) (tFld K (fV 0) "spec") (tC (.int 1))) (tCons (tOp (fIxT K) (tFld K (fV 0) "spec") (tC (.int 2))) (tCons (fV 1) tNil))))))
abbrev Pure_Form_call (K : PySem.W.Frag) : Prop := ∀ (vs : List V) (H : Hp) (Q : VK) (E : XK), sp_Form_call K vs H Q E → t_Form_call K { nx := fun _ H' => Q .non H', rt := Q } (L2.start N_Form_call vs) H
theorem pure_Form_call (T : Tx K mg) : Pure_Form_call K := by
  intro vs H Q E h
  obtain ⟨x, y, rfl, h⟩ := on2_ex h
  obtain ⟨a, rfl, h⟩ := onRef_ex h
  obtain ⟨n, rfl, f, N, ⟨dx, t, l, ha, ht, hl⟩, rfl, A, hN, hQ⟩ := onInt_ex h
  refine ⟨rfl, by omega, ?_⟩
  refine ⟨a, _, dx, _, _, rfl, ha, T.cl_Form, T.no_Form_spec, rfl, _, SqT.of ht, _, rfl, ?_⟩
  refine ⟨a, _, dx, _, _, rfl, ha, T.cl_Form, T.no_Form_spec, rfl, _, SqT.of ht, _, rfl, ?_⟩
  refine ⟨a, _, dx, _, _, rfl, ha, T.cl_Form, T.no_Form_spec, rfl, _, SqT.of ht, _, rfl, ?_⟩
  exact ⟨f.1, f.2.1, N, .inr hl, rfl, rfl, A, hN, hQ⟩
theorem b_Form_call (T : Tx K mg) : Binds K (fdA K (He.fAd K d_Form_call.at_)) ["self", "n"] [] := T.F_Form_call.bindsN fun _ _ _ _ _ _ us hl => match us, hl with | [_, _], _ => rfl
theorem ok_Form_call (T : Tx K mg) : FnOk P w K mg base CX0 3 (He.fAd K d_Form_call.at_) (fdA K (He.fAd K d_Form_call.at_)) ["self", "n"] (sp_Form_call K) :=
  T.F_Form_call.ok sc_Form_call (fun _ _ _ _ h => on2_len h) (fun cdv A outer s H vs Q E hr h => ⟨t_Form_call K, PSs.nox ((pss_cons (ps_expr (pe_call (ok_check_number T) (hr.mono (by decide)) (by rfl) T.g_check_number T.F_check_number.kp (b_check_number T) .nil pass0 (pa_cons (vv 1) (pa_cons pe_int (pa_cons pe_non pa_nil)))))
      (pss_one (ps_ret (pe_call (ok_value_at T) (hr.mono (by decide)) (by rfl) T.g_value_at T.F_value_at.kp (b_value_at T) .nil pass0 (pa_cons (pe_ix x_tup (pe_fld (vv 0) rfl) pe_int (fun _ _ => rfl)) (pa_cons (pe_ix x_tup (pe_fld (vv 0) rfl) pe_int (fun _ _ => rfl)) (pa_cons (pe_ix x_tup (pe_fld (vv 0) rfl) pe_int (fun _ _ => rfl)) (pa_cons (vv 1) pa_nil))))))))), pure_Form_call T vs H Q E h⟩)
/-- a value of a built-in type -/
def BltV (K : PySem.W.Frag) (H : Hp) (v : V) : Prop := ∃ T ∈ (["NoneType", "bool", "int", "str", "list", "tuple", "dict", "float", "set", "bytes"] : List String), TyX K H v (.type T)
def dpForm (f : List Int × Nat × Int) : PyData := .tuple [.tuple (f.1.map PyData.int), .int f.2.1, .int f.2.2]
theorem eqvAll_ints : ∀ (xs ys : List Int), PyData.eqv (.tuple (xs.map PyData.int)) (.tuple (ys.map PyData.int)) = decide (xs = ys)
  | [], [] => rfl
  | [], _ :: _ => rfl
  | _ :: _, [] => rfl
  | x :: xs, y :: ys => by
    have ih := eqvAll_ints xs ys
    simp only [PyData.eqv, List.map_cons, PyData.eqvAll] at ih ⊢
    rw [ih]
    by_cases h1 : x = y <;> by_cases h2 : xs = ys <;> simp [h1, h2]
theorem eqv_form (f g : List Int × Nat × Int) : PyData.eqv (dpForm f) (dpForm g) = decide (f = g) := by
  obtain ⟨l, q, c⟩ := f
  obtain ⟨l', q', c'⟩ := g
  have e := eqvAll_ints l l'
  unfold dpForm
  dsimp only
  simp only [PyData.eqv, PyData.eqvAll] at e ⊢
  rw [e]
  by_cases h1 : l = l' <;> by_cases h2 : q = q' <;> by_cases h3 : c = c' <;> simp [h1, h2, h3]
  omega
theorem shapedForm (f : List Int × Nat × Int) : SeqAt.shaped (dpForm f) = true := by
  have h1 : ∀ l : List Int, PyData.canLayAll0 (l.map PyData.int) = true := fun l => by
    induction l with
    | nil => rfl
    | cons m r ih => simp [PyData.canLayAll0, PyData.canLay0, ih]
  have h2 := depthInts f.1
  unfold SeqAt.shaped dpForm
  rw [Bool.and_eq_true]
  refine ⟨by simpa [PyData.canLay0, PyData.canLayAll0] using h1 f.1, decide_eq_true ?_⟩
  simp only [PyData.depth, PyData.depthAll]
  omega
def sp_Form_eq (K : PySem.W.Frag) : L2.Sp := fun vs H Q _ => on2 vs fun x y => onRef x fun a => ∃ f, FormAt K H a f ∧
  ((∃ b g, y = .ref b ∧ FormAt K H b g ∧ ∀ H', Same H H' → Q (.bl (decide (f = g))) H') ∨ (BltV K H y ∧ ∀ H', Same H H' → Q (.bl false) H'))
abbrev N_Form_eq : List Str := ["self", "other"]
theorem sc_Form_eq : FnScope N_Form_eq ["self", "other"] (defScope s_Form_eq) := ⟨rfl, rfl, rfl, by decide +kernel, rfl, by decide +kernel, by decide +kernel⟩
def t_Form_eq (K : PySem.W.Frag) : TS :=
    tRet (fAndV (tCB (fIsi K) (tCons (fV 1) (tCons (tC (.ref (He.ga K "Form"))) tNil))) (tOp (rEqD K) (tFld K (fV 0) "spec") (tFld K (fV 1) "spec")))
abbrev Pure_Form_eq (K : PySem.W.Frag) : Prop := ∀ (vs : List V) (H : Hp) (Q : VK) (E : XK), sp_Form_eq K vs H Q E → t_Form_eq K { nx := fun _ H' => Q .non H', rt := Q } (L2.start N_Form_eq vs) H
theorem pure_Form_eq (T : Tx K mg) : Pure_Form_eq K := by
  intro vs H Q E h
  obtain ⟨x, y, rfl, h⟩ := on2_ex h
  obtain ⟨a, rfl, f, ⟨dx, t, l, ha, ht, hl⟩, h⟩ := onRef_ex h
  rcases h with ⟨b, g, rfl, ⟨dx', t', l', hb, ht', hl'⟩, hQ⟩ | ⟨⟨U, hU, ty⟩, hQ⟩
  · refine ⟨_, _, true, .own _, T.I_Form.ty T.cl_Form hb, kit_self, ?_⟩
    refine ⟨a, _, dx, _, _, rfl, ha, T.cl_Form, T.no_Form_spec, rfl, ?_⟩
    refine ⟨b, _, dx', _, _, rfl, hb, T.cl_Form, T.no_Form_spec, rfl, ?_⟩
    refine ⟨dpForm f, dpForm g, .tup (SqT.of ht) (.cons (.tup hl (dpInts _ _)) (.cons (.int _) (.cons (.int _) .nil))), .tup (SqT.of ht') (.cons (.tup hl' (dpInts _ _)) (.cons (.int _) (.cons (.int _) .nil))), shapedForm f, shapedForm g, ?_⟩
    rw [eqv_form]
    exact hQ H (Same.refl H)
  · refine ⟨_, _, false, .own _, ty, T.O_Form.isi U hU, ?_⟩
    exact hQ H (Same.refl H)
theorem b_Form_eq (T : Tx K mg) : Binds K (fdA K (He.fAd K d_Form_eq.at_)) ["self", "other"] [] := T.F_Form_eq.bindsN fun _ _ _ _ _ _ us hl => match us, hl with | [_, _], _ => rfl
theorem ok_Form_eq (T : Tx K mg) : FnOk P w K mg base CX0 1 (He.fAd K d_Form_eq.at_) (fdA K (He.fAd K d_Form_eq.at_)) ["self", "other"] (sp_Form_eq K) :=
  T.F_Form_eq.ok sc_Form_eq (fun _ _ _ _ h => on2_len h) (fun cdv A outer s H vs Q E hr h => ⟨t_Form_eq K, PSs.nox ((pss_one (ps_ret (e_and (pe_callB c_isi (by rfl) T.b_isinstance boot_isinstance (pa_cons (vv 1) (pa_cons (pe_glob (by rfl) T.g_Form rfl) pa_nil))) (pe_one (pe_cmpR (op_eqD hr.units) (pe_fld (vv 0) rfl) (pe_fld (vv 1) rfl) (nomark _))))))), pure_Form_eq T vs H Q E h⟩)


/-- of a size that can be shown -/
structure FSh (f : List Int × Nat × Int) : Prop where
  len : f.1.length ≤ 1000
  vals : ∀ z ∈ f.1, z.natAbs ≤ 10 ^ 100
  per : f.2.1 ≤ 1000
  step : f.2.2.natAbs ≤ 10 ^ 100
def reprT (ns : List Int) : Str := PyData.shown (.tuple (ns.map PyData.int))
def reprF (f : List Int × Nat × Int) : Str := Str.empty ++ "Form(" ++ reprT f.1 ++ ", " ++ (Str.ofString (toString (f.2.1 : Int))) ++ ", " ++ (Str.ofString (toString f.2.2)) ++ ")"
theorem reprT_le {ns : List Int} (hl : ns.length ≤ 2000) (h : ∀ z ∈ ns, z.natAbs ≤ 10 ^ 100) : (reprT ns).length ≤ 5000000 := by
  have e := shown_le (.tuple (ns.map PyData.int)) (by simpa [PyData.showable] using showInts h) (by simpa [PyData.hasDict] using hdInts ns)
  simp only [cells, cellsInts] at e
  unfold reprT
  omega
theorem text_le {i : Int} (h : i.natAbs ≤ 10 ^ 100) : (Str.ofString (toString i)).length ≤ 2000 := by
  have e := int_text_length_le (a := i) (k := 1920) (by decide) (log_of h)
  rw [PySem.ofString_length]
  omega
/-- repr of a tuple of ints -/
theorem repr_tup {H : Hp} {l : Addr} {ns : List Int} (hT : SqT K H l (ns.map V.int)) (hl : ns.length ≤ 2000) (h : ∀ z ∈ ns, z.natAbs ≤ 10 ^ 100) : ShownAs K H (.ref l) (reprT ns) := by
  have a := reprT_le hl h
  refine ⟨.tuple (ns.map PyData.int), .tup hT (dpInts _ _), rfl, by simpa [PyData.showable] using showInts h, ?_, ?_, rfl⟩
  · have := depthInts ns
    simp only [PyData.depth]
    omega
  · rw [sizeLine_eq]
    exact Nat.le_trans a (by decide)

end K05
namespace K05
open PySem PySem.Spec PyProof.Rows L2 Sp
variable {P : Program} {w : World} {K : PySem.W.Frag} {mg : Str → Option Value} {base : Heap}
def sp_common_multiple (K : PySem.W.Frag) : L2.Sp := fun vs H Q _ => on2 vs fun x y => onInt x fun x => onInt y fun y => ∃ p q : Nat, x = p ∧ y = q ∧ 1 ≤ p ∧ 1 ≤ q ∧ p ≤ 5000 ∧ q ≤ 5000 ∧ Q (.int (Nat.lcm p q : Nat)) H
abbrev N_common_multiple : List Str := ["one", "other", "high", "low"]
theorem sc_common_multiple : FnScope N_common_multiple ["one", "other"] (defScope s_common_multiple) := ⟨rfl, rfl, rfl, by decide +kernel, rfl, by decide +kernel, by decide +kernel⟩
def t_common_multiple (K : PySem.W.Frag) : TS :=
    tSeq (tPar 2 3 (tCons (fV 0) (tCons (fV 1) tNil)))
    (tSeq (tWhile (fT (tOp fGt (fV 3) (tC (.int 0))))
    (tPar 2 3 (tCons (fV 3) (tCons (tOp fMod (tCB fInt1 (tCons (fV 2) tNil)) (fV 3)) tNil))))
    (tRet (tOp fMulW (tOp fDiv (fV 0) (fV 2)) (fV 1))))
abbrev Pure_common_multiple (K : PySem.W.Frag) : Prop := ∀ (vs : List V) (H : Hp) (Q : VK) (E : XK), sp_common_multiple K vs H Q E → t_common_multiple K { nx := fun _ H' => Q .non H', rt := Q } (L2.start N_common_multiple vs) H
theorem pure_common_multiple (T : Tx K mg) : Pure_common_multiple K := by
  intro vs H Q E h
  obtain ⟨x1, x2, rfl, h⟩ := on2_ex h
  obtain ⟨x, rfl, h⟩ := onInt_ex h
  obtain ⟨y, rfl, p, q, rfl, rfl, hp, hq, hp5, hq5, hQ⟩ := onInt_ex h
  refine ⟨_, _, rfl, ?_⟩
  refine ⟨fun m σ H1 => H1 = H ∧ ∃ hi : Nat, Nat.gcd hi m = Nat.gcd p q ∧ σ = [some (.int p), some (.int q), some (.int hi), some (.int m)], ⟨q, rfl, p, rfl, rfl⟩, ?_⟩
  rintro m σ H1 ⟨rfl, hi, hg, rfl⟩
  have hgp : 0 < Nat.gcd p q := Nat.gcd_pos_of_pos_left _ hp
  have hgd : Nat.gcd p q ∣ p := Nat.gcd_dvd_left p q
  have hgl : Nat.gcd p q ≤ p := Nat.le_of_dvd hp hgd
  cases m with
  | zero =>
    rw [Nat.gcd_zero_right] at hg
    subst hg
    refine ⟨wide_div (b := 13) (by omega) (by omega) (by decide) (by decide), ?_⟩
    have hle : p / Nat.gcd p q ≤ p := Nat.div_le_self _ _
    show CMulW ((p / Nat.gcd p q : Nat) : Int) (q : Int) ∧ Q (.int (((p / Nat.gcd p q : Nat) : Int) * (q : Int))) H1
    refine ⟨wide_mul (a := 13) (b := 13) (by rw [Int.natAbs_natCast]; exact Nat.lt_of_le_of_lt hle (Nat.lt_of_le_of_lt hp5 (by decide))) (by omega) (by decide) (by decide) (by decide), ?_⟩
    have e2 : ((p / Nat.gcd p q : Nat) : Int) * (q : Int) = ((Nat.lcm p q : Nat) : Int) := by
      rw [← Int.natCast_mul, Nat.div_mul_right_comm hgd]
      rfl
    rw [e2]
    exact hQ
  | succ k =>
    refine ite2 (fun _ => ?_) (fun hz => absurd (decide_eq_true (show (0 : Int) < ((k + 1 : Nat) : Int) by omega)) hz)
    have e1 : (hi : Int) % ((k + 1 : Nat) : Int) = ((hi % (k + 1) : Nat) : Int) := rfl
    refine ⟨fun σ' H' => H' = H1 ∧ σ' = [some (.int p), some (.int q), some (.int ((k + 1 : Nat) : Int)), some (.int ((hi % (k + 1) : Nat) : Int))], fun σ' H' z => ⟨hi % (k + 1), Nat.mod_lt _ (by omega), z.1, k + 1, ?_, z.2⟩, by omega, _, _, rfl, rfl, rfl⟩
    rw [Nat.gcd_comm, ← Nat.gcd_rec, Nat.gcd_comm]
    exact hg
theorem b_common_multiple (T : Tx K mg) : Binds K (fdA K (He.fAd K d_common_multiple.at_)) ["one", "other"] [] := T.F_common_multiple.bindsN fun _ _ _ _ _ _ us hl => match us, hl with | [_, _], _ => rfl
theorem ok_common_multiple (T : Tx K mg) : FnOk P w K mg base CX0 1 (He.fAd K d_common_multiple.at_) (fdA K (He.fAd K d_common_multiple.at_)) ["one", "other"] (sp_common_multiple K) :=
  T.F_common_multiple.ok sc_common_multiple (fun _ _ _ _ h => on2_len h) (fun cdv A outer s H vs Q E hr h => ⟨t_common_multiple K, PSs.nox ((pss_cons (ps_par (by rfl) sc_common_multiple.nd rfl rfl (by decide) rfl rfl (pa_cons (vv 0) (pa_cons (vv 1) pa_nil)) (by rfl))
      (pss_cons (ps_while PassesOwn.never (t_cmp o_gt (vv 3) pe_int (nomark _))
      (pss_one (ps_par (by rfl) sc_common_multiple.nd rfl rfl (by decide) rfl rfl (pa_cons (vv 3) (pa_cons (pe_op o_mod (pe_callTy c_int1 (by rfl) T.b_int boot_int (pa_cons (vv 2) pa_nil)) (vv 3)) pa_nil)) (by rfl))))
      (pss_one (ps_ret (pe_op o_mulW (pe_op o_div (vv 0) (vv 2)) (vv 1))))))), pure_common_multiple T vs H Q E h⟩)

theorem getD_map {F : Nat → Int} {n i : Nat} (h : i < n) : ((List.range n).map F).getD i 0 = F i := by
  rw [List.getD_eq_getElem?_getD, List.getElem?_map, List.getElem?_range h]
  rfl
theorem map_ints {F : Nat → Int} {n : Nat} : (List.range n).map (fun i => V.int (F i)) = ((List.range n).map F).map V.int := by rw [List.map_map]; rfl
abbrev fv (f : List Int × Nat × Int) : Nat → Int := valueAt f.1 f.2.1 f.2.2
theorem RAskB.val {L B : Nat} {f : List Int × Nat × Int} (h : RAskB L B f) (n : Nat) : (fv f n).natAbs ≤ B + n * B := val_le h.vals h.step n
theorem Kp.row {H H' : Hp} {p r : Addr} {f : List Int × Nat × Int} (e : Kp p H H') (h : RowP K H p r f) : RowP K H' p r f := h.kp e

/-! ### sums of functions, plain -/
/-- a form in its only shape, of some size -/
structure FOk (P L B : Nat) (F : Nat → Int) (f : List Int × Nat × Int) : Prop where
  can : Canon F f
  per : f.2.1 ≤ P
  len : f.1.length ≤ L
  vals : ∀ z ∈ f.1, z.natAbs ≤ B
  step : f.2.2.natAbs ≤ B
theorem FOk.mono {P L B P' L' B' : Nat} {F : Nat → Int} {f : List Int × Nat × Int} (h : FOk P L B F f) (a : P ≤ P') (b : L ≤ L') (c : B ≤ B') : FOk P' L' B' F f :=
  ⟨h.can, Nat.le_trans h.per a, Nat.le_trans h.len b, fun z hz => Nat.le_trans (h.vals z hz) c, Nat.le_trans h.step c⟩
theorem FOk.ask {P L B : Nat} {F : Nat → Int} {f : List Int × Nat × Int} (h : FOk P L B F f) (hL : L ≤ 5000) (hB : B ≤ 10 ^ 60) : Ask f.1 f.2.1 f.2.2 := ⟨h.can.p1, h.can.pl, Nat.le_trans h.len hL, big_sm (Nat.le_trans h.step hB)⟩
theorem FOk.val {P L B : Nat} {F : Nat → Int} {f : List Int × Nat × Int} (h : FOk P L B F f) (n : Nat) : (F n).natAbs ≤ B + n * B := by
  rw [← h.can.val n]
  exact val_le h.vals h.step n
theorem val_le' {ns : List Int} {p : Nat} {s : Int} {B n M : Nat} (h : ∀ z ∈ ns, z.natAbs ≤ B) (hs : s.natAbs ≤ B) (hn : n ≤ M) : (valueAt ns p s n).natAbs ≤ B * (M + 1) := by
  have a := val_le (p := p) h hs n
  have b : n * B ≤ M * B := Nat.mul_le_mul_right _ hn
  have c : B * (M + 1) = M * B + B := by rw [Nat.mul_add, Nat.mul_comm]; omega
  omega
/-- a function that rises by c over q from a on, by its values up to m ≥ a + q -/
theorem tab_val {F : Nat → Int} {m q : Nat} {c : Int} (h1 : 1 ≤ q) (hq : q ≤ m) (hs : ∀ n, m - q ≤ n → F (n + q) = F n + c) (n : Nat) : valueAt ((List.range m).map F) q c n = F n := by
  have hl : ((List.range m).map F).length = m := by rw [List.length_map, List.length_range]
  refine val_of_shift h1 (by rw [hl]; exact hq) (fun k hk => ?_) (fun k hk => ?_) n
  · rw [hl] at hk
    rw [List.getD_eq_getElem?_getD, List.getElem?_map, List.getElem?_range hk]
    rfl
  · rw [hl] at hk
    exact hs k hk
theorem tab_ok {F : Nat → Int} {m q B : Nat} {c : Int} (h1 : 1 ≤ q) (hq : q ≤ m) (hs : ∀ n, m - q ≤ n → F (n + q) = F n + c) (hB : ∀ n, n < m → (F n).natAbs ≤ B) (hc : c.natAbs ≤ B) : FOk q m (2 * B) F (formOf ((List.range m).map F) q c) := by
  have hl : ((List.range m).map F).length = m := by rw [List.length_map, List.length_range]
  have can := canon_of (s := c) h1 (show q ≤ ((List.range m).map F).length by rw [hl]; exact hq)
  have e : valueAt ((List.range m).map F) q c = F := funext fun n => tab_val h1 hq hs n
  rw [e] at can
  have hv : ∀ z ∈ (List.range m).map F, z.natAbs ≤ B := fun z hz => by
    obtain ⟨k, hk, rfl⟩ := List.mem_map.mp hz
    exact hB k (List.mem_range.mp hk)
  have hp := leastP_le (ns := (List.range m).map F) (s := c) h1
  refine ⟨can, hp.2, ?_, fun z hz => ?_, rise_le h1 (by rw [hl]; exact hq) hv hc⟩
  · show (leastL ((List.range m).map F) _ _).length ≤ m
    unfold leastL
    rw [List.length_take, hl]
    omega
  · have := hv z (List.mem_of_mem_take hz)
    omega
/-- a form over a multiple of its period -/
theorem Canon.over {F : Nat → Int} {f : List Int × Nat × Int} (c : Canon F f) {L : Nat} (hd : f.2.1 ∣ L) {n : Nat} (h : f.1.length - f.2.1 ≤ n) : F (n + L) = F n + f.2.2 * ((L / f.2.1 : Nat) : Int) := by
  have := iter_shift (F := F) (a := f.1.length - f.2.1) (q := f.2.1) (c := f.2.2) (fun n hn => c.shift hn) (L / f.2.1) n h
  rw [Nat.div_mul_cancel hd] at this
  rw [this, Int.mul_comm]
theorem row_over {ns : List Int} {p : Nat} {s : Int} (h1 : 1 ≤ p) (hp : p ≤ ns.length) {L : Nat} (hd : p ∣ L) {n : Nat} (h : ns.length - p ≤ n) : valueAt ns p s (n + L) = valueAt ns p s n + s * ((L / p : Nat) : Int) := by
  have := iter_shift (F := valueAt ns p s) (a := ns.length - p) (q := p) (c := s) (fun n hn => val_shift h1 hp hn) (L / p) n h
  rw [Nat.div_mul_cancel hd] at this
  rw [this, Int.mul_comm]
/-- at most everywhere, by looking at some -/
theorem under_iff {F G : Nat → Int} {a L m : Nat} {c d : Int} (hL : 1 ≤ L) (hm : a + L ≤ m) (hF : ∀ n, a ≤ n → F (n + L) = F n + c) (hG : ∀ n, a ≤ n → G (n + L) = G n + d) : ((∀ n, n < m → F n ≤ G n) ∧ c ≤ d) ↔ ∀ n, F n ≤ G n := by
  constructor
  · rintro ⟨h1, h2⟩ n
    by_cases hn : n < m
    · exact h1 n hn
    · have e : n = a + (n - a) % L + (n - a) / L * L := by
        have := Nat.div_add_mod (n - a) L
        rw [Nat.mul_comm] at this
        omega
      have hlt := Nat.mod_lt (n - a) (show 0 < L by omega)
      have f1 := iter_shift hF ((n - a) / L) (a + (n - a) % L) (by omega)
      have g1 := iter_shift hG ((n - a) / L) (a + (n - a) % L) (by omega)
      rw [← e] at f1 g1
      have b := h1 (a + (n - a) % L) (by omega)
      have x : (((n - a) / L : Nat) : Int) * c ≤ (((n - a) / L : Nat) : Int) * d := Int.mul_le_mul_of_nonneg_left h2 (Int.natCast_nonneg _)
      omega
  · intro h
    refine ⟨fun n _ => h n, ?_⟩
    by_cases z : c ≤ d
    · exact z
    · exfalso
      have f1 := iter_shift hF ((G a - F a).toNat + 1) a (Nat.le_refl _)
      have g1 := iter_shift hG ((G a - F a).toNat + 1) a (Nat.le_refl _)
      have b := h (a + ((G a - F a).toNat + 1) * L)
      rw [f1, g1] at b
      have x : ((((G a - F a).toNat + 1 : Nat) : Int)) * (d + 1) ≤ ((((G a - F a).toNat + 1 : Nat) : Int)) * c := Int.mul_le_mul_of_nonneg_left (by omega) (Int.natCast_nonneg _)
      rw [Int.mul_add] at x
      omega
/-- a plain number -/
theorem num_ok {v : Int} {B : Nat} (h : v.natAbs ≤ B) : FOk 1 1 B (fun _ => v) ([v], 1, 0) := by
  have e : ∀ n, valueAt [v] 1 0 n = v := fun n => by
    unfold valueAt
    split
    · rename_i hn
      obtain rfl : n = 0 := by simpa using hn
      rfl
    · simp
      rw [show n % 1 = 0 from Nat.mod_one n]
      rfl
  refine ⟨⟨Nat.le_refl _, Nat.le_refl _, e, fun r d N hr _ => hr, fun k hk => by simp at hk⟩, Nat.le_refl _, Nat.le_refl _, fun z hz => ?_, Nat.zero_le _⟩
  rw [List.mem_singleton.mp hz]
  exact h
/-- the spec at t -/
def SpecAt (K : PySem.W.Frag) (H : Hp) (t : Addr) (f : List Int × Nat × Int) : Prop := ∃ l, SqT K H t [.ref l, .int f.2.1, .int f.2.2] ∧ SqT K H l (f.1.map V.int)
theorem SpecAt.same {H H' : Hp} {t : Addr} {f : List Int × Nat × Int} (e : Same H H') (h : SpecAt K H t f) : SpecAt K H' t f := by
  obtain ⟨l, a, b⟩ := h
  exact ⟨l, sameT e a, sameT e b⟩

end K05
namespace K05
open PySem PySem.Spec PyProof.Rows L2 Sp
variable {P : Program} {w : World} {K : PySem.W.Frag} {mg : Str → Option Value} {base : Heap}
/-! ### parts_of, joined, never_above -/
def sp_parts_of (K : PySem.W.Frag) : L2.Sp := fun vs H Q _ => on1 vs fun x =>
  (∃ a f, x = .ref a ∧ FormAt K H a f ∧ ∀ t, SpecAt K H t f → Q (.ref t) H) ∨ (∃ v : Int, x = .int v ∧ ∀ t H', Same H H' → SpecAt K H' t ([v], 1, 0) → Q (.ref t) H')
abbrev N_parts_of : List Str := ["value"]
theorem sc_parts_of : FnScope N_parts_of ["value"] (defScope s_parts_of) := ⟨rfl, rfl, rfl, by decide +kernel, rfl, by decide +kernel, by decide +kernel⟩
def t_parts_of (K : PySem.W.Frag) : TS :=
    tSeq (tIfS (fT (tCB (fIsi K) (tCons (fV 0) (tCons (tC (.ref (He.ga K "Form"))) tNil))))
    (tRet (tFld K (fV 0) "spec")) tNext)
    (tSeq (tIfS (tNot (fT (tCall (sp_is_integer K) [] E0 (tCons (fV 0) tNil))))
    tNever tNext)
    (tRet (tTup (tCons (tTup (tCons (fV 0) tNil)) (tCons (tC (.int 1)) (tCons (tC (.int 0)) tNil))))))
abbrev Pure_parts_of (K : PySem.W.Frag) : Prop := ∀ (vs : List V) (H : Hp) (Q : VK) (E : XK), sp_parts_of K vs H Q E → t_parts_of K { nx := fun _ H' => Q .non H', rt := Q } (L2.start N_parts_of vs) H
theorem pure_parts_of (T : Tx K mg) : Pure_parts_of K := by
  intro vs H Q E h
  obtain ⟨x, rfl, h⟩ := on1_ex h
  rcases h with ⟨a, f, rfl, ⟨dx, t, l, ha, ht, hl⟩, hQ⟩ | ⟨v, rfl, hQ⟩
  · refine ⟨_, _, true, .own _, T.I_Form.ty T.cl_Form ha, kit_self, ?_⟩
    refine ⟨a, _, dx, _, _, rfl, ha, T.cl_Form, T.no_Form_spec, rfl, ?_⟩
    exact hQ t ⟨l, SqT.of ht, hl⟩
  · refine ⟨_, _, false, .own _, .base (.int v), T.O_Form.isi "int" (by simp), ?_⟩
    refine ⟨by show 1 ≤ sizeLine; decide, fun l hl => ⟨by show 3 ≤ sizeLine; decide, fun t ht => ?_⟩⟩
    exact hQ t _ ((Same.upd hl).trans (Same.upd ht)) ⟨l, SqT.of upd_same, SqT.of (Same.upd ht _ _ upd_same)⟩
theorem b_parts_of (T : Tx K mg) : Binds K (fdA K (He.fAd K d_parts_of.at_)) ["value"] [] := T.F_parts_of.bindsN fun _ _ _ _ _ _ us hl => match us, hl with | [_], _ => rfl
theorem ok_parts_of (T : Tx K mg) : FnOk P w K mg base CX0 2 (He.fAd K d_parts_of.at_) (fdA K (He.fAd K d_parts_of.at_)) ["value"] (sp_parts_of K) :=
  T.F_parts_of.ok sc_parts_of (fun _ _ _ _ h => on1_len h) (fun cdv A outer s H vs Q E hr h => ⟨t_parts_of K, PSs.nox ((pss_cons (ps_if (t_val (pe_callB c_isi (by rfl) T.b_isinstance boot_isinstance (pa_cons (vv 0) (pa_cons (pe_glob (by rfl) T.g_Form rfl) pa_nil))))
      (pss_one (ps_ret (pe_fld (vv 0) rfl))) pss_nil)
      (pss_cons (ps_if (pt_not (t_val (pe_call (ok_is_integer T) (hr.mono (by decide)) (by rfl) T.g_is_integer T.F_is_integer.kp (b_is_integer T) .nil pass0 (pa_cons (vv 0) pa_nil))))
      (pss_one ps_never) pss_nil)
      (pss_one (ps_ret (pe_tup (pa_cons (pe_tup (pa_cons (vv 0) pa_nil)) (pa_cons pe_int (pa_cons pe_int pa_nil))))))))), pure_parts_of T vs H Q E h⟩)
/-- what two specs have -/
structure Two (P1 L1 B1 P2 L2 B2 : Nat) : Prop where
  pp : P1 * P2 ≤ 2500
  p1 : P1 ≤ 2500
  p2 : P2 ≤ 2500
  ll : L1 + L2 ≤ 1500
  b1 : B1 ≤ 10 ^ 50
  b2 : B2 ≤ 10 ^ 50
theorem lcm_le {p q P1 P2 : Nat} (hp : p ≤ P1) (hq : q ≤ P2) (h1 : 1 ≤ p) (h2 : 1 ≤ q) : 1 ≤ Nat.lcm p q ∧ Nat.lcm p q ≤ P1 * P2 ∧ p ∣ Nat.lcm p q ∧ q ∣ Nat.lcm p q ∧ p ≤ Nat.lcm p q ∧ q ≤ Nat.lcm p q := by
  have a := Nat.dvd_lcm_left p q
  have b := Nat.dvd_lcm_right p q
  have c : 0 < Nat.lcm p q := Nat.lcm_pos h1 h2
  refine ⟨c, ?_, a, b, Nat.le_of_dvd c a, Nat.le_of_dvd c b⟩
  have d : Nat.lcm p q ≤ p * q := by
    unfold Nat.lcm
    exact Nat.div_le_self _ _
  exact Nat.le_trans d (Nat.mul_le_mul hp hq)
/-- how far both are looked at -/
def manyOf (f g : List Int × Nat × Int) : Nat := max (f.1.length - f.2.1) (g.1.length - g.2.1) + Nat.lcm f.2.1 g.2.1
def sp_joined (K : PySem.W.Frag) : L2.Sp := fun vs H Q _ => on2 vs fun x y => onRef x fun t => onRef y fun u => ∃ f g F G P1 L1 B1 P2 L2 B2, SpecAt K H t f ∧ SpecAt K H u g ∧ FOk P1 L1 B1 F f ∧ FOk P2 L2 B2 G g ∧ Two P1 L1 B1 P2 L2 B2 ∧
  ∀ (r a b : Addr) (H' : Hp), Same H H' → H' r = some (.tup [.ref a, .ref b, .int (Nat.lcm f.2.1 g.2.1 : Nat)]) → H' a = some (.lst (((List.range (manyOf f g)).map F).map V.int)) → H' b = some (.lst (((List.range (manyOf f g)).map G).map V.int)) → Q (.ref r) H'
abbrev N_joined : List Str := ["one", "other", "period", "many", "firsts", "n"]
theorem sc_joined : FnScope N_joined ["one", "other"] (defScope s_joined) := ⟨rfl, rfl, rfl, by decide +kernel, rfl, by decide +kernel, by decide +kernel⟩
def t_joined (K : PySem.W.Frag) : TS :=
    tSeq (tAsg (tCall (sp_common_multiple K) [] E0 (tCons (tOp (fIxT K) (fV 0) (tC (.int 1))) (tCons (tOp (fIxT K) (fV 1) (tC (.int 1))) tNil))) (gName 2))
    (tSeq (tAsg (tOp fAdd (tCB fMax2 (tCons (tOp fSub (tCB (fLen K) (tCons (tOp (fIxT K) (fV 0) (tC (.int 0))) tNil)) (tOp (fIxT K) (fV 0) (tC (.int 1)))) (tCons (tCB fInt1 (tCons (tOp fSub (tCB (fLen K) (tCons (tOp (fIxT K) (fV 1) (tC (.int 0))) tNil)) (tOp (fIxT K) (fV 1) (tC (.int 1)))) tNil)) tNil))) (fV 2)) (gName 3))
    (tSeq (tAsg (tLc (iRng1 (tCons (fV 3) tNil)) (gName 5) tYes (tCall (sp_value_at K) [] E0 (tCons (tOp (fIxT K) (fV 0) (tC (.int 0))) (tCons (tOp (fIxT K) (fV 0) (tC (.int 1))) (tCons (tOp (fIxT K) (fV 0) (tC (.int 2))) (tCons (fV 5) tNil))))) [5]) (gName 4))
    (tRet (tTup (tCons (fV 4) (tCons (tLc (iRng1 (tCons (fV 3) tNil)) (gName 5) tYes (tCall (sp_value_at K) [] E0 (tCons (tOp (fIxT K) (fV 1) (tC (.int 0))) (tCons (tOp (fIxT K) (fV 1) (tC (.int 1))) (tCons (tOp (fIxT K) (fV 1) (tC (.int 2))) (tCons (fV 5) tNil))))) [5]) (tCons (fV 2) tNil)))))))
abbrev Pure_joined (K : PySem.W.Frag) : Prop := ∀ (vs : List V) (H : Hp) (Q : VK) (E : XK), sp_joined K vs H Q E → t_joined K { nx := fun _ H' => Q .non H', rt := Q } (L2.start N_joined vs) H
theorem map_ints' {F : Nat → Int} {n : Nat} : (List.range n).map (fun i => V.int (F i)) = ((List.range n).map F).map V.int := by rw [List.map_map]; rfl
theorem pure_joined (T : Tx K mg) : Pure_joined K := by
  intro vs H Q E h
  obtain ⟨x, y, rfl, h⟩ := on2_ex h
  obtain ⟨t, rfl, h⟩ := onRef_ex h
  obtain ⟨u, rfl, f, g, F, G, P1, L1, B1, P2, L2, B2, hf, hg, fo, go, two, hQ⟩ := onRef_ex h
  obtain ⟨lf, ht, hlf⟩ := id hf
  obtain ⟨lg, hu, hlg⟩ := id hg
  obtain ⟨l1, l2, _⟩ := lcm_le fo.per go.per fo.can.p1 go.can.p1
  have pp := two.pp
  have p1 := two.p1
  have p2 := two.p2
  have ll := two.ll
  have fp := fo.per
  have gp := go.per
  have fl := fo.len
  have gl := go.len
  have fpl := fo.can.pl
  have gpl := go.can.pl
  refine ⟨_, ht, _, rfl, _, hu, _, rfl, f.2.1, g.2.1, rfl, rfl, fo.can.p1, go.can.p1, by omega, by omega, ?_⟩
  refine ⟨_, ht, _, rfl, _, .inr hlf, _, ht, _, rfl, _, hu, _, rfl, _, .inr hlg, _, hu, _, rfl, ?_⟩
  rw [List.length_map, List.length_map]
  have em : (if (g.1.length : Int) - (g.2.1 : Int) > (f.1.length : Int) - (f.2.1 : Int) then (g.1.length : Int) - (g.2.1 : Int) else (f.1.length : Int) - (f.2.1 : Int)) + ((Nat.lcm f.2.1 g.2.1 : Nat) : Int) = ((manyOf f g : Nat) : Int) := by
    unfold manyOf
    split <;> omega
  have hm : manyOf f g ≤ 5000 := by
    unfold manyOf
    omega
  have askf := fo.ask (by omega) (by have := two.b1; omega)
  have askg := go.ask (by omega) (by have := two.b2; omega)
  refine ⟨_, rfl, ?_⟩
  rw [em]
  generalize manyOf f g = m at *
  refine ⟨by omega, by omega, fun D hD => ?_⟩
  have big : ∀ k, k < 5000 → k < 2 ^ 1000 := fun k hk => Nat.lt_of_lt_of_le hk (Nat.le_trans (by decide : 5000 ≤ 2 ^ 13) (Nat.pow_le_pow_right (by decide) (by decide)))
  refine lc_rangeF (fun k => .int (F k)) hD (by omega) (fun i H1 hi e1 R hR => ?_) (fun H1 e1 hD1 => ?_)
  · refine ⟨rfl, _, sameT e1 ht, _, rfl, _, sameT e1 ht, _, rfl, _, sameT e1 ht, _, rfl, ?_⟩
    refine ⟨f.1, f.2.1, i, .inr (sameT e1 hlf), rfl, by omega, askf, big i (by omega), fun H' e2 => ?_⟩
    rw [fo.can.val i]
    exact hR H' e2
  rw [Int.toNat_natCast, map_ints'] at hD1
  refine ⟨_, rfl, by omega, by omega, fun D2 hD2 => ?_⟩
  refine lc_rangeF (fun k => .int (G k)) hD2 (by omega) (fun i H2 hi e2 R hR => ?_) (fun H2 e2 hD2' => ?_)
  · have e12 := e1.trans e2
    refine ⟨rfl, _, sameT e12 hu, _, rfl, _, sameT e12 hu, _, rfl, _, sameT e12 hu, _, rfl, ?_⟩
    refine ⟨g.1, g.2.1, i, .inr (sameT e12 hlg), rfl, by omega, askg, big i (by omega), fun H' e3 => ?_⟩
    rw [go.can.val i]
    exact hR H' e3
  rw [em, Int.toNat_natCast, map_ints'] at hD2'
  refine ⟨by show 3 ≤ sizeLine; decide, fun r hr => ?_⟩
  exact hQ r D D2 _ ((e1.trans e2).trans (Same.upd hr)) upd_same (((e2.trans (Same.upd hr))) _ _ hD1) (Same.upd hr _ _ hD2')
theorem b_joined (T : Tx K mg) : Binds K (fdA K (He.fAd K d_joined.at_)) ["one", "other"] [] := T.F_joined.bindsN fun _ _ _ _ _ _ us hl => match us, hl with | [_, _], _ => rfl
theorem ok_joined (T : Tx K mg) : FnOk P w K mg base CX0 2 (He.fAd K d_joined.at_) (fdA K (He.fAd K d_joined.at_)) ["one", "other"] (sp_joined K) :=
  T.F_joined.ok sc_joined (fun _ _ _ _ h => on2_len h) (fun cdv A outer s H vs Q E hr h => ⟨t_joined K, PSs.nox ((pss_cons (ps_set (i := 2) sc_joined.nd rfl (.inl rfl) (pe_call (ok_common_multiple T) (hr.mono (by decide)) (by rfl) T.g_common_multiple T.F_common_multiple.kp (b_common_multiple T) .nil pass0 (pa_cons (pe_ix x_tup (vv 0) pe_int (fun _ _ => rfl)) (pa_cons (pe_ix x_tup (vv 1) pe_int (fun _ _ => rfl)) pa_nil))))
      (pss_cons (ps_set (i := 3) sc_joined.nd rfl (.inl rfl) (pe_op o_add (pe_callB (c_max2 rfl) (by rfl) T.b_max boot_max (pa_cons (pe_op o_sub (pe_callB c_len (by rfl) T.b_len boot_len (pa_cons (pe_ix x_tup (vv 0) pe_int (fun _ _ => rfl)) pa_nil)) (pe_ix x_tup (vv 0) pe_int (fun _ _ => rfl))) (pa_cons (pe_callTy c_int1 (by rfl) T.b_int boot_int (pa_cons (pe_op o_sub (pe_callB c_len (by rfl) T.b_len boot_len (pa_cons (pe_ix x_tup (vv 1) pe_int (fun _ _ => rfl)) pa_nil)) (pe_ix x_tup (vv 1) pe_int (fun _ _ => rfl))) pa_nil)) pa_nil))) (vv 2)))
      (pss_cons (ps_setLc (i := 4) (own := [("n", 5)]) (g := gName 5) (by rfl) sc_joined.nd rfl rfl (sw_true rfl rfl rfl (by decide +kernel)) (pi_range1 (by rfl) T.b_range (pa_cons (vv 3) pa_nil)) (blkOk_by (own := [("n", 5)]) (N := N_joined) (sc := defScope s_joined) (by decide +kernel)) (fun _ _ _ _ _ => (pg_name (i := 5) sc_joined.nd rfl (.inl rfl))) (fun _ _ _ _ _ => pts_nil) (fun _ _ _ _ _ => (pe_call (ok_value_at T) (hr.mono (by decide)) (by rfl) T.g_value_at T.F_value_at.kp (b_value_at T) .nil pass0 (pa_cons (pe_ix x_tup (vv 0) pe_int (fun _ _ => rfl)) (pa_cons (pe_ix x_tup (vv 0) pe_int (fun _ _ => rfl)) (pa_cons (pe_ix x_tup (vv 0) pe_int (fun _ _ => rfl)) (pa_cons (vv 5) pa_nil)))))))
      (pss_one (ps_ret (pe_tup (pa_cons (vv 4) (pa_cons (pe_lc (own := [("n", 5)]) (g := gName 5) (by rfl) sc_joined.nd (pi_range1 (by rfl) T.b_range (pa_cons (vv 3) pa_nil)) (blkOk_by (own := [("n", 5)]) (N := N_joined) (sc := defScope s_joined) (by decide +kernel)) (fun _ _ _ _ _ => (pg_name (i := 5) sc_joined.nd rfl (.inl rfl))) (fun _ _ _ _ _ => pts_nil) (fun _ _ _ _ _ => (pe_call (ok_value_at T) (hr.mono (by decide)) (by rfl) T.g_value_at T.F_value_at.kp (b_value_at T) .nil pass0 (pa_cons (pe_ix x_tup (vv 1) pe_int (fun _ _ => rfl)) (pa_cons (pe_ix x_tup (vv 1) pe_int (fun _ _ => rfl)) (pa_cons (pe_ix x_tup (vv 1) pe_int (fun _ _ => rfl)) (pa_cons (vv 5) pa_nil))))))) (pa_cons (vv 2) pa_nil)))))))))), pure_joined T vs H Q E h⟩)
def sp_never_above (K : PySem.W.Frag) : L2.Sp := fun vs H Q _ => on2 vs fun x y => onRef x fun t => onRef y fun u => ∃ f g F G P1 L1 B1 P2 L2 B2, SpecAt K H t f ∧ SpecAt K H u g ∧ FOk P1 L1 B1 F f ∧ FOk P2 L2 B2 G g ∧ Two P1 L1 B1 P2 L2 B2 ∧
  ∀ (b : Bool) (H' : Hp), Same H H' → (b = true ↔ ∀ n, F n ≤ G n) → Q (.bl b) H'
abbrev N_never_above : List Str := ["one", "other", "firsts", "others", "period", "low", "high"]
theorem sc_never_above : FnScope N_never_above ["one", "other"] (defScope s_never_above) := ⟨rfl, rfl, rfl, by decide +kernel, rfl, by decide +kernel, by decide +kernel⟩
def t_never_above (K : PySem.W.Frag) : TS :=
    tSeq (tAsg (tCall (sp_joined K) [] E0 (tCons (fV 0) (tCons (fV 1) tNil))) (gTup K 3 (gCons (gName 2) (gCons (gName 3) (gCons (gName 4) gNil)))))
    (tSeq (tIfS (tNot (fT (tCB (fAll K) (tCons (tLc (iZip K (tCons (fV 2) (tCons (fV 3) tNil))) (gTup K 2 (gCons (gName 5) (gCons (gName 6) gNil))) tYes (tOp fLe (fV 5) (fV 6)) [5, 6]) tNil))))
    (tRet (tC (.bl false))) tNext)
    (tRet (tOp fLe (tOp fMulW (tOp (fIxT K) (fV 0) (tC (.int 2))) (tOp fDiv (fV 4) (tOp (fIxT K) (fV 0) (tC (.int 1))))) (tOp fMulW (tOp (fIxT K) (fV 1) (tC (.int 2))) (tOp fDiv (fV 4) (tOp (fIxT K) (fV 1) (tC (.int 1))))))))
abbrev Pure_never_above (K : PySem.W.Frag) : Prop := ∀ (vs : List V) (H : Hp) (Q : VK) (E : XK), sp_never_above K vs H Q E → t_never_above K { nx := fun _ H' => Q .non H', rt := Q } (L2.start N_never_above vs) H
theorem zip_all {F G : Nat → Int} {m : Nat} : List.zipWith (fun x y => match x, y with | V.int i, V.int j => V.bl (decide (i ≤ j)) | _, _ => V.bl false) (((List.range m).map F).map V.int) (((List.range m).map G).map V.int) = ((List.range m).map fun n => decide (F n ≤ G n)).map V.bl := by
  refine List.ext_getElem? fun i => ?_
  rw [List.getElem?_zipWith]
  simp only [List.getElem?_map]
  by_cases hi : i < m
  · rw [List.getElem?_range hi]
    rfl
  · rw [List.getElem?_eq_none (by rw [List.length_range]; omega)]
    rfl
theorem sm_of {z : Int} (h : z.natAbs ≤ 10 ^ 60) : Sm z := big_sm h
theorem pure_never_above (T : Tx K mg) : Pure_never_above K := by
  intro vs H Q E h
  obtain ⟨x, y, rfl, h⟩ := on2_ex h
  obtain ⟨t, rfl, h⟩ := onRef_ex h
  obtain ⟨u, rfl, f, g, F, G, P1, L1, B1, P2, L2, B2, hf, hg, fo, go, two, hQ⟩ := onRef_ex h
  obtain ⟨l1, l2, d1, d2, le1, le2⟩ := lcm_le fo.per go.per fo.can.p1 go.can.p1
  have pp := two.pp
  have fp1 := fo.can.p1
  have gp1 := go.can.p1
  have fpl := fo.can.pl
  have gpl := go.can.pl
  refine ⟨f, g, F, G, P1, L1, B1, P2, L2, B2, hf, hg, fo, go, two, fun r a b H1 e1 hr ha hb => ?_⟩
  refine ⟨r, _, rfl, SqT.of hr, rfl, _, _, rfl, _, _, rfl, _, _, rfl, rfl, ?_⟩
  refine ⟨a, b, _, _, rfl, SqL.of ha, SqL.of hb, fun D hD => ?_⟩
  have hm : manyOf f g ≤ 5000 := by
    have := two.ll
    have := fo.len
    have := go.len
    unfold manyOf
    omega
  have und := under_iff (F := F) (G := G) (a := max (f.1.length - f.2.1) (g.1.length - g.2.1)) (L := Nat.lcm f.2.1 g.2.1) (m := manyOf f g) l1 (Nat.le_refl _) (fun n hn => fo.can.over d1 (by omega)) (fun n hn => go.can.over d2 (by omega))
  refine lc_zipF (fun x y => match x, y with | V.int i, V.int j => V.bl (decide (i ≤ j)) | _, _ => V.bl false) hD (by simp) (by simp; omega) (SqL.of ha) (SqL.of hb) (fun i x y T' H2 hx hy e2 hT R hR => ?_) (fun H2 e2 hD2 => ?_)
  · obtain ⟨i1, rfl⟩ : ∃ z, x = .int z := by
      obtain ⟨z, _, rfl⟩ := List.mem_map.mp (List.mem_of_getElem? hx)
      exact ⟨z, rfl⟩
    obtain ⟨i2, rfl⟩ : ∃ z, y = .int z := by
      obtain ⟨z, _, rfl⟩ := List.mem_map.mp (List.mem_of_getElem? hy)
      exact ⟨z, rfl⟩
    exact ⟨_, _, rfl, SqT.of upd_same, rfl, _, _, rfl, _, _, rfl, rfl, rfl, hR _ (Same.refl _)⟩
  rw [zip_all] at hD2
  refine ⟨_, SqL.of hD2, ?_⟩
  have hall : (((List.range (manyOf f g)).map fun n => decide (F n ≤ G n)).all id = true) ↔ ∀ n, n < manyOf f g → F n ≤ G n := by
    rw [List.all_map]
    simp
  have e12 := e1.trans e2
  obtain ⟨lf, ht, hlf⟩ := hf.same e12
  obtain ⟨lg, hu, hlg⟩ := hg.same e12
  refine ite2 (fun hz => ?_) (fun hz => ?_)
  · refine hQ false H2 e12 ⟨fun z => Bool.noConfusion z, fun hall2 => ?_⟩
    have := hall.mpr fun n _ => hall2 n
    rw [this] at hz
    exact absurd hz (by decide)
  · have hall2 := hall.mp (by
      cases q : (((List.range (manyOf f g)).map fun n => decide (F n ≤ G n)).all id) with
      | true => rfl
      | false => rw [q] at hz; exact absurd rfl hz)
    refine ⟨_, ht, _, rfl, _, ht, _, rfl, wide_div (b := 13) (by omega) (by have := two.p1; have := fo.per; omega) (by decide) (by decide), ?_⟩
    have c1 : (Nat.lcm f.2.1 g.2.1) / f.2.1 ≤ 2500 := Nat.le_trans (Nat.div_le_self _ _) (by omega)
    have c2 : (Nat.lcm f.2.1 g.2.1) / g.2.1 ≤ 2500 := Nat.le_trans (Nat.div_le_self _ _) (by omega)
    show CMulW f.2.2 ((Nat.lcm f.2.1 g.2.1 / f.2.1 : Nat) : Int) ∧ _
    refine ⟨Sm.mulW (sm_of (by have := fo.step; have := two.b1; omega)) (sm_of (by rw [Int.natAbs_natCast]; exact Nat.le_trans c1 (by decide))), ?_⟩
    refine ⟨_, hu, _, rfl, _, hu, _, rfl, wide_div (b := 13) (by omega) (by have := two.p2; have := go.per; omega) (by decide) (by decide), ?_⟩
    show CMulW g.2.2 ((Nat.lcm f.2.1 g.2.1 / g.2.1 : Nat) : Int) ∧ _
    refine ⟨Sm.mulW (sm_of (by have := go.step; have := two.b2; omega)) (sm_of (by rw [Int.natAbs_natCast]; exact Nat.le_trans c2 (by decide))), ?_⟩
    refine hQ (decide (f.2.2 * ((Nat.lcm f.2.1 g.2.1 / f.2.1 : Nat) : Int) ≤ g.2.2 * ((Nat.lcm f.2.1 g.2.1 / g.2.1 : Nat) : Int))) H2 e12 ⟨fun z => und.mp ⟨hall2, of_decide_eq_true z⟩, fun z => decide_eq_true (und.mpr z).2⟩
theorem b_never_above (T : Tx K mg) : Binds K (fdA K (He.fAd K d_never_above.at_)) ["one", "other"] [] := T.F_never_above.bindsN fun _ _ _ _ _ _ us hl => match us, hl with | [_, _], _ => rfl
theorem ok_never_above (T : Tx K mg) : FnOk P w K mg base CX0 3 (He.fAd K d_never_above.at_) (fdA K (He.fAd K d_never_above.at_)) ["one", "other"] (sp_never_above K) :=
  T.F_never_above.ok sc_never_above (fun _ _ _ _ h => on2_len h) (fun cdv A outer s H vs Q E hr h => ⟨t_never_above K, PSs.nox ((pss_cons (ps_asg (pe_call (ok_joined T) (hr.mono (by decide)) (by rfl) T.g_joined T.F_joined.kp (b_joined T) .nil pass0 (pa_cons (vv 0) (pa_cons (vv 1) pa_nil))) (pg_tup rfl (pgs_cons (pg_name (i := 2) sc_never_above.nd rfl (.inl rfl)) (pgs_cons (pg_name (i := 3) sc_never_above.nd rfl (.inl rfl)) (pgs_cons (pg_name (i := 4) sc_never_above.nd rfl (.inl rfl)) pgs_nil)))))
      (pss_cons (ps_if (pt_not (t_val (pe_callB (c_all rfl) (by rfl) T.b_all boot_all (pa_cons (pe_lc (own := [("low", 5), ("high", 6)]) (g := gTup K 2 (gCons (gName 5) (gCons (gName 6) gNil))) (by rfl) sc_never_above.nd (pi_zip (by rfl) T.b_zip (pa_cons (vv 2) (pa_cons (vv 3) pa_nil))) (blkOk_by (own := [("low", 5), ("high", 6)]) (N := N_never_above) (sc := defScope s_never_above) (by decide +kernel)) (fun _ _ _ _ _ => (pg_tup rfl (pgs_cons (pg_name (i := 5) sc_never_above.nd rfl (.inl rfl)) (pgs_cons (pg_name (i := 6) sc_never_above.nd rfl (.inl rfl)) pgs_nil)))) (fun _ _ _ _ _ => pts_nil) (fun _ _ _ _ _ => (pe_cmpR o_le (vv 5) (vv 6) (nomark _)))) pa_nil))))
      (pss_one (ps_ret pe_bl)) pss_nil)
      (pss_one (ps_ret (pe_cmpR o_le (pe_op o_mulW (pe_ix x_tup (vv 0) pe_int (fun _ _ => rfl)) (pe_op o_div (vv 4) (pe_ix x_tup (vv 0) pe_int (fun _ _ => rfl)))) (pe_op o_mulW (pe_ix x_tup (vv 1) pe_int (fun _ _ => rfl)) (pe_op o_div (vv 4) (pe_ix x_tup (vv 1) pe_int (fun _ _ => rfl)))) (nomark _))))))), pure_never_above T vs H Q E h⟩)
def sp_form_of (K : PySem.W.Frag) : L2.Sp := fun vs H Q _ => on3 vs fun v p s => onRef v fun a => onInt p fun p => onInt s fun s => ∃ (ns : List Int) (P : Nat), SqS K H a (ns.map V.int) ∧ p = P ∧ Ask ns P s ∧ Sm (leastP ns P s).2 ∧
  ∀ x H', Same H H' → FormAt K H' x (formOf ns P s) → Q (.ref x) H'
abbrev N_form_of : List Str := ["values", "period", "step", "shorter", "rise", "listed"]
theorem sc_form_of : FnScope N_form_of ["values", "period", "step"] (defScope s_form_of) := ⟨rfl, rfl, rfl, by decide +kernel, rfl, by decide +kernel, by decide +kernel⟩
def t_form_of (K : PySem.W.Frag) : TS :=
    tSeq (tAsg (tCall (sp_least_period K) [] E0 (tCons (fV 0) (tCons (fV 1) (tCons (fV 2) tNil)))) (gTup K 2 (gCons (gName 3) (gCons (gName 4) gNil))))
    (tSeq (tAsg (tCall (sp_least_listed K) [] E0 (tCons (fV 0) (tCons (fV 3) (tCons (fV 4) tNil)))) (gName 5))
    (tSeq (tIfS (fT (tOp fGt (tCB (fLen K) (tCons (fV 5) tNil)) (tC (.int 5000))))
    tNever tNext)
    (tRet (tMake (He.ga K "Form") (sp_Form_init K) dv_Form_3 E0 (tCons (fV 5) (tCons (fV 3) (tCons (fV 4) tNil)))))))
abbrev Pure_form_of (K : PySem.W.Frag) : Prop := ∀ (vs : List V) (H : Hp) (Q : VK) (E : XK), sp_form_of K vs H Q E → t_form_of K { nx := fun _ H' => Q .non H', rt := Q } (L2.start N_form_of vs) H
theorem form_form {ns : List Int} {p : Nat} {s : Int} (h1 : 1 ≤ p) (hp : p ≤ ns.length) : formOf (formOf ns p s).1 (formOf ns p s).2.1 (formOf ns p s).2.2 = formOf ns p s := by
  have a := canon_of (s := s) h1 hp
  have b := canon_of (s := (formOf ns p s).2.2) a.p1 a.pl
  have e : valueAt (formOf ns p s).1 (formOf ns p s).2.1 (formOf ns p s).2.2 = valueAt ns p s := funext a.val
  rw [e] at b
  exact b.one a
theorem pure_form_of (T : Tx K mg) : Pure_form_of K := by
  intro vs H Q E h
  obtain ⟨x1, x2, x3, rfl, h⟩ := on3_ex h
  obtain ⟨a, rfl, h⟩ := onRef_ex h
  obtain ⟨p, rfl, h⟩ := onInt_ex h
  obtain ⟨s, rfl, ns, P, hS, rfl, A, hsm, hQ⟩ := onInt_ex h
  obtain ⟨hp1, hpl, hl, hs⟩ := id A
  have hq := leastP_le (ns := ns) (s := s) hp1
  have can := canon_of (s := s) hp1 hpl
  refine ⟨ns, P, hS, rfl, A, fun t H1 e1 _ ht => ?_⟩
  refine ⟨t, _, rfl, SqT.of ht, rfl, _, _, rfl, _, _, rfl, rfl, ?_⟩
  refine ⟨ns, (leastP ns P s).1, sameS e1 hS, rfl, ⟨hq.1, by omega, hl, hsm⟩, fun l H2 e2 hl2 => ?_⟩
  have hll : (leastL ns (leastP ns P s).1 (leastP ns P s).2).length ≤ 5000 := by
    unfold leastL
    rw [List.length_take]
    omega
  refine ⟨_, .inr hl2, ?_⟩
  rw [List.length_map]
  refine ite2 (fun hz => absurd (of_decide_eq_true hz) (by omega)) (fun _ => ?_)
  intro x dx hx hdx hne
  have hfx := form_form (s := s) hp1 hpl
  have hlst : Sm (leastP (formOf ns P s).1 (formOf ns P s).2.1 (formOf ns P s).2.2).2 := by
    have := congrArg (fun z => z.2.2) hfx
    have e3 : (leastP (formOf ns P s).1 (formOf ns P s).2.1 (formOf ns P s).2.2).2 = (formOf ns P s).2.2 := this
    rw [e3]
    exact hsm
  refine ⟨(formOf ns P s).1, (formOf ns P s).2.1, dx, upd_same, ?_, rfl, ⟨can.p1, can.pl, hll, hsm⟩, hlst, fun H3 hk3 hf3 => ⟨rfl, ?_⟩⟩
  · exact sameT ((Same.upd hdx).trans (Same.upd (show (upd H2 dx (HO.own x)) x = none by rw [upd_ne (Ne.symm hne)]; exact hx))) hl2
  · have e3 : Same H2 H3 := fun b o hb => hk3 b o (ne_of_none hb hx) (by rw [upd_ne (ne_of_none hb hx), upd_ne (ne_of_none hb hdx)]; exact hb)
    have hf4 : FormAt K H3 x (formOf (formOf ns P s).1 (formOf ns P s).2.1 (formOf ns P s).2.2) := hf3
    rw [hfx] at hf4
    exact hQ x H3 ((e1.trans e2).trans e3) hf4
theorem b_form_of (T : Tx K mg) : Binds K (fdA K (He.fAd K d_form_of.at_)) ["values", "period", "step"] [] := T.F_form_of.bindsN fun _ _ _ _ _ _ us hl => match us, hl with | [_, _, _], _ => rfl
theorem ok_form_of (T : Tx K mg) : FnOk P w K mg base CX0 5 (He.fAd K d_form_of.at_) (fdA K (He.fAd K d_form_of.at_)) ["values", "period", "step"] (sp_form_of K) :=
  T.F_form_of.ok sc_form_of (fun _ _ _ _ h => on3_len h) (fun cdv A outer s H vs Q E hr h => ⟨t_form_of K, PSs.nox ((pss_cons (ps_asg (pe_call (ok_least_period T) (hr.mono (by decide)) (by rfl) T.g_least_period T.F_least_period.kp (b_least_period T) .nil pass0 (pa_cons (vv 0) (pa_cons (vv 1) (pa_cons (vv 2) pa_nil)))) (pg_tup rfl (pgs_cons (pg_name (i := 3) sc_form_of.nd rfl (.inl rfl)) (pgs_cons (pg_name (i := 4) sc_form_of.nd rfl (.inl rfl)) pgs_nil))))
      (pss_cons (ps_set (i := 5) sc_form_of.nd rfl (.inl rfl) (pe_call (ok_least_listed T) (hr.mono (by decide)) (by rfl) T.g_least_listed T.F_least_listed.kp (b_least_listed T) .nil pass0 (pa_cons (vv 0) (pa_cons (vv 3) (pa_cons (vv 4) pa_nil)))))
      (pss_cons (ps_if (t_cmp o_gt (pe_callB c_len (by rfl) T.b_len boot_len (pa_cons (vv 5) pa_nil)) (pe_glob (by rfl) (T.i_MOST_FORM).choose_spec ⟨_, rfl⟩) (nomark _))
      (pss_one ps_never) pss_nil)
      (pss_one (ps_ret (pe_make T.mk_Form (ok_Form_init T) (hr.mono (by decide)) (by rfl) T.g_Form (mb_Form_3 T).choose_spec.2 (mb_Form_3 T).choose_spec.1 pass0 (pa_cons (vv 5) (pa_cons (vv 3) (pa_cons (vv 4) pa_nil)))))))))), pure_form_of T vs H Q E h⟩)

end K05
namespace K05
open PySem PySem.Spec PyProof.Rows L2 Sp
variable {P : Program} {w : World} {K : PySem.W.Frag} {mg : Str → Option Value} {base : Heap}
/-! ### least_common_period -/
def NoDiv (l pr : Nat) : Prop := ∀ d, 2 ≤ d → d < pr → l % d ≠ 0
theorem NoDiv.dvd {l l' pr : Nat} (h : NoDiv l pr) (hd : l' ∣ l) : NoDiv l' pr := fun d h2 hl z => h d h2 hl (Nat.mod_eq_zero_of_dvd (Nat.dvd_trans (Nat.dvd_of_mod_eq_zero z) hd))
theorem NoDiv.succ {l pr : Nat} (h : NoDiv l pr) (hn : l % pr ≠ 0) : NoDiv l (pr + 1) := fun d h2 hl => by
  by_cases e : d = pr
  · rw [e]
    exact hn
  · exact h d h2 (by omega)
theorem NoDiv.le {l pr : Nat} (h : NoDiv l pr) (hl : 1 < l) : pr ≤ l := by
  rcases Nat.lt_or_ge l pr with z | z
  · exact absurd (Nat.mod_self l) (h l hl z)
  · exact z
def sp_least_common_period (K : PySem.W.Frag) : L2.Sp := fun vs H Q _ => on2 vs fun x y => onInt x fun x => onInt y fun y => ∃ p q : Nat, x = p ∧ y = q ∧ 1 ≤ p ∧ 1 ≤ q ∧ p ≤ 5000 ∧ q ≤ 5000 ∧ ∀ (r : Nat) (H' : Hp), Same H H' → r ≤ p * q → Q (.int (r : Nat)) H'
abbrev N_least_common_period : List Str := ["one", "other", "left", "right", "found", "prime", "powers"]
theorem sc_least_common_period : FnScope N_least_common_period ["one", "other"] (defScope s_least_common_period) := ⟨rfl, rfl, rfl, by decide +kernel, rfl, by decide +kernel, by decide +kernel⟩
def t_least_common_period (K : PySem.W.Frag) : TS :=
    tSeq (tAsg (tTup (tCons (fV 0) (tCons (fV 1) (tCons (tC (.int 1)) (tCons (tC (.int 2)) tNil))))) (gTup K 4 (gCons (gName 2) (gCons (gName 3) (gCons (gName 4) (gCons (gName 5) gNil))))))
    (tSeq (tWhile (tOr (fT (tOp fGt (fV 2) (tC (.int 1)))) (fT (tOp fGt (fV 3) (tC (.int 1)))))
    (tSeq (tAsg (tLst (tCons (tC (.int 1)) (tCons (tC (.int 1)) tNil))) (gName 6))
    (tSeq (tWhile (fT (tOp fEq (tOp fMod (fV 2) (fV 5)) (tC (.int 0))))
    (tAsg (tTup (tCons (tOp fDiv (fV 2) (fV 5)) (tCons (tOp fMulW (tOp (fIxL K) (fV 6) (tC (.int 0))) (fV 5)) tNil))) (gTup K 2 (gCons (gName 2) (gCons (gSub (fV 6) (tC (.int 0)) fSetL) gNil)))))
    (tSeq (tWhile (fT (tOp fEq (tOp fMod (fV 3) (fV 5)) (tC (.int 0))))
    (tAsg (tTup (tCons (tOp fDiv (fV 3) (fV 5)) (tCons (tOp fMulW (tOp (fIxL K) (fV 6) (tC (.int 1))) (fV 5)) tNil))) (gTup K 2 (gCons (gName 3) (gCons (gSub (fV 6) (tC (.int 1)) fSetL) gNil)))))
    (tSeq (tIfS (fT (tOp fNe (tOp (fIxL K) (fV 6) (tC (.int 0))) (tOp (fIxL K) (fV 6) (tC (.int 1)))))
    (tAsg (tOp fMulW (fV 4) (tCB fMax2 (tCons (tOp (fIxL K) (fV 6) (tC (.int 0))) (tCons (tOp (fIxL K) (fV 6) (tC (.int 1))) tNil)))) (gName 4)) tNext)
    (tAsg (tOp fAdd (fV 5) (tC (.int 1))) (gName 5)))))))
    (tRet (fV 4)))
abbrev Pure_least_common_period (K : PySem.W.Frag) : Prop := ∀ (vs : List V) (H : Hp) (Q : VK) (E : XK), sp_least_common_period K vs H Q E → t_least_common_period K { nx := fun _ H' => Q .non H', rt := Q } (L2.start N_least_common_period vs) H
theorem pure_least_common_period (T : Tx K mg) : Pure_least_common_period K := by
  intro vs H Q E h
  obtain ⟨x1, x2, rfl, h⟩ := on2_ex h
  obtain ⟨x, rfl, h⟩ := onInt_ex h
  obtain ⟨y, rfl, p, q, rfl, rfl, hp, hq, hp5, hq5, hQ⟩ := onInt_ex h
  refine ⟨by show 4 ≤ sizeLine; decide, fun t ht => ⟨t, _, rfl, SqT.of upd_same, rfl, _, _, rfl, _, _, rfl, _, _, rfl, _, _, rfl, rfl, ?_⟩⟩
  refine ⟨fun m σ H1 => Same H H1 ∧ ∃ (l r fd pr : Nat) (o : Option V), 1 ≤ l ∧ 1 ≤ r ∧ 1 ≤ fd ∧ 2 ≤ pr ∧ l ≤ p ∧ r ≤ q ∧ pr ≤ 5001 ∧ fd * (l * r) ≤ p * q ∧ NoDiv l pr ∧ NoDiv r pr ∧ m = max l r + 1 - pr ∧ σ = [some (.int p), some (.int q), some (.int l), some (.int r), some (.int fd), some (.int pr), o],
    ⟨max p q + 1 - 2, Same.upd ht, p, q, 1, 2, none, hp, hq, Nat.le_refl _, Nat.le_refl _, Nat.le_refl _, Nat.le_refl _, by decide, by omega, fun d h2 h3 => by omega, fun d h2 h3 => by omega, rfl, rfl⟩, ?_⟩
  rintro m σ H1 ⟨e1, l, r, fd, pr, o, hl1, hr1, hf1, hpr, hlp, hrq, hpr5, hprod, nl, nr, rfl, rfl⟩
  refine ite2 (fun h1 => ?_) (fun h1 => ite2 (fun h2 => ?_) (fun h2 => ?_))
  case refine_3 =>
    have a1 : ¬ (1 : Int) < (l : Int) := fun z => h1 (decide_eq_true z)
    have a2 : ¬ (1 : Int) < (r : Int) := fun z => h2 (decide_eq_true z)
    obtain rfl : l = 1 := by omega
    obtain rfl : r = 1 := by omega
    refine hQ fd H1 e1 ?_
    simpa using hprod
  all_goals
    have hlr : 1 < l ∨ 1 < r := by
      first
        | (have := of_decide_eq_true h1; omega)
        | (have := of_decide_eq_true h2; omega)
    have hprl : pr ≤ max l r := by
      rcases hlr with z | z
      · have := nl.le z
        omega
      · have := nr.le z
        omega
    refine ⟨fun σ' H' => Same H H' ∧ ∃ (l' r' fd' : Nat) (o' : Option V), 1 ≤ l' ∧ 1 ≤ r' ∧ 1 ≤ fd' ∧ l' ≤ l ∧ r' ≤ r ∧ fd' * (l' * r') ≤ p * q ∧ NoDiv l' (pr + 1) ∧ NoDiv r' (pr + 1) ∧ σ' = [some (.int p), some (.int q), some (.int l'), some (.int r'), some (.int fd'), some (.int ((pr + 1 : Nat) : Int)), o'], fun σ' H' z => ?_, ?_⟩
    · obtain ⟨e2, l', r', fd', o', b1, b2, b3, b4, b5, b6, b7, b8, b9⟩ := z
      exact ⟨max l' r' + 1 - (pr + 1), by omega, e2, l', r', fd', pr + 1, o', b1, b2, b3, by omega, by omega, by omega, by omega, b6, b7, b8, rfl, b9⟩
    refine ⟨by show 2 ≤ sizeLine; decide, fun w' hw => ?_⟩
    have ew := e1.trans (Same.upd (o := .lst [V.int 1, V.int 1]) hw)
    -- the first inner loop
    refine ⟨fun k σ2 H2 => Same H H2 ∧ ∃ (l' a : Nat), l' = k ∧ 1 ≤ l' ∧ 1 ≤ a ∧ l' * a = l ∧ H2 w' = some (.lst [.int a, .int 1]) ∧ H w' = none ∧ σ2 = [some (.int p), some (.int q), some (.int l'), some (.int r), some (.int fd), some (.int pr), some (.ref w')], ⟨l, ew, l, 1, rfl, hl1, Nat.le_refl _, by omega, upd_same, e1.free hw, rfl⟩, ?_⟩
    rintro k σ2 H2 ⟨e2, l', a, rfl, hl', ha, hla, hw2, hwn, rfl⟩
    have hl'l : l' ≤ l := by rw [← hla]; exact Nat.le_mul_of_pos_right _ ha
    have hal : a ≤ l := by rw [← hla]; exact Nat.le_mul_of_pos_left _ hl'
    have hdl : l' ∣ l := ⟨a, hla.symm⟩
    refine ⟨by omega, ite2 (fun hz => ?_) (fun hz => ?_)⟩
    · have hz2 : l' % pr = 0 := by
        have z := of_decide_eq_true hz
        injection z with z
        have z2 : ((l' % pr : Nat) : Int) = 0 := z
        omega
      have hpl' : pr ≤ l' := Nat.le_of_dvd hl' (Nat.dvd_of_mod_eq_zero hz2)
      have hdv : l' / pr * pr = l' := Nat.div_mul_cancel (Nat.dvd_of_mod_eq_zero hz2)
      have hd0 : 1 ≤ l' / pr := Nat.div_pos hpl' (by omega)
      have hdlt : l' / pr < l' := Nat.div_lt_self hl' hpr
      refine ⟨fun σ' H' => Same H H' ∧ H' w' = some (.lst [.int ((a * pr : Nat) : Int), .int 1]) ∧ σ' = [some (.int p), some (.int q), some (.int ((l' / pr : Nat) : Int)), some (.int r), some (.int fd), some (.int pr), some (.ref w')], fun σ' H' z => ⟨l' / pr, hdlt, z.1, l' / pr, a * pr, rfl, hd0, Nat.mul_pos ha (by omega), ?_, z.2.1, hwn, z.2.2⟩, ?_⟩
      · rw [← hla, ← hdv, Nat.mul_div_cancel _ (by omega), Nat.mul_comm a pr, Nat.mul_assoc]
      refine ⟨wide_div (b := 14) (by omega) (by omega) (by decide) (by decide), _, SqL.of hw2, _, rfl, wide_mul (a := 14) (b := 14) (by omega) (by omega) (by decide) (by decide) (by decide), by show 2 ≤ sizeLine; decide, fun t2 ht2 => ?_⟩
      refine ⟨t2, _, rfl, SqT.of upd_same, rfl, _, _, rfl, _, _, rfl, ?_⟩
      have hwt : w' ≠ t2 := ne_of_none hw2 ht2
      refine ⟨_, by rw [upd_ne hwt]; exact hw2, _, rfl, rfl, ?_⟩
      refine ⟨fun b o' hb => ?_, ?_, ?_⟩
      · rw [upd_ne (ne_of_none hb hwn), upd_ne (ne_of_none (e2 _ _ hb) ht2)]
        exact e2 _ _ hb
      · rw [upd_same]
        show some (HO.lst [V.int ((a : Int) * (pr : Int)), V.int 1]) = _
        rw [Int.natCast_mul]
      · rfl
    have hz2 : l' % pr ≠ 0 := fun z => hz (decide_eq_true (by show V.int ((l' % pr : Nat) : Int) = V.int 0; rw [z]; rfl))
    have nl2 := (nl.dvd hdl).succ hz2
    -- the second inner loop
    refine ⟨fun k σ3 H3 => Same H H3 ∧ ∃ (r' b : Nat), r' = k ∧ 1 ≤ r' ∧ 1 ≤ b ∧ r' * b = r ∧ H3 w' = some (.lst [.int a, .int b]) ∧ σ3 = [some (.int p), some (.int q), some (.int l'), some (.int r'), some (.int fd), some (.int pr), some (.ref w')], ⟨r, e2, r, 1, rfl, hr1, Nat.le_refl _, by omega, hw2, rfl⟩, ?_⟩
    rintro k σ3 H3 ⟨e3, r', b, rfl, hr', hb, hrb, hw3, rfl⟩
    have hr'r : r' ≤ r := by rw [← hrb]; exact Nat.le_mul_of_pos_right _ hb
    have hbr : b ≤ r := by rw [← hrb]; exact Nat.le_mul_of_pos_left _ hr'
    have hdr : r' ∣ r := ⟨b, hrb.symm⟩
    refine ⟨by omega, ite2 (fun hz => ?_) (fun hz => ?_)⟩
    · have hz2 : r' % pr = 0 := by
        have z := of_decide_eq_true hz
        injection z with z
        have z2 : ((r' % pr : Nat) : Int) = 0 := z
        omega
      have hpl' : pr ≤ r' := Nat.le_of_dvd hr' (Nat.dvd_of_mod_eq_zero hz2)
      have hdv : r' / pr * pr = r' := Nat.div_mul_cancel (Nat.dvd_of_mod_eq_zero hz2)
      have hd0 : 1 ≤ r' / pr := Nat.div_pos hpl' (by omega)
      have hdlt : r' / pr < r' := Nat.div_lt_self hr' hpr
      refine ⟨fun σ' H' => Same H H' ∧ H' w' = some (.lst [.int a, .int ((b * pr : Nat) : Int)]) ∧ σ' = [some (.int p), some (.int q), some (.int l'), some (.int ((r' / pr : Nat) : Int)), some (.int fd), some (.int pr), some (.ref w')], fun σ' H' z => ⟨r' / pr, hdlt, z.1, r' / pr, b * pr, rfl, hd0, Nat.mul_pos hb (by omega), ?_, z.2.1, z.2.2⟩, ?_⟩
      · rw [← hrb, ← hdv, Nat.mul_div_cancel _ (by omega), Nat.mul_comm b pr, Nat.mul_assoc]
      refine ⟨wide_div (b := 14) (by omega) (by omega) (by decide) (by decide), _, SqL.of hw3, _, rfl, wide_mul (a := 14) (b := 14) (by omega) (by omega) (by decide) (by decide) (by decide), by show 2 ≤ sizeLine; decide, fun t2 ht2 => ?_⟩
      refine ⟨t2, _, rfl, SqT.of upd_same, rfl, _, _, rfl, _, _, rfl, ?_⟩
      have hwt : w' ≠ t2 := ne_of_none hw3 ht2
      refine ⟨_, by rw [upd_ne hwt]; exact hw3, _, rfl, rfl, ?_⟩
      refine ⟨fun b' o' hb' => ?_, ?_, ?_⟩
      · rw [upd_ne (ne_of_none hb' hwn), upd_ne (ne_of_none (e3 _ _ hb') ht2)]
        exact e3 _ _ hb'
      · rw [upd_same]
        show some (HO.lst [V.int a, V.int ((b : Int) * (pr : Int))]) = _
        rw [Int.natCast_mul]
      · rfl
    have hz2' : r' % pr ≠ 0 := fun z => hz (decide_eq_true (by show V.int ((r' % pr : Nat) : Int) = V.int 0; rw [z]; rfl))
    have nr2 := (nr.dvd hdr).succ hz2'
    have fin : ∀ (fd' : Nat) (z : Int), z = (fd' : Int) → 1 ≤ fd' → fd' * (l' * r') ≤ p * q → Same H H3 ∧ ∃ (l2 r2 f2 : Nat) (o' : Option V), 1 ≤ l2 ∧ 1 ≤ r2 ∧ 1 ≤ f2 ∧ l2 ≤ l ∧ r2 ≤ r ∧ f2 * (l2 * r2) ≤ p * q ∧ NoDiv l2 (pr + 1) ∧ NoDiv r2 (pr + 1) ∧ [some (V.int p), some (V.int q), some (V.int l'), some (V.int r'), some (V.int z), some (V.int ((pr : Int) + 1)), some (V.ref w')] = [some (.int p), some (.int q), some (.int l2), some (.int r2), some (.int f2), some (.int ((pr + 1 : Nat) : Int)), o'] := fun fd' z hz h1 h2 => ⟨e3, l', r', fd', some (.ref w'), hl', hr', h1, hl'l, hr'r, h2, nl2, nr2, by rw [hz]; rfl⟩
    have base1 : fd * (l' * r') ≤ p * q := Nat.le_trans (Nat.mul_le_mul_left _ (Nat.mul_le_mul hl'l hr'r)) hprod
    refine ⟨_, SqL.of hw3, _, rfl, _, SqL.of hw3, _, rfl, ite2 (fun hc => ?_) (fun hc => ?_)⟩
    · refine ⟨_, SqL.of hw3, _, rfl, _, SqL.of hw3, _, rfl, ?_⟩
      have em : (if (b : Int) > (a : Int) then (b : Int) else (a : Int)) = ((max a b : Nat) : Int) := by
        split <;> omega
      have hfd : fd ≤ p * q := Nat.le_trans (Nat.le_mul_of_pos_right _ (Nat.mul_pos hl1 hr1)) hprod
      have hpq : p * q ≤ 5000 * 5000 := Nat.mul_le_mul hp5 hq5
      have hmab : max a b ≤ a * b := by
        rcases Nat.le_total a b with z | z
        · rw [Nat.max_eq_right z]
          exact Nat.le_mul_of_pos_left _ ha
        · rw [Nat.max_eq_left z]
          exact Nat.le_mul_of_pos_right _ hb
      show CMulW (fd : Int) (if (b : Int) > (a : Int) then (b : Int) else (a : Int)) ∧ _
      rw [em]
      refine ⟨wide_mul (a := 30) (b := 14) (by omega) (by omega) (by decide) (by decide) (by decide), ?_⟩
      exact fin (fd * max a b) _ (by rw [Int.natCast_mul]) (Nat.mul_pos hf1 (by omega)) (by
        refine Nat.le_trans ?_ hprod
        rw [Nat.mul_assoc]
        refine Nat.mul_le_mul_left _ ?_
        rw [← hla, ← hrb]
        refine Nat.le_trans (Nat.mul_le_mul_right _ hmab) (Nat.le_of_eq ?_)
        ac_rfl)
    · exact fin fd _ rfl hf1 base1
theorem b_least_common_period (T : Tx K mg) : Binds K (fdA K (He.fAd K d_least_common_period.at_)) ["one", "other"] [] := T.F_least_common_period.bindsN fun _ _ _ _ _ _ us hl => match us, hl with | [_, _], _ => rfl
theorem ok_least_common_period (T : Tx K mg) : FnOk P w K mg base CX0 1 (He.fAd K d_least_common_period.at_) (fdA K (He.fAd K d_least_common_period.at_)) ["one", "other"] (sp_least_common_period K) :=
  T.F_least_common_period.ok sc_least_common_period (fun _ _ _ _ h => on2_len h) (fun cdv A outer s H vs Q E hr h => ⟨t_least_common_period K, PSs.nox ((pss_cons (ps_asg (pe_tup (pa_cons (vv 0) (pa_cons (vv 1) (pa_cons pe_int (pa_cons pe_int pa_nil))))) (pg_tup rfl (pgs_cons (pg_name (i := 2) sc_least_common_period.nd rfl (.inl rfl)) (pgs_cons (pg_name (i := 3) sc_least_common_period.nd rfl (.inl rfl)) (pgs_cons (pg_name (i := 4) sc_least_common_period.nd rfl (.inl rfl)) (pgs_cons (pg_name (i := 5) sc_least_common_period.nd rfl (.inl rfl)) pgs_nil))))))
      (pss_cons (ps_while PassesOwn.never (PW.pt (pw_or (t_cmp o_gt (vv 2) pe_int (nomark _)) (pw_or1 (t_cmp o_gt (vv 3) pe_int (nomark _)))))
      (pss_cons (ps_set (i := 6) sc_least_common_period.nd rfl (.inl rfl) (pe_lst (pa_cons pe_int (pa_cons pe_int pa_nil))))
      (pss_cons (ps_while PassesOwn.never (t_cmp o_eq (pe_op o_mod (vv 2) (vv 5)) pe_int (nomark _))
      (pss_one (ps_asg (pe_tup (pa_cons (pe_op o_div (vv 2) (vv 5)) (pa_cons (pe_op o_mulW (pe_ix x_list (vv 6) pe_int (fun _ _ => rfl)) (vv 5)) pa_nil))) (pg_tup rfl (pgs_cons (pg_name (i := 2) sc_least_common_period.nd rfl (.inl rfl)) (pgs_cons (pg_sub (vv 6) pe_int s_list) pgs_nil))))))
      (pss_cons (ps_while PassesOwn.never (t_cmp o_eq (pe_op o_mod (vv 3) (vv 5)) pe_int (nomark _))
      (pss_one (ps_asg (pe_tup (pa_cons (pe_op o_div (vv 3) (vv 5)) (pa_cons (pe_op o_mulW (pe_ix x_list (vv 6) pe_int (fun _ _ => rfl)) (vv 5)) pa_nil))) (pg_tup rfl (pgs_cons (pg_name (i := 3) sc_least_common_period.nd rfl (.inl rfl)) (pgs_cons (pg_sub (vv 6) pe_int s_list) pgs_nil))))))
      (pss_cons (ps_if (t_cmp o_ne (pe_ix x_list (vv 6) pe_int (fun _ _ => rfl)) (pe_ix x_list (vv 6) pe_int (fun _ _ => rfl)) (nomark _))
      (pss_one (ps_set (i := 4) sc_least_common_period.nd rfl (.inl rfl) (pe_op o_mulW (vv 4) (pe_callB (c_max2 rfl) (by rfl) T.b_max boot_max (pa_cons (pe_ix x_list (vv 6) pe_int (fun _ _ => rfl)) (pa_cons (pe_ix x_list (vv 6) pe_int (fun _ _ => rfl)) pa_nil)))))) pss_nil)
      (pss_one (ps_set (i := 5) sc_least_common_period.nd rfl (.inl rfl) (pe_op o_add (vv 5) pe_int))))))))
      (pss_one (ps_ret (vv 4)))))), pure_least_common_period T vs H Q E h⟩)
/-! ### sums -/
def sumB (B1 B2 : Nat) : Nat := 20000 * (B1 + B2)
def sp_summed (K : PySem.W.Frag) : L2.Sp := fun vs H Q _ => on2 vs fun x y => onRef x fun t => onRef y fun u => ∃ f g F G P1 L1 B1 P2 L2 B2, SpecAt K H t f ∧ SpecAt K H u g ∧ FOk P1 L1 B1 F f ∧ FOk P2 L2 B2 G g ∧ Two P1 L1 B1 P2 L2 B2 ∧
  ∀ (x : Addr) (h : List Int × Nat × Int) (H' : Hp), Same H H' → FormAt K H' x h → FOk (P1 * P2) (L1 + L2 + P1 * P2) (sumB B1 B2) (fun n => F n + G n) h → Q (.ref x) H'
abbrev N_summed : List Str := ["one", "other", "firsts", "others", "period", "step", "low", "high"]
theorem sc_summed : FnScope N_summed ["one", "other"] (defScope s_summed) := ⟨rfl, rfl, rfl, by decide +kernel, rfl, by decide +kernel, by decide +kernel⟩
def t_summed (K : PySem.W.Frag) : TS :=
    tSeq (tIfS (fT (tOp fGt (tCall (sp_least_common_period K) [] E0 (tCons (tOp (fIxT K) (fV 0) (tC (.int 1))) (tCons (tOp (fIxT K) (fV 1) (tC (.int 1))) tNil))) (tC (.int 5000))))
    tNever tNext)
    (tSeq (tAsg (tCall (sp_joined K) [] E0 (tCons (fV 0) (tCons (fV 1) tNil))) (gTup K 3 (gCons (gName 2) (gCons (gName 3) (gCons (gName 4) gNil)))))
    (tSeq (tAsg (tOp fAdd (tOp fMulW (tOp (fIxT K) (fV 0) (tC (.int 2))) (tOp fDiv (fV 4) (tOp (fIxT K) (fV 0) (tC (.int 1))))) (tOp fMulW (tOp (fIxT K) (fV 1) (tC (.int 2))) (tOp fDiv (fV 4) (tOp (fIxT K) (fV 1) (tC (.int 1)))))) (gName 5))
    (tRet (tCall (sp_form_of K) [] E0 (tCons (tLc (iZip K (tCons (fV 2) (tCons (fV 3) tNil))) (gTup K 2 (gCons (gName 6) (gCons (gName 7) gNil))) tYes (tOp fAdd (fV 6) (fV 7)) [6, 7]) (tCons (fV 4) (tCons (fV 5) tNil)))))))
abbrev Pure_summed (K : PySem.W.Frag) : Prop := ∀ (vs : List V) (H : Hp) (Q : VK) (E : XK), sp_summed K vs H Q E → t_summed K { nx := fun _ H' => Q .non H', rt := Q } (L2.start N_summed vs) H
theorem zip_sum {F G : Nat → Int} {m : Nat} : List.zipWith (fun x y => match x, y with | V.int i, V.int j => V.int (i + j) | _, _ => V.non) (((List.range m).map F).map V.int) (((List.range m).map G).map V.int) = ((List.range m).map fun n => F n + G n).map V.int := by
  refine List.ext_getElem? fun i => ?_
  rw [List.getElem?_zipWith]
  simp only [List.getElem?_map]
  by_cases hi : i < m
  · rw [List.getElem?_range hi]
    rfl
  · rw [List.getElem?_eq_none (by rw [List.length_range]; omega)]
    rfl
theorem pure_summed (T : Tx K mg) : Pure_summed K := by
  intro vs H Q E h
  obtain ⟨x, y, rfl, h⟩ := on2_ex h
  obtain ⟨t, rfl, h⟩ := onRef_ex h
  obtain ⟨u, rfl, f, g, F, G, P1, L1, B1, P2, L2, B2, hf, hg, fo, go, two, hQ⟩ := onRef_ex h
  obtain ⟨l1, l2, d1, d2, le1, le2⟩ := lcm_le fo.per go.per fo.can.p1 go.can.p1
  have pp := two.pp
  have tp1 := two.p1
  have tp2 := two.p2
  have fp := fo.per
  have gp := go.per
  have fp1 := fo.can.p1
  have gp1 := go.can.p1
  have fpl := fo.can.pl
  have gpl := go.can.pl
  have fl := fo.len
  have gl := go.len
  have ll := two.ll
  have fs := fo.step
  have gs := go.step
  have b1 := two.b1
  have b2 := two.b2
  have hpq : f.2.1 * g.2.1 ≤ P1 * P2 := Nat.mul_le_mul fp gp
  obtain ⟨lf, ht, hlf⟩ := id hf
  obtain ⟨lg, hu, hlg⟩ := id hg
  refine ⟨_, ht, _, rfl, _, hu, _, rfl, f.2.1, g.2.1, rfl, rfl, fp1, gp1, by omega, by omega, fun r H1 e1 hr => ?_⟩
  refine ite2 (fun hz => absurd (of_decide_eq_true hz) (by omega)) (fun _ => ?_)
  refine ⟨f, g, F, G, P1, L1, B1, P2, L2, B2, hf.same e1, hg.same e1, fo, go, two, fun r a b H2 e2 hr2 ha hb => ?_⟩
  refine ⟨r, _, rfl, SqT.of hr2, rfl, _, _, rfl, _, _, rfl, _, _, rfl, rfl, ?_⟩
  have e12 := e1.trans e2
  have ht2 := sameT e12 ht
  have hu2 := sameT e12 hu
  have c1 : (Nat.lcm f.2.1 g.2.1) / f.2.1 ≤ 2500 := Nat.le_trans (Nat.div_le_self _ _) (by omega)
  have c2 : (Nat.lcm f.2.1 g.2.1) / g.2.1 ≤ 2500 := Nat.le_trans (Nat.div_le_self _ _) (by omega)
  have hm : manyOf f g ≤ L1 + L2 + P1 * P2 ∧ Nat.lcm f.2.1 g.2.1 ≤ manyOf f g ∧ max (f.1.length - f.2.1) (g.1.length - g.2.1) ≤ manyOf f g - Nat.lcm f.2.1 g.2.1 := by
    unfold manyOf
    omega
  have hF : ∀ n, manyOf f g - Nat.lcm f.2.1 g.2.1 ≤ n → F (n + Nat.lcm f.2.1 g.2.1) + G (n + Nat.lcm f.2.1 g.2.1) = (F n + G n) + (f.2.2 * ((Nat.lcm f.2.1 g.2.1 / f.2.1 : Nat) : Int) + g.2.2 * ((Nat.lcm f.2.1 g.2.1 / g.2.1 : Nat) : Int)) := fun n hn => by
    have x1 := fo.can.over d1 (n := n) (by omega)
    have x2 := go.can.over d2 (n := n) (by omega)
    omega
  refine ⟨_, ht2, _, rfl, _, ht2, _, rfl, wide_div (b := 13) (by omega) (by omega) (by decide) (by decide), ?_⟩
  show CMulW f.2.2 ((Nat.lcm f.2.1 g.2.1 / f.2.1 : Nat) : Int) ∧ _
  refine ⟨Sm.mulW (sm_of (by omega)) (sm_of (by rw [Int.natAbs_natCast]; exact Nat.le_trans c1 (by decide))), ?_⟩
  refine ⟨_, hu2, _, rfl, _, hu2, _, rfl, wide_div (b := 13) (by omega) (by omega) (by decide) (by decide), ?_⟩
  show CMulW g.2.2 ((Nat.lcm f.2.1 g.2.1 / g.2.1 : Nat) : Int) ∧ _
  refine ⟨Sm.mulW (sm_of (by omega)) (sm_of (by rw [Int.natAbs_natCast]; exact Nat.le_trans c2 (by decide))), ?_⟩
  have m1 : (f.2.2 * ((Nat.lcm f.2.1 g.2.1 / f.2.1 : Nat) : Int)).natAbs ≤ B1 * 2500 := by
    rw [Int.natAbs_mul, Int.natAbs_natCast]
    exact Nat.mul_le_mul fs c1
  have m2 : (g.2.2 * ((Nat.lcm f.2.1 g.2.1 / g.2.1 : Nat) : Int)).natAbs ≤ B2 * 2500 := by
    rw [Int.natAbs_mul, Int.natAbs_natCast]
    exact Nat.mul_le_mul gs c2
  have hst := Nat.le_trans (Int.natAbs_add_le _ _) (Nat.add_le_add m1 m2)
  have vb : ∀ n, n < manyOf f g → (F n + G n).natAbs ≤ 4001 * B1 + 4001 * B2 := fun n hn => by
    have x1 := fo.val n
    have x2 := go.val n
    have y1 : n * B1 ≤ 4000 * B1 := Nat.mul_le_mul_right _ (by omega)
    have y2 : n * B2 ≤ 4000 * B2 := Nat.mul_le_mul_right _ (by omega)
    omega
  have ok := tab_ok (F := fun n => F n + G n) (m := manyOf f g) (q := Nat.lcm f.2.1 g.2.1) (B := 4001 * B1 + 4001 * B2) l1 hm.2.1 hF vb (Nat.le_trans hst (by omega))
  refine ⟨a, b, _, _, rfl, SqL.of ha, SqL.of hb, fun D hD => ?_⟩
  refine lc_zipF (fun x y => match x, y with | V.int i, V.int j => V.int (i + j) | _, _ => V.non) hD (by simp) (by simp; omega) (SqL.of ha) (SqL.of hb) (fun i x y T' H3 hx hy e3 hT R hR => ?_) (fun H3 e3 hD3 => ?_)
  · obtain ⟨i1, rfl⟩ : ∃ z, x = .int z := by
      obtain ⟨z, _, rfl⟩ := List.mem_map.mp (List.mem_of_getElem? hx)
      exact ⟨z, rfl⟩
    obtain ⟨i2, rfl⟩ : ∃ z, y = .int z := by
      obtain ⟨z, _, rfl⟩ := List.mem_map.mp (List.mem_of_getElem? hy)
      exact ⟨z, rfl⟩
    exact ⟨_, _, rfl, SqT.of upd_same, rfl, _, _, rfl, _, _, rfl, rfl, rfl, hR _ (Same.refl _)⟩
  rw [zip_sum] at hD3
  have hlen : ((List.range (manyOf f g)).map fun n => F n + G n).length = manyOf f g := by rw [List.length_map, List.length_range]
  refine ⟨(List.range (manyOf f g)).map fun n => F n + G n, Nat.lcm f.2.1 g.2.1, .inl (SqL.of hD3), rfl, ⟨l1, by rw [hlen]; exact hm.2.1, by rw [hlen]; omega, sm_of (Nat.le_trans hst (by omega))⟩, sm_of (Nat.le_trans ok.step (by omega)), fun x H4 e4 hx4 => ?_⟩
  refine hQ x _ H4 ((e12.trans e3).trans e4) hx4 (ok.mono (by omega) hm.1 ?_)
  unfold sumB
  omega
theorem b_summed (T : Tx K mg) : Binds K (fdA K (He.fAd K d_summed.at_)) ["one", "other"] [] := T.F_summed.bindsN fun _ _ _ _ _ _ us hl => match us, hl with | [_, _], _ => rfl
theorem ok_summed (T : Tx K mg) : FnOk P w K mg base CX0 6 (He.fAd K d_summed.at_) (fdA K (He.fAd K d_summed.at_)) ["one", "other"] (sp_summed K) :=
  T.F_summed.ok sc_summed (fun _ _ _ _ h => on2_len h) (fun cdv A outer s H vs Q E hr h => ⟨t_summed K, PSs.nox ((pss_cons (ps_if (t_cmp o_gt (pe_call (ok_least_common_period T) (hr.mono (by decide)) (by rfl) T.g_least_common_period T.F_least_common_period.kp (b_least_common_period T) .nil pass0 (pa_cons (pe_ix x_tup (vv 0) pe_int (fun _ _ => rfl)) (pa_cons (pe_ix x_tup (vv 1) pe_int (fun _ _ => rfl)) pa_nil))) (pe_glob (by rfl) (T.i_MOST_FORM).choose_spec ⟨_, rfl⟩) (nomark _))
      (pss_one ps_never) pss_nil)
      (pss_cons (ps_asg (pe_call (ok_joined T) (hr.mono (by decide)) (by rfl) T.g_joined T.F_joined.kp (b_joined T) .nil pass0 (pa_cons (vv 0) (pa_cons (vv 1) pa_nil))) (pg_tup rfl (pgs_cons (pg_name (i := 2) sc_summed.nd rfl (.inl rfl)) (pgs_cons (pg_name (i := 3) sc_summed.nd rfl (.inl rfl)) (pgs_cons (pg_name (i := 4) sc_summed.nd rfl (.inl rfl)) pgs_nil)))))
      (pss_cons (ps_set (i := 5) sc_summed.nd rfl (.inl rfl) (pe_op o_add (pe_op o_mulW (pe_ix x_tup (vv 0) pe_int (fun _ _ => rfl)) (pe_op o_div (vv 4) (pe_ix x_tup (vv 0) pe_int (fun _ _ => rfl)))) (pe_op o_mulW (pe_ix x_tup (vv 1) pe_int (fun _ _ => rfl)) (pe_op o_div (vv 4) (pe_ix x_tup (vv 1) pe_int (fun _ _ => rfl))))))
      (pss_one (ps_ret (pe_call (ok_form_of T) (hr.mono (by decide)) (by rfl) T.g_form_of T.F_form_of.kp (b_form_of T) .nil pass0 (pa_cons (pe_lc (own := [("low", 6), ("high", 7)]) (g := gTup K 2 (gCons (gName 6) (gCons (gName 7) gNil))) (by rfl) sc_summed.nd (pi_zip (by rfl) T.b_zip (pa_cons (vv 2) (pa_cons (vv 3) pa_nil))) (blkOk_by (own := [("low", 6), ("high", 7)]) (N := N_summed) (sc := defScope s_summed) (by decide +kernel)) (fun _ _ _ _ _ => (pg_tup rfl (pgs_cons (pg_name (i := 6) sc_summed.nd rfl (.inl rfl)) (pgs_cons (pg_name (i := 7) sc_summed.nd rfl (.inl rfl)) pgs_nil)))) (fun _ _ _ _ _ => pts_nil) (fun _ _ _ _ _ => (pe_op o_add (vv 6) (vv 7)))) (pa_cons (vv 4) (pa_cons (vv 5) pa_nil)))))))))), pure_summed T vs H Q E h⟩)
theorem FormAt.spec {H : Hp} {a : Addr} {f : List Int × Nat × Int} (h : FormAt K H a f) : ∃ dx t, H a = some (.ins (He.ga K "Form") dx [("spec", .ref t)]) ∧ SpecAt K H t f := by
  obtain ⟨dx, t, l, h1, h2, h3⟩ := h
  exact ⟨dx, t, h1, l, SqT.of h2, h3⟩
/-- a form or an int, as an operand -/
def Opd (K : PySem.W.Frag) (H : Hp) (v : V) (f : List Int × Nat × Int) : Prop := (∃ a, v = .ref a ∧ FormAt K H a f) ∨ (∃ i : Int, v = .int i ∧ f = ([i], 1, 0))
theorem Opd.same {H H' : Hp} {v : V} {f : List Int × Nat × Int} (e : Same H H') (h : Opd K H v f) : Opd K H' v f := by
  rcases h with ⟨a, rfl, h⟩ | ⟨i, rfl, rfl⟩
  · exact .inl ⟨a, rfl, h.same e⟩
  · exact .inr ⟨i, rfl, rfl⟩
def spAdd (l : Bool) (K : PySem.W.Frag) : L2.Sp := fun vs H Q _ => on2 vs fun x y => onRef x fun a => ∃ f g F G P1 L1 B1 P2 L2 B2, FormAt K H a f ∧ Opd K H y g ∧ FOk P1 L1 B1 F f ∧ FOk P2 L2 B2 G g ∧ Two P1 L1 B1 P2 L2 B2 ∧
  ∀ (x : Addr) (h : List Int × Nat × Int) (H' : Hp), Same H H' → FormAt K H' x h → FOk (P1 * P2) (L1 + L2 + P1 * P2) (sumB B1 B2) (fun n => F n + G n) h → Q (.ref x) H'
def sp_Form_add : PySem.W.Frag → L2.Sp := spAdd true
abbrev N_Form_add : List Str := ["self", "other"]
theorem sc_Form_add : FnScope N_Form_add ["self", "other"] (defScope s_Form_add) := ⟨rfl, rfl, rfl, by decide +kernel, rfl, by decide +kernel, by decide +kernel⟩
def t_Form_add (K : PySem.W.Frag) : TS :=
    tRet (tCall (sp_summed K) [] E0 (tCons (tFld K (fV 0) "spec") (tCons (tCall (sp_parts_of K) [] E0 (tCons (fV 1) tNil)) tNil)))
abbrev Pure_Form_add (K : PySem.W.Frag) : Prop := ∀ (vs : List V) (H : Hp) (Q : VK) (E : XK), sp_Form_add K vs H Q E → t_Form_add K { nx := fun _ H' => Q .non H', rt := Q } (L2.start N_Form_add vs) H
theorem Two.swap {P1 L1 B1 P2 L2 B2 : Nat} (h : Two P1 L1 B1 P2 L2 B2) : Two P2 L2 B2 P1 L1 B1 := ⟨by rw [Nat.mul_comm]; exact h.pp, h.p2, h.p1, by have := h.ll; omega, h.b2, h.b1⟩
theorem pure_Form_add (T : Tx K mg) : Pure_Form_add K := by
  intro vs H Q E h
  obtain ⟨x, y, rfl, h⟩ := on2_ex h
  obtain ⟨a, rfl, f, g, F, G, P1, L1, B1, P2, L2, B2, hf, hg, fo, go, two, hQ⟩ := onRef_ex h
  obtain ⟨dx, t, ha, hs⟩ := hf.spec
  refine ⟨a, _, dx, _, _, rfl, ha, T.cl_Form, T.no_Form_spec, rfl, ?_⟩
  rcases hg with ⟨b, rfl, hg⟩ | ⟨i, rfl, rfl⟩
  · refine .inl ⟨b, g, rfl, hg, fun u hu => ?_⟩
    exact ⟨f, g, F, G, P1, L1, B1, P2, L2, B2, hs, hu, fo, go, two, hQ⟩
  · refine .inr ⟨i, rfl, fun u H1 e1 hu => ?_⟩
    exact ⟨f, _, F, G, P1, L1, B1, P2, L2, B2, hs.same e1, hu, fo, go, two, fun x h H' e => hQ x h H' (e1.trans e)⟩
theorem b_Form_add (T : Tx K mg) : Binds K (fdA K (He.fAd K d_Form_add.at_)) ["self", "other"] [] := T.F_Form_add.bindsN fun _ _ _ _ _ _ us hl => match us, hl with | [_, _], _ => rfl
theorem ok_Form_add (T : Tx K mg) : FnOk P w K mg base CX0 7 (He.fAd K d_Form_add.at_) (fdA K (He.fAd K d_Form_add.at_)) ["self", "other"] (sp_Form_add K) :=
  T.F_Form_add.ok sc_Form_add (fun _ _ _ _ h => on2_len h) (fun cdv A outer s H vs Q E hr h => ⟨t_Form_add K, PSs.nox ((pss_one (ps_ret (pe_call (ok_summed T) (hr.mono (by decide)) (by rfl) T.g_summed T.F_summed.kp (b_summed T) .nil pass0 (pa_cons (pe_fld (vv 0) rfl) (pa_cons (pe_call (ok_parts_of T) (hr.mono (by decide)) (by rfl) T.g_parts_of T.F_parts_of.kp (b_parts_of T) .nil pass0 (pa_cons (vv 1) pa_nil)) pa_nil)))))), pure_Form_add T vs H Q E h⟩)
def sp_Form_radd : PySem.W.Frag → L2.Sp := spAdd false
abbrev N_Form_radd : List Str := ["self", "other"]
theorem sc_Form_radd : FnScope N_Form_radd ["self", "other"] (defScope s_Form_radd) := ⟨rfl, rfl, rfl, by decide +kernel, rfl, by decide +kernel, by decide +kernel⟩
def t_Form_radd (K : PySem.W.Frag) : TS :=
    tRet (tCall (sp_summed K) [] E0 (tCons (tCall (sp_parts_of K) [] E0 (tCons (fV 1) tNil)) (tCons (tFld K (fV 0) "spec") tNil)))
abbrev Pure_Form_radd (K : PySem.W.Frag) : Prop := ∀ (vs : List V) (H : Hp) (Q : VK) (E : XK), sp_Form_radd K vs H Q E → t_Form_radd K { nx := fun _ H' => Q .non H', rt := Q } (L2.start N_Form_radd vs) H
theorem pure_Form_radd (T : Tx K mg) : Pure_Form_radd K := by
  intro vs H Q E h
  obtain ⟨x, y, rfl, h⟩ := on2_ex h
  obtain ⟨a, rfl, f, g, F, G, P1, L1, B1, P2, L2, B2, hf, hg, fo, go, two, hQ⟩ := onRef_ex h
  obtain ⟨dx, t, ha, hs⟩ := hf.spec
  have hQ2 : ∀ (x : Addr) (h : List Int × Nat × Int) (H' : Hp), Same H H' → FormAt K H' x h → FOk (P2 * P1) (L2 + L1 + P2 * P1) (sumB B2 B1) (fun n => G n + F n) h → Q (.ref x) H' := fun x h H' e hx ok => by
    refine hQ x h H' e hx ?_
    have e1 : (fun n => F n + G n) = fun n => G n + F n := funext fun n => Int.add_comm _ _
    have e2 : sumB B1 B2 = sumB B2 B1 := by unfold sumB; rw [Nat.add_comm]
    rw [e1, e2, Nat.mul_comm P1 P2, Nat.add_comm L1 L2]
    exact ok
  rcases hg with ⟨b, rfl, hg⟩ | ⟨i, rfl, rfl⟩
  · refine .inl ⟨b, g, rfl, hg, fun u hu => ?_⟩
    refine ⟨a, _, dx, _, _, rfl, ha, T.cl_Form, T.no_Form_spec, rfl, ?_⟩
    exact ⟨g, f, G, F, P2, L2, B2, P1, L1, B1, hu, hs, go, fo, two.swap, hQ2⟩
  · refine .inr ⟨i, rfl, fun u H1 e1 hu => ?_⟩
    refine ⟨a, _, dx, _, _, rfl, e1 _ _ ha, T.cl_Form, T.no_Form_spec, rfl, ?_⟩
    exact ⟨_, f, G, F, P2, L2, B2, P1, L1, B1, hu, hs.same e1, go, fo, two.swap, fun x h H' e => hQ2 x h H' (e1.trans e)⟩
theorem b_Form_radd (T : Tx K mg) : Binds K (fdA K (He.fAd K d_Form_radd.at_)) ["self", "other"] [] := T.F_Form_radd.bindsN fun _ _ _ _ _ _ us hl => match us, hl with | [_, _], _ => rfl
theorem ok_Form_radd (T : Tx K mg) : FnOk P w K mg base CX0 7 (He.fAd K d_Form_radd.at_) (fdA K (He.fAd K d_Form_radd.at_)) ["self", "other"] (sp_Form_radd K) :=
  T.F_Form_radd.ok sc_Form_radd (fun _ _ _ _ h => on2_len h) (fun cdv A outer s H vs Q E hr h => ⟨t_Form_radd K, PSs.nox ((pss_one (ps_ret (pe_call (ok_summed T) (hr.mono (by decide)) (by rfl) T.g_summed T.F_summed.kp (b_summed T) .nil pass0 (pa_cons (pe_call (ok_parts_of T) (hr.mono (by decide)) (by rfl) T.g_parts_of T.F_parts_of.kp (b_parts_of T) .nil pass0 (pa_cons (vv 1) pa_nil)) (pa_cons (pe_fld (vv 0) rfl) pa_nil)))))), pure_Form_radd T vs H Q E h⟩)
def sp_Form_at_most (K : PySem.W.Frag) : L2.Sp := fun vs H Q _ => on2 vs fun x y => onRef x fun a => ∃ f g F G P1 L1 B1 P2 L2 B2, FormAt K H a f ∧ Opd K H y g ∧ FOk P1 L1 B1 F f ∧ FOk P2 L2 B2 G g ∧ Two P1 L1 B1 P2 L2 B2 ∧
  ∀ (b : Bool) (H' : Hp), Same H H' → (b = true ↔ ∀ n, F n ≤ G n) → Q (.bl b) H'
abbrev N_Form_at_most : List Str := ["self", "other"]
theorem sc_Form_at_most : FnScope N_Form_at_most ["self", "other"] (defScope s_Form_at_most) := ⟨rfl, rfl, rfl, by decide +kernel, rfl, by decide +kernel, by decide +kernel⟩
def t_Form_at_most (K : PySem.W.Frag) : TS :=
    tRet (tCall (sp_never_above K) [] E0 (tCons (tFld K (fV 0) "spec") (tCons (tCall (sp_parts_of K) [] E0 (tCons (fV 1) tNil)) tNil)))
abbrev Pure_Form_at_most (K : PySem.W.Frag) : Prop := ∀ (vs : List V) (H : Hp) (Q : VK) (E : XK), sp_Form_at_most K vs H Q E → t_Form_at_most K { nx := fun _ H' => Q .non H', rt := Q } (L2.start N_Form_at_most vs) H
theorem pure_Form_at_most (T : Tx K mg) : Pure_Form_at_most K := by
  intro vs H Q E h
  obtain ⟨x, y, rfl, h⟩ := on2_ex h
  obtain ⟨a, rfl, f, g, F, G, P1, L1, B1, P2, L2, B2, hf, hg, fo, go, two, hQ⟩ := onRef_ex h
  obtain ⟨dx, t, ha, hs⟩ := hf.spec
  refine ⟨a, _, dx, _, _, rfl, ha, T.cl_Form, T.no_Form_spec, rfl, ?_⟩
  rcases hg with ⟨b, rfl, hg⟩ | ⟨i, rfl, rfl⟩
  · refine .inl ⟨b, g, rfl, hg, fun u hu => ?_⟩
    exact ⟨f, g, F, G, P1, L1, B1, P2, L2, B2, hs, hu, fo, go, two, hQ⟩
  · refine .inr ⟨i, rfl, fun u H1 e1 hu => ?_⟩
    exact ⟨f, _, F, G, P1, L1, B1, P2, L2, B2, hs.same e1, hu, fo, go, two, fun x H' e => hQ x H' (e1.trans e)⟩
theorem b_Form_at_most (T : Tx K mg) : Binds K (fdA K (He.fAd K d_Form_at_most.at_)) ["self", "other"] [] := T.F_Form_at_most.bindsN fun _ _ _ _ _ _ us hl => match us, hl with | [_, _], _ => rfl
theorem ok_Form_at_most (T : Tx K mg) : FnOk P w K mg base CX0 4 (He.fAd K d_Form_at_most.at_) (fdA K (He.fAd K d_Form_at_most.at_)) ["self", "other"] (sp_Form_at_most K) :=
  T.F_Form_at_most.ok sc_Form_at_most (fun _ _ _ _ h => on2_len h) (fun cdv A outer s H vs Q E hr h => ⟨t_Form_at_most K, PSs.nox ((pss_one (ps_ret (pe_call (ok_never_above T) (hr.mono (by decide)) (by rfl) T.g_never_above T.F_never_above.kp (b_never_above T) .nil pass0 (pa_cons (pe_fld (vv 0) rfl) (pa_cons (pe_call (ok_parts_of T) (hr.mono (by decide)) (by rfl) T.g_parts_of T.F_parts_of.kp (b_parts_of T) .nil pass0 (pa_cons (vv 1) pa_nil)) pa_nil)))))), pure_Form_at_most T vs H Q E h⟩)
def sp_Form_at_least (K : PySem.W.Frag) : L2.Sp := fun vs H Q _ => on2 vs fun x y => onRef x fun a => ∃ f g F G P1 L1 B1 P2 L2 B2, FormAt K H a f ∧ Opd K H y g ∧ FOk P1 L1 B1 F f ∧ FOk P2 L2 B2 G g ∧ Two P1 L1 B1 P2 L2 B2 ∧
  ∀ (b : Bool) (H' : Hp), Same H H' → (b = true ↔ ∀ n, G n ≤ F n) → Q (.bl b) H'
abbrev N_Form_at_least : List Str := ["self", "other"]
theorem sc_Form_at_least : FnScope N_Form_at_least ["self", "other"] (defScope s_Form_at_least) := ⟨rfl, rfl, rfl, by decide +kernel, rfl, by decide +kernel, by decide +kernel⟩
def t_Form_at_least (K : PySem.W.Frag) : TS :=
    tRet (tCall (sp_never_above K) [] E0 (tCons (tCall (sp_parts_of K) [] E0 (tCons (fV 1) tNil)) (tCons (tFld K (fV 0) "spec") tNil)))
abbrev Pure_Form_at_least (K : PySem.W.Frag) : Prop := ∀ (vs : List V) (H : Hp) (Q : VK) (E : XK), sp_Form_at_least K vs H Q E → t_Form_at_least K { nx := fun _ H' => Q .non H', rt := Q } (L2.start N_Form_at_least vs) H
theorem pure_Form_at_least (T : Tx K mg) : Pure_Form_at_least K := by
  intro vs H Q E h
  obtain ⟨x, y, rfl, h⟩ := on2_ex h
  obtain ⟨a, rfl, f, g, F, G, P1, L1, B1, P2, L2, B2, hf, hg, fo, go, two, hQ⟩ := onRef_ex h
  obtain ⟨dx, t, ha, hs⟩ := hf.spec
  rcases hg with ⟨b, rfl, hg⟩ | ⟨i, rfl, rfl⟩
  · refine .inl ⟨b, g, rfl, hg, fun u hu => ?_⟩
    refine ⟨a, _, dx, _, _, rfl, ha, T.cl_Form, T.no_Form_spec, rfl, ?_⟩
    exact ⟨g, f, G, F, P2, L2, B2, P1, L1, B1, hu, hs, go, fo, two.swap, hQ⟩
  · refine .inr ⟨i, rfl, fun u H1 e1 hu => ?_⟩
    refine ⟨a, _, dx, _, _, rfl, e1 _ _ ha, T.cl_Form, T.no_Form_spec, rfl, ?_⟩
    exact ⟨_, f, G, F, P2, L2, B2, P1, L1, B1, hu, hs.same e1, go, fo, two.swap, fun x H' e => hQ x H' (e1.trans e)⟩
theorem b_Form_at_least (T : Tx K mg) : Binds K (fdA K (He.fAd K d_Form_at_least.at_)) ["self", "other"] [] := T.F_Form_at_least.bindsN fun _ _ _ _ _ _ us hl => match us, hl with | [_, _], _ => rfl
theorem ok_Form_at_least (T : Tx K mg) : FnOk P w K mg base CX0 4 (He.fAd K d_Form_at_least.at_) (fdA K (He.fAd K d_Form_at_least.at_)) ["self", "other"] (sp_Form_at_least K) :=
  T.F_Form_at_least.ok sc_Form_at_least (fun _ _ _ _ h => on2_len h) (fun cdv A outer s H vs Q E hr h => ⟨t_Form_at_least K, PSs.nox ((pss_one (ps_ret (pe_call (ok_never_above T) (hr.mono (by decide)) (by rfl) T.g_never_above T.F_never_above.kp (b_never_above T) .nil pass0 (pa_cons (pe_call (ok_parts_of T) (hr.mono (by decide)) (by rfl) T.g_parts_of T.F_parts_of.kp (b_parts_of T) .nil pass0 (pa_cons (vv 1) pa_nil)) (pa_cons (pe_fld (vv 0) rfl) pa_nil)))))), pure_Form_at_least T vs H Q E h⟩)

end K05
namespace K05
open PySem PySem.Spec PyProof.Rows L2 Sp
variable {P : Program} {w : World} {K : PySem.W.Frag} {mg : Str → Option Value} {base : Heap}
/-! ### forms by their functions -/
def FB (K : PySem.W.Frag) (H : Hp) (a : Addr) (P L B : Nat) (F : Nat → Int) : Prop := ∃ f, FormAt K H a f ∧ FOk P L B F f
theorem FB.same {H H' : Hp} {a : Addr} {P L B : Nat} {F : Nat → Int} (e : Same H H') (h : FB K H a P L B F) : FB K H' a P L B F := by
  obtain ⟨f, h1, h2⟩ := h
  exact ⟨f, h1.same e, h2⟩
theorem FB.kp {H H' : Hp} {p a : Addr} {P L B : Nat} {F : Nat → Int} (e : Kp p H H') (hp : Pool H p) (h : FB K H a P L B F) : FB K H' a P L B F := by
  obtain ⟨f, h1, h2⟩ := h
  exact ⟨f, h1.kp e hp, h2⟩
theorem FB.ins {H : Hp} {a : Addr} {P L B : Nat} {F : Nat → Int} (h : FB K H a P L B F) : InsV (He.ga K "Form") H a := by
  obtain ⟨f, h1, h2⟩ := h
  obtain ⟨_, _, h3, _⟩ := h1.spec
  exact ⟨_, _, h3⟩
theorem add_FF {H : Hp} {Q : VK} {a b : Addr} {P1 L1 B1 P2 L2 B2 : Nat} {F G : Nat → Int} (ha : FB K H a P1 L1 B1 F) (hb : FB K H b P2 L2 B2 G) (two : Two P1 L1 B1 P2 L2 B2)
    (k : ∀ (x : Addr) (H' : Hp), Same H H' → FB K H' x (P1 * P2) (L1 + L2 + P1 * P2) (sumB B1 B2) (fun n => F n + G n) → Q (.ref x) H') : fOwnAdd (He.ga K "Form") (sp_Form_add K) (sp_Form_radd K) E0 (.ref a) (.ref b) H Q := by
  have i1 := ha.ins
  have i2 := hb.ins
  obtain ⟨f, hf, of_⟩ := ha
  obtain ⟨g, hg, og⟩ := hb
  exact ⟨i1, i2, f, g, F, G, _, _, _, _, _, _, hf, .inl ⟨b, rfl, hg⟩, of_, og, two, fun x h H' e hx ok => k x H' e ⟨h, hx, ok⟩⟩
theorem add_FI {H : Hp} {Q : VK} {a : Addr} {i : Int} {P1 L1 B1 B2 : Nat} {F : Nat → Int} (ha : FB K H a P1 L1 B1 F) (hi : i.natAbs ≤ B2) (two : Two P1 L1 B1 1 1 B2)
    (k : ∀ (x : Addr) (H' : Hp), Same H H' → FB K H' x (P1 * 1) (L1 + 1 + P1 * 1) (sumB B1 B2) (fun n => F n + i) → Q (.ref x) H') : fOwnAdd (He.ga K "Form") (sp_Form_add K) (sp_Form_radd K) E0 (.ref a) (.int i) H Q := by
  have i1 := ha.ins
  obtain ⟨f, hf, of_⟩ := ha
  exact ⟨i1, f, _, F, fun _ => i, _, _, _, _, _, _, hf, .inr ⟨i, rfl, rfl⟩, of_, num_ok hi, two, fun x h H' e hx ok => k x H' e ⟨h, hx, ok⟩⟩
theorem add_IF {H : Hp} {Q : VK} {a : Addr} {i : Int} {P1 L1 B1 B2 : Nat} {F : Nat → Int} (ha : FB K H a P1 L1 B1 F) (hi : i.natAbs ≤ B2) (two : Two P1 L1 B1 1 1 B2)
    (k : ∀ (x : Addr) (H' : Hp), Same H H' → FB K H' x (P1 * 1) (L1 + 1 + P1 * 1) (sumB B1 B2) (fun n => F n + i) → Q (.ref x) H') : fOwnAdd (He.ga K "Form") (sp_Form_add K) (sp_Form_radd K) E0 (.int i) (.ref a) H Q := by
  have i1 := ha.ins
  obtain ⟨f, hf, of_⟩ := ha
  exact ⟨i1, f, _, F, fun _ => i, _, _, _, _, _, _, hf, .inr ⟨i, rfl, rfl⟩, of_, num_ok hi, two, fun x h H' e hx ok => k x H' e ⟨h, hx, ok⟩⟩
/-- a pair of forms that are equal -/
def PairOk (K : PySem.W.Frag) (H : Hp) (v : V) : Prop := ∃ t a b f, v = .ref t ∧ H t = some (.tup [.ref a, .ref b]) ∧ FormAt K H a f ∧ FormAt K H b f
theorem PairOk.same {H H' : Hp} {v : V} (e : Same H H') (h : PairOk K H v) : PairOk K H' v := by
  obtain ⟨t, a, b, f, rfl, h1, h2, h3⟩ := h
  exact ⟨t, a, b, f, rfl, e _ _ h1, h2.same e, h3.same e⟩
theorem FormAt.lst {H : Hp} {l a : Addr} {xs : List V} {o : HO} {f : List Int × Nat × Int} (hl : H l = some (.lst xs)) (h : FormAt K H a f) : FormAt K (upd H l o) a f := by
  obtain ⟨dx, t, m, h1, h2, h3⟩ := h
  refine ⟨dx, t, m, ?_, ?_, ?_⟩
  · rw [upd_ne (ne_of h1 hl (fun q => by cases q))]
    exact h1
  · rw [upd_ne (ne_of h2 hl (fun q => by cases q))]
    exact h2
  · rcases h3 with (h | ⟨ob, h⟩) | h
    · exact .inl (.inl (by rw [upd_ne (ne_of h hl (fun q => by cases q))]; exact h))
    · exact .inl (.inr ⟨ob, by rw [upd_ne (ne_of h hl (fun q => by cases q))]; exact h⟩)
    · exact .inr h
theorem PairOk.lst {H : Hp} {l : Addr} {xs : List V} {o : HO} {v : V} (hl : H l = some (.lst xs)) (h : PairOk K H v) : PairOk K (upd H l o) v := by
  obtain ⟨t, a, b, f, rfl, h1, h2, h3⟩ := h
  refine ⟨t, a, b, f, rfl, ?_, h2.lst hl, h3.lst hl⟩
  rw [upd_ne (ne_of h1 hl (fun q => by cases q))]
  exact h1
theorem pair_of {H : Hp} {t a b : Addr} {P1 L1 B1 P2 L2 B2 : Nat} {F G : Nat → Int} (ht : H t = some (.tup [.ref a, .ref b])) (ha : FB K H a P1 L1 B1 F) (hb : FB K H b P2 L2 B2 G) (e : ∀ n, F n = G n) : PairOk K H (.ref t) := by
  obtain ⟨f, hf, of_⟩ := ha
  obtain ⟨g, hg, og⟩ := hb
  have c := og.can
  rw [show G = F from funext fun n => (e n).symm] at c
  rw [← of_.can.one c] at hg
  exact ⟨t, a, b, f, rfl, ht, hf, hg⟩
abbrev B0 : Nat := 10 ^ 22
theorem two_FF {P1 L1 B1 P2 L2 B2 : Nat} (h : P1 * P2 ≤ 2500 ∧ P1 ≤ 2500 ∧ P2 ≤ 2500 ∧ L1 + L2 ≤ 1500 ∧ B1 ≤ 10 ^ 50 ∧ B2 ≤ 10 ^ 50) : Two P1 L1 B1 P2 L2 B2 := ⟨h.1, h.2.1, h.2.2.1, h.2.2.2.1, h.2.2.2.2.1, h.2.2.2.2.2⟩
def sp__law_sums_right (K : PySem.W.Frag) : L2.Sp := fun vs H Q _ => on4 vs fun p a b c => onRef p fun p => onRef a fun a => onRef b fun b => onRef c fun c => Pool H p ∧ ∃ F G I, FB K H a 6 12 B0 F ∧ FB K H b 6 12 B0 G ∧ FB K H c 6 12 B0 I ∧ ∀ H', Pool H' p → Kp p H H' → Q (.bl true) H'
abbrev N__law_sums_right : List Str := ["_law_pool", "_law_mine", "_law_two", "_law_three", "_law_number", "_law_pairs", "_law_one", "_law_other"]
theorem sc__law_sums_right : FnScope N__law_sums_right ["_law_pool", "_law_mine", "_law_two", "_law_three"] (defScope s__law_sums_right) := ⟨rfl, rfl, rfl, by decide +kernel, rfl, by decide +kernel, by decide +kernel⟩
def t__law_sums_right (K : PySem.W.Frag) : TS :=
    tSeq (tAsg (tCall (sp__law_pick K) [] E0 (tCons (fV 0) (tCons (tLst (tCons (tC (.int 0)) (tCons (tC (.int 1)) (tCons (tUn fNeg (tC (.int 7))) (tCons (tOp fPow (tC (.int 10)) (tC (.int 20))) (tCons (tUn fNeg (tOp fPow (tC (.int 10)) (tC (.int 20)))) (tCons (tCall (sp__law_draw K) [] E0 (tCons (fV 0) (tCons (tC (.int 1000)) tNil))) tNil))))))) tNil))) (gName 4))
    (tSeq (tAsg (tLst (tCons (tTup (tCons (tOp (fOwnAdd (He.ga K "Form") (sp_Form_add K) (sp_Form_radd K) E0) (fV 1) (fV 2)) (tCons (tOp (fOwnAdd (He.ga K "Form") (sp_Form_add K) (sp_Form_radd K) E0) (fV 2) (fV 1)) tNil))) (tCons (tTup (tCons (tOp (fOwnAdd (He.ga K "Form") (sp_Form_add K) (sp_Form_radd K) E0) (tOp (fOwnAdd (He.ga K "Form") (sp_Form_add K) (sp_Form_radd K) E0) (fV 1) (fV 2)) (fV 3)) (tCons (tOp (fOwnAdd (He.ga K "Form") (sp_Form_add K) (sp_Form_radd K) E0) (fV 1) (tOp (fOwnAdd (He.ga K "Form") (sp_Form_add K) (sp_Form_radd K) E0) (fV 2) (fV 3))) tNil))) (tCons (tTup (tCons (tOp (fOwnAdd (He.ga K "Form") (sp_Form_add K) (sp_Form_radd K) E0) (fV 1) (tC (.int 0))) (tCons (fV 1) tNil))) tNil)))) (gName 5))
    (tSeq (tAsg (tOp fCatL (fV 5) (tLst (tCons (tTup (tCons (tOp (fOwnAdd (He.ga K "Form") (sp_Form_add K) (sp_Form_radd K) E0) (tC (.int 0)) (fV 1)) (tCons (fV 1) tNil))) (tCons (tTup (tCons (tOp (fOwnAdd (He.ga K "Form") (sp_Form_add K) (sp_Form_radd K) E0) (fV 1) (fV 4)) (tCons (tOp (fOwnAdd (He.ga K "Form") (sp_Form_add K) (sp_Form_radd K) E0) (fV 4) (fV 1)) tNil))) (tCons (tTup (tCons (tOp (fOwnAdd (He.ga K "Form") (sp_Form_add K) (sp_Form_radd K) E0) (tOp (fOwnAdd (He.ga K "Form") (sp_Form_add K) (sp_Form_radd K) E0) (fV 1) (fV 4)) (tOp fSub (tC (.int 0)) (fV 4))) (tCons (fV 1) tNil))) tNil))))) (gName 5))
    (tSeq (tDrop (tBM K "list" rAppend (fV 5) (tCons (tTup (tCons (tOp (fOwnAdd (He.ga K "Form") (sp_Form_add K) (sp_Form_radd K) E0) (fV 1) (tOp (fOwnAdd (He.ga K "Form") (sp_Form_add K) (sp_Form_radd K) E0) (fV 2) (fV 4))) (tCons (tOp (fOwnAdd (He.ga K "Form") (sp_Form_add K) (sp_Form_radd K) E0) (tOp (fOwnAdd (He.ga K "Form") (sp_Form_add K) (sp_Form_radd K) E0) (fV 1) (fV 2)) (fV 4)) tNil))) tNil)))
    (tRet (tCB (fAll K) (tCons (tLc (iList K (fV 5)) (gTup K 2 (gCons (gName 6) (gCons (gName 7) gNil))) tYes (fAndV (tOp (fOwnEq K (He.ga K "Form") (sp_Form_eq K) E0) (fV 6) (fV 7)) (fNotV (tOp (fOwnNe K (He.ga K "Form") (sp_Form_eq K) E0) (fV 6) (fV 7)))) [6, 7]) tNil))))))
abbrev Pure__law_sums_right (K : PySem.W.Frag) : Prop := ∀ (vs : List V) (H : Hp) (Q : VK) (E : XK), sp__law_sums_right K vs H Q E → t__law_sums_right K { nx := fun _ H' => Q .non H', rt := Q } (L2.start N__law_sums_right vs) H
theorem pure__law_sums_right (T : Tx K mg) : Pure__law_sums_right K := by
  intro vs H Q E h
  obtain ⟨x1, x2, x3, x4, rfl, h⟩ := on4_ex h
  obtain ⟨p, rfl, h⟩ := onRef_ex h
  obtain ⟨a, rfl, h⟩ := onRef_ex h
  obtain ⟨b, rfl, h⟩ := onRef_ex h
  obtain ⟨c, rfl, hp, F, G, I, hA, hB, hC, hQ⟩ := onRef_ex h
  refine ⟨⟨by decide, by decide, by decide⟩, ⟨by decide, by decide, by decide⟩, hp, by decide, by decide, fun d H1 d0 d1 hp1 hk1 => ?_⟩
  refine ⟨by show 6 ≤ sizeLine; decide, fun q hq => ?_⟩
  refine ⟨hp1.same (Same.upd hq), _, SqL.of upd_same, hp1.ne hq, by simp, by simp, fun i v H2 hv hp2 hk2 => ?_⟩
  obtain ⟨N, rfl, hN⟩ : ∃ N : Int, v = .int N ∧ N.natAbs ≤ B0 := by
    have hm := List.mem_of_getElem? hv
    simp only [List.mem_cons, List.not_mem_nil, or_false] at hm
    rcases hm with rfl | rfl | rfl | rfl | rfl | rfl <;> exact ⟨_, rfl, by first | decide | (show Int.natAbs _ ≤ 10 ^ 22; omega)⟩
  have hk02 : Kp p H H2 := (hk1.trans (Kp.new hq)).trans hk2
  have hA2 := hA.kp hk02 hp
  have hB2 := hB.kp hk02 hp
  have hC2 := hC.kp hk02 hp
  clear hk1 hk2 hA hB hC
  -- mine + two, two + mine
  refine add_FF hA2 hB2 (two_FF (by decide)) fun s1 H3 e3 hs1 => ?_
  refine add_FF (hB2.same e3) (hA2.same e3) (two_FF (by decide)) fun s2 H4 e4 hs2 => ?_
  refine ⟨by show 2 ≤ sizeLine; decide, fun t1 ht1 => ?_⟩
  have e5 := Same.upd (o := .tup [V.ref s1, V.ref s2]) ht1
  have hP1 := pair_of (K := K) (H := upd H4 t1 (.tup [V.ref s1, V.ref s2])) upd_same ((hs1.same e4).same e5) (hs2.same e5) (fun n => Int.add_comm _ _)
  have e25 := (e3.trans e4).trans e5
  generalize upd H4 t1 (.tup [V.ref s1, V.ref s2]) = H5 at *
  -- mine + two + three, mine + (two + three)
  refine add_FF (hA2.same e25) (hB2.same e25) (two_FF (by decide)) fun s3 H6 e6 hs3 => ?_
  refine add_FF hs3 ((hC2.same e25).same e6) (two_FF (by decide)) fun s4 H7 e7 hs4 => ?_
  have e27 := (e25.trans e6).trans e7
  refine add_FF (hB2.same e27) (hC2.same e27) (two_FF (by decide)) fun s5 H8 e8 hs5 => ?_
  refine add_FF ((hA2.same e27).same e8) hs5 (two_FF (by decide)) fun s6 H9 e9 hs6 => ?_
  refine ⟨by show 2 ≤ sizeLine; decide, fun t2 ht2 => ?_⟩
  have e10 := Same.upd (o := .tup [V.ref s4, V.ref s6]) ht2
  have hP2 := pair_of (K := K) (H := upd H9 t2 (.tup [V.ref s4, V.ref s6])) upd_same (((hs4.same e8).same e9).same e10) (hs6.same e10) (fun n => Int.add_assoc _ _ _)
  have e2a := ((e27.trans e8).trans e9).trans e10
  have hP1a := hP1.same ((((e6.trans e7).trans e8).trans e9).trans e10)
  generalize upd H9 t2 (.tup [V.ref s4, V.ref s6]) = Ha at *
  -- mine + 0
  refine add_FI (B2 := B0) (hA2.same e2a) (by decide) (two_FF (by decide)) fun s7 Hb eb hs7 => ?_
  refine ⟨by show 2 ≤ sizeLine; decide, fun t3 ht3 => ?_⟩
  have ec := Same.upd (o := .tup [V.ref s7, V.ref a]) ht3
  have e2c := (e2a.trans eb).trans ec
  have hP3 := pair_of (K := K) (H := upd Hb t3 (.tup [V.ref s7, V.ref a])) upd_same (hs7.same ec) (hA2.same e2c) (fun n => Int.add_zero _)
  have hP1c := hP1a.same (eb.trans ec)
  have hP2c := hP2.same (eb.trans ec)
  generalize upd Hb t3 (.tup [V.ref s7, V.ref a]) = Hc at *
  refine ⟨by show 3 ≤ sizeLine; decide, fun L1 hL1 => ?_⟩
  have ed := Same.upd (o := .lst [V.ref t1, V.ref t2, V.ref t3]) hL1
  have e2d := e2c.trans ed
  have hL1d : (upd Hc L1 (.lst [V.ref t1, V.ref t2, V.ref t3])) L1 = some (.lst [V.ref t1, V.ref t2, V.ref t3]) := upd_same
  have hP1d := hP1c.same ed
  have hP2d := hP2c.same ed
  have hP3d := hP3.same ed
  generalize upd Hc L1 (.lst [V.ref t1, V.ref t2, V.ref t3]) = Hd at *
  clear hP1 hP1a hP1c hP2 hP2c hP3 hs1 hs2 hs3 hs4 hs5 hs6 hs7
  -- 0 + mine
  refine add_IF (B2 := B0) (hA2.same e2d) (by decide) (two_FF (by decide)) fun s8 He ee hs8 => ?_
  refine ⟨by show 2 ≤ sizeLine; decide, fun t4 ht4 => ?_⟩
  have ef := Same.upd (o := .tup [V.ref s8, V.ref a]) ht4
  have edf := ee.trans ef
  have hP4 := pair_of (K := K) (H := upd He t4 (.tup [V.ref s8, V.ref a])) upd_same (hs8.same ef) (hA2.same (e2d.trans edf)) (fun n => Int.add_zero _)
  generalize upd He t4 (.tup [V.ref s8, V.ref a]) = Hf at *
  have e2f := e2d.trans edf
  -- mine + number, number + mine
  refine add_FI (B2 := B0) (hA2.same e2f) hN (two_FF (by decide)) fun s9 Hg eg hs9 => ?_
  refine add_IF (B2 := B0) ((hA2.same e2f).same eg) hN (two_FF (by decide)) fun s10 Hh eh hs10 => ?_
  refine ⟨by show 2 ≤ sizeLine; decide, fun t5 ht5 => ?_⟩
  have ei := Same.upd (o := .tup [V.ref s9, V.ref s10]) ht5
  have hP5 := pair_of (K := K) (H := upd Hh t5 (.tup [V.ref s9, V.ref s10])) upd_same ((hs9.same eh).same ei) (hs10.same ei) (fun n => rfl)
  have efi := (eg.trans eh).trans ei
  generalize upd Hh t5 (.tup [V.ref s9, V.ref s10]) = Hi at *
  have e2i := e2f.trans efi
  -- mine + number + (0 - number)
  refine add_FI (B2 := B0) (hA2.same e2i) hN (two_FF (by decide)) fun s11 Hj ej hs11 => ?_
  refine add_FI (B2 := B0) hs11 (by omega) (two_FF (by decide)) fun s12 Hk ek hs12 => ?_
  refine ⟨by show 2 ≤ sizeLine; decide, fun t6 ht6 => ?_⟩
  have el := Same.upd (o := .tup [V.ref s12, V.ref a]) ht6
  have eil := (ej.trans ek).trans el
  have hP6 := pair_of (K := K) (H := upd Hk t6 (.tup [V.ref s12, V.ref a])) upd_same (hs12.same el) (hA2.same (e2i.trans eil)) (fun n => by omega)
  generalize upd Hk t6 (.tup [V.ref s12, V.ref a]) = Hl at *
  refine ⟨by show 3 ≤ sizeLine; decide, fun L2 hL2 => ?_⟩
  have em := Same.upd (o := .lst [V.ref t4, V.ref t5, V.ref t6]) hL2
  have edl : Same Hd Hl := (edf.trans efi).trans eil
  refine ⟨_, _, em _ _ (edl _ _ hL1d), upd_same, by show 6 ≤ sizeLine; decide, fun L3 hL3 => ?_⟩
  have en := em.trans (Same.upd (o := .lst ([V.ref t1, V.ref t2, V.ref t3] ++ [V.ref t4, V.ref t5, V.ref t6])) hL3)
  have edn := edl.trans en
  have e2n := e2d.trans edn
  have hL3n : (upd (upd Hl L2 (.lst [V.ref t4, V.ref t5, V.ref t6])) L3 (.lst ([V.ref t1, V.ref t2, V.ref t3] ++ [V.ref t4, V.ref t5, V.ref t6]))) L3 = some (.lst [V.ref t1, V.ref t2, V.ref t3, V.ref t4, V.ref t5, V.ref t6]) := upd_same
  have hL30 : H2 L3 = none := (e2d.trans (edl.trans em)).free hL3
  have pall : ∀ v ∈ [V.ref t1, V.ref t2, V.ref t3, V.ref t4, V.ref t5, V.ref t6], PairOk K (upd (upd Hl L2 (.lst [V.ref t4, V.ref t5, V.ref t6])) L3 (.lst ([V.ref t1, V.ref t2, V.ref t3] ++ [V.ref t4, V.ref t5, V.ref t6]))) v := by
    intro v hv
    simp only [List.mem_cons, List.not_mem_nil, or_false] at hv
    rcases hv with rfl | rfl | rfl | rfl | rfl | rfl
    · exact hP1d.same edn
    · exact hP2d.same edn
    · exact hP3d.same edn
    · exact hP4.same ((efi.trans eil).trans en)
    · exact hP5.same (eil.trans en)
    · exact hP6.same en
  generalize upd (upd Hl L2 (.lst [V.ref t4, V.ref t5, V.ref t6])) L3 (.lst ([V.ref t1, V.ref t2, V.ref t3] ++ [V.ref t4, V.ref t5, V.ref t6])) = Hn at *
  -- mine + (two + number), mine + two + number
  refine ⟨.inl ⟨rfl, _, SqL.of hL3n⟩, ?_⟩
  refine add_FI (B2 := B0) (hB2.same e2n) hN (two_FF (by decide)) fun s13 Ho eo hs13 => ?_
  refine add_FF ((hA2.same e2n).same eo) hs13 (two_FF (by decide)) fun s14 Hp epp hs14 => ?_
  have enp := eo.trans epp
  refine add_FF ((hA2.same e2n).same enp) ((hB2.same e2n).same enp) (two_FF (by decide)) fun s15 Hr er hs15 => ?_
  refine add_FI (B2 := B0) hs15 hN (two_FF (by decide)) fun s16 Hs es hs16 => ?_
  refine ⟨by show 2 ≤ sizeLine; decide, fun t7 ht7 => ?_⟩
  have et := Same.upd (o := .tup [V.ref s14, V.ref s16]) ht7
  have ent := ((enp.trans er).trans es).trans et
  have hP7 := pair_of (K := K) (H := upd Hs t7 (.tup [V.ref s14, V.ref s16])) upd_same (((hs14.same er).same es).same et) (hs16.same et) (fun n => by omega)
  have hL3t := ent _ _ hL3n
  refine ⟨L3, _, _, rfl, rfl, hL3t, by show 6 < sizeLine; decide, ?_⟩
  have e2t := e2n.trans ent
  generalize upd Hs t7 (.tup [V.ref s14, V.ref s16]) = Ht at *
  refine ⟨L3, rfl, ⟨_, SqL.of upd_same⟩, fun D hD => ?_⟩
  have pall7 : ∀ v ∈ [V.ref t1, V.ref t2, V.ref t3, V.ref t4, V.ref t5, V.ref t6] ++ [V.ref t7], PairOk K (upd Ht L3 (.lst ([V.ref t1, V.ref t2, V.ref t3, V.ref t4, V.ref t5, V.ref t6] ++ [V.ref t7]))) v := by
    intro v hv
    rcases List.mem_append.mp hv with hv | hv
    · exact ((pall v hv).same ent).lst hL3t
    · rw [List.mem_singleton.mp hv]
      exact hP7.lst hL3t
  refine lc_listF (K := K) (a := L3) (xs := [V.ref t1, V.ref t2, V.ref t3, V.ref t4, V.ref t5, V.ref t6] ++ [V.ref t7]) (fun _ => .bl true) hD (by show 7 ≤ 1000000; decide) (SqL.of upd_same) (fun i x Hu hx eu R hR => ?_) (fun Hu eu hDu => ?_)
  · obtain ⟨t, y, z, f, rfl, ht, hy, hz⟩ := (pall7 x (List.mem_of_getElem? hx)).same eu
    obtain ⟨_, _, hyi, _⟩ := hy.spec
    obtain ⟨_, _, hzi, _⟩ := hz.spec
    refine ⟨_, _, rfl, SqT.of ht, rfl, _, _, rfl, _, _, rfl, rfl, rfl, ⟨_, _, hyi⟩, ⟨_, T.I_Form.ty T.cl_Form hzi, nf_self⟩, f, hy, .inl ⟨z, f, rfl, hz, fun Hv ev => ?_⟩⟩
    rw [decide_eq_true rfl]
    refine ⟨⟨_, _, ev _ _ hyi⟩, ⟨_, T.I_Form.ty T.cl_Form (ev _ _ hzi), nf_self⟩, f, hy.same ev, .inl ⟨z, f, rfl, hz.same ev, fun Hw ew => ?_⟩⟩
    rw [decide_eq_true rfl]
    exact hR Hw (ev.trans ew)
  · refine ⟨List.replicate 7 true, SqL.of (by rw [hDu]; rfl), ?_⟩
    refine hQ Hu ?_ ?_
    · obtain ⟨y1, y2, y3, h1, h2⟩ := hp2.same e2t
      refine ⟨y1, y2, y3, eu _ _ ?_, h2⟩
      rw [upd_ne]
      · exact h1
      · intro z
        rw [← z] at hL30
        obtain ⟨_, _, _, h3, _⟩ := hp2
        rw [hL30] at h3
        cases h3
    · refine hk02.trans fun b o hb ho => eu _ _ ?_
      rw [upd_ne (ne_of_none ho hL30)]
      exact e2t _ _ ho
theorem b__law_sums_right (T : Tx K mg) : Binds K (fdA K (He.fAd K d__law_sums_right.at_)) ["_law_pool", "_law_mine", "_law_two", "_law_three"] [] := T.F__law_sums_right.bindsN fun _ _ _ _ _ _ us hl => match us, hl with | [_, _, _, _], _ => rfl
theorem ok__law_sums_right (T : Tx K mg) : FnOk P w K mg base CX0 8 (He.fAd K d__law_sums_right.at_) (fdA K (He.fAd K d__law_sums_right.at_)) ["_law_pool", "_law_mine", "_law_two", "_law_three"] (sp__law_sums_right K) :=
  T.F__law_sums_right.ok sc__law_sums_right (fun _ _ _ _ h => on4_len h) (fun cdv A outer s H vs Q E hr h => ⟨t__law_sums_right K, PSs.nox ((pss_cons (ps_set (i := 4) sc__law_sums_right.nd rfl (.inl rfl) (pe_call (ok__law_pick T) (hr.mono (by decide)) (by rfl) T.g__law_pick T.F__law_pick.kp (b__law_pick T) .nil pass0 (pa_cons (vv 0) (pa_cons (pe_lst (pa_cons pe_int (pa_cons pe_int (pa_cons (pe_un o_neg pe_int) (pa_cons (pe_op o_pow pe_int pe_int) (pa_cons (pe_un o_neg (pe_op o_pow pe_int pe_int)) (pa_cons (pe_call (ok__law_draw T) (hr.mono (by decide)) (by rfl) T.g__law_draw T.F__law_draw.kp (b__law_draw T) .nil pass0 (pa_cons (vv 0) (pa_cons pe_int pa_nil))) pa_nil))))))) pa_nil))))
      (pss_cons (ps_set (i := 5) sc__law_sums_right.nd rfl (.inl rfl) (pe_lst (pa_cons (pe_tup (pa_cons (pe_op (o_ownAdd T.m_Form_add T.m_Form_radd T.sf_Form T.A_Form (ck0 (ok_Form_add T) (b_Form_add T) pass0) (ck0 (ok_Form_radd T) (b_Form_radd T) pass0) (hr.mono (by decide))) (vv 1) (vv 2)) (pa_cons (pe_op (o_ownAdd T.m_Form_add T.m_Form_radd T.sf_Form T.A_Form (ck0 (ok_Form_add T) (b_Form_add T) pass0) (ck0 (ok_Form_radd T) (b_Form_radd T) pass0) (hr.mono (by decide))) (vv 2) (vv 1)) pa_nil))) (pa_cons (pe_tup (pa_cons (pe_op (o_ownAdd T.m_Form_add T.m_Form_radd T.sf_Form T.A_Form (ck0 (ok_Form_add T) (b_Form_add T) pass0) (ck0 (ok_Form_radd T) (b_Form_radd T) pass0) (hr.mono (by decide))) (pe_op (o_ownAdd T.m_Form_add T.m_Form_radd T.sf_Form T.A_Form (ck0 (ok_Form_add T) (b_Form_add T) pass0) (ck0 (ok_Form_radd T) (b_Form_radd T) pass0) (hr.mono (by decide))) (vv 1) (vv 2)) (vv 3)) (pa_cons (pe_op (o_ownAdd T.m_Form_add T.m_Form_radd T.sf_Form T.A_Form (ck0 (ok_Form_add T) (b_Form_add T) pass0) (ck0 (ok_Form_radd T) (b_Form_radd T) pass0) (hr.mono (by decide))) (vv 1) (pe_op (o_ownAdd T.m_Form_add T.m_Form_radd T.sf_Form T.A_Form (ck0 (ok_Form_add T) (b_Form_add T) pass0) (ck0 (ok_Form_radd T) (b_Form_radd T) pass0) (hr.mono (by decide))) (vv 2) (vv 3))) pa_nil))) (pa_cons (pe_tup (pa_cons (pe_op (o_ownAdd T.m_Form_add T.m_Form_radd T.sf_Form T.A_Form (ck0 (ok_Form_add T) (b_Form_add T) pass0) (ck0 (ok_Form_radd T) (b_Form_radd T) pass0) (hr.mono (by decide))) (vv 1) pe_int) (pa_cons (vv 1) pa_nil))) pa_nil)))))
      (pss_cons (ps_set (i := 5) sc__law_sums_right.nd rfl (.inl rfl) (pe_op o_catL (vv 5) (pe_lst (pa_cons (pe_tup (pa_cons (pe_op (o_ownAdd T.m_Form_add T.m_Form_radd T.sf_Form T.A_Form (ck0 (ok_Form_add T) (b_Form_add T) pass0) (ck0 (ok_Form_radd T) (b_Form_radd T) pass0) (hr.mono (by decide))) pe_int (vv 1)) (pa_cons (vv 1) pa_nil))) (pa_cons (pe_tup (pa_cons (pe_op (o_ownAdd T.m_Form_add T.m_Form_radd T.sf_Form T.A_Form (ck0 (ok_Form_add T) (b_Form_add T) pass0) (ck0 (ok_Form_radd T) (b_Form_radd T) pass0) (hr.mono (by decide))) (vv 1) (vv 4)) (pa_cons (pe_op (o_ownAdd T.m_Form_add T.m_Form_radd T.sf_Form T.A_Form (ck0 (ok_Form_add T) (b_Form_add T) pass0) (ck0 (ok_Form_radd T) (b_Form_radd T) pass0) (hr.mono (by decide))) (vv 4) (vv 1)) pa_nil))) (pa_cons (pe_tup (pa_cons (pe_op (o_ownAdd T.m_Form_add T.m_Form_radd T.sf_Form T.A_Form (ck0 (ok_Form_add T) (b_Form_add T) pass0) (ck0 (ok_Form_radd T) (b_Form_radd T) pass0) (hr.mono (by decide))) (pe_op (o_ownAdd T.m_Form_add T.m_Form_radd T.sf_Form T.A_Form (ck0 (ok_Form_add T) (b_Form_add T) pass0) (ck0 (ok_Form_radd T) (b_Form_radd T) pass0) (hr.mono (by decide))) (vv 1) (vv 4)) (pe_op o_sub pe_int (vv 4))) (pa_cons (vv 1) pa_nil))) pa_nil))))))
      (pss_cons (ps_expr (pe_bm PySem.F.plainAttrs_list PySem.F.slot_list_append PySem.F.type_list_append mt_append (vv 5) (pa_cons (pe_tup (pa_cons (pe_op (o_ownAdd T.m_Form_add T.m_Form_radd T.sf_Form T.A_Form (ck0 (ok_Form_add T) (b_Form_add T) pass0) (ck0 (ok_Form_radd T) (b_Form_radd T) pass0) (hr.mono (by decide))) (vv 1) (pe_op (o_ownAdd T.m_Form_add T.m_Form_radd T.sf_Form T.A_Form (ck0 (ok_Form_add T) (b_Form_add T) pass0) (ck0 (ok_Form_radd T) (b_Form_radd T) pass0) (hr.mono (by decide))) (vv 2) (vv 4))) (pa_cons (pe_op (o_ownAdd T.m_Form_add T.m_Form_radd T.sf_Form T.A_Form (ck0 (ok_Form_add T) (b_Form_add T) pass0) (ck0 (ok_Form_radd T) (b_Form_radd T) pass0) (hr.mono (by decide))) (pe_op (o_ownAdd T.m_Form_add T.m_Form_radd T.sf_Form T.A_Form (ck0 (ok_Form_add T) (b_Form_add T) pass0) (ck0 (ok_Form_radd T) (b_Form_radd T) pass0) (hr.mono (by decide))) (vv 1) (vv 2)) (vv 4)) pa_nil))) pa_nil)))
      (pss_one (ps_ret (pe_callB (c_all rfl) (by rfl) T.b_all boot_all (pa_cons (pe_lc (own := [("_law_one", 6), ("_law_other", 7)]) (g := gTup K 2 (gCons (gName 6) (gCons (gName 7) gNil))) (by rfl) sc__law_sums_right.nd (pi_list (vv 5)) (blkOk_by (own := [("_law_one", 6), ("_law_other", 7)]) (N := N__law_sums_right) (sc := defScope s__law_sums_right) (by decide +kernel)) (fun _ _ _ _ _ => (pg_tup rfl (pgs_cons (pg_name (i := 6) sc__law_sums_right.nd rfl (.inl rfl)) (pgs_cons (pg_name (i := 7) sc__law_sums_right.nd rfl (.inl rfl)) pgs_nil)))) (fun _ _ _ _ _ => pts_nil) (fun _ _ _ _ _ => (e_and (pe_cmpR (o_ownEq T.m_Form_eq (ck0 (ok_Form_eq T) (b_Form_eq T) pass0) (hr.mono (by decide))) (vv 6) (vv 7) (nomark _)) (pe_one (e_not (pe_cmpR (o_ownNe T.m_Form_eq T.ne_Form T.I_Form (ck0 (ok_Form_eq T) (b_Form_eq T) pass0) (hr.mono (by decide))) (vv 6) (vv 7) (nomark _))))))) pa_nil))))))))), pure__law_sums_right T vs H Q E h⟩)

end K05
namespace K05
open PySem PySem.Spec PyProof.Rows L2 Sp
variable {P : Program} {w : World} {K : PySem.W.Frag} {mg : Str → Option Value} {base : Heap}
def reprI3 (a b c : Int) : Str := PyData.shown (.list [.int a, .int b, .int c])
theorem repr_I3 {H : Hp} {l : Addr} {a b c : Int} (hL : SqL K H l [.int a, .int b, .int c]) (ha : a.natAbs ≤ 10 ^ 100) (hb : b.natAbs ≤ 10 ^ 100) (hc : c.natAbs ≤ 10 ^ 100) : ShownAs K H (.ref l) (reprI3 a b c) := by
  have s1 : PyData.showable (.list [.int a, .int b, .int c]) = true := by
    simp only [PyData.showable, PyData.showableAll, Bool.and_eq_true, Bool.and_true]
    exact ⟨decide_eq_true (log_of ha), decide_eq_true (log_of hb), decide_eq_true (log_of hc)⟩
  have e := shown_le (.list [.int a, .int b, .int c]) s1 rfl
  simp only [cells, cellsAll] at e
  refine ⟨.list [.int a, .int b, .int c], .lst hL (.cons (.int _) (.cons (.int _) (.cons (.int _) .nil))), rfl, s1, by simp [PyData.depth, PyData.depthAll], ?_, rfl⟩
  rw [sizeLine_eq]
  omega
theorem big60 : (10 : Nat) ^ 60 < 2 ^ 1000 := by
  have h := big_sm (x := ((10 ^ 60 : Nat) : Int)) (by rw [Int.natAbs_natCast]; exact Nat.le_refl _)
  unfold Sm at h
  rw [Int.natAbs_natCast] at h
  exact h
theorem FB.call {H : Hp} {a : Addr} {P L B N : Nat} {F : Nat → Int} {Q : VK} (h : FB K H a P L B F) (hL : L ≤ 5000) (hB : B ≤ 10 ^ 60) (hN : N ≤ 10 ^ 17) (k : ∀ H', Same H H' → Q (.int (F N)) H') : InsV (He.ga K "Form") H a ∧ sp_Form_call K [.ref a, .int (N : Nat)] H Q E0 := by
  refine ⟨h.ins, ?_⟩
  obtain ⟨f, hf, ok⟩ := h
  refine ⟨f, N, hf, rfl, ok.ask hL hB, Nat.lt_of_le_of_lt (Nat.le_trans hN (by decide)) big60, fun H' e => ?_⟩
  rw [ok.can.val N]
  exact k H' e
theorem FB.vle {H : Hp} {a : Addr} {P L B N : Nat} {F : Nat → Int} (h : FB K H a P L B F) (hN : N ≤ 10 ^ 17) : (F N).natAbs ≤ B + 10 ^ 17 * B := by
  obtain ⟨f, hf, ok⟩ := h
  have a := ok.val N
  have b : N * B ≤ 10 ^ 17 * B := Nat.mul_le_mul_right _ hN
  omega
/-- three forms and their rows -/
structure Three (K : PySem.W.Frag) (H : Hp) (l m : Addr) (F : Nat → Nat → Int) : Prop where
  ex : ∃ a b c r s t f g h, H l = some (.lst [.ref a, .ref b, .ref c]) ∧ H m = some (.lst [.ref r, .ref s, .ref t]) ∧ FB K H a 6 12 B0 (F 0) ∧ FB K H b 6 12 B0 (F 1) ∧ FB K H c 6 12 B0 (F 2) ∧
    RowAt K H r f ∧ RowAt K H s g ∧ RowAt K H t h ∧ WAsk f ∧ WAsk g ∧ WAsk h ∧ fv f = F 0 ∧ fv g = F 1 ∧ fv h = F 2
theorem Three.same {H H' : Hp} {l m : Addr} {F : Nat → Nat → Int} (e : Same H H') (h : Three K H l m F) : Three K H' l m F := by
  obtain ⟨a, b, c, r, s, t, f, g, k, h1, h2, h3, h4, h5, h6, h7, h8, h9⟩ := h.ex
  exact ⟨a, b, c, r, s, t, f, g, k, e _ _ h1, e _ _ h2, h3.same e, h4.same e, h5.same e, h6.same e, h7.same e, h8.same e, h9⟩
def sp__law_far_right (K : PySem.W.Frag) : L2.Sp := fun vs H Q _ => on3 vs fun p l m => onRef p fun p => onRef l fun l => onRef m fun m => Pool H p ∧ ∃ F, Three K H l m F ∧ (∀ H', Pool H' p → Kp p H H' → Three K H' l m F) ∧ ∀ H', Pool H' p → Kp p H H' → Q (.bl true) H'
abbrev N__law_far_right : List Str := ["_law_pool", "_law_forms_here", "_law_rows", "_law_spots", "_law_n", "_law_due", "_law_one", "_law_two", "_law_three", "_law_told", "_law_row_here", "_law_mine"]
theorem sc__law_far_right : FnScope N__law_far_right ["_law_pool", "_law_forms_here", "_law_rows"] (defScope s__law_far_right) := ⟨rfl, rfl, rfl, by decide +kernel, rfl, by decide +kernel, by decide +kernel⟩
def t__law_far_right (K : PySem.W.Frag) : TS :=
    tSeq (tAsg (tLst (tCons (tCall (sp__law_draw K) [] E0 (tCons (fV 0) (tCons (tC (.int 100)) tNil))) (tCons (tOp fAdd (tOp fPow (tC (.int 10)) (tC (.int 9))) (tCall (sp__law_draw K) [] E0 (tCons (fV 0) (tCons (tC (.int 100)) tNil)))) (tCons (tOp fSub (tOp fPow (tC (.int 10)) (tC (.int 16))) (tCall (sp__law_draw K) [] E0 (tCons (fV 0) (tCons (tC (.int 1000)) tNil)))) tNil)))) (gName 3))
    (tSeq (tFor (iList K (fV 3)) (gName 4)
    (tSeq (tAsg (tLc (iList K (fV 2)) (gName 10) tYes (tCall (sp__law_at K) [] E0 (tCons (fV 10) (tCons (fV 4) tNil))) [10]) (gName 5))
    (tSeq (tIfS (fT (tOp fNe (tCB (fRepr K) (tCons (tLc (iList K (fV 1)) (gName 11) tYes (tCallV (He.ga K "Form") (sp_Form_call K) E0 (fV 11) (tCons (fV 4) tNil)) [11]) tNil)) (tCB (fRepr K) (tCons (fV 5) tNil))))
    (tRet (tC (.bl false))) tNext)
    (tSeq (tAsg (fV 1) (gUnl K 3 (gCons (gName 6) (gCons (gName 7) (gCons (gName 8) gNil)))))
    (tSeq (tAsg (tLst (tCons (tCallV (He.ga K "Form") (sp_Form_call K) E0 (tOp (fOwnAdd (He.ga K "Form") (sp_Form_add K) (sp_Form_radd K) E0) (fV 6) (fV 7)) (tCons (fV 4) tNil)) (tCons (tCallV (He.ga K "Form") (sp_Form_call K) E0 (tOp (fOwnAdd (He.ga K "Form") (sp_Form_add K) (sp_Form_radd K) E0) (tOp (fOwnAdd (He.ga K "Form") (sp_Form_add K) (sp_Form_radd K) E0) (fV 6) (fV 7)) (fV 8)) (tCons (fV 4) tNil)) (tCons (tCallV (He.ga K "Form") (sp_Form_call K) E0 (tOp (fOwnAdd (He.ga K "Form") (sp_Form_add K) (sp_Form_radd K) E0) (fV 6) (tC (.int 5))) (tCons (fV 4) tNil)) tNil)))) (gName 9))
    (tIfS (fT (tOp fNe (tCB (fRepr K) (tCons (fV 9) tNil)) (tCB (fRepr K) (tCons (tLst (tCons (tOp fAdd (tOp (fIxL K) (fV 5) (tC (.int 0))) (tOp (fIxL K) (fV 5) (tC (.int 1)))) (tCons (tCB (rSum K) (tCons (fV 5) tNil)) (tCons (tOp fAdd (tOp (fIxL K) (fV 5) (tC (.int 0))) (tC (.int 5))) tNil)))) tNil))))
    (tRet (tC (.bl false))) tNext))))))
    (tRet (tC (.bl true))))
abbrev Pure__law_far_right (K : PySem.W.Frag) : Prop := ∀ (vs : List V) (H : Hp) (Q : VK) (E : XK), sp__law_far_right K vs H Q E → t__law_far_right K { nx := fun _ H' => Q .non H', rt := Q } (L2.start N__law_far_right vs) H
theorem pure__law_far_right (T : Tx K mg) : Pure__law_far_right K := by
  intro vs H Q E h
  obtain ⟨x1, x2, x3, rfl, h⟩ := on3_ex h
  obtain ⟨p, rfl, h⟩ := onRef_ex h
  obtain ⟨l, rfl, h⟩ := onRef_ex h
  obtain ⟨m, rfl, hp, F, _, hkeep, hQ⟩ := onRef_ex h
  refine ⟨hp, by decide, by decide, fun d1 H1 d10 d11 hp1 hk1 => ?_⟩
  refine ⟨⟨by decide, by decide, by decide⟩, hp1, by decide, by decide, fun d2 H2 d20 d21 hp2 hk2 => ?_⟩
  refine ⟨⟨by decide, by decide, by decide⟩, hp2, by decide, by decide, fun d3 H3 d30 d31 hp3 hk3 => ?_⟩
  refine ⟨by show 3 ≤ sizeLine; decide, fun q hq => ?_⟩
  have hk03 : Kp p H H3 := (hk1.trans hk2).trans hk3
  refine ⟨_, rfl, ⟨_, SqL.of upd_same⟩, ?_⟩
  have t9 : (10 : Int) ^ Int.toNat 9 = 10 ^ 9 := rfl
  have t16 : (10 : Int) ^ Int.toNat 16 = 10 ^ 16 := rfl
  have hspots : ∀ v ∈ [V.int d1, V.int (10 ^ Int.toNat 9 + d2), V.int (10 ^ Int.toNat 16 - d3)], ∃ N : Nat, v = .int N ∧ N ≤ 10 ^ 17 := by
    intro v hv
    simp only [List.mem_cons, List.not_mem_nil, or_false] at hv
    rcases hv with rfl | rfl | rfl
    · exact ⟨d1.toNat, congrArg V.int (by omega), by omega⟩
    · rw [t9]
      exact ⟨(10 ^ 9 + d2).toNat, congrArg V.int (by omega), by omega⟩
    · rw [t16]
      exact ⟨(10 ^ 16 - d3).toNat, congrArg V.int (by omega), by omega⟩
  have eq := Same.upd (o := .lst [V.int d1, V.int (10 ^ Int.toNat 9 + d2), V.int (10 ^ Int.toNat 16 - d3)]) hq
  have hp4 := hp3.same eq
  have hk04 := hk03.trans (Kp.same eq)
  have th := hkeep _ hp4 hk04
  refine for_list (K := K) (a := q) (xs := [V.int d1, V.int (10 ^ Int.toNat 9 + d2), V.int (10 ^ Int.toNat 16 - d3)]) (fun i σ H5 => Same (upd H3 q (.lst [V.int d1, V.int (10 ^ Int.toNat 9 + d2), V.int (10 ^ Int.toNat 16 - d3)])) H5 ∧ ∃ o4 o5 o6 o7 o8 o9 o10 o11, σ = [some (.ref p), some (.ref l), some (.ref m), some (.ref q), o4, o5, o6, o7, o8, o9, o10, o11]) ⟨Same.refl _, _, _, _, _, _, _, _, _, rfl⟩ (fun i σ H5 _ hpv => hpv.1.seq (SqL.of upd_same)) (fun i x σ H5 hx hpv => ?_) (fun σ H5 hpv => ?_)
  · obtain ⟨e5, o4, o5, o6, o7, o8, o9, o10, o11, rfl⟩ := hpv
    obtain ⟨N, rfl, hN⟩ := hspots x (List.mem_of_getElem? hx)
    obtain ⟨a, b, c, r, s, t, f, g, k, hl, hm, hA, hB, hC, hf, hg, hh, wf, wg, wh, ef, eg, eh⟩ := (th.same e5).ex
    have hN1 : N < 2 ^ 1000 := Nat.lt_of_le_of_lt (Nat.le_trans hN (by decide)) big60
    have vA := hA.vle hN
    have vB := hB.vle hN
    have vC := hC.vle hN
    refine ⟨m, rfl, ⟨_, SqL.of hm⟩, fun D hD => ?_⟩
    refine lc_listN (K := K) (a := m) (xs := [V.ref r, V.ref s, V.ref t]) (fun i => .int (F i N)) hD (by show 3 ≤ 1000000; decide) (SqL.of hm) (fun i x H6 hx e6 R hR => ?_) (fun H6 e6 hD6 => ?_)
    · match i, hx with
      | 0, hx =>
        cases hx
        refine ⟨rfl, f, N, hf.same e6, rfl, WAsk.ask wf, hN1, fun H7 e7 => ?_⟩
        have := hR H7 e7
        rw [← ef] at this
        exact this
      | 1, hx =>
        cases hx
        refine ⟨rfl, g, N, hg.same e6, rfl, WAsk.ask wg, hN1, fun H7 e7 => ?_⟩
        have := hR H7 e7
        rw [← eg] at this
        exact this
      | 2, hx =>
        cases hx
        refine ⟨rfl, k, N, hh.same e6, rfl, WAsk.ask wh, hN1, fun H7 e7 => ?_⟩
        have := hR H7 e7
        rw [← eh] at this
        exact this
    have hD6' : H6 D = some (.lst [V.int (F 0 N), V.int (F 1 N), V.int (F 2 N)]) := hD6
    have hl6 := e6 _ _ hl
    refine ⟨l, rfl, ⟨_, SqL.of hl6⟩, fun D2 hD2 => ?_⟩
    refine lc_listN (K := K) (a := l) (xs := [V.ref a, V.ref b, V.ref c]) (fun i => .int (F i N)) hD2 (by show 3 ≤ 1000000; decide) (SqL.of hl6) (fun i x H7 hx e7 R hR => ?_) (fun H7 e7 hD7 => ?_)
    · match i, hx with
      | 0, hx =>
        cases hx
        exact ⟨rfl, ((hA.same e6).same e7).call (by decide) (by decide) hN hR⟩
      | 1, hx =>
        cases hx
        exact ⟨rfl, ((hB.same e6).same e7).call (by decide) (by decide) hN hR⟩
      | 2, hx =>
        cases hx
        exact ⟨rfl, ((hC.same e6).same e7).call (by decide) (by decide) hN hR⟩
    have hD7' : H7 D2 = some (.lst [V.int (F 0 N), V.int (F 1 N), V.int (F 2 N)]) := hD7
    have w0 : (F 0 N).natAbs ≤ 10 ^ 60 := Nat.le_trans vA (by decide)
    have w1 : (F 1 N).natAbs ≤ 10 ^ 60 := Nat.le_trans vB (by decide)
    have w2 : (F 2 N).natAbs ≤ 10 ^ 60 := Nat.le_trans vC (by decide)
    refine ⟨_, repr_I3 (SqL.of hD7') (by omega) (by omega) (by omega), ?_⟩
    refine ⟨_, repr_I3 (SqL.of (e7 _ _ hD6')) (by omega) (by omega) (by omega), ?_⟩
    refine ite2 (fun hz => ?_) (fun _ => ?_)
    · simp at hz
    have e57 := e6.trans e7
    have hl7 := e57 _ _ hl
    have hD67 := e7 _ _ hD6'
    refine ⟨l, _, rfl, SqL.of hl7, rfl, _, _, rfl, _, _, rfl, _, _, rfl, rfl, ?_⟩
    have hA7 := hA.same e57
    have hB7 := hB.same e57
    have hC7 := hC.same e57
    refine add_FF hA7 hB7 (two_FF (by decide)) fun s1 H8 e8 hs1 => ?_
    refine hs1.call (by decide) (by decide) hN fun H9 e9 => ?_
    have e79 := e8.trans e9
    refine add_FF (hA7.same e79) (hB7.same e79) (two_FF (by decide)) fun s2 Ha ea hs2 => ?_
    refine add_FF hs2 ((hC7.same e79).same ea) (two_FF (by decide)) fun s3 Hb eb hs3 => ?_
    refine hs3.call (by decide) (by decide) hN fun Hc ec => ?_
    have e7c := ((e79.trans ea).trans eb).trans ec
    refine add_FI (B2 := B0) (hA7.same e7c) (by decide) (two_FF (by decide)) fun s4 Hd ed hs4 => ?_
    refine hs4.call (by decide) (by decide) hN fun Hf ef' => ?_
    refine ⟨by show 3 ≤ sizeLine; decide, fun q3 hq3 => ?_⟩
    refine ⟨_, repr_I3 (SqL.of upd_same) (by omega) (by omega) (by omega), ?_⟩
    have e7g := ((e7c.trans ed).trans ef').trans (Same.upd (o := .lst [V.int (F 0 N + F 1 N), V.int (F 0 N + F 1 N + F 2 N), V.int (F 0 N + 5)]) hq3)
    have hDg := e7g _ _ hD67
    refine ⟨_, SqL.of hDg, _, rfl, _, SqL.of hDg, _, rfl, D, [F 0 N, F 1 N, F 2 N], rfl, SqL.of hDg, _, SqL.of hDg, _, rfl, by show 3 ≤ sizeLine; decide, fun q4 hq4 => ?_⟩
    have esum : [F 0 N, F 1 N, F 2 N].sum = F 0 N + F 1 N + F 2 N := by
      simp only [List.sum_cons, List.sum_nil]
      omega
    rw [esum]
    refine ⟨_, repr_I3 (SqL.of upd_same) (by omega) (by omega) (by omega), ?_⟩
    refine ite2 (fun hz => ?_) (fun _ => ?_)
    · simp at hz
    exact ⟨e5.trans ((e57.trans e7g).trans (Same.upd hq4)), _, _, _, _, _, _, _, _, rfl⟩
  · exact hQ H5 (hp4.same hpv.1) (hk04.trans (Kp.same hpv.1))
theorem b__law_far_right (T : Tx K mg) : Binds K (fdA K (He.fAd K d__law_far_right.at_)) ["_law_pool", "_law_forms_here", "_law_rows"] [] := T.F__law_far_right.bindsN fun _ _ _ _ _ _ us hl => match us, hl with | [_, _, _], _ => rfl
theorem ok__law_far_right (T : Tx K mg) : FnG P w K mg base CX0 8 (He.fAd K d__law_far_right.at_) (fdA K (He.fAd K d__law_far_right.at_)) ["_law_pool", "_law_forms_here", "_law_rows"] (sp__law_far_right K) :=
  Sp.FunD.okG T.F__law_far_right sc__law_far_right (fun _ _ _ _ h => on3_len h) (fun cdv A outer s H vs Q E hgd hr h => ⟨t__law_far_right K, PSs.nox ((pss_cons (ps_set (i := 3) sc__law_far_right.nd rfl (.inl rfl) (pe_lst (pa_cons (pe_call (ok__law_draw T) (hr.mono (by decide)) (by rfl) T.g__law_draw T.F__law_draw.kp (b__law_draw T) .nil pass0 (pa_cons (vv 0) (pa_cons pe_int pa_nil))) (pa_cons (pe_op o_add (pe_op o_pow pe_int pe_int) (pe_call (ok__law_draw T) (hr.mono (by decide)) (by rfl) T.g__law_draw T.F__law_draw.kp (b__law_draw T) .nil pass0 (pa_cons (vv 0) (pa_cons pe_int pa_nil)))) (pa_cons (pe_op o_sub (pe_op o_pow pe_int pe_int) (pe_call (ok__law_draw T) (hr.mono (by decide)) (by rfl) T.g__law_draw T.F__law_draw.kp (b__law_draw T) .nil pass0 (pa_cons (vv 0) (pa_cons pe_int pa_nil)))) pa_nil)))))
      (pss_cons (ps_for PassesOwn.never (by rfl) (pi_list (vv 3)) (pg_name (i := 4) sc__law_far_right.nd rfl (.inr rfl))
      (pss_cons (ps_setLc (i := 5) (own := [("_law_row_here", 10)]) (g := gName 10) (by rfl) sc__law_far_right.nd rfl rfl (sw_true rfl rfl rfl (by decide +kernel)) (pi_list (vv 2)) (blkOk_by (own := [("_law_row_here", 10)]) (N := N__law_far_right) (sc := defScope s__law_far_right) (by decide +kernel)) (fun _ _ _ _ _ => (pg_name (i := 10) sc__law_far_right.nd rfl (.inl rfl))) (fun _ _ _ _ _ => pts_nil) (fun _ _ _ _ _ => (pe_call (ok__law_at T) (hr.mono (by decide)) (by rfl) T.g__law_at T.F__law_at.kp (b__law_at T) .nil pass0 (pa_cons (vv 10) (pa_cons (vv 4) pa_nil)))))
      (pss_cons (ps_if (t_cmp o_ne (pe_callB (c_repr hgd hr.units) (by rfl) T.b_repr boot_repr (pa_cons (pe_lc (own := [("_law_mine", 11)]) (g := gName 11) (by rfl) sc__law_far_right.nd (pi_list (vv 1)) (blkOk_by (own := [("_law_mine", 11)]) (N := N__law_far_right) (sc := defScope s__law_far_right) (by decide +kernel)) (fun _ _ _ _ _ => (pg_name (i := 11) sc__law_far_right.nd rfl (.inl rfl))) (fun _ _ _ _ _ => pts_nil) (fun _ _ _ _ _ => (e_callI (vv 11) T.m_Form_call (fnIn_of T.F_Form_call) (ck0 (ok_Form_call T) (b_Form_call T) pass0) (hr.mono (by decide)) (pa_cons (vv 4) pa_nil)))) pa_nil)) (pe_callB (c_repr hgd hr.units) (by rfl) T.b_repr boot_repr (pa_cons (vv 5) pa_nil)) (nomark _))
      (pss_one (ps_ret pe_bl)) pss_nil)
      (pss_cons (ps_asg (vv 1) (pg_unl rfl (pgs_cons (pg_name (i := 6) sc__law_far_right.nd rfl (.inl rfl)) (pgs_cons (pg_name (i := 7) sc__law_far_right.nd rfl (.inl rfl)) (pgs_cons (pg_name (i := 8) sc__law_far_right.nd rfl (.inl rfl)) pgs_nil)))))
      (pss_cons (ps_set (i := 9) sc__law_far_right.nd rfl (.inl rfl) (pe_lst (pa_cons (e_callI (pe_op (o_ownAdd T.m_Form_add T.m_Form_radd T.sf_Form T.A_Form (ck0 (ok_Form_add T) (b_Form_add T) pass0) (ck0 (ok_Form_radd T) (b_Form_radd T) pass0) (hr.mono (by decide))) (vv 6) (vv 7)) T.m_Form_call (fnIn_of T.F_Form_call) (ck0 (ok_Form_call T) (b_Form_call T) pass0) (hr.mono (by decide)) (pa_cons (vv 4) pa_nil)) (pa_cons (e_callI (pe_op (o_ownAdd T.m_Form_add T.m_Form_radd T.sf_Form T.A_Form (ck0 (ok_Form_add T) (b_Form_add T) pass0) (ck0 (ok_Form_radd T) (b_Form_radd T) pass0) (hr.mono (by decide))) (pe_op (o_ownAdd T.m_Form_add T.m_Form_radd T.sf_Form T.A_Form (ck0 (ok_Form_add T) (b_Form_add T) pass0) (ck0 (ok_Form_radd T) (b_Form_radd T) pass0) (hr.mono (by decide))) (vv 6) (vv 7)) (vv 8)) T.m_Form_call (fnIn_of T.F_Form_call) (ck0 (ok_Form_call T) (b_Form_call T) pass0) (hr.mono (by decide)) (pa_cons (vv 4) pa_nil)) (pa_cons (e_callI (pe_op (o_ownAdd T.m_Form_add T.m_Form_radd T.sf_Form T.A_Form (ck0 (ok_Form_add T) (b_Form_add T) pass0) (ck0 (ok_Form_radd T) (b_Form_radd T) pass0) (hr.mono (by decide))) (vv 6) pe_int) T.m_Form_call (fnIn_of T.F_Form_call) (ck0 (ok_Form_call T) (b_Form_call T) pass0) (hr.mono (by decide)) (pa_cons (vv 4) pa_nil)) pa_nil)))))
      (pss_one (ps_if (t_cmp o_ne (pe_callB (c_repr hgd hr.units) (by rfl) T.b_repr boot_repr (pa_cons (vv 9) pa_nil)) (pe_callB (c_repr hgd hr.units) (by rfl) T.b_repr boot_repr (pa_cons (pe_lst (pa_cons (pe_op o_add (pe_ix x_list (vv 5) pe_int (fun _ _ => rfl)) (pe_ix x_list (vv 5) pe_int (fun _ _ => rfl))) (pa_cons (pe_callB (cr_sum rfl) (by rfl) T.b_sum boot_sum (pa_cons (vv 5) pa_nil)) (pa_cons (pe_op o_add (pe_ix x_list (vv 5) pe_int (fun _ _ => rfl)) pe_int) pa_nil)))) pa_nil)) (nomark _))
      (pss_one (ps_ret pe_bl)) pss_nil)))))))
      (pss_one (ps_ret pe_bl))))), pure__law_far_right T vs H Q E h⟩)

end K05
namespace K05
open PySem PySem.Spec PyProof.Rows L2 Sp
variable {P : Program} {w : World} {K : PySem.W.Frag} {mg : Str → Option Value} {base : Heap}
theorem FB.at {H : Hp} {a : Addr} {P L B : Nat} {F : Nat → Int} (h : FB K H a P L B F) : ∃ dx t, H a = some (.ins (He.ga K "Form") dx [("spec", .ref t)]) := by
  obtain ⟨f, h1, h2⟩ := h
  obtain ⟨dx, t, h3, _⟩ := h1.spec
  exact ⟨dx, t, h3⟩
theorem fNe_bl {a b : Bool} {H : Hp} {Q : VK} (h : Q (.bl (a != b)) H) : fNe (.bl a) (.bl b) H Q := by
  cases a <;> cases b <;> exact h
theorem fEq_bl {a b : Bool} {H : Hp} {Q : VK} (h : Q (.bl (a == b)) H) : fEq (.bl a) (.bl b) H Q := by
  cases a <;> cases b <;> exact h
theorem ne_same {a b : Bool} (h : a = true ↔ b = true) : (a != b) = false := by
  cases a <;> cases b <;> simp at h ⊢
theorem eq_same {a b : Bool} (h : a = true ↔ b = true) : (a == b) = true := by
  cases a <;> cases b <;> simp at h ⊢
def sp__law_order_right (K : PySem.W.Frag) : L2.Sp := fun vs H Q _ => on4 vs fun p a b c => onRef p fun p => onRef a fun a => onRef b fun b => onRef c fun c => Pool H p ∧ ∃ F G I, FB K H a 6 12 B0 F ∧ FB K H b 6 12 B0 G ∧ FB K H c 6 12 B0 I ∧ ∀ H', Pool H' p → Kp p H H' → Q (.bl true) H'
abbrev N__law_order_right : List Str := ["_law_pool", "_law_one", "_law_two", "_law_three", "_law_number"]
theorem sc__law_order_right : FnScope N__law_order_right ["_law_pool", "_law_one", "_law_two", "_law_three"] (defScope s__law_order_right) := ⟨rfl, rfl, rfl, by decide +kernel, rfl, by decide +kernel, by decide +kernel⟩
def t__law_order_right (K : PySem.W.Frag) : TS :=
    tSeq (tIfS (tOr (fT (tOp fNe (tMeth (He.ga K "Form") "at_most" (sp_Form_at_most K) [] E0 (fV 1) (tCons (fV 2) tNil)) (tMeth (He.ga K "Form") "at_least" (sp_Form_at_least K) [] E0 (fV 2) (tCons (fV 1) tNil)))) (tOr (tNot (fT (tMeth (He.ga K "Form") "at_most" (sp_Form_at_most K) [] E0 (fV 1) (tCons (fV 1) tNil)))) (tNot (fT (tMeth (He.ga K "Form") "at_least" (sp_Form_at_least K) [] E0 (fV 1) (tCons (fV 1) tNil))))))
    (tRet (tC (.bl false))) tNext)
    (tCut (tIfS (fT (tOp fNe (fAndV (tMeth (He.ga K "Form") "at_most" (sp_Form_at_most K) [] E0 (fV 1) (tCons (fV 2) tNil)) (tMeth (He.ga K "Form") "at_most" (sp_Form_at_most K) [] E0 (fV 2) (tCons (fV 1) tNil))) (tOp (fOwnEq K (He.ga K "Form") (sp_Form_eq K) E0) (fV 1) (fV 2))))
    (tRet (tC (.bl false))) tNext)
    (tCut (tIfS (tAnd (fT (tMeth (He.ga K "Form") "at_most" (sp_Form_at_most K) [] E0 (fV 1) (tCons (fV 2) tNil))) (tAnd (fT (tMeth (He.ga K "Form") "at_most" (sp_Form_at_most K) [] E0 (fV 2) (tCons (fV 3) tNil))) (tNot (fT (tMeth (He.ga K "Form") "at_most" (sp_Form_at_most K) [] E0 (fV 1) (tCons (fV 3) tNil))))))
    (tRet (tC (.bl false))) tNext)
    (tCut (tIfS (fT (tOp fNe (tMeth (He.ga K "Form") "at_most" (sp_Form_at_most K) [] E0 (fV 1) (tCons (fV 2) tNil)) (tMeth (He.ga K "Form") "at_most" (sp_Form_at_most K) [] E0 (tOp (fOwnAdd (He.ga K "Form") (sp_Form_add K) (sp_Form_radd K) E0) (fV 1) (fV 3)) (tCons (tOp (fOwnAdd (He.ga K "Form") (sp_Form_add K) (sp_Form_radd K) E0) (fV 2) (fV 3)) tNil))))
    (tRet (tC (.bl false))) tNext)
    (tSeq (tAsg (tOp fAdd (tC (.int 1)) (tCall (sp__law_draw K) [] E0 (tCons (fV 0) (tCons (tC (.int 50)) tNil)))) (gName 4))
    (tSeq (tIfS (tOr (tNot (fT (tMeth (He.ga K "Form") "at_most" (sp_Form_at_most K) [] E0 (fV 1) (tCons (tOp (fOwnAdd (He.ga K "Form") (sp_Form_add K) (sp_Form_radd K) E0) (fV 1) (fV 4)) tNil)))) (tOr (fT (tMeth (He.ga K "Form") "at_most" (sp_Form_at_most K) [] E0 (tOp (fOwnAdd (He.ga K "Form") (sp_Form_add K) (sp_Form_radd K) E0) (fV 1) (fV 4)) (tCons (fV 1) tNil))) (fT (tMeth (He.ga K "Form") "at_least" (sp_Form_at_least K) [] E0 (fV 1) (tCons (tOp (fOwnAdd (He.ga K "Form") (sp_Form_add K) (sp_Form_radd K) E0) (fV 1) (fV 4)) tNil)))))
    (tRet (tC (.bl false))) tNext)
    (tRet (tOp fEq (tMeth (He.ga K "Form") "at_most" (sp_Form_at_most K) [] E0 (fV 1) (tCons (fV 4) tNil)) (tMeth (He.ga K "Form") "at_most" (sp_Form_at_most K) [] E0 (tOp (fOwnAdd (He.ga K "Form") (sp_Form_add K) (sp_Form_radd K) E0) (fV 1) (tOp fSub (tC (.int 0)) (fV 4))) (tCons (tC (.int 0)) tNil)))))))))
abbrev Pure__law_order_right (K : PySem.W.Frag) : Prop := ∀ (vs : List V) (H : Hp) (Q : VK) (E : XK), sp__law_order_right K vs H Q E → t__law_order_right K { nx := fun _ H' => Q .non H', rt := Q } (L2.start N__law_order_right vs) H
theorem pure__law_order_right (T : Tx K mg) : Pure__law_order_right K := by
  intro vs H Q E h
  obtain ⟨x1, x2, x3, x4, rfl, h⟩ := on4_ex h
  obtain ⟨p, rfl, h⟩ := onRef_ex h
  obtain ⟨a, rfl, h⟩ := onRef_ex h
  obtain ⟨b, rfl, h⟩ := onRef_ex h
  obtain ⟨c, rfl, hp, F, G, I, hA, hB, hC, hQ⟩ := onRef_ex h
  have dd : Two 6 12 B0 6 12 B0 := two_FF (by decide)
  obtain ⟨dxa, ta, hai⟩ := hA.at
  obtain ⟨dxb, tb, hbi⟩ := hB.at
  obtain ⟨f, hf, of_⟩ := id hA
  obtain ⟨g, hg, og⟩ := id hB
  obtain ⟨k, hk, ok⟩ := id hC
  -- one.at_most(two) != two.at_least(one)
  refine ⟨a, _, _, rfl, hai, rfl, f, g, F, G, _, _, _, _, _, _, hf, .inl ⟨b, rfl, hg⟩, of_, og, dd, fun b1 H1 e1 hb1 => ?_⟩
  refine ⟨b, _, _, rfl, e1 _ _ hbi, rfl, g, f, G, F, _, _, _, _, _, _, hg.same e1, .inl ⟨a, rfl, hf.same e1⟩, og, of_, dd, fun b2 H2 e2 hb2 => ?_⟩
  refine fNe_bl ?_
  rw [ne_same (hb1.trans hb2.symm)]
  have e02 := e1.trans e2
  refine ⟨a, _, _, rfl, e02 _ _ hai, rfl, f, f, F, F, _, _, _, _, _, _, hf.same e02, .inl ⟨a, rfl, hf.same e02⟩, of_, of_, dd, fun b3 H3 e3 hb3 => ?_⟩
  obtain rfl : b3 = true := hb3.mpr fun n => Int.le_refl _
  have e03 := e02.trans e3
  refine ⟨a, _, _, rfl, e03 _ _ hai, rfl, f, f, F, F, _, _, _, _, _, _, hf.same e03, .inl ⟨a, rfl, hf.same e03⟩, of_, of_, dd, fun b4 H4 e4 hb4 => ?_⟩
  obtain rfl : b4 = true := hb4.mpr fun n => Int.le_refl _
  have e04 := e03.trans e4
  clear hb1 hb2 hb3 hb4
  -- both ways
  have iff : f = g ↔ ((∀ n, F n ≤ G n) ∧ ∀ n, G n ≤ F n) := by
    refine ⟨fun z => ?_, fun z => ?_⟩
    · have : ∀ n, F n = G n := fun n => by
        rw [← of_.can.val n, ← og.can.val n, z]
      exact ⟨fun n => Int.le_of_eq (this n), fun n => Int.le_of_eq (this n).symm⟩
    · have c := og.can
      rw [show G = F from funext fun n => Int.le_antisymm (z.2 n) (z.1 n)] at c
      exact of_.can.one c
  refine ⟨fun σ' H' => σ' = L2.start N__law_order_right [V.ref p, V.ref a, V.ref b, V.ref c] ∧ Same H4 H', ?_, ?_⟩
  · refine ⟨a, _, _, rfl, e04 _ _ hai, rfl, f, g, F, G, _, _, _, _, _, _, hf.same e04, .inl ⟨b, rfl, hg.same e04⟩, of_, og, dd, fun b5 H5 e5 hb5 => ?_⟩
    have e05 := e04.trans e5
    cases b5 with
    | false =>
      refine ⟨⟨_, _, e05 _ _ hai⟩, ⟨_, T.I_Form.ty T.cl_Form (e05 _ _ hbi), nf_self⟩, f, hf.same e05, .inl ⟨b, g, rfl, hg.same e05, fun H6 e6 => ?_⟩⟩
      have hne : f ≠ g := fun z => Bool.noConfusion (hb5.mpr (iff.mp z).1)
      rw [decide_eq_false hne]
      exact ⟨rfl, e5.trans e6⟩
    | true =>
      refine ⟨b, _, _, rfl, e05 _ _ hbi, rfl, g, f, G, F, _, _, _, _, _, _, hg.same e05, .inl ⟨a, rfl, hf.same e05⟩, og, of_, dd, fun b6 H6 e6 hb6 => ?_⟩
      have e06 := e05.trans e6
      refine ⟨⟨_, _, e06 _ _ hai⟩, ⟨_, T.I_Form.ty T.cl_Form (e06 _ _ hbi), nf_self⟩, f, hf.same e06, .inl ⟨b, g, rfl, hg.same e06, fun H7 e7 => ?_⟩⟩
      have ed : decide (f = g) = b6 := by
        rw [Bool.eq_iff_iff, decide_eq_true_iff, iff, hb6]
        exact ⟨fun z => z.2, fun z => ⟨hb5.mp rfl, z⟩⟩
      rw [ed]
      cases b6 <;> exact ⟨rfl, (e5.trans e6).trans e7⟩
  rintro σ' H5 ⟨rfl, e5⟩
  have e05 := e04.trans e5
  -- over a third one
  refine ⟨fun σ' H' => σ' = L2.start N__law_order_right [V.ref p, V.ref a, V.ref b, V.ref c] ∧ Same H5 H', ?_, ?_⟩
  · refine ⟨a, _, _, rfl, e05 _ _ hai, rfl, f, g, F, G, _, _, _, _, _, _, hf.same e05, .inl ⟨b, rfl, hg.same e05⟩, of_, og, dd, fun b6 H6 e6 hb6 => ?_⟩
    cases b6 with
    | false => exact ⟨rfl, e6⟩
    | true =>
      have e06 := e05.trans e6
      refine ⟨b, _, _, rfl, e06 _ _ hbi, rfl, g, k, G, I, _, _, _, _, _, _, hg.same e06, .inl ⟨c, rfl, hk.same e06⟩, og, ok, dd, fun b7 H7 e7 hb7 => ?_⟩
      cases b7 with
      | false => exact ⟨rfl, e6.trans e7⟩
      | true =>
        have e07 := e06.trans e7
        refine ⟨a, _, _, rfl, e07 _ _ hai, rfl, f, k, F, I, _, _, _, _, _, _, hf.same e07, .inl ⟨c, rfl, hk.same e07⟩, of_, ok, dd, fun b8 H8 e8 hb8 => ?_⟩
        obtain rfl : b8 = true := hb8.mpr fun n => Int.le_trans (hb6.mp rfl n) (hb7.mp rfl n)
        exact ⟨rfl, (e6.trans e7).trans e8⟩
  rintro σ' H6 ⟨rfl, e6⟩
  have e06 := e05.trans e6
  -- the same added
  refine ⟨fun σ' H' => σ' = L2.start N__law_order_right [V.ref p, V.ref a, V.ref b, V.ref c] ∧ Same H6 H', ?_, ?_⟩
  · refine ⟨a, _, _, rfl, e06 _ _ hai, rfl, f, g, F, G, _, _, _, _, _, _, hf.same e06, .inl ⟨b, rfl, hg.same e06⟩, of_, og, dd, fun b7 H7 e7 hb7 => ?_⟩
    have e07 := e06.trans e7
    refine add_FF (hA.same e07) (hC.same e07) dd fun s1 H8 e8 hs1 => ?_
    obtain ⟨dxs, ts, hsi⟩ := hs1.at
    refine ⟨s1, _, _, rfl, hsi, rfl, ?_⟩
    have e08 := e07.trans e8
    refine add_FF (hB.same e08) (hC.same e08) dd fun s2 H9 e9 hs2 => ?_
    obtain ⟨u1, hu1, ou1⟩ := hs1.same e9
    obtain ⟨u2, hu2, ou2⟩ := hs2
    refine ⟨u1, u2, _, _, _, _, _, _, _, _, hu1, .inl ⟨s2, rfl, hu2⟩, ou1, ou2, two_FF (by decide), fun b8 Ha ea hb8 => ?_⟩
    refine fNe_bl ?_
    have hbb : b7 = true ↔ b8 = true := by
      rw [hb7, hb8]
      exact ⟨fun z n => by have := z n; show F n + I n ≤ G n + I n; omega, fun z n => by have : F n + I n ≤ G n + I n := z n; omega⟩
    rw [ne_same hbb]
    exact ⟨rfl, ((e7.trans e8).trans e9).trans ea⟩
  rintro σ' H7 ⟨rfl, e7⟩
  have e07 := e06.trans e7
  have hp7 := hp.same e07
  refine ⟨hp7, by decide, by decide, fun d H8 d0 d1 hp8 hk8 => ?_⟩
  have hA8 := (hA.same e07).kp hk8 hp7
  have hkA : Kp p H H8 := (Kp.same e07).trans hk8
  obtain ⟨dx8, t8, hi8⟩ := hA8.at
  obtain ⟨f8, hf8, of8⟩ := id hA8
  have hd : (1 + d).natAbs ≤ B0 := by show Int.natAbs _ ≤ 10 ^ 22; omega
  refine ⟨a, _, _, rfl, hi8, rfl, ?_⟩
  refine add_FI (B2 := B0) hA8 hd (two_FF (by decide)) fun s1 H9 e9 hs1 => ?_
  obtain ⟨u1, hu1, ou1⟩ := hs1
  refine ⟨f8, u1, _, _, _, _, _, _, _, _, hf8.same e9, .inl ⟨s1, rfl, hu1⟩, of8, ou1, two_FF (by decide), fun b9 Ha ea hb9 => ?_⟩
  obtain rfl : b9 = true := hb9.mpr fun n => by show F n ≤ F n + (1 + d); omega
  have e8a := e9.trans ea
  refine add_FI (B2 := B0) (hA8.same e8a) hd (two_FF (by decide)) fun s2 Hb eb hs2 => ?_
  obtain ⟨dx2, t2, hi2⟩ := hs2.at
  obtain ⟨u2, hu2, ou2⟩ := hs2
  have e8b := e8a.trans eb
  refine ⟨s2, _, _, rfl, hi2, rfl, u2, f8, _, _, _, _, _, _, _, _, hu2, .inl ⟨a, rfl, hf8.same e8b⟩, ou2, of8, two_FF (by decide), fun b10 Hc ec hb10 => ?_⟩
  obtain rfl : b10 = false := by
    cases b10 with
    | false => rfl
    | true =>
      have := hb10.mp rfl 0
      have : F 0 + (1 + d) ≤ F 0 := this
      omega
  have e8c := e8b.trans ec
  refine ⟨a, _, _, rfl, e8c _ _ hi8, rfl, ?_⟩
  refine add_FI (B2 := B0) (hA8.same e8c) hd (two_FF (by decide)) fun s3 Hd ed hs3 => ?_
  obtain ⟨u3, hu3, ou3⟩ := hs3
  have e8d := e8c.trans ed
  refine ⟨f8, u3, _, _, _, _, _, _, _, _, hf8.same e8d, .inl ⟨s3, rfl, hu3⟩, of8, ou3, two_FF (by decide), fun b11 Hf ef hb11 => ?_⟩
  obtain rfl : b11 = false := by
    cases b11 with
    | false => rfl
    | true =>
      have := hb11.mp rfl 0
      have : F 0 + (1 + d) ≤ F 0 := this
      omega
  have e8f := e8d.trans ef
  refine ⟨a, _, _, rfl, e8f _ _ hi8, rfl, f8, _, _, _, _, _, _, _, _, _, hf8.same e8f, .inr ⟨1 + d, rfl, rfl⟩, of8, num_ok hd, two_FF (by decide), fun b12 Hg eg hb12 => ?_⟩
  have e8g := e8f.trans eg
  refine add_FI (B2 := B0) (hA8.same e8g) (show (0 - (1 + d)).natAbs ≤ B0 by show Int.natAbs _ ≤ 10 ^ 22; omega) (two_FF (by decide)) fun s4 Hh eh hs4 => ?_
  obtain ⟨dx4, t4, hi4⟩ := hs4.at
  obtain ⟨u4, hu4, ou4⟩ := hs4
  refine ⟨s4, _, _, rfl, hi4, rfl, u4, _, _, _, _, _, _, _, _, _, hu4, .inr ⟨0, rfl, rfl⟩, ou4, num_ok (B := B0) (by decide), two_FF (by decide), fun b13 Hi ei hb13 => ?_⟩
  refine fEq_bl ?_
  have hbb : b12 = true ↔ b13 = true := by
    rw [hb12, hb13]
    exact ⟨fun z n => by have : F n ≤ 1 + d := z n; show F n + (0 - (1 + d)) ≤ 0; omega, fun z n => by have : F n + (0 - (1 + d)) ≤ 0 := z n; show F n ≤ 1 + d; omega⟩
  rw [eq_same hbb]
  have eall := ((e8g.trans eh).trans ei)
  exact hQ Hi (hp8.same eall) (hkA.trans (Kp.same eall))
theorem b__law_order_right (T : Tx K mg) : Binds K (fdA K (He.fAd K d__law_order_right.at_)) ["_law_pool", "_law_one", "_law_two", "_law_three"] [] := T.F__law_order_right.bindsN fun _ _ _ _ _ _ us hl => match us, hl with | [_, _, _, _], _ => rfl
theorem ok__law_order_right (T : Tx K mg) : FnOk P w K mg base CX0 8 (He.fAd K d__law_order_right.at_) (fdA K (He.fAd K d__law_order_right.at_)) ["_law_pool", "_law_one", "_law_two", "_law_three"] (sp__law_order_right K) :=
  T.F__law_order_right.ok sc__law_order_right (fun _ _ _ _ h => on4_len h) (fun cdv A outer s H vs Q E hr h => ⟨t__law_order_right K, PSs.nox ((pss_cons (ps_if (PW.pt (pw_or (t_cmp o_ne (pe_meth (vv 1) T.cl_Form T.m_Form_at_most (ok_Form_at_most T) (hr.mono (by decide)) (b_Form_at_most T) .nil pass0 (pa_cons (vv 2) pa_nil)) (pe_meth (vv 2) T.cl_Form T.m_Form_at_least (ok_Form_at_least T) (hr.mono (by decide)) (b_Form_at_least T) .nil pass0 (pa_cons (vv 1) pa_nil)) (nomark _)) (pw_or (pt_not (t_val (pe_meth (vv 1) T.cl_Form T.m_Form_at_most (ok_Form_at_most T) (hr.mono (by decide)) (b_Form_at_most T) .nil pass0 (pa_cons (vv 1) pa_nil)))) (pw_or1 (pt_not (t_val (pe_meth (vv 1) T.cl_Form T.m_Form_at_least (ok_Form_at_least T) (hr.mono (by decide)) (b_Form_at_least T) .nil pass0 (pa_cons (vv 1) pa_nil))))))))
      (pss_one (ps_ret pe_bl)) pss_nil)
      (pss_cut (ps_if (t_cmp o_ne (e_and (pe_meth (vv 1) T.cl_Form T.m_Form_at_most (ok_Form_at_most T) (hr.mono (by decide)) (b_Form_at_most T) .nil pass0 (pa_cons (vv 2) pa_nil)) (pe_one (pe_meth (vv 2) T.cl_Form T.m_Form_at_most (ok_Form_at_most T) (hr.mono (by decide)) (b_Form_at_most T) .nil pass0 (pa_cons (vv 1) pa_nil)))) (pe_cmpR (o_ownEq T.m_Form_eq (ck0 (ok_Form_eq T) (b_Form_eq T) pass0) (hr.mono (by decide))) (vv 1) (vv 2) (nomark _)) (nomark _))
      (pss_one (ps_ret pe_bl)) pss_nil)
      (pss_cut (ps_if (PW.pt (pw_and (t_val (pe_meth (vv 1) T.cl_Form T.m_Form_at_most (ok_Form_at_most T) (hr.mono (by decide)) (b_Form_at_most T) .nil pass0 (pa_cons (vv 2) pa_nil))) (pw_and (t_val (pe_meth (vv 2) T.cl_Form T.m_Form_at_most (ok_Form_at_most T) (hr.mono (by decide)) (b_Form_at_most T) .nil pass0 (pa_cons (vv 3) pa_nil))) (pw_and1 (pt_not (t_val (pe_meth (vv 1) T.cl_Form T.m_Form_at_most (ok_Form_at_most T) (hr.mono (by decide)) (b_Form_at_most T) .nil pass0 (pa_cons (vv 3) pa_nil))))))))
      (pss_one (ps_ret pe_bl)) pss_nil)
      (pss_cut (ps_if (t_cmp o_ne (pe_meth (vv 1) T.cl_Form T.m_Form_at_most (ok_Form_at_most T) (hr.mono (by decide)) (b_Form_at_most T) .nil pass0 (pa_cons (vv 2) pa_nil)) (pe_meth (pe_op (o_ownAdd T.m_Form_add T.m_Form_radd T.sf_Form T.A_Form (ck0 (ok_Form_add T) (b_Form_add T) pass0) (ck0 (ok_Form_radd T) (b_Form_radd T) pass0) (hr.mono (by decide))) (vv 1) (vv 3)) T.cl_Form T.m_Form_at_most (ok_Form_at_most T) (hr.mono (by decide)) (b_Form_at_most T) .nil pass0 (pa_cons (pe_op (o_ownAdd T.m_Form_add T.m_Form_radd T.sf_Form T.A_Form (ck0 (ok_Form_add T) (b_Form_add T) pass0) (ck0 (ok_Form_radd T) (b_Form_radd T) pass0) (hr.mono (by decide))) (vv 2) (vv 3)) pa_nil)) (nomark _))
      (pss_one (ps_ret pe_bl)) pss_nil)
      (pss_cons (ps_set (i := 4) sc__law_order_right.nd rfl (.inl rfl) (pe_op o_add pe_int (pe_call (ok__law_draw T) (hr.mono (by decide)) (by rfl) T.g__law_draw T.F__law_draw.kp (b__law_draw T) .nil pass0 (pa_cons (vv 0) (pa_cons pe_int pa_nil)))))
      (pss_cons (ps_if (PW.pt (pw_or (pt_not (t_val (pe_meth (vv 1) T.cl_Form T.m_Form_at_most (ok_Form_at_most T) (hr.mono (by decide)) (b_Form_at_most T) .nil pass0 (pa_cons (pe_op (o_ownAdd T.m_Form_add T.m_Form_radd T.sf_Form T.A_Form (ck0 (ok_Form_add T) (b_Form_add T) pass0) (ck0 (ok_Form_radd T) (b_Form_radd T) pass0) (hr.mono (by decide))) (vv 1) (vv 4)) pa_nil)))) (pw_or (t_val (pe_meth (pe_op (o_ownAdd T.m_Form_add T.m_Form_radd T.sf_Form T.A_Form (ck0 (ok_Form_add T) (b_Form_add T) pass0) (ck0 (ok_Form_radd T) (b_Form_radd T) pass0) (hr.mono (by decide))) (vv 1) (vv 4)) T.cl_Form T.m_Form_at_most (ok_Form_at_most T) (hr.mono (by decide)) (b_Form_at_most T) .nil pass0 (pa_cons (vv 1) pa_nil))) (pw_or1 (t_val (pe_meth (vv 1) T.cl_Form T.m_Form_at_least (ok_Form_at_least T) (hr.mono (by decide)) (b_Form_at_least T) .nil pass0 (pa_cons (pe_op (o_ownAdd T.m_Form_add T.m_Form_radd T.sf_Form T.A_Form (ck0 (ok_Form_add T) (b_Form_add T) pass0) (ck0 (ok_Form_radd T) (b_Form_radd T) pass0) (hr.mono (by decide))) (vv 1) (vv 4)) pa_nil)))))))
      (pss_one (ps_ret pe_bl)) pss_nil)
      (pss_one (ps_ret (pe_cmpR o_eq (pe_meth (vv 1) T.cl_Form T.m_Form_at_most (ok_Form_at_most T) (hr.mono (by decide)) (b_Form_at_most T) .nil pass0 (pa_cons (vv 4) pa_nil)) (pe_meth (pe_op (o_ownAdd T.m_Form_add T.m_Form_radd T.sf_Form T.A_Form (ck0 (ok_Form_add T) (b_Form_add T) pass0) (ck0 (ok_Form_radd T) (b_Form_radd T) pass0) (hr.mono (by decide))) (vv 1) (pe_op o_sub pe_int (vv 4))) T.cl_Form T.m_Form_at_most (ok_Form_at_most T) (hr.mono (by decide)) (b_Form_at_most T) .nil pass0 (pa_cons pe_int pa_nil)) (nomark _))))))))))), pure__law_order_right T vs H Q E h⟩)

end K05
namespace K05
open PySem PySem.Spec PyProof.Rows L2 Sp
variable {P : Program} {w : World} {K : PySem.W.Frag} {mg : Str → Option Value} {base : Heap}
def sp__law_near (K : PySem.W.Frag) : L2.Sp := fun vs H Q _ => on2 vs fun x y => onRef x fun p => onRef y fun r => Pool H p ∧ ∃ B f, RowP K H p r f ∧ RAskB 60 B f ∧ B ≤ 10 ^ 21 ∧ ∀ t g H', Pool H' p → Kp p H H' → RowP K H' p t g → RAskB 60 (B + 1) g → g.2.1 = f.2.1 → g.1.length = f.1.length → Q (.ref t) H'
abbrev N__law_near : List Str := ["_law_pool", "_law_row_here", "_law_number"]
theorem sc__law_near : FnScope N__law_near ["_law_pool", "_law_row_here"] (defScope s__law_near) := ⟨rfl, rfl, rfl, by decide +kernel, rfl, by decide +kernel, by decide +kernel⟩
def t__law_near (K : PySem.W.Frag) : TS :=
    tRet (tTup (tCons (tLc (iList K (tOp (fIxT K) (fV 1) (tC (.int 0)))) (gName 2) tYes (tOp fAdd (fV 2) (tCall (sp__law_pick K) [] E0 (tCons (fV 0) (tCons (tLst (tCons (tC (.int 0)) (tCons (tC (.int 0)) (tCons (tC (.int 1)) tNil)))) tNil)))) [2]) (tCons (tOp (fIxT K) (fV 1) (tC (.int 1))) (tCons (tOp fAdd (tOp (fIxT K) (fV 1) (tC (.int 2))) (tCall (sp__law_pick K) [] E0 (tCons (fV 0) (tCons (tLst (tCons (tC (.int 0)) (tCons (tC (.int 0)) (tCons (tC (.int 1)) tNil)))) tNil)))) tNil))))
abbrev Pure__law_near (K : PySem.W.Frag) : Prop := ∀ (vs : List V) (H : Hp) (Q : VK) (E : XK), sp__law_near K vs H Q E → t__law_near K { nx := fun _ H' => Q .non H', rt := Q } (L2.start N__law_near vs) H
theorem pick001 {v : V} {i : Nat} (h : [V.int 0, V.int 0, V.int 1][i]? = some v) : ∃ z : Int, v = .int z ∧ 0 ≤ z ∧ z ≤ 1 := by
  have hm := List.mem_of_getElem? h
  simp only [List.mem_cons, List.not_mem_nil, or_false] at hm
  rcases hm with rfl | rfl | rfl <;> exact ⟨_, rfl, by decide, by decide⟩
theorem pure__law_near (T : Tx K mg) : Pure__law_near K := by
  intro vs H Q E h
  obtain ⟨x, y, rfl, h⟩ := on2_ex h
  obtain ⟨p, rfl, h⟩ := onRef_ex h
  obtain ⟨r, rfl, hp, B, f, ⟨l, hr, hl, hrp, hlp⟩, ⟨h1, h2, h3, h4, h5⟩, hB, hQ⟩ := onRef_ex h
  obtain ⟨ns, P, s⟩ := f
  dsimp only at *
  refine ⟨_, SqT.of hr, _, rfl, l, rfl, ⟨_, SqL.of hl⟩, fun D hD => ?_⟩
  have hDp := hp.ne hD
  refine lc_listI (xs := ns.map V.int) (by rw [List.length_map]; omega) (fun i acc H4 => (∀ v ∈ acc, ∃ z, v = .int z ∧ z.natAbs ≤ B + 1) ∧ Pool H4 p ∧ Kp p H H4) ⟨fun v hv => (by cases hv), hp.same (Same.upd hD), Kp.new hD⟩ (fun i acc H4 _ _ hJ => SqL.of (hJ.2.2 _ _ hlp hl)) (fun i x acc H4 hx hac hD4 hJ R hR => ?_) (fun acc H4 hac hD4 hJ => ?_)
  · obtain ⟨ha, hp4, hk4⟩ := hJ
    obtain ⟨z, hz, rfl⟩ := List.mem_map.mp (List.mem_of_getElem? hx)
    have bz := h4 z hz
    refine ⟨rfl, by show 3 ≤ sizeLine; decide, fun q hq => ?_⟩
    refine ⟨hp4.same (Same.upd hq), _, SqL.of upd_same, hp4.ne hq, by simp, by simp, fun j v H5 hv hp5 hk5 => ?_⟩
    obtain ⟨y, rfl, y0, y1⟩ := pick001 hv
    have hk45 : Kp p H4 H5 := (Kp.new hq).trans hk5
    refine hR _ H5 (hk45 _ _ hDp hD4) ⟨fun v hv => ?_, ?_, ?_⟩
    · rcases List.mem_append.mp hv with hv | hv
      · exact ha v hv
      · obtain rfl := List.mem_singleton.mp hv
        exact ⟨_, rfl, by omega⟩
    · obtain ⟨a, b, c, h1, h2⟩ := hp5
      exact ⟨a, b, c, by rw [upd_ne (Ne.symm hDp)]; exact h1, h2⟩
    · refine fun b o hb h => ?_
      rw [upd_ne (ne_of_none h hD)]
      exact (hk4.trans hk45) b o hb h
  · obtain ⟨ha, hp4, hk4⟩ := hJ
    obtain ⟨ms, rfl, hms⟩ := ints_of ha
    rw [List.length_map, List.length_map] at hac
    have hr4 := hk4 _ _ hrp hr
    refine ⟨_, SqT.of hr4, _, rfl, _, SqT.of hr4, _, rfl, by show 3 ≤ sizeLine; decide, fun q hq => ?_⟩
    refine ⟨hp4.same (Same.upd hq), _, SqL.of upd_same, hp4.ne hq, by simp, by simp, fun j v H5 hv hp5 hk5 => ?_⟩
    obtain ⟨y, rfl, y0, y1⟩ := pick001 hv
    have hk45 : Kp p H4 H5 := (Kp.new hq).trans hk5
    refine ⟨by show 3 ≤ sizeLine; decide, fun t ht => ?_⟩
    have hD5 := hk45 _ _ hDp hD4
    refine hQ t (ms, P, s + y) _ (hp5.same (Same.upd ht)) ((hk4.trans hk45).trans (Kp.new ht)) ⟨D, upd_same, Same.upd ht _ _ hD5, hp5.ne ht, hDp⟩ ⟨h1, by show P ≤ ms.length; omega, by show ms.length ≤ 60; omega, hms, by show (s + y).natAbs ≤ B + 1; omega⟩ rfl hac
theorem b__law_near (T : Tx K mg) : Binds K (fdA K (He.fAd K d__law_near.at_)) ["_law_pool", "_law_row_here"] [] := T.F__law_near.bindsN fun _ _ _ _ _ _ us hl => match us, hl with | [_, _], _ => rfl
theorem ok__law_near (T : Tx K mg) : FnOk P w K mg base CX0 3 (He.fAd K d__law_near.at_) (fdA K (He.fAd K d__law_near.at_)) ["_law_pool", "_law_row_here"] (sp__law_near K) :=
  T.F__law_near.ok sc__law_near (fun _ _ _ _ h => on2_len h) (fun cdv A outer s H vs Q E hr h => ⟨t__law_near K, PSs.nox ((pss_one (ps_ret (pe_tup (pa_cons (pe_lc (own := [("_law_number", 2)]) (g := gName 2) (by rfl) sc__law_near.nd (pi_list (pe_ix x_tup (vv 1) pe_int (fun _ _ => rfl))) (blkOk_by (own := [("_law_number", 2)]) (N := N__law_near) (sc := defScope s__law_near) (by decide +kernel)) (fun _ _ _ _ _ => (pg_name (i := 2) sc__law_near.nd rfl (.inl rfl))) (fun _ _ _ _ _ => pts_nil) (fun _ _ _ _ _ => (pe_op o_add (vv 2) (pe_call (ok__law_pick T) (hr.mono (by decide)) (by rfl) T.g__law_pick T.F__law_pick.kp (b__law_pick T) .nil pass0 (pa_cons (vv 0) (pa_cons (pe_lst (pa_cons pe_int (pa_cons pe_int (pa_cons pe_int pa_nil)))) pa_nil)))))) (pa_cons (pe_ix x_tup (vv 1) pe_int (fun _ _ => rfl)) (pa_cons (pe_op o_add (pe_ix x_tup (vv 1) pe_int (fun _ _ => rfl)) (pe_call (ok__law_pick T) (hr.mono (by decide)) (by rfl) T.g__law_pick T.F__law_pick.kp (b__law_pick T) .nil pass0 (pa_cons (vv 0) (pa_cons (pe_lst (pa_cons pe_int (pa_cons pe_int (pa_cons pe_int pa_nil)))) pa_nil)))) pa_nil))))))), pure__law_near T vs H Q E h⟩)
def sp__law_right (K : PySem.W.Frag) : L2.Sp := fun vs H Q _ => on1 vs fun x => onRef x fun p => Pool H p ∧ ∀ H', Kp p H H' → Q (.bl true) H'
abbrev N__law_right : List Str := ["_law_pool", "_law_row_here", "_law_rows", "_law_mate", "_law_some", "_law_one", "_law_two", "_law_row_here_here"]
theorem sc__law_right : FnScope N__law_right ["_law_pool"] (defScope s__law_right) := ⟨rfl, rfl, rfl, by decide +kernel, rfl, by decide +kernel, by decide +kernel⟩
def t__law_right (K : PySem.W.Frag) : TS :=
    tSeq (tAsg (tCall (sp__law_row K) [] E0 (tCons (fV 0) (tCons (tC (.int 6)) tNil))) (gName 1))
    (tSeq (tAsg (tLst (tCons (fV 1) (tCons (tCall (sp__law_row K) [] E0 (tCons (fV 0) (tCons (tC (.int 5)) tNil))) (tCons (tCall (sp__law_row K) [] E0 (tCons (fV 0) (tCons (tC (.int 4)) tNil))) tNil)))) (gName 2))
    (tCut (tIfS (fT (tOp fEq (tCall (sp__law_draw K) [] E0 (tCons (fV 0) (tCons (tC (.int 2)) tNil))) (tC (.int 0))))
    (tSeq (tAsg (tCall (sp__law_near K) [] E0 (tCons (fV 0) (tCons (fV 1) tNil))) (gName 3))
    (tAsg (tLst (tCons (fV 1) (tCons (fV 3) (tCons (tCall (sp__law_near K) [] E0 (tCons (fV 0) (tCons (fV 3) tNil))) tNil)))) (gName 2))) tNext)
    (tSeq (tAsg (tLc (iList K (fV 2)) (gName 7) tYes (tCall (sp__law_form K) [] E0 (tCons (fV 0) (tCons (fV 7) tNil))) [7]) (gName 4))
    (tSeq (tIfS (tOr (tNot (fT (tCall (sp__law_sums_right K) [] E0 (tCons (fV 0) (tCons (tOp (fIxL K) (fV 4) (tC (.int 0))) (tCons (tOp (fIxL K) (fV 4) (tC (.int 1))) (tCons (tOp (fIxL K) (fV 4) (tC (.int 2))) tNil))))))) (tNot (fT (tCall (sp__law_far_right K) [] E0 (tCons (fV 0) (tCons (fV 4) (tCons (fV 2) tNil)))))))
    (tRet (tC (.bl false))) tNext)
    (tSeq (tFor (iList K (fV 4)) (gName 5)
    (tFor (iList K (fV 4)) (gName 6)
    (tIfS (tNot (fT (tCall (sp__law_order_right K) [] E0 (tCons (fV 0) (tCons (fV 5) (tCons (fV 6) (tCons (tOp (fIxL K) (fV 4) (tCall (sp__law_draw K) [] E0 (tCons (fV 0) (tCons (tC (.int 3)) tNil)))) tNil)))))))
    (tRet (tC (.bl false))) tNext)))
    (tRet (tC (.bl true))))))))
abbrev Pure__law_right (K : PySem.W.Frag) : Prop := ∀ (vs : List V) (H : Hp) (Q : VK) (E : XK), sp__law_right K vs H Q E → t__law_right K { nx := fun _ H' => Q .non H', rt := Q } (L2.start N__law_right vs) H
/-- three rows in a list -/
def Rows3 (K : PySem.W.Frag) (H : Hp) (p m : Addr) (f g h : List Int × Nat × Int) : Prop := ∃ r s t, H m = some (.lst [.ref r, .ref s, .ref t]) ∧ m ≠ p ∧ RowP K H p r f ∧ RowP K H p s g ∧ RowP K H p t h
theorem Rows3.kp {H H' : Hp} {p m : Addr} {f g h : List Int × Nat × Int} (e : Kp p H H') (x : Rows3 K H p m f g h) : Rows3 K H' p m f g h := by
  obtain ⟨r, s, t, h1, h2, h3, h4, h5⟩ := x
  exact ⟨r, s, t, e _ _ h2 h1, h2, h3.kp e, h4.kp e, h5.kp e⟩
theorem row_FB {H : Hp} {a : Addr} {f : List Int × Nat × Int} (h : RAskB 60 (10 ^ 21) f) (hP : f.2.1 ≤ 6) (hL : f.1.length ≤ 12) (hF : FormAt K H a (formOf f.1 f.2.1 f.2.2)) : FB K H a 6 12 B0 (fv f) := by
  have can := canon_of (s := f.2.2) h.p1 h.pl
  have hp := leastP_le (ns := f.1) (s := f.2.2) h.p1
  refine ⟨_, hF, can, ?_, ?_, fun z hz => ?_, ?_⟩
  · exact Nat.le_trans hp.2 hP
  · show (leastL f.1 _ _).length ≤ 12
    unfold leastL
    rw [List.length_take]
    omega
  · have := h.vals z (List.mem_of_mem_take hz)
    show z.natAbs ≤ 10 ^ 22
    omega
  · have := rise_le h.p1 h.pl h.vals h.step
    show Int.natAbs _ ≤ 10 ^ 22
    exact Nat.le_trans this (by decide)
/-- a row as it is wanted -/
structure RW (f : List Int × Nat × Int) : Prop where
  ask : RAskB 60 (10 ^ 21) f
  per : f.2.1 ≤ 6
  len : f.1.length ≤ 12
theorem RW.wide {f : List Int × Nat × Int} (h : RW f) : WAsk f := RAskB.mono h.ask (by decide) (by decide)
theorem pure__law_right (T : Tx K mg) : Pure__law_right K := by
  intro vs H Q E h
  obtain ⟨x1, rfl, h⟩ := on1_ex h
  obtain ⟨p, rfl, hp, hQ⟩ := onRef_ex h
  refine ⟨hp, by decide, by decide, fun r f H1 hp1 hk1 hrow ra fP fL => ?_⟩
  refine ⟨hp1, by decide, by decide, fun s g H2 hp2 hk2 hrow2 ra2 gP gL => ?_⟩
  refine ⟨hp2, by decide, by decide, fun t k H3 hp3 hk3 hrow3 ra3 kP kL => ?_⟩
  refine ⟨by show 3 ≤ sizeLine; decide, fun m hm => ?_⟩
  have rwf : RW f := ⟨RAskB.mono ra (by decide) (by decide), by omega, by omega⟩
  have rwg : RW g := ⟨RAskB.mono ra2 (by decide) (by decide), by omega, by omega⟩
  have rwk : RW k := ⟨RAskB.mono ra3 (by decide) (by decide), by omega, by omega⟩
  have hp4 := hp3.same (Same.upd (o := .lst [V.ref r, V.ref s, V.ref t]) hm)
  have hk04 : Kp p H (upd H3 m (.lst [V.ref r, V.ref s, V.ref t])) := ((hk1.trans hk2).trans hk3).trans (Kp.new hm)
  have hrow4 : RowP K (upd H3 m (.lst [V.ref r, V.ref s, V.ref t])) p r f := ((hrow.kp hk2).kp hk3).kp (Kp.new hm)
  have r3 : Rows3 K (upd H3 m (.lst [V.ref r, V.ref s, V.ref t])) p m f g k := ⟨r, s, t, upd_same, hp3.ne hm, hrow4, (hrow2.kp hk3).kp (Kp.new hm), hrow3.kp (Kp.new hm)⟩
  refine ⟨fun σ' H' => Pool H' p ∧ Kp p H H' ∧ ∃ (m : Addr) (o3 : Option V) (f g k : List Int × Nat × Int), RW f ∧ RW g ∧ RW k ∧ Rows3 K H' p m f g k ∧ σ' = [some (.ref p), some (.ref r), some (.ref m), o3, none, none, none, none], ?_, ?_⟩
  · refine ⟨hp4, by decide, by decide, fun d H5 d0 d1 hp5 hk5 => ?_⟩
    refine ite2 (fun _ => ?_) (fun _ => ?_)
    · refine ⟨hp5, 10 ^ 20, f, hrow4.kp hk5, ra, by decide, fun u g2 H6 hp6 hk6 hrow6 ra6 eP eL => ?_⟩
      refine ⟨hp6, 10 ^ 20 + 1, g2, hrow6, ra6, by decide, fun v k2 H7 hp7 hk7 hrow7 ra7 eP2 eL2 => ?_⟩
      refine ⟨by show 3 ≤ sizeLine; decide, fun m2 hm2 => ?_⟩
      refine ⟨hp7.same (Same.upd hm2), (((hk04.trans hk5).trans hk6).trans hk7).trans (Kp.new hm2), m2, some (.ref u), f, g2, k2, rwf, ⟨RAskB.mono ra6 (by decide) (by decide), by rw [eP]; exact rwf.per, by rw [eL]; exact rwf.len⟩, ⟨RAskB.mono ra7 (by decide) (by decide), by rw [eP2, eP]; exact rwf.per, by rw [eL2, eL]; exact rwf.len⟩, ⟨r, u, v, upd_same, hp7.ne hm2, (((hrow4.kp hk5).kp hk6).kp hk7).kp (Kp.new hm2), (hrow6.kp hk7).kp (Kp.new hm2), hrow7.kp (Kp.new hm2)⟩, rfl⟩
    · exact ⟨hp5, hk04.trans hk5, m, none, f, g, k, rwf, rwg, rwk, r3.kp hk5, rfl⟩
  rintro σ' H4 ⟨hp4, hk4, m, o3, f, g, k, rwf, rwg, rwk, r3, rfl⟩
  obtain ⟨r1, s1, t1, hm, hmp, hr1, hs1, ht1⟩ := id r3
  refine ⟨m, rfl, ⟨_, SqL.of hm⟩, fun D hD => ?_⟩
  have hDp := hp4.ne hD
  have hDm : m ≠ D := ne_of_none hm hD
  refine lc_listI (xs := [V.ref r1, V.ref s1, V.ref t1]) (by show 3 ≤ 1000000; decide) (fun i acc H5 => Pool H5 p ∧ Kp p H4 H5 ∧ (0 < i → ∃ a, acc[0]? = some (.ref a) ∧ FormAt K H5 a (formOf f.1 f.2.1 f.2.2)) ∧ (1 < i → ∃ a, acc[1]? = some (.ref a) ∧ FormAt K H5 a (formOf g.1 g.2.1 g.2.2)) ∧ (2 < i → ∃ a, acc[2]? = some (.ref a) ∧ FormAt K H5 a (formOf k.1 k.2.1 k.2.2)))
    ⟨hp4.same (Same.upd hD), Kp.new hD, fun z => by omega, fun z => by omega, fun z => by omega⟩ (fun i acc H5 _ _ hJ => SqL.of (hJ.2.1 _ _ hmp hm)) (fun i x acc H5 hx hac hD5 hJ R hR => ?_) (fun acc H5 hac hD5 hJ => ?_)
  · obtain ⟨hp5, hk5, j0, j1, j2⟩ := hJ
    obtain ⟨rr, ff, rfl, hrr, hww, hwhich⟩ : ∃ rr ff, x = .ref rr ∧ RowP K H4 p rr ff ∧ WAsk ff ∧ ((i = 0 ∧ ff = f) ∨ (i = 1 ∧ ff = g) ∨ (i = 2 ∧ ff = k)) := by
      match i, hx with
      | 0, hx => cases hx; exact ⟨_, f, rfl, hr1, rwf.wide, .inl ⟨rfl, rfl⟩⟩
      | 1, hx => cases hx; exact ⟨_, g, rfl, hs1, rwg.wide, .inr (.inl ⟨rfl, rfl⟩)⟩
      | 2, hx => cases hx; exact ⟨_, k, rfl, ht1, rwk.wide, .inr (.inr ⟨rfl, rfl⟩)⟩
    refine ⟨rfl, hp5, ff, hrr.kp hk5, hww, fun a H6 hp6 hk6 hf6 => ?_⟩
    have hDD : H6 D = some (.lst acc) := hk6 _ _ hDp hD5
    refine hR _ H6 hDD ⟨?_, ?_, ?_, ?_, ?_⟩
    · obtain ⟨a1, b1, c1, q1, q2⟩ := hp6
      exact ⟨a1, b1, c1, by rw [upd_ne (Ne.symm hDp)]; exact q1, q2⟩
    · refine fun b o hb h => ?_
      rw [upd_ne (ne_of_none h hD)]
      exact (hk5.trans hk6) b o hb h
    · intro _
      rcases hwhich with ⟨rfl, rfl⟩ | ⟨rfl, rfl⟩ | ⟨rfl, rfl⟩
      · exact ⟨a, by rw [List.getElem?_append_right (by omega), hac]; rfl, hf6.lst hDD⟩
      · obtain ⟨b, hb, hfb⟩ := j0 (by omega)
        exact ⟨b, by rw [List.getElem?_append_left (by omega)]; exact hb, (hfb.kp hk6 hp5).lst hDD⟩
      · obtain ⟨b, hb, hfb⟩ := j0 (by omega)
        exact ⟨b, by rw [List.getElem?_append_left (by omega)]; exact hb, (hfb.kp hk6 hp5).lst hDD⟩
    · intro z
      rcases hwhich with ⟨rfl, rfl⟩ | ⟨rfl, rfl⟩ | ⟨rfl, rfl⟩
      · omega
      · exact ⟨a, by rw [List.getElem?_append_right (by omega), hac]; rfl, hf6.lst hDD⟩
      · obtain ⟨b, hb, hfb⟩ := j1 (by omega)
        exact ⟨b, by rw [List.getElem?_append_left (by omega)]; exact hb, (hfb.kp hk6 hp5).lst hDD⟩
    · intro z
      rcases hwhich with ⟨rfl, rfl⟩ | ⟨rfl, rfl⟩ | ⟨rfl, rfl⟩
      · omega
      · omega
      · exact ⟨a, by rw [List.getElem?_append_right (by omega), hac]; rfl, hf6.lst hDD⟩
  obtain ⟨hp5, hk5, j0, j1, j2⟩ := hJ
  obtain ⟨a, ha, hfa⟩ := j0 (by show 0 < 3; decide)
  obtain ⟨b, hb, hfb⟩ := j1 (by show 1 < 3; decide)
  obtain ⟨c, hc, hfc⟩ := j2 (by show 2 < 3; decide)
  obtain rfl : acc = [.ref a, .ref b, .ref c] := by
    match acc, hac, ha, hb, hc with
    | [_, _, _], _, ha, hb, hc => cases ha; cases hb; cases hc; rfl
  have keep : ∀ H', Kp p H5 H' → H' D = some (.lst [.ref a, .ref b, .ref c]) ∧ FB K H' a 6 12 B0 (fv f) ∧ FB K H' b 6 12 B0 (fv g) ∧ FB K H' c 6 12 B0 (fv k) := fun H' e => ⟨e _ _ hDp hD5, row_FB rwf.ask rwf.per rwf.len (hfa.kp e hp5), row_FB rwg.ask rwg.per rwg.len (hfb.kp e hp5), row_FB rwk.ask rwk.per rwk.len (hfc.kp e hp5)⟩
  obtain ⟨hD0, hA, hB, hC⟩ := keep H5 Kp.refl
  refine ⟨_, SqL.of hD0, _, rfl, _, SqL.of hD0, _, rfl, _, SqL.of hD0, _, rfl, hp5, fv f, fv g, fv k, hA, hB, hC, fun H6 hp6 hk6 => ?_⟩
  let F : Nat → Nat → Int := fun i => match i with
    | 0 => fv f
    | 1 => fv g
    | _ => fv k
  have th : ∀ H', Kp p H5 H' → Three K H' D m F := fun H' e => by
    obtain ⟨q1, q2, q3, q4⟩ := keep H' e
    obtain ⟨r', s', t', hm', _, hr', hs', ht'⟩ := r3.kp (hk5.trans e)
    exact ⟨a, b, c, r', s', t', f, g, k, q1, hm', q2, q3, q4, hr'.at, hs'.at, ht'.at, rwf.wide, rwg.wide, rwk.wide, rfl, rfl, rfl⟩
  refine ⟨hp6, F, th H6 hk6, fun H' _ e => th H' (hk6.trans e), fun H7 hp7 hk7 => ?_⟩
  have hk57 := hk6.trans hk7
  have hk47 : Kp p H H7 := (hk4.trans hk5).trans hk57
  have each : ∀ (H' : Hp), Kp p H5 H' → ∀ v ∈ [V.ref a, V.ref b, V.ref c], ∃ x F, v = .ref x ∧ FB K H' x 6 12 B0 F := fun H' e v hv => by
    obtain ⟨q1, q2, q3, q4⟩ := keep H' e
    simp only [List.mem_cons, List.not_mem_nil, or_false] at hv
    rcases hv with rfl | rfl | rfl
    · exact ⟨a, _, rfl, q2⟩
    · exact ⟨b, _, rfl, q3⟩
    · exact ⟨c, _, rfl, q4⟩
  refine ⟨D, rfl, ⟨_, SqL.of (keep H7 hk57).1⟩, ?_⟩
  refine for_list (K := K) (a := D) (xs := [V.ref a, V.ref b, V.ref c]) (fun i σ H8 => Pool H8 p ∧ Kp p H5 H8 ∧ ∃ o5 o6, σ = [some (.ref p), some (.ref r), some (.ref m), o3, some (.ref D), o5, o6, none]) ⟨hp7, hk57, _, _, rfl⟩ (fun i σ H8 _ hpv => SqL.of (keep H8 hpv.2.1).1) (fun i x σ H8 hx hpv => ?_) (fun σ H8 hpv => ?_)
  · obtain ⟨hp8, hk8, o5, o6, rfl⟩ := hpv
    obtain ⟨xa, Fx, rfl, _⟩ := each H8 hk8 x (List.mem_of_getElem? hx)
    refine ⟨D, rfl, ⟨_, SqL.of (keep H8 hk8).1⟩, ?_⟩
    refine for_list (K := K) (a := D) (xs := [V.ref a, V.ref b, V.ref c]) (fun i σ H9 => Pool H9 p ∧ Kp p H5 H9 ∧ ∃ o6, σ = [some (.ref p), some (.ref r), some (.ref m), o3, some (.ref D), some (.ref xa), o6, none]) ⟨hp8, hk8, _, rfl⟩ (fun i σ H9 _ hpv => SqL.of (keep H9 hpv.2.1).1) (fun j y σ H9 hy hpv => ?_) (fun σ H9 hpv => ?_)
    · obtain ⟨hp9, hk9, o6, rfl⟩ := hpv
      obtain ⟨ya, Fy, rfl, _⟩ := each H9 hk9 y (List.mem_of_getElem? hy)
      refine ⟨hp9, by decide, by decide, fun d Ha d0 d1 hpa hka => ?_⟩
      have hk9a := hk9.trans hka
      obtain ⟨dn, rfl⟩ : ∃ dn : Nat, d = (dn : Int) := ⟨d.toNat, by omega⟩
      have hdn : dn < 3 := by omega
      have hget : ([V.ref a, V.ref b, V.ref c] : List V)[dn]? = some ([V.ref a, V.ref b, V.ref c][dn]'hdn) := List.getElem?_eq_getElem hdn
      obtain ⟨za, Fz, hz, hZ⟩ := each Ha hk9a _ (List.mem_of_getElem? hget)
      rw [hz] at hget
      refine ⟨_, SqL.of (keep Ha hk9a).1, _, atI_nat hget, ?_⟩
      obtain ⟨xa', Fx', ex, hX⟩ := each Ha hk9a _ (List.mem_of_getElem? hx)
      cases ex
      obtain ⟨ya', Fy', ey, hY⟩ := each Ha hk9a _ (List.mem_of_getElem? hy)
      cases ey
      exact ⟨hpa, Fx', Fy', Fz, hX, hY, hZ, fun Hb hpb hkb => ⟨hpb, hk9a.trans hkb, _, rfl⟩⟩
    · obtain ⟨hp9, hk9, o6, rfl⟩ := hpv
      exact ⟨hp9, hk9, _, _, rfl⟩
  · obtain ⟨hp8, hk8, o5, o6, rfl⟩ := hpv
    exact hQ H8 ((hk4.trans hk5).trans hk8)
theorem b__law_right (T : Tx K mg) : Binds K (fdA K (He.fAd K d__law_right.at_)) ["_law_pool"] [] := T.F__law_right.bindsN fun _ _ _ _ _ _ us hl => match us, hl with | [_], _ => rfl
theorem ok__law_right (T : Tx K mg) : FnG P w K mg base CX0 9 (He.fAd K d__law_right.at_) (fdA K (He.fAd K d__law_right.at_)) ["_law_pool"] (sp__law_right K) :=
  Sp.FunD.okG T.F__law_right sc__law_right (fun _ _ _ _ h => on1_len h) (fun cdv A outer s H vs Q E hgd hr h => ⟨t__law_right K, PSs.nox ((pss_cons (ps_set (i := 1) sc__law_right.nd rfl (.inl rfl) (pe_call (ok__law_row T) (hr.mono (by decide)) (by rfl) T.g__law_row T.F__law_row.kp (b__law_row T) .nil pass0 (pa_cons (vv 0) (pa_cons pe_int pa_nil))))
      (pss_cons (ps_set (i := 2) sc__law_right.nd rfl (.inl rfl) (pe_lst (pa_cons (vv 1) (pa_cons (pe_call (ok__law_row T) (hr.mono (by decide)) (by rfl) T.g__law_row T.F__law_row.kp (b__law_row T) .nil pass0 (pa_cons (vv 0) (pa_cons pe_int pa_nil))) (pa_cons (pe_call (ok__law_row T) (hr.mono (by decide)) (by rfl) T.g__law_row T.F__law_row.kp (b__law_row T) .nil pass0 (pa_cons (vv 0) (pa_cons pe_int pa_nil))) pa_nil)))))
      (pss_cut (ps_if (t_cmp o_eq (pe_call (ok__law_draw T) (hr.mono (by decide)) (by rfl) T.g__law_draw T.F__law_draw.kp (b__law_draw T) .nil pass0 (pa_cons (vv 0) (pa_cons pe_int pa_nil))) pe_int (nomark _))
      (pss_cons (ps_set (i := 3) sc__law_right.nd rfl (.inl rfl) (pe_call (ok__law_near T) (hr.mono (by decide)) (by rfl) T.g__law_near T.F__law_near.kp (b__law_near T) .nil pass0 (pa_cons (vv 0) (pa_cons (vv 1) pa_nil))))
      (pss_one (ps_set (i := 2) sc__law_right.nd rfl (.inl rfl) (pe_lst (pa_cons (vv 1) (pa_cons (vv 3) (pa_cons (pe_call (ok__law_near T) (hr.mono (by decide)) (by rfl) T.g__law_near T.F__law_near.kp (b__law_near T) .nil pass0 (pa_cons (vv 0) (pa_cons (vv 3) pa_nil))) pa_nil))))))) pss_nil)
      (pss_cons (ps_setLc (i := 4) (own := [("_law_row_here_here", 7)]) (g := gName 7) (by rfl) sc__law_right.nd rfl rfl (sw_true rfl rfl rfl (by decide +kernel)) (pi_list (vv 2)) (blkOk_by (own := [("_law_row_here_here", 7)]) (N := N__law_right) (sc := defScope s__law_right) (by decide +kernel)) (fun _ _ _ _ _ => (pg_name (i := 7) sc__law_right.nd rfl (.inl rfl))) (fun _ _ _ _ _ => pts_nil) (fun _ _ _ _ _ => (pe_call (ok__law_form T) (hr.mono (by decide)) (by rfl) T.g__law_form T.F__law_form.kp (b__law_form T) .nil pass0 (pa_cons (vv 0) (pa_cons (vv 7) pa_nil)))))
      (pss_cons (ps_if (PW.pt (pw_or (pt_not (t_val (pe_call (ok__law_sums_right T) (hr.mono (by decide)) (by rfl) T.g__law_sums_right T.F__law_sums_right.kp (b__law_sums_right T) .nil pass0 (pa_cons (vv 0) (pa_cons (pe_ix x_list (vv 4) pe_int (fun _ _ => rfl)) (pa_cons (pe_ix x_list (vv 4) pe_int (fun _ _ => rfl)) (pa_cons (pe_ix x_list (vv 4) pe_int (fun _ _ => rfl)) pa_nil))))))) (pw_or1 (pt_not (t_val (e_callG hgd (ok__law_far_right T) (hr.mono (by decide)) (by rfl) T.g__law_far_right T.F__law_far_right.kp (b__law_far_right T) .nil pass0 (pa_cons (vv 0) (pa_cons (vv 4) (pa_cons (vv 2) pa_nil)))))))))
      (pss_one (ps_ret pe_bl)) pss_nil)
      (pss_cons (ps_for PassesOwn.never (by rfl) (pi_list (vv 4)) (pg_name (i := 5) sc__law_right.nd rfl (.inl rfl))
      (pss_one (ps_for PassesOwn.never (by rfl) (pi_list (vv 4)) (pg_name (i := 6) sc__law_right.nd rfl (.inl rfl))
      (pss_one (ps_if (pt_not (t_val (pe_call (ok__law_order_right T) (hr.mono (by decide)) (by rfl) T.g__law_order_right T.F__law_order_right.kp (b__law_order_right T) .nil pass0 (pa_cons (vv 0) (pa_cons (vv 5) (pa_cons (vv 6) (pa_cons (pe_ix x_list (vv 4) (pe_call (ok__law_draw T) (hr.mono (by decide)) (by rfl) T.g__law_draw T.F__law_draw.kp (b__law_draw T) .nil pass0 (pa_cons (vv 0) (pa_cons pe_int pa_nil))) (fun _ _ => rfl)) pa_nil)))))))
      (pss_one (ps_ret pe_bl)) pss_nil)))))
      (pss_one (ps_ret pe_bl))))))))), pure__law_right T vs H Q E h⟩)
def sp_law (K : PySem.W.Frag) : L2.Sp := fun vs H Q _ => on1 vs fun x => onRef x fun c => ∃ ns : List Int, SqL K H c (ns.map V.int) ∧ ns.length ≤ 63 ∧ ∀ H', Q (.bl true) H'
abbrev N_law : List Str := ["_law_cells", "_law_k"]
theorem sc_law : FnScope N_law ["_law_cells"] (defScope s_law) := ⟨rfl, rfl, rfl, by decide +kernel, rfl, by decide +kernel, by decide +kernel⟩
def t_law (K : PySem.W.Frag) : TS :=
    tRet (tCB (fAll K) (tCons (tLc (iRng1 (tCons (tCB fMax2 (tCons (tC (.int 2)) (tCons (tCB fMin2 (tCons (tCB (fLen K) (tCons (fV 0) tNil)) (tCons (tC (.int 6)) tNil))) tNil))) tNil)) (gName 1) tYes (tCall (sp__law_right K) [] E0 (tCons (tCall (sp__law_source K) [] E0 (tCons (fV 0) (tCons (fV 1) tNil))) tNil)) [1]) tNil))
abbrev Pure_law (K : PySem.W.Frag) : Prop := ∀ (vs : List V) (H : Hp) (Q : VK) (E : XK), sp_law K vs H Q E → t_law K { nx := fun _ H' => Q .non H', rt := Q } (L2.start N_law vs) H
theorem pure_law (T : Tx K mg) : Pure_law K := by
  intro vs H Q E h
  obtain ⟨x1, rfl, h⟩ := on1_ex h
  obtain ⟨c, rfl, ns, hS5, hl, hQ⟩ := onRef_ex h
  refine ⟨_, .inl hS5, ?_⟩
  rw [List.length_map]
  refine ⟨_, rfl, ?_, ?_, fun D hD => ?_⟩
  · split <;> split <;> omega
  · split <;> split <;> omega
  refine lc_rangeF (fun _ => .bl true) hD (by split <;> split <;> omega) (fun i H6 hi e6 R hR => ?_) (fun H6 e6 hD6 => ?_)
  · refine ⟨rfl, ns, e6.seq hS5, by omega, by omega, ?_, fun p H7 hp0 hp7 e7 => ⟨hp7, fun H8 hk8 => hR H8 fun b o hb => hk8 b o (ne_of_none hb hp0) (e7 _ _ hb)⟩⟩
    have : i < 8 + 1 := by
      refine Nat.lt_of_lt_of_le hi ?_
      split <;> split <;> omega
    omega
  · refine ⟨(List.range _).map fun _ => true, SqL.of (by rw [hD6, List.map_map]; rfl), ?_⟩
    have e : ∀ n, ((List.range n).map fun _ => true).all id = true := fun n => by simp
    rw [e]
    exact hQ H6

theorem b_law (T : Tx K mg) : Binds K (fdA K (He.fAd K d_law.at_)) ["_law_cells"] [] := T.F_law.bindsN fun _ _ _ _ _ _ us hl => match us, hl with | [_], _ => rfl
theorem ok_law (T : Tx K mg) : FnG P w K mg base CX0 10 (He.fAd K d_law.at_) (fdA K (He.fAd K d_law.at_)) ["_law_cells"] (sp_law K) :=
  Sp.FunD.okG T.F_law sc_law (fun _ _ _ _ h => on1_len h) (fun cdv A outer s H vs Q E hgd hr h => ⟨t_law K, PSs.nox ((pss_one (ps_ret (pe_callB (c_all rfl) (by rfl) T.b_all boot_all (pa_cons (pe_lc (own := [("_law_k", 1)]) (g := gName 1) (by rfl) sc_law.nd (pi_range1 (by rfl) T.b_range (pa_cons (pe_callB (c_max2 rfl) (by rfl) T.b_max boot_max (pa_cons pe_int (pa_cons (pe_callB (c_min2 rfl) (by rfl) T.b_min boot_min (pa_cons (pe_callB c_len (by rfl) T.b_len boot_len (pa_cons (vv 0) pa_nil)) (pa_cons pe_int pa_nil))) pa_nil))) pa_nil)) (blkOk_by (own := [("_law_k", 1)]) (N := N_law) (sc := defScope s_law) (by decide +kernel)) (fun _ _ _ _ _ => (pg_name (i := 1) sc_law.nd rfl (.inl rfl))) (fun _ _ _ _ _ => pts_nil) (fun _ _ _ _ _ => (e_callG hgd (ok__law_right T) (hr.mono (by decide)) (by rfl) T.g__law_right T.F__law_right.kp (b__law_right T) .nil pass0 (pa_cons (pe_call (ok__law_source T) (hr.mono (by decide)) (by rfl) T.g__law_source T.F__law_source.kp (b__law_source T) .nil pass0 (pa_cons (vv 0) (pa_cons (vv 1) pa_nil))) pa_nil)))) pa_nil))))), pure_law T vs H Q E h⟩)
end K05
open PySem PySem.W PySem.Calls PyProof.Rows
set_option maxHeartbeats 0 in
theorem PySem.Challenge.cw_spillruns_k05_whole_algebra_of_forms_holds : PySem.Challenge.rw_spillruns_k05_whole_algebra_of_forms.Holds := by
  w_on; o_law
  refine HandSHeadRun.head_any (r := OpenLaw.row PySem.Challenge.rw_spillruns_k05_whole_algebra_of_forms) (q := view (OpenLaw.row PySem.Challenge.rw_spillruns_k05_whole_algebra_of_forms).prog [38]) (H := K05.hk) (ob := K05.ob) (M := 20000) (loose := K05.loose) (d := HandSHeadRun.topDef (OpenLaw.row PySem.Challenge.rw_spillruns_k05_whole_algebra_of_forms).prog 38) (kwd := []) K05.ob_eq
    (by kernel_rfl) (fun s => by kernel_rfl) K05.run (by kernel_rfl) (by kernel_rfl) (by kernel_rfl) (by rfl) (by first | assumption | decide +kernel) (by decide +kernel) ⟨rfl, rfl, rfl, rfl, rfl, by decide +kernel⟩ ?hw ?hc
  case hw => w_witness2
  case hc =>
    refine Sp.walkG (l := PySem.Challenge.rw_spillruns_k05_whole_algebra_of_forms) (n := 63) (k := 10) (x := "_law_cells") rfl (by decide) (by kernel_rfl) ⟨rfl, by decide, by decide⟩ ?F
    intro w mg fa h Y G hmg0
    obtain ⟨K, KX, c⟩ := Y
    have hmg : mg ("law" : PySem.Str) = some (.ref fa) := by
      have e : (HandSHeadRun.topDef (OpenLaw.row PySem.Challenge.rw_spillruns_k05_whole_algebra_of_forms).prog 38).name = ("law" : PySem.Str) := by kernel_rfl
      rw [← e]
      exact hmg0
    have T := K05.tx_of KX G c
    have e := hmg.symm.trans T.g_law
    cases e
    refine ⟨K, KX, K05.fdA K (He.fAd K K05.d_law.at_), K05.sp_law K, (fun s v => (L2.FunD.bindsA (ps := ["_law_cells"]) T.F_law fun _ _ _ _ _ _ us hl => match us, hl with | [_], _ => rfl) s [v] rfl), (fun H a ns hl hS => ⟨ns, hS, hl, fun _ => rfl⟩), fun base => K05.ok_law T⟩



