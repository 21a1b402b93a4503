import PyProof.Rows.All
import Wide.All
import OpenK.AllK
import Wide.FinOn
import KE.KStateDown
import Lean
import HandS.ForMost
import HandS.Defaults
import HandS.Head0
import HandS.Head1
import HandS.Head2
import HandS.HeadEnd
import HandS.HeadHook1
import HandS.HeadHook2
import HandS.HeadHook3
import HandS.HeadHook4
import HandS.HeadWalk
import HandS.EndBits
import HandS.EndTab
import HandS.Property
import HandS.WideBits
import HandS.Wide
import PyProof.ReprRoads
import HandS.IsInst
import HandS.Style
import HandS.MakeKw
import HandS.TupAny
import HandS.Conv
import PyProof.LongRange
import KE.GoesMore
import PySem.Challenge.RW_spillruns_k06_first_by_looking
set_option Elab.async false
set_option linter.all false
set_option maxRecDepth 100000
set_option maxHeartbeats 4000000
namespace Sp
open PySem PySem.Spec PyProof.Rows L2

section
variable {X : Cx}
theorem OpR.imp {f : Value → Value → Sem Value} {r r' : R2} (h : OpR X f r) (hi : ∀ x y H Q, r' x y H Q → r x y H Q) : OpR X f r' :=
  fun pins s σ H x y v u Q I rx ry q => h pins s σ H x y v u Q I rx ry (hi _ _ _ _ q)
theorem UnR.imp {f : Value → Sem Value} {r r' : V → Hp → VK → Prop} (h : UnR X f r) (hi : ∀ x H Q, r' x H Q → r x H Q) : UnR X f r' :=
  fun pins s σ H x v Q I rx q => h pins s σ H x v Q I rx (hi _ _ _ q)
theorem CallR.imp {f : Value} {r r' : List V → Hp → VK → Prop} (h : CallR X f r) (hi : ∀ xs H Q, r' xs H Q → r xs H Q) : CallR X f r' :=
  fun pins s σ H xs us Q I rx q => h pins s σ H xs us Q I rx (hi _ _ _ q)
theorem IxR.imp {r r' : R2} (h : IxR X r) (hi : ∀ x y H Q, r' x y H Q → r x y H Q) : IxR X r' :=
  fun e1 e2 pins s σ H x y v u Q I rx ry q => h e1 e2 pins s σ H x y v u Q I rx ry (hi _ _ _ _ q)
theorem PSet.imp {r r' : TSet} (h : PSet X r) (hi : ∀ x y z H Q, r' x y z H Q → r x y z H Q) : PSet X r' :=
  fun pins s σ H x y z v u w Q I rx ry rz q => h pins s σ H x y z v u w Q I rx ry rz (hi _ _ _ _ _ q)
theorem PE.imp {e : Expr} {t t' : TE} (h : PE X e t) (hi : ∀ σ H Q, t' σ H Q → t σ H Q) : PE X e t' := ⟨fun pins s σ H Q I q => h.run pins s σ H Q I (hi _ _ _ q)⟩
theorem PS.imp {e : Stmt} {t t' : TS} (h : PS X e t) (hi : ∀ D σ H, t' D σ H → t D σ H) : PS X e t' := ⟨fun pins s σ H D I q => h.run pins s σ H D I (hi _ _ _ q)⟩
end

/-! ### names -/
def at? (σ : L2.St) (i : Nat) : Option V := (σ[i]?).bind id
def fV (i : Nat) : TE := fun σ H Q => match at? σ i with
  | some v => Q v H
  | none => False
section
variable {X : Cx}
theorem vv (i : Nat) {x : Str} {pos : Pos} (hN : X.N[i]? = some x := by rfl) (hv : Vis X.env.scope x := by first | exact Or.inl rfl | exact Or.inr (Or.inl rfl) | exact Or.inr (Or.inr rfl)) (hd : (x == ("__debug__" : Str)) = false := by decide)
    (hcd : (x == ("__classdict__" : Str)) = false := by decide) : PE X (.Name x pos) (fV i) := PE.imp (pe_var hN hv hd hcd) fun σ H Q h => by
  unfold fV at h
  cases e : σ[i]? with
  | none => rw [at?, e] at h; exact h.elim
  | some o =>
    cases o with
    | none => rw [at?, e] at h; exact h.elim
    | some v =>
      rw [at?, e] at h
      exact ⟨v, e, h⟩
end

/-! ### ints -/
def i2 (g : Int → Int → V) : R2 := fun x y H Q => match x, y with
  | .int i, .int j => Q (g i j) H
  | _, _ => False
def i2c (C : Int → Int → Prop) (g : Int → Int → V) : R2 := fun x y H Q => match x, y with
  | .int i, .int j => C i j ∧ Q (g i j) H
  | _, _ => False
def i1 (g : Int → V) : V → Hp → VK → Prop := fun x H Q => match x with
  | .int i => Q (g i) H
  | _ => False
theorem i2_of {g : Int → Int → V} (x y : V) (H : Hp) (Q : VK) (h : i2 g x y H Q) : rI0 g x y H Q := by
  cases x <;> cases y <;> first
    | exact h.elim
    | exact ⟨_, _, rfl, rfl, h⟩
theorem i2c_of {C : Int → Int → Prop} {g : Int → Int → V} (x y : V) (H : Hp) (Q : VK) (h : i2c C g x y H Q) : rI C g x y H Q := by
  cases x <;> cases y <;> first
    | exact h.elim
    | exact ⟨_, _, rfl, rfl, h.1, h.2⟩
theorem i1_of {g : Int → V} (x : V) (H : Hp) (Q : VK) (h : i1 g x H Q) : rU g x H Q := by
  cases x <;> first
    | exact h.elim
    | exact ⟨_, rfl, h⟩
abbrev fAdd : R2 := i2 fun i j => .int (i + j)
abbrev fSub : R2 := i2 fun i j => .int (i - j)
abbrev fMul : R2 := i2c CMul fun i j => .int (i * j)
abbrev fMulW : R2 := i2c CMulW fun i j => .int (i * j)
abbrev fMod : R2 := i2c (fun _ j => 0 < j) fun i j => .int (i % j)
abbrev fDiv : R2 := i2c CDivW fun i j => .int (i / j)
abbrev fDivN : R2 := i2c CDivN fun i j => .int (i.fdiv j)
abbrev fPow : R2 := i2c CPow fun i j => .int (i ^ j.toNat)
abbrev fLt : R2 := i2 fun i j => .bl (decide (i < j))
abbrev fLe : R2 := i2 fun i j => .bl (decide (i ≤ j))
abbrev fGt : R2 := i2 fun i j => .bl (decide (j < i))
abbrev fGe : R2 := i2 fun i j => .bl (decide (j ≤ i))
abbrev fNeg : V → Hp → VK → Prop := i1 fun i => .int (-i)
/-- == of scalars -/
def fEq : R2 := fun x y H Q => match scal x y with
  | true => Q (.bl (decide (x = y))) H
  | false => False
def fNe : R2 := fun x y H Q => match scal x y with
  | true => Q (.bl (!decide (x = y))) H
  | false => False
/-- is None, is not None -/
def fIsN : R2 := fun x y H Q => match y with
  | .non => Q (.bl (decide (x = .non))) H
  | _ => False
def fNotN : R2 := fun x y H Q => match y with
  | .non => Q (.bl (!decide (x = .non))) H
  | _ => False
/-- texts -/
def fAddS : R2 := fun x y H Q => match x, y with
  | .str i, .str j => i.length + j.length ≤ sizeLine ∧ Q (.str (i ++ j)) H
  | _, _ => False
section
variable {X : Cx}
theorem o_add : OpR X (binaryOp .Add) fAdd := OpR.imp op_add i2_of
theorem o_sub : OpR X (binaryOp .Sub) fSub := OpR.imp op_sub i2_of
theorem o_mul : OpR X (binaryOp .Mult) fMul := OpR.imp op_mul i2c_of
theorem o_mulW : OpR X (binaryOp .Mult) fMulW := OpR.imp op_mulW i2c_of
theorem o_mod : OpR X (binaryOp .Mod) fMod := OpR.imp op_mod i2c_of
theorem o_div : OpR X (binaryOp .FloorDiv) fDiv := OpR.imp op_fdivW i2c_of
theorem o_divN : OpR X (binaryOp .FloorDiv) fDivN := OpR.imp op_fdivN i2c_of
theorem o_pow : OpR X (binaryOp .Pow) fPow := OpR.imp op_pow i2c_of
theorem o_lt : OpR X (compareOp .Lt) fLt := OpR.imp op_lt i2_of
theorem o_le : OpR X (compareOp .LtE) fLe := OpR.imp op_le i2_of
theorem o_gt : OpR X (compareOp .Gt) fGt := OpR.imp op_gt i2_of
theorem o_ge : OpR X (compareOp .GtE) fGe := OpR.imp op_ge i2_of
theorem o_neg : UnR X (unaryOp .USub) fNeg := UnR.imp un_neg i1_of
theorem o_eq : OpR X (compareOp .Eq) fEq := OpR.imp op_eq fun x y H Q h => by
  unfold fEq at h
  cases e : scal x y with
  | true => rw [e] at h; exact ⟨e, h⟩
  | false => rw [e] at h; exact h.elim
theorem o_ne : OpR X (compareOp .NotEq) fNe := OpR.imp op_ne fun x y H Q h => by
  unfold fNe at h
  cases e : scal x y with
  | true => rw [e] at h; exact ⟨e, h⟩
  | false => rw [e] at h; exact h.elim
theorem o_isN : OpR X (compareOp .Is) fIsN := OpR.imp op_isN fun x y H Q h => by
  cases y <;> first
    | exact h.elim
    | exact ⟨rfl, h⟩
theorem o_notN : OpR X (compareOp .IsNot) fNotN := OpR.imp op_notN fun x y H Q h => by
  cases y <;> first
    | exact h.elim
    | exact ⟨rfl, h⟩
theorem o_addS : OpR X (binaryOp .Add) fAddS := OpR.imp op_add_str fun x y H Q h => by
  cases x <;> cases y <;> first
    | exact h.elim
    | exact ⟨_, _, rfl, rfl, h.1, h.2⟩
end

/-! ### tests -/
def onB (x : V) (k : Bool → Prop) : Prop := match x with
  | .bl b => k b
  | _ => False
theorem onB_ex {x : V} {k : Bool → Prop} (h : onB x k) : ∃ b, x = .bl b ∧ k b := by
  cases x <;> first
    | exact h.elim
    | exact ⟨_, rfl, h⟩
def fT (t : TE) : TT := fun σ H Q => t σ H fun x H' => onB x fun k => Q k H'
def fChain (r r' : R2) (ta tb tc : TE) : TE := fun σ H Q => ta σ H fun x H1 => tb σ H1 fun y H2 => r x y H2 fun z H3 => onB z fun k =>
  (if k = true then tc σ H3 fun w' H4 => r' y w' H4 Q else Q (.bl false) H3)
def fAndV (ta tb : TE) : TE := fun σ H Q => ta σ H fun x H1 => onB x fun c => if c = true then tb σ H1 Q else Q (.bl false) H1
def fOrV (ta tb : TE) : TE := fun σ H Q => ta σ H fun x H1 => onB x fun c => if c = true then Q (.bl true) H1 else tb σ H1 Q
def fNotV (ta : TE) : TE := fun σ H Q => ta σ H fun x H1 => onB x fun c => Q (.bl (!c)) H1
section
variable {X : Cx} {a b c : Expr} {ta tb tc : TE} {pos : Pos} {rest : List Expr}
theorem t_cmp {op : CmpOp} {r : R2} (ho : OpR X (compareOp op) r) (ha : PE X a ta) (hb : PE X b tb) (hm : behindInMarks op b = false) : PT X (.Compare a [op] [b] pos) (fT (tOp r ta tb)) := by
  refine ⟨fun pins s σ H Q I h => ?_⟩
  refine wpAny_isTrue_Compare1 (thn (ha.run pins s σ H _ I h) fun v s1 ⟨x, H1, I1, r1, q1⟩ => thn (hb.run pins s1 σ H1 _ I1 q1) fun u s2 ⟨y, H2, I2, r2, q2⟩ =>
    thn (ho pins s2 σ H2 x y v u _ I2 r1 r2 q2) fun c s3 ⟨z, H3, I3, r3, q3⟩ => ?_) hm
  obtain ⟨k, rfl, q3⟩ := onB_ex q3
  cases r3
  exact wpAny_truthy_bool ⟨H3, I3, q3⟩
theorem t_val {e : Expr} {t : TE} (h : PE X e t) (he : ∀ whole, isTrue e X.env whole = (do let v ← whole; standAt e.pos; holding [v] (truthy v)) := by intro _; rfl) : PT X e (fT t) := by
  refine ⟨fun pins s σ H Q I hw => ?_⟩
  refine isTrue_plain (thn (h.run pins s σ H _ I hw) fun v s1 ⟨x, H1, I1, r1, q1⟩ => ?_) (he _)
  obtain ⟨k, rfl, q⟩ := onB_ex q1
  cases r1
  exact wpAny_truthy_bool ⟨H1, I1, q⟩
theorem e_chain {op op' : CmpOp} {r r' : R2} (ho : OpR X (compareOp op) r) (ho' : OpR X (compareOp op') r') (ha : PE X a ta) (hb : PE X b tb) (hc : PE X c tc)
    (hm : lastMarks [op, op'] [b, c] = false := by with_unfolding_all rfl) : PE X (.Compare a [op, op'] [b, c] pos) (fChain r r' ta tb tc) := by
  refine ⟨fun pins s σ H Q I h => ?_⟩
  refine Compare_chain (thn (ha.run pins s σ H _ I h) fun v s1 ⟨x, H1, I1, r1, q1⟩ => chain_link (thn (hb.run pins s1 σ H1 _ I1 q1) fun u s2 ⟨y, H2, I2, r2, q2⟩ =>
    thn (ho pins s2 σ H2 x y v u _ I2 r1 r2 q2) fun d s3 ⟨z, H3, I3, r3, q3⟩ => ?_)) hm
  obtain ⟨k, rfl, q3⟩ := onB_ex q3
  cases r3
  refine wpAny_truthy_bool ?_
  cases k with
  | false => exact ite_ff ⟨.bl false, H3, I3, rfl, q3⟩
  | true => exact ite_tt (chain_last (thn (hc.run pins s3 σ H3 _ I3 q3) fun w' s4 ⟨z', H4, I4, r4, q4⟩ => ho' pins s4 σ H4 y z' u w' Q I4 r2 r4 q4))
theorem t_chain {op op' : CmpOp} {r r' : R2} (ho : OpR X (compareOp op) r) (ho' : OpR X (compareOp op') r') (ha : PE X a ta) (hb : PE X b tb) (hc : PE X c tc)
    (hm : lastMarks [op, op'] [b, c] = false := by with_unfolding_all rfl) : PT X (.Compare a [op, op'] [b, c] pos) (fT (fChain r r' ta tb tc)) := by
  refine ⟨fun pins s σ H Q I h => ?_⟩
  refine isTrue_chain (thn (ha.run pins s σ H _ I h) fun v s1 ⟨x, H1, I1, r1, q1⟩ => test_link (thn (hb.run pins s1 σ H1 _ I1 q1) fun u s2 ⟨y, H2, I2, r2, q2⟩ =>
    thn (ho pins s2 σ H2 x y v u _ I2 r1 r2 q2) fun d s3 ⟨z, H3, I3, r3, q3⟩ => ?_)) hm
  obtain ⟨k, rfl, q3⟩ := onB_ex q3
  cases r3
  refine wpAny_truthy_bool ?_
  cases k with
  | false => exact ite_ff ⟨H3, I3, q3⟩
  | true =>
    refine ite_tt (test_last (thn (hc.run pins s3 σ H3 _ I3 q3) fun w' s4 ⟨z', H4, I4, r4, q4⟩ => thn (ho' pins s4 σ H4 y z' u w' _ I4 r2 r4 q4) fun d' s5 ⟨z2, H5, I5, r5, q5⟩ => ?_))
    obtain ⟨k2, rfl, q5⟩ := onB_ex q5
    cases r5
    exact wpAny_truthy_bool ⟨H5, I5, q5⟩
theorem e_and (ha : PE X a ta) (hb : PE X (.BoolOp .And (b :: rest) pos) tb) : PE X (.BoolOp .And (a :: b :: rest) pos) (fAndV ta tb) := by
  refine ⟨fun pins s σ H Q I h => ?_⟩
  refine BoolOp_and (thn (ha.run pins s σ H _ I h) fun v s1 ⟨x, H1, I1, r1, q1⟩ => ?_)
  obtain ⟨c, rfl, q1⟩ := onB_ex q1
  cases r1
  refine wpAny_truthy_bool ?_
  cases c with
  | true => exact hb.run pins s1 σ H1 Q I1 q1
  | false => exact ⟨.bl false, H1, I1, rfl, q1⟩
theorem e_or (ha : PE X a ta) (hb : PE X (.BoolOp .Or (b :: rest) pos) tb) : PE X (.BoolOp .Or (a :: b :: rest) pos) (fOrV ta tb) := by
  refine ⟨fun pins s σ H Q I h => ?_⟩
  refine BoolOp_or (thn (ha.run pins s σ H _ I h) fun v s1 ⟨x, H1, I1, r1, q1⟩ => ?_)
  obtain ⟨c, rfl, q1⟩ := onB_ex q1
  cases r1
  refine wpAny_truthy_bool ?_
  cases c with
  | false => exact hb.run pins s1 σ H1 Q I1 q1
  | true => exact ⟨.bl true, H1, I1, rfl, q1⟩
theorem e_not (ha : PE X a ta) : PE X (.UnaryOp .Not a pos) (fNotV ta) := by
  refine ⟨fun pins s σ H Q I h => ?_⟩
  refine UnaryOp_ (thn (ha.run pins s σ H _ I h) fun v s1 ⟨x, H1, I1, r1, q1⟩ => ?_)
  obtain ⟨c, rfl, q1⟩ := onB_ex q1
  cases r1
  exact not_of (wpAny_truthy_bool ⟨.bl (!c), H1, I1, rfl, q1⟩)
end

/-! ### items, slices -/
/-- an item of a list, of a tuple, of a text -/
def onRef (x : V) (k : Addr → Prop) : Prop := match x with
  | .ref a => k a
  | _ => False
theorem onRef_ex {x : V} {k : Addr → Prop} (h : onRef x k) : ∃ b, x = .ref b ∧ k b := by
  cases x <;> first
    | exact h.elim
    | exact ⟨_, rfl, h⟩
def onInt (x : V) (k : Int → Prop) : Prop := match x with
  | .int a => k a
  | _ => False
theorem onInt_ex {x : V} {k : Int → Prop} (h : onInt x k) : ∃ b, x = .int b ∧ k b := by
  cases x <;> first
    | exact h.elim
    | exact ⟨_, rfl, h⟩
def onStr (x : V) (k : Str → Prop) : Prop := match x with
  | .str a => k a
  | _ => False
theorem onStr_ex {x : V} {k : Str → Prop} (h : onStr x k) : ∃ b, x = .str b ∧ k b := by
  cases x <;> first
    | exact h.elim
    | exact ⟨_, rfl, h⟩
def fIxL (K : PySem.W.Frag) : R2 := fun x y H Q => onRef x fun p => onInt y fun i => ∃ xs, SqL K H p xs ∧ ∃ v, atI xs i = some v ∧ Q v H
def fIxT (K : PySem.W.Frag) : R2 := fun x y H Q => onRef x fun p => onInt y fun i => ∃ xs, SqT K H p xs ∧ ∃ v, atI xs i = some v ∧ Q v H
def fSetL : V → V → V → Hp → (Hp → Prop) → Prop := fun o i v H Q => onRef o fun p => onInt i fun k => ∃ xs, H p = some (.lst xs) ∧ ∃ j, ixN xs.length k = some j ∧ Q (upd H p (.lst (xs.set j v)))
def fCatL : R2 := fun x y H Q => onRef x fun l => onRef y fun b => ∃ xs zs, H l = some (.lst xs) ∧ H b = some (.lst zs) ∧ xs.length + zs.length ≤ sizeLine ∧ ∀ p, H p = none → Q (.ref p) (upd H p (.lst (xs ++ zs)))
section
variable {X : Cx}
theorem x_list : IxR X (fIxL X.K) := IxR.imp ix_list fun x y H Q h => by
  obtain ⟨p, rfl, h1⟩ := onRef_ex h
  obtain ⟨i, rfl, xs, h2, v, h3, h4⟩ := onInt_ex h1
  exact ⟨p, xs, i, v, rfl, rfl, h2, h3, h4⟩
theorem x_tup : IxR X (fIxT X.K) := IxR.imp ix_tup fun x y H Q h => by
  obtain ⟨p, rfl, h1⟩ := onRef_ex h
  obtain ⟨i, rfl, xs, h2, v, h3, h4⟩ := onInt_ex h1
  exact ⟨p, xs, i, v, rfl, rfl, h2, h3, h4⟩
theorem s_list : PSet X fSetL := PSet.imp set_list fun o i v H Q h => by
  obtain ⟨p, rfl, h1⟩ := onRef_ex h
  obtain ⟨k, rfl, xs, h2, j, h3, h4⟩ := onInt_ex h1
  exact ⟨p, xs, k, j, rfl, rfl, h2, h3, h4⟩
theorem o_catL : OpR X (binaryOp .Add) fCatL := OpR.imp op_cat fun x y H Q h => by
  obtain ⟨l, rfl, h1⟩ := onRef_ex h
  obtain ⟨b, rfl, xs, zs, h2⟩ := onRef_ex h1
  exact ⟨l, b, xs, zs, rfl, rfl, h2⟩
end

/-! ### calls of builtins -/
def on1 (xs : List V) (k : V → Prop) : Prop := match xs with
  | [x] => k x
  | _ => False
theorem on1_ex {xs : List V} {k : V → Prop} (h : on1 xs k) : ∃ x, xs = [x] ∧ k x := by
  cases xs with
  | nil => exact h.elim
  | cons x r =>
    cases r with
    | nil => exact ⟨_, rfl, h⟩
    | cons _ _ => exact h.elim
def on2 (xs : List V) (k : V → V → Prop) : Prop := match xs with
  | [x, y] => k x y
  | _ => False
theorem on2_ex {xs : List V} {k : V → V → Prop} (h : on2 xs k) : ∃ x y, xs = [x, y] ∧ k x y := by
  cases xs with
  | nil => exact h.elim
  | cons x r =>
    cases r with
    | nil => exact h.elim
    | cons y r =>
      cases r with
      | nil => exact ⟨_, _, rfl, h⟩
      | cons _ _ => exact h.elim
def fLen (K : PySem.W.Frag) : List V → Hp → VK → Prop := fun xs H Q => on1 xs fun x => match x with
  | .str y => y.length ≤ sizeLine ∧ Q (.int y.length) H
  | .ref p => ∃ ys, (SqL K H p ys ∨ SqT K H p ys) ∧ Q (.int ys.length) H
  | _ => False
def fInt1 : List V → Hp → VK → Prop := fun xs H Q => on1 xs fun x => match x with
  | .int i => Q (.int i) H
  | .bl k => Q (.int (if k then 1 else 0)) H
  | _ => False
def fAbs : List V → Hp → VK → Prop := fun xs H Q => on1 xs fun x => onInt x fun i => Q (.int (if i < 0 then -i else i)) H
def fMax2 : List V → Hp → VK → Prop := fun xs H Q => on2 xs fun x y => onInt x fun i => onInt y fun j => Q (.int (if j > i then j else i)) H
def fMin2 : List V → Hp → VK → Prop := fun xs H Q => on2 xs fun x y => onInt x fun i => onInt y fun j => Q (.int (if j < i then j else i)) H
def fDivmod : List V → Hp → VK → Prop := fun xs H Q => on2 xs fun x y => onInt x fun i => onInt y fun j => CDivW i j ∧ ∀ p, H p = none → Q (.ref p) (upd H p (.tup [.int (i / j), .int (i % j)]))
def fStrI : List V → Hp → VK → Prop := fun xs H Q => on1 xs fun x => onInt x fun i => i.natAbs.log2 < 1920 ∧ Q (.str (toString i)) H
def fTupOfL (K : PySem.W.Frag) : List V → Hp → VK → Prop := fun xs H Q => on1 xs fun x => onRef x fun p => ∃ ys, SqL K H p ys ∧ ∀ l, H l = none → Q (.ref l) (upd H l (.tup ys))
def fLstOf (K : PySem.W.Frag) : List V → Hp → VK → Prop := fun xs H Q => on1 xs fun x => onRef x fun p => ∃ ys, (SqL K H p ys ∨ SqT K H p ys) ∧ ∀ l, H l = none → Q (.ref l) (upd H l (.lst ys))
def fAll (K : PySem.W.Frag) : List V → Hp → VK → Prop := fun xs H Q => on1 xs fun x => onRef x fun p => ∃ bs : List Bool, SqL K H p (bs.map V.bl) ∧ Q (.bl (bs.all id)) H
section
variable {X : Cx}
theorem c_len : CallR X (.builtin "len") (fLen X.K) := fun pins s σ H xs us Q I r h => by
  obtain ⟨x, rfl, h⟩ := on1_ex h
  cases x with
  | str y => exact call_len_str pins s σ H _ us Q I r ⟨y, rfl, h.1, h.2⟩
  | ref p =>
    obtain ⟨ys, h1, h2⟩ := h
    exact call_len_seq pins s σ H _ us Q I r ⟨p, ys, rfl, h1, h2⟩
  | _ => exact h.elim
theorem c_int1 : CallR X (.type "int") fInt1 := fun pins s σ H xs us Q I r h => by
  obtain ⟨x, rfl, h⟩ := on1_ex h
  cases x with
  | int i => exact call_int1 pins s σ H _ us Q I r (.inl ⟨i, rfl, h⟩)
  | bl k => exact call_int1 pins s σ H _ us Q I r (.inr ⟨k, rfl, h⟩)
  | _ => exact h.elim
theorem c_abs : CallR X (.builtin "abs") fAbs := CallR.imp call_abs fun xs H Q h => by
  obtain ⟨x, rfl, h⟩ := on1_ex h
  obtain ⟨i, rfl, h⟩ := onInt_ex h
  exact ⟨i, rfl, h⟩
theorem c_max2 (hc : X.calm = true) : CallR X (.builtin "max") fMax2 := CallR.imp (call_max2 hc) fun xs H Q h => by
  obtain ⟨x, y, rfl, h⟩ := on2_ex h
  obtain ⟨i, rfl, h⟩ := onInt_ex h
  obtain ⟨j, rfl, h⟩ := onInt_ex h
  exact ⟨i, j, rfl, h⟩
theorem c_min2 (hc : X.calm = true) : CallR X (.builtin "min") fMin2 := CallR.imp (call_min2 hc) fun xs H Q h => by
  obtain ⟨x, y, rfl, h⟩ := on2_ex h
  obtain ⟨i, rfl, h⟩ := onInt_ex h
  obtain ⟨j, rfl, h⟩ := onInt_ex h
  exact ⟨i, j, rfl, h⟩
theorem c_divmod : CallR X (.builtin "divmod") fDivmod := CallR.imp call_divmodW fun xs H Q h => by
  obtain ⟨x, y, rfl, h⟩ := on2_ex h
  obtain ⟨i, rfl, h⟩ := onInt_ex h
  obtain ⟨j, rfl, h, q⟩ := onInt_ex h
  exact ⟨i, j, rfl, ⟨h.1, PyProof.noPylong_of_log2 h.2⟩, q⟩
theorem c_strI : CallR X (.type "str") fStrI := CallR.imp call_str_int fun xs H Q h => by
  obtain ⟨x, rfl, h⟩ := on1_ex h
  obtain ⟨i, rfl, h⟩ := onInt_ex h
  exact ⟨i, rfl, h⟩
theorem c_tupL : CallR X (.type "tuple") (fTupOfL X.K) := CallR.imp call_tuple_of fun xs H Q h => by
  obtain ⟨x, rfl, h⟩ := on1_ex h
  obtain ⟨p, rfl, ys, h1, h2⟩ := onRef_ex h
  exact ⟨p, ys, rfl, .inl ⟨h1, h2⟩⟩
theorem c_list : CallR X (.type "list") (fLstOf X.K) := CallR.imp call_list_of fun xs H Q h => by
  obtain ⟨x, rfl, h⟩ := on1_ex h
  obtain ⟨p, rfl, ys, h1, h2⟩ := onRef_ex h
  exact ⟨p, ys, rfl, h1, h2⟩
theorem c_all (hc : X.calm = true) : CallR X (.builtin "all") (fAll X.K) := CallR.imp (cr_all hc) fun xs H Q h => by
  obtain ⟨x, rfl, h⟩ := on1_ex h
  obtain ⟨p, rfl, bs, h1, h2⟩ := onRef_ex h
  exact ⟨p, bs, rfl, h1, h2⟩
end

/-! ### repr of data -/
def fRepr (K : PySem.W.Frag) : List V → Hp → VK → Prop := fun xs H Q => on1 xs fun x => ∃ d, Dp K H x d ∧ isDisplay d = true ∧ d.showable = true ∧ d.depth ≤ 60 ∧ d.shown.length ≤ sizeLine ∧ Q (.str d.shown) H
theorem dp_noDict {K : PySem.W.Frag} {H : Hp} : ∀ (d : PyData) (v : V), Dp K H v d → d.hasDict = false := by
  intro d v h
  refine Dp.rec (motive_1 := fun v d _ => d.hasDict = false) (motive_2 := fun vs ds _ => PyData.hasDictAll ds = false) ?_ ?_ ?_ ?_ ?_ ?_ ?_ ?_ h
  · rfl
  · intro b; rfl
  · intro b; rfl
  · intro b; rfl
  · intro a xs ds _ _ ih; simpa [PyData.hasDict] using ih
  · intro a xs ds _ _ ih; simpa [PyData.hasDict] using ih
  · rfl
  · intro v vs d ds _ _ h1 h2; simp [PyData.hasDictAll, h1, h2]
section
variable {X : Cx}
theorem c_repr (hg : X.A.guards = some []) (hu : X.A.units + 64 < cLine) : CallR X (.builtin "repr") (fRepr X.K) := fun pins s σ H xs us Q I r h => by
  obtain ⟨x, rfl, d, hd, h1, h2, h3, h4, q⟩ := on1_ex h
  obtain ⟨u, rfl, rx⟩ := vals1 r
  obtain ⟨as, rd⟩ := Dp.reads I d x u hd rx
  obtain ⟨a, rfl⟩ := isRef_of_reads rd h1
  exact repr_of_reads' rd h2 (PyData.noDict_hsm (dp_noDict _ _ hd)) hg (by omega) (fun _ _ e => e) (fun h' u tk hk => ⟨.str d.shown, H, I.kept hk, ⟨_, rfl⟩, q⟩) h4
end
/-! ### promises by number of arguments -/
theorem on1_len {xs : List V} {k : V → Prop} (h : on1 xs k) : xs.length = 1 := by
  obtain ⟨_, rfl, _⟩ := on1_ex h
  rfl
theorem on2_len {xs : List V} {k : V → V → Prop} (h : on2 xs k) : xs.length = 2 := by
  obtain ⟨_, _, rfl, _⟩ := on2_ex h
  rfl
def on0 (xs : List V) (k : Prop) : Prop := match xs with
  | [] => k
  | _ => False
theorem on0_ex {xs : List V} {k : Prop} (h : on0 xs k) : xs = [] ∧ k := by
  cases xs with
  | nil => exact ⟨rfl, h⟩
  | cons _ _ => exact h.elim
theorem on0_len {xs : List V} {k : Prop} (h : on0 xs k) : xs.length = 0 := by
  obtain ⟨rfl, _⟩ := on0_ex h
  rfl
def on3 (xs : List V) (k : V → V → V → Prop) : Prop := match xs with
  | [x, y, z] => k x y z
  | _ => False
theorem on3_ex {xs : List V} {k : V → V → V → Prop} (h : on3 xs k) : ∃ x y z, xs = [x, y, z] ∧ k x y z := by
  match xs, h with
  | [x, y, z], h => exact ⟨x, y, z, rfl, h⟩
  | [], h => exact h.elim
  | [_], h => exact h.elim
  | [_, _], h => exact h.elim
  | _ :: _ :: _ :: _ :: _, h => exact h.elim
theorem on3_len {xs : List V} {k : V → V → V → Prop} (h : on3 xs k) : xs.length = 3 := by
  obtain ⟨_, _, _, rfl, _⟩ := on3_ex h
  rfl
def on4 (xs : List V) (k : V → V → V → V → Prop) : Prop := match xs with
  | [x, y, z, u] => k x y z u
  | _ => False
theorem on4_ex {xs : List V} {k : V → V → V → V → Prop} (h : on4 xs k) : ∃ x y z u, xs = [x, y, z, u] ∧ k x y z u := by
  match xs, h with
  | [x, y, z, u], h => exact ⟨x, y, z, u, rfl, h⟩
  | [], h => exact h.elim
  | [_], h => exact h.elim
  | [_, _], h => exact h.elim
  | [_, _, _], h => exact h.elim
  | _ :: _ :: _ :: _ :: _ :: _, h => exact h.elim
theorem on4_len {xs : List V} {k : V → V → V → V → Prop} (h : on4 xs k) : xs.length = 4 := by
  obtain ⟨_, _, _, _, rfl, _⟩ := on4_ex h
  rfl
def on5 (xs : List V) (k : V → V → V → V → V → Prop) : Prop := match xs with
  | [x, y, z, u, t] => k x y z u t
  | _ => False
theorem on5_ex {xs : List V} {k : V → V → V → V → V → Prop} (h : on5 xs k) : ∃ x y z u t, xs = [x, y, z, u, t] ∧ k x y z u t := by
  match xs, h with
  | [x, y, z, u, t], h => exact ⟨x, y, z, u, t, rfl, h⟩
  | [], h => exact h.elim
  | [_], h => exact h.elim
  | [_, _], h => exact h.elim
  | [_, _, _], h => exact h.elim
  | [_, _, _, _], h => exact h.elim
  | _ :: _ :: _ :: _ :: _ :: _ :: _, h => exact h.elim
theorem on5_len {xs : List V} {k : V → V → V → V → V → Prop} (h : on5 xs k) : xs.length = 5 := by
  obtain ⟨_, _, _, _, _, rfl, _⟩ := on5_ex h
  rfl

/-! ### defs that are called where nothing is being shown (repr asks that) -/
structure FnG (P : Program) (w : World) (K : PySem.W.Frag) (mg : Str → Option Value) (base : Heap) (CX : CXT) (k : Nat) (f : Addr) (fd : FuncData) (ps : List Str) (sp : Sp) : Prop where
  len : ∀ vs H Q E, sp vs H Q E → vs.length = ps.length
  run : ∀ (A : Around) (outer : List Env) (s : Shared) (H : Hp) (args : Args) (us : List Value) (vs : List V) (Q : VK) (E : XK), A.guards = some [] → Room k A → Env0 P w K mg base A outer s H → BindsTo s fd args (ps.zip us) → Vals vs us → sp vs H Q E →
    codeAny (model P w) A (.call (.ref f) args) (CR CX outer P w H s Q E) s
section
variable {P : Program} {w : World} {K : PySem.W.Frag} {mg : Str → Option Value} {base : Heap} {CX : CXT} {k : Nat} {f : Addr} {fd : FuncData} {ps : List Str} {sp : Sp}
theorem gOk (F : FnOk P w K mg base CX k f fd ps sp) : FnG P w K mg base CX k f fd ps sp := ⟨F.len, fun A outer s H args us vs Q E _ hr => F.run A outer s H args us vs Q E hr⟩
end
theorem fnG_of {CX : CXT} {P : Program} {w : World} {K : PySem.W.Frag} {mg : Str → Option Value} {base : Heap} {k : Nat} {f : Addr} {name qual : Str} {params : Arguments} {body : List Stmt} {scope : Scope} {dV kV doc pm cdv ct oc : Value} {an od : Option Addr}
    {osl : Array (Option Value)} {N ps : List Str} {sp : Sp} (lk : K.lookup f = some ⟨oc, od, .func (PySem.W.fnOf name qual params body scope dV kV doc pm an cdv ct), osl⟩) (hcd : PySem.W.codeIn K cdv qual = true) (S : FnScope N ps scope)
    (len : ∀ vs H Q E, sp vs H Q E → vs.length = ps.length)
    (hbody : ∀ (A : Around) (outer : List Env) (s : Shared) (H : Hp) (vs : List V) (Q : VK) (E : XK), A.guards = some [] → Room k (A.deeper (envOfC qual scope s.heap.objs.size f cdv)) → sp vs H Q E →
      ∃ t, PSs (cxOf CX P w K mg base N qual scope f cdv A outer s H E) body t ∧ t { nx := fun _ H' => Q .non H', rt := Q } (L2.start N vs) H) :
    FnG P w K mg base CX (k + 1) f (PySem.W.fnOf name qual params body scope dV kV doc pm an cdv ct) ps sp := by
  refine ⟨len, fun A outer s H args us vs Q E hgd hr e0 hb r hsp => ?_⟩
  have hl := len _ _ _ _ hsp
  have KX : K.In s.heap := e0.mod.kin.keeps fun b o e => (e0.bs b o e).1
  have kinds : ∀ y ∈ ps.zip us, scope.names.lookup y.1 = some .local ∨ (scope.names.lookup y.1 = some .cell ∧ ((cellsFrom (s.heap.objs.size + 1) scope.names []).lookup y.1).isSome = true) := by
    rintro ⟨n, v⟩ hy
    exact (S.par n (List.of_mem_zip hy).1).imp id fun z => ⟨z, PySem.W.cellsFrom_some _ _ _ (.inl z)⟩
  refine codeAny_call_function hr.depth (KX _ _ lk) rfl S.co S.gen rfl (PySem.W.codeRec_of KX hcd) (hb _ _ _ _ (wpAny_newFunctionEnv_cells S.kind kinds fun env he s1 x => ?_))
  subst he
  refine ⟨(e0.mod.nolimit.keeps fun b o e => (e0.bs b o e).1).keeps x.toInCall.keep, codeAny_func ?_⟩
  obtain ⟨t, ht, hq⟩ := hbody A outer s H vs Q E hgd (hr.deeper _) hsp
  refine wpAny_mono (ht.run [] s1 (L2.start N vs) H _ (inv_start S hr.hd e0 hl r x) hq) (fun fl s' hs => ?_) fun e s' hs => hs
  cases fl with
  | ret u =>
    obtain ⟨v, _, H', J, rv, q⟩ := hs
    exact ⟨v, H', J.os, J.bare, J.base, J.hok, rv, q⟩
  | next =>
    obtain ⟨_, H', J, q⟩ := hs
    exact ⟨V.non, H', J.os, J.bare, J.base, J.hok, rfl, q⟩
  | brk => exact (hs.choose_spec.choose_spec.2 : False).elim
  | cont => exact (hs.choose_spec.choose_spec.2 : False).elim
theorem FunD.okG {P : Program} {w : World} {K : PySem.W.Frag} {mg : Str → Option Value} {base : Heap} {x qual : Str} {params : Arguments} {body : List Stmt} {scope : Scope} {dvs : List V} {kws : List (Str × V)} {f : Addr} {fd : FuncData} {CX : CXT} {N ps : List Str} {k : Nat} {sp : Sp}
    (F : FunD K x qual params body scope dvs kws f fd) (S : FnScope N ps scope) (len : ∀ vs H Q E, sp vs H Q E → vs.length = ps.length)
    (hbody : ∀ (cdv : Value) (A : Around) (outer : List Env) (s : Shared) (H : Hp) (vs : List V) (Q : VK) (E : XK), A.guards = some [] → Room k (A.deeper (envOfC qual scope s.heap.objs.size f cdv)) → sp vs H Q E →
      ∃ t, PSs (cxOf CX P w K mg base N qual scope f cdv A outer s H E) body t ∧ t { nx := fun _ H' => Q .non H', rt := Q } (L2.start N vs) H) : FnG P w K mg base CX (k + 1) f fd ps sp := by
  obtain ⟨oc, od, dV, kV, doc, pm, an, cdv, ct, osl, rfl, lk, hcd, _, _⟩ := F.ex
  exact fnG_of lk hcd S len fun A outer s H vs Q E hg hr hsp => hbody cdv A outer s H vs Q E hg hr hsp
section
variable {X : Cx} {CX : CXT} {k : Nat} {f C : Addr} {fd : FuncData} {ps : List Str} {sp : Sp} {dvs : List V} {ds : List Value} {E : XK} {x m : Str} {p pos apos : Pos} {e o : Expr} {es : List Expr} {ta : TE} {t : TA}
theorem run_fnG {pins : List (Addr × Obj)} {σ : L2.St} {H : Hp} {s : Shared} {Q : VK} {us : List Value} {vs : List V} (hgd : X.A.guards = some []) (F : FnG X.prog X.w X.K X.mg X.base CX k f fd ps sp) (hr : Room k X.A) (hb : Binds X.K fd ps ds) (hd : Vals dvs ds) (hx : Passes CX X E)
    (I : L2.Inv X pins σ H s) (r : Vals vs us) (h : sp (vs ++ dvs) H Q E) : wpAny (model X.prog X.w) X.A (call (.ref f) us) (EP X pins σ Q) X.xe s := by
  have r2 : Vals (vs ++ dvs) (us ++ ds) := r.append hd
  refine wpAny_call (codeAny_mono (F.run X.A X.stack s H ⟨us, []⟩ (us ++ ds) (vs ++ dvs) Q E hgd hr I.env0 (hb s us I.kIn (by rw [← r2.length]; exact F.len _ _ _ _ h)) r2 h) fun res s' hq => ?_)
  match res, hq with
  | .error e, hq => exact hx pins σ H s e s' I hq
  | .ok (.ret u), hq => exact I.after hq
  | .ok .next, hq => exact hq.elim
  | .ok .brk, hq => exact hq.elim
  | .ok .cont, hq => exact hq.elim
theorem e_callG (hgd : X.A.guards = some []) (F : FnG X.prog X.w X.K X.mg X.base CX k f fd ps sp) (hr : Room k X.A) (hg : Gl X x) (hm : X.mg x = some (.ref f)) (hk : PySem.W.keepIn X.K (.ref f) = true) (hb : Binds X.K fd ps ds) (hd : Vals dvs ds) (hx : Passes CX X E)
    (ha : PA X (e :: es) t) (hdb : (x == ("__debug__" : Str)) = false := by decide) (he : starEach (e :: es) X.env = (false, eval e X.env) :: starEach es X.env := by rfl) (hpl : (backTo pos (starEach es X.env)).any (·.1) = false := by rfl) :
    PE X (.Call (.Name x p) (e :: es) [] pos) (tCall sp dvs E t) :=
  ⟨fun pins s σ H Q I h => wpAny_Call_Name_kw (ld_glob I hg hm (PySem.W.callWith_K (h₀ := X.base) I.ok.mod.kin hk (thn (ha.run pos pins s σ H _ I h) fun us s1 ⟨vs, H1, I1, r, q⟩ => ⟨I1.kIn, run_fnG hgd F hr hb hd hx I1 r q⟩) he hpl) hdb)⟩
theorem e_call0G (hgd : X.A.guards = some []) (F : FnG X.prog X.w X.K X.mg X.base CX k f fd ps sp) (hr : Room k X.A) (hg : Gl X x) (hm : X.mg x = some (.ref f)) (hk : PySem.W.keepIn X.K (.ref f) = true) (hb : Binds X.K fd ps ds) (hd : Vals dvs ds) (hx : Passes CX X E)
    (hdb : (x == ("__debug__" : Str)) = false := by decide) : PE X (.Call (.Name x p) [] [] pos) (tCall sp dvs E tNil) :=
  ⟨fun pins s σ H Q I h => wpAny_Call_Name_kw (ld_glob I hg hm (PySem.W.callWith_K0 I.kIn hk (run_fnG (us := []) hgd F hr hb hd hx I .nil h)) hdb)⟩
end
end Sp
namespace Sp
open PySem PySem.Spec PyProof.Rows L2

/-! ### enumerate(tuple) -/
theorem meets_enumT (l : Addr) (items : Array Value) (n : Nat) (dct : Option Addr) (sl : Array (Option Value)) :
    Meets (Builtin.«enumerate.__new__» ⟨[.type "enumerate", .ref l], []⟩) (fun _ R s => s.heap.get? l = some { cls := .type "tuple", dict := dct, data := .seq items n, slots := sl } ∧
      R (.ok (.ret (.ref (s.heap.push { cls := .type "tuple_iterator", data := .fields #[.ref l, .int 0 0] }).objs.size)))
        { s with heap := (s.heap.push { cls := .type "tuple_iterator", data := .fields #[.ref l, .int 0 0] }).push { cls := .type "enumerate", data := .fields #[.none, .bool false, .ref s.heap.objs.size, rawInt 0, .none, .none] } }) :=
  .of_wp fun prog w A R s h => by
    obtain ⟨hp, g, d, tk, os⟩ := s
    obtain ⟨hl, h⟩ := h
    have sub := sub_enumerate
    have tt : Heap.IsTuple (Shared.heap ⟨hp, g, d, tk, os⟩) l items := ⟨_, hl, rfl, n, rfl⟩
    wp_walk using AutoSeq1.wpAny_loadPart' hl
    refine wpAny_stack_any fun st => wpAny_pure ?_
    split
    · rename_i c _ _ _ _ _
      cases (c == Value.type "enumerate") <;> (wp_walk using AutoSeq1.wpAny_loadPart' hl, wpAny_pyIter_tuple tt; exact ⟨_, rfl, h⟩)
    · wp_walk using AutoSeq1.wpAny_loadPart' hl, wpAny_pyIter_tuple tt
      exact ⟨_, rfl, h⟩
section
variable {prog : Program} {w : World} {A : Around} {E : Value → Shared → Prop} {s : Shared}
theorem call_enumT {l : Addr} {items : Array Value} {Q : Value → Shared → Prop} (hL : s.heap.IsTuple l items)
    (h : ∀ h', IsEnum h' (s.heap.objs.size + 1) s.heap.objs.size 0 .none → h'.IsTupleIter s.heap.objs.size l 0 → (∀ b o, s.heap.get? b = some o → h'.get? b = some o) → Q (.ref (s.heap.objs.size + 1)) { s with heap := h' }) :
    wpAny (model prog w) A (call (.type "enumerate") [.ref l]) Q E s := by
  obtain ⟨⟨c, dct, dt, sl⟩, hl, hc, n, hd⟩ := hL
  obtain rfl : c = .type "tuple" := hc
  obtain rfl : dt = .seq items n := hd
  refine callType_new F.called_enumerate (by decide) (F.typeCall_enumerate_1 _) (F.newCall_enumerate_1 _) (fun obj => F.args_object_init_2 obj _) F.entry_enumerate_new (meets_enumT l items n dct sl) ⟨hl, ?_⟩
  have hz : (s.heap.push { cls := .type "tuple_iterator", data := .fields #[.ref l, .int 0 0] }).objs.size = s.heap.objs.size + 1 := Heap.size_push ..
  show _ ∧ _
  rw [hz]
  have he : IsEnum ((s.heap.push { cls := .type "tuple_iterator", data := .fields #[.ref l, .int 0 0] }).push { cls := .type "enumerate", data := .fields #[.none, .bool false, .ref s.heap.objs.size, rawInt 0, .none, .none] }) (s.heap.objs.size + 1) s.heap.objs.size 0 .none := by
    have q := Heap.get?_push_size (s.heap.push { cls := .type "tuple_iterator", data := .fields #[.ref l, .int 0 0] }) (o := { cls := .type "enumerate", data := .fields #[.none, .bool false, .ref s.heap.objs.size, rawInt 0, .none, .none] }) rfl
    rw [hz] at q
    exact q
  exact ⟨⟨_, he, rfl⟩, h _ he ⟨_, Heap.get?_push_of_some _ (Heap.get?_push_size _ rfl), rfl, rfl⟩ fun b o x => Heap.get?_push_of_some _ (Heap.get?_push_of_some _ x)⟩
end
/-- the tuple at a, its items in new pairs with their places -/
def IteT (K : PySem.W.Frag) (a : Addr) : It where
  go := fun i H => ∃ (xs : List V) (x : V), SqT K H a xs ∧ xs[i]? = some x
  yld := fun i H v H' => ∃ T x, v = .ref T ∧ H T = none ∧ H' = upd H T (.tup [.int (i : Nat), x]) ∧ ∀ xs, SqT K H a xs → xs[i]? = some x
  stop := fun i H => ∃ xs : List V, SqT K H a xs ∧ xs.length = i
theorem turn_enumT {P : Program} {w : World} {K : PySem.W.Frag} {elts : List Expr} {kk : Nat} {tpos : Pos} (a e it : Addr) :
    Turn P w K (.Tuple elts kk tpos) (IteT K a) [e, it] e (fun i h => (∃ old, IsEnum h e it ((i : Nat) : Int) old) ∧ h.IsTupleIter it a i ∧ e ≠ it) where
  mem := by simp
  obj := fun i h st b hb => by
    obtain ⟨⟨old, he⟩, ⟨o, ho, hc, hd⟩, _⟩ := st
    rcases (by simpa using hb : b = e ∨ b = it) with rfl | rfl
    · exact ⟨_, he, fun v q => nomatch q⟩
    · exact ⟨o, ho, fun v q => by rw [hd] at q; cases q⟩
  keep := fun i h h' st k => let ⟨⟨old, he⟩, hi, hne⟩ := st; ⟨⟨old, k e (by simp) _ he⟩, hi.at fun o q => k it (by simp) o q, hne⟩
  item := by
    intro X hP hw hK hc i pins s σ H E I hf st hg
    subst hP hw hK
    obtain ⟨⟨old, he⟩, hit, hne⟩ := st
    obtain ⟨xs, x, hq, hx⟩ := hg
    obtain ⟨its, rv, tp, hz⟩ := I.tuple hq
    have tp0 : s.heap.IsTuple a its.toArray := tp
    have hai : a ≠ it := fun z => by
      obtain ⟨o, ho, hcl, _⟩ := tp
      obtain ⟨o2, ho2, hcl2, _⟩ := hit
      rw [z, ho2] at ho
      cases ho
      rw [hcl2] at hcl
      exact absurd hcl (by decide)
    have hea : e ≠ a := fun z => by
      obtain ⟨o, ho, hcl, _⟩ := tp
      have he2 := he
      unfold IsEnum at he2
      rw [z, ho] at he2
      cases he2
      exact absurd (show Value.type "enumerate" = Value.type "tuple" from hcl) (by decide)
    obtain ⟨u, hu, ru⟩ := rv.get hx
    have hel : e < s.heap.objs.size := Heap.lt_size he
    have hil : it < s.heap.objs.size := by obtain ⟨_, q, _⟩ := hit; exact Heap.lt_size q
    have hlt : i < its.toArray.size := by
      rw [List.size_toArray]
      exact (List.getElem?_eq_some_iff.mp hu).1
    refine wpAny_pyNext_enum_itemD (A := X.A) (Draws.tuple (A := X.A.in1) (I.ok.hd hc) it a hai its.toArray) he ⟨hit, tp0⟩ hlt hne (by simp [hne, hea]) fun x' h' tk hx' ho st' hT hsz hk => ?_
    have exu : x' = u := by
      have q : its.toArray[i]? = some x' := hx'
      simp only [List.getElem?_toArray] at q
      rw [hu] at q
      exact (Option.some.inj q).symm
    subst exu
    refine ⟨_, rfl, wpAny_letOwnedTupleGo_enum (s := { s with heap := h', toks := tk + 1 }) ho fun h'' he' sb => ?_⟩
    have hT2 := (sb.2 _ (Nat.ne_of_gt hel)).trans hT
    have new : ObjOk X.prog X.w (upd H s.heap.objs.size (.tup [.int (i : Nat), x])) h'' s.heap.objs.size (.tup [.int (i : Nat), x]) := ⟨by show 2 ≤ sizeLine; decide, [.int i tk, x'], .cons ⟨_, rfl⟩ (.cons ru .nil), ⟨_, hT2, rfl, _, rfl⟩⟩
    have I1 : L2.Inv X pins σ (upd H s.heap.objs.size (.tup [.int (i : Nat), x])) { s with heap := h'', toks := tk + 1 } := by
      refine I.turnedNew (ch := [e, it]) (fun b ob hb q => ?_) hf (Nat.le_refl _) new
      have n1 : b ≠ e := fun z => hb (by simp [z])
      have n2 : b ≠ it := fun z => hb (by simp [z])
      exact (sb.2 b n1).trans (hk b ob n1 n2 q)
    refine ⟨.ref s.heap.objs.size, _, I1, rfl, ⟨_, x, rfl, I.hok.fresh (Nat.le_refl _), rfl, fun ys hy => by rw [I.tuple_inj hy hq]; exact hx⟩, ⟨⟨x', by simpa using he'⟩, st'.1.at fun o q => (sb.2 it (Ne.symm hne)).trans q, hne⟩, fun b hb => ?_⟩
    have hb' : b < s.heap.objs.size := by
      rcases (by simpa using hb : b = e ∨ b = it) with rfl | rfl
      · exact hel
      · exact hil
    rw [upd_ne (Nat.ne_of_lt hb')]
    exact (hf b hb).1
  done := by
    intro X hP hw hK hc i pins s σ H E I hf st hg
    subst hP hw hK
    obtain ⟨⟨old, he⟩, hit, hne⟩ := st
    obtain ⟨xs, hq, hx⟩ := hg
    obtain ⟨its, rv, tp, hz⟩ := I.tuple hq
    have tp0 : s.heap.IsTuple a its.toArray := tp
    have hai : a ≠ it := fun z => by
      obtain ⟨o, ho, hcl, _⟩ := tp
      obtain ⟨o2, ho2, hcl2, _⟩ := hit
      rw [z, ho2] at ho
      cases ho
      rw [hcl2] at hcl
      exact absurd hcl (by decide)
    obtain ⟨f0, f1, f2, f3, f4, f5⟩ := hf it (by simp)
    have hn : i = its.toArray.size := by
      rw [List.size_toArray, ← rv.length, hx]
    exact wpAny_pyNext_enum_endD (A := X.A) (Draws.tuple (A := X.A.in1) (I.ok.hd hc) it a hai its.toArray) he ⟨by rw [← hn]; exact hit, tp0⟩ fun h' eb => ⟨rfl, I.turned (t' := s.toks) (fun b o hb q => eb b o hb q) f0 f1 f3 f4 f5⟩
  self := fun A i s Q E st h => let ⟨⟨_, he⟩, _⟩ := st; wpAny_pyIter_enum he h
def iEnumT (K : PySem.W.Frag) (ta : TA) : TI := fun σ H R => ta σ H fun vs H1 => on1 vs fun x => onRef x fun a => (∃ xs, SqT K H1 a xs) ∧ R (IteT K a) H1
theorem pi_enumT {X : Cx} {e : Expr} {ta : TA} {p pos tpos : Pos} {elts : List Expr} {kk : Nat} (hg : Gl X "enumerate") (hm : X.mg "enumerate" = none) (ha : PA X [e] ta) (hs : starEach [e] X.env = [(false, eval e X.env)] := by rfl) :
    PI X (.Tuple elts kk tpos) (.Call (.Name "enumerate" p) [e] [] pos) (iEnumT X.K ta) := by
  refine ⟨fun pins s σ H R I h => Call_ (ld_blt I hg hm boot_enumerate (PyProof.Rows.callWith_type1 (thn (ha.run pos pins s σ H _ I h) fun us s1 ⟨vs, H1, I1, r1, q1⟩ => ?_) hs rfl))⟩
  obtain ⟨x, rfl, q2⟩ := on1_ex q1
  obtain ⟨a, rfl, ⟨xs, hq⟩, q⟩ := onRef_ex q2
  obtain ⟨u, rfl, ru⟩ := vals1 r1
  cases ru
  obtain ⟨its, rv, tp, hz⟩ := I1.tuple hq
  refine call_enumT (show s1.heap.IsTuple a its.toArray from tp) fun h' he hit hk => wpAny_pyIter_enum he ?_
  refine ⟨s1.heap.objs.size + 1, [s1.heap.objs.size + 1, s1.heap.objs.size], _, _, H1, rfl, I1.kept (t' := s1.toks) hk, turn_enumT a (s1.heap.objs.size + 1) s1.heap.objs.size, ⟨⟨.none, he⟩, hit, Nat.succ_ne_self _⟩, fun b hb => ?_, q⟩
  have hle : s1.heap.objs.size ≤ b := by
    rcases (by simpa using hb : b = s1.heap.objs.size + 1 ∨ b = s1.heap.objs.size) with rfl | rfl <;> omega
  exact I1.fpOk hle (I1.hok.fresh hle)
/-- a for over enumerate(tuple) -/
theorem for_enumT {K : PySem.W.Frag} {a : Addr} {xs : List V} {g : TG} {tb : TS} {D : Ends} {σ : L2.St} {H : Hp} (Pv : Nat → L2.St → Hp → Prop) (h0 : Pv 0 σ H) (hG : ∀ i σ H, i ≤ xs.length → Pv i σ H → SqT K H a xs)
    (hs : ∀ i x σ H T, xs[i]? = some x → Pv i σ H → H T = none → g (.ref T) σ (upd H T (.tup [.int (i : Nat), x])) fun σ2 H2 => tb { D with nx := Pv (i + 1), ct := Pv (i + 1), bk := D.nx } σ2 H2) (hd : ∀ σ H, Pv xs.length σ H → D.nx σ H) :
    ∃ W : Nat → Nat → L2.St → Hp → Prop, (∃ m, W 0 m σ H) ∧ ∀ i m σ H, W i m σ H →
      ((IteT K a).stop i H ∧ D.nx σ H) ∨ ((IteT K a).go i H ∧ ∃ N : L2.St → Hp → Prop, (∀ σ' H', N σ' H' → ∃ m', m' < m ∧ W (i + 1) m' σ' H') ∧ ∀ x H', (IteT K a).yld i H x H' → g x σ H' fun σ2 H2 => tb { D with nx := N, ct := N, bk := D.nx } σ2 H2) := by
  refine ⟨fun i m σ H => m = xs.length - i ∧ i ≤ xs.length ∧ Pv i σ H, ⟨xs.length, by simp, Nat.zero_le _, h0⟩, ?_⟩
  rintro i m σ H ⟨rfl, hi, pv⟩
  have q := hG i σ H hi pv
  by_cases hlt : i < xs.length
  · refine .inr ⟨⟨xs, xs[i], q, by simp [hlt]⟩, Pv (i + 1), fun σ' H' p' => ⟨xs.length - (i + 1), by omega, rfl, hlt, p'⟩, fun v H' y => ?_⟩
    obtain ⟨T, x, rfl, hT, rfl, hx⟩ := y
    exact hs i x σ H T (hx xs q) pv hT
  · obtain rfl : i = xs.length := by omega
    exact .inl ⟨⟨xs, q, rfl⟩, hd σ H pv⟩

/-! ### isinstance, max, min -/
def fIsi (K : PySem.W.Frag) : List V → Hp → VK → Prop := fun xs H Q => on2 xs fun x c => ∃ (t u : Value) (b : Bool), ClsV c u ∧ TyX K H x t ∧ PySem.W.kitOne K t u = some b ∧ Q (.bl b) H
def fMax (K : PySem.W.Frag) : List V → Hp → VK → Prop := fun xs H Q => on1 xs fun x => onRef x fun a => ∃ ns : List Int, SqL K H a (ns.map V.int) ∧ 0 < ns.length ∧ ∀ m, m ∈ ns → (∀ y, y ∈ ns → y ≤ m) → Q (.int m) H
def fMin (K : PySem.W.Frag) : List V → Hp → VK → Prop := fun xs H Q => on1 xs fun x => onRef x fun a => ∃ ns : List Int, SqL K H a (ns.map V.int) ∧ 0 < ns.length ∧ ∀ m, m ∈ ns → (∀ y, y ∈ ns → m ≤ y) → Q (.int m) H
section
variable {X : Cx}
theorem c_isi : CallR X (.builtin "isinstance") (fIsi X.K) := CallR.imp call_isi fun xs H Q h => by
  obtain ⟨x, c, rfl, t, u, b, h1⟩ := on2_ex h
  exact ⟨x, c, t, u, b, rfl, h1⟩
theorem c_max (hc : X.calm = true) : CallR X (.builtin "max") (fMax X.K) := CallR.imp (cr_max hc) fun xs H Q h => by
  obtain ⟨x, rfl, h1⟩ := on1_ex h
  obtain ⟨a, rfl, ns, h2⟩ := onRef_ex h1
  exact ⟨a, ns, rfl, h2⟩
theorem c_min (hc : X.calm = true) : CallR X (.builtin "min") (fMin X.K) := CallR.imp (cr_min hc) fun xs H Q h => by
  obtain ⟨x, rfl, h1⟩ := on1_ex h
  obtain ⟨a, rfl, ns, h2⟩ := onRef_ex h1
  exact ⟨a, ns, rfl, h2⟩
end
/-- is it an int, a bool, .. -/
theorem isi_ty {K : PySem.W.Frag} {x c : V} {H : Hp} {Q : VK} {a b : String} {r : Bool} (hx : TyX K H x (.type a)) (hc : ClsV c (.type b)) (hk : kitB a b = some r) (q : Q (.bl r) H) : fIsi K [x, c] H Q := ⟨_, _, _, hc, hx, kit_ty hk, q⟩

/-! ### calls by keywords alone -/
section
variable {X : Cx} {CX : CXT} {k n : Nat} {f C : Addr} {fd : FuncData} {ps ks : List Str} {sp : L2.Sp} {E : XK} {x m : Str} {p pos apos : Pos} {o : Expr} {kws : List Keyword} {ta : TE} {t tk : TA} {g : List Value → List Value → List Value} {gV : List V → List V → List V}
theorem e_makeK0 (M : Mk X.K C f) (F : FnOk X.prog X.w X.K X.mg X.base CX k f fd ps sp) (hr : Room (k + 1) X.A) (hg : Gl X x) (hm : X.mg x = some (.ref C)) (hb : KBn X.K fd ps 1 ks g gV) (hx : Passes CX X E) (hkw : PK X kws tk)
    (hall : (backToKw pos (keywordEach kws X.env)).all (·.1.isSome) = true := by rfl) (hks : (backToKw pos (keywordEach kws X.env)).filterMap (·.1) = ks := by rfl) (hdb : (x == ("__debug__" : Str)) = false := by decide)
    (hpl : ((backTo pos (starEach [] X.env)).any (·.1) || (backToKw pos (keywordEach kws X.env)).any (·.1.isNone)) = false := by rfl) :
    PE X (.Call (.Name x p) [] kws pos) (tMakeN C 0 ks.length sp gV E tNil tk) := by
  refine ⟨fun pins s σ H Q I h => wpAny_Call_Name_kw (ld_glob I hg hm (PySem.W.callWith_KW0 (h₀ := X.base) I.ok.mod.kin M.kp hall (thn (hkw.run pos pins s σ H _ I h) fun ws s2 ⟨zs, H2, I2, rz, l1, l2, q2⟩ => ⟨I2.kIn, ?_⟩) hpl) hdb)⟩
  rw [hks]
  exact run_makeN (us := []) (vs := []) M F hr hb hx I2 .nil rz l1 l2 q2
/-- o.m(k = v, ..) -/
def tMethK (C : Addr) (m : Str) (mm : Nat) (sp : L2.Sp) (gV : List V → List V → List V) (E : XK) (ta : TE) (tk : TA) : TE := fun σ H Q => ta σ H fun x H1 => onRef x fun a => (∃ dx fs, H1 a = some (.ins C dx fs) ∧ fs.lookup m = none) ∧
  tk σ H1 fun zs H2 => zs.length = mm ∧ sp (gV [x] zs) H2 Q E
theorem e_methK0 {pl : Sem Bool} (he : PE X o ta) (c : Cls X.K C) (hm : Meth X.K C m f) (F : FnOk X.prog X.w X.K X.mg X.base CX k f fd ps sp) (hr : Room k X.A) (hb : KBn X.K fd ps 1 ks g gV) (hx : Passes CX X E) (hkw : PK X kws tk)
    (hall : (backToKw pos (keywordEach kws X.env)).all (·.1.isSome) = true := by rfl) (hks : (backToKw pos (keywordEach kws X.env)).filterMap (·.1) = ks := by rfl)
    (hpl : ((backTo pos (starEach [] X.env)).any (·.1) || (backToKw pos (keywordEach kws X.env)).any (·.1.isNone)) = false := by rfl)
    (ht : eval (.Call (.Attribute o m apos) [] kws pos) X.env = (do
      let ov ← eval o X.env
      standAt apos.atName
      let (f, first) ← holding [ov] (getMethod ov m pl)
      callWith pos f first (backTo pos (starEach [] X.env)) (backToKw pos (keywordEach kws X.env))) := by rfl) :
    PE X (.Call (.Attribute o m apos) [] kws pos) (tMethK C m ks.length sp gV E ta tk) := by
  refine ⟨fun pins s σ H Q I h => PySem.W.methodCall_KW (pl := pl) (thn (he.run pins s σ H _ I h) fun u s1 ⟨x, H1, I1, rx, q⟩ => ?_) ht⟩
  obtain ⟨a, rfl, ⟨dx, fs, ea, l⟩, q⟩ := onRef_ex q
  obtain rfl : u = Value.ref a := rx
  refine getmeth_ok I1 ea c hm l (PySem.W.callWith_KW0 (first := [.ref a]) (h₀ := X.base) I.ok.mod.kin hm.kp hall (thn (hkw.run pos pins s1 σ H1 _ I1 q) fun ws s2 ⟨zs, H2, I2, rz, l2, q2⟩ => ⟨I2.kIn, ?_⟩) hpl)
  rw [hks]
  exact run_fnN (us := [.ref a]) (vs := [.ref a]) F hr hb hx I2 (.cons rfl .nil) rz rfl l2 q2
end

/-! ### lists and tuples alike -/
def SqS (K : PySem.W.Frag) (H : Hp) (a : Addr) (xs : List V) : Prop := SqL K H a xs ∨ SqT K H a xs
def fIxQ (K : PySem.W.Frag) : R2 := fun x y H Q => onRef x fun p => onInt y fun i => ∃ xs, SqS K H p xs ∧ ∃ v, atI xs i = some v ∧ Q v H
def fSlQ (K : PySem.W.Frag) : V → Option Int → Option Int → Hp → VK → Prop := fun x lo hi H Q => rSlL K x lo hi H Q ∨ rSlA K x lo hi H Q
def fTupQ (K : PySem.W.Frag) : List V → Hp → VK → Prop := fun xs H Q => on1 xs fun x => onRef x fun p => ∃ ys, (SqL K H p ys ∧ ∀ l, H l = none → Q (.ref l) (upd H l (.tup ys))) ∨ (SqT K H p ys ∧ Q (.ref p) H)
section
variable {X : Cx}
theorem x_seq : IxR X (fIxQ X.K) := IxR.imp ix_seq fun x y H Q h => by
  obtain ⟨p, rfl, h1⟩ := onRef_ex h
  obtain ⟨i, rfl, xs, h2, v, h3, h4⟩ := onInt_ex h1
  rcases h2 with h2 | h2
  · exact .inl ⟨p, xs, i, v, rfl, rfl, h2, h3, h4⟩
  · exact .inr (.inl ⟨p, xs, i, v, rfl, rfl, h2, h3, h4⟩)
theorem sl_seq : SlR X (fSlQ X.K) := SlR.or sl_list sl_tupA
theorem c_tupQ : CallR X (.type "tuple") (fTupQ X.K) := CallR.imp call_tuple_of fun xs H Q h => by
  obtain ⟨x, rfl, h1⟩ := on1_ex h
  obtain ⟨p, rfl, ys, h2⟩ := onRef_ex h1
  exact ⟨p, ys, rfl, h2⟩
end
theorem Same.upd {H : Hp} {q : Addr} {o : HO} (hq : H q = none) : Same H (upd H q o) := fun b u h => by rw [upd_ne (ne_of_none h hq)]; exact h
theorem sameT {K : PySem.W.Frag} {H H' : Hp} {a : Addr} {xs : List V} (e : Same H H') (h : SqT K H a xs) : SqT K H' a xs := by
  rcases h with (h | ⟨o, h⟩) | h
  · exact .inl (.inl (e _ _ h))
  · exact .inl (.inr ⟨o, e _ _ h⟩)
  · exact .inr h
theorem sameS {K : PySem.W.Frag} {H H' : Hp} {a : Addr} {xs : List V} (e : Same H H') (h : SqS K H a xs) : SqS K H' a xs := h.imp (fun z => e.seq z) (fun z => sameT e z)

/-! ### comprehensions over a range: what holds between the turns -/
theorem lc_rangeI {lo : Int} {n : Nat} {g : TG} {te : TE} {vs : List Nat} {σ : L2.St} {H1 : Hp} {D : Addr} {Qd : Hp → Prop} (hz : n ≤ 1000000) (J : Nat → List V → Hp → Prop) (h0 : J 0 [] (upd H1 D (.lst [])))
    (hs : ∀ (i : Nat) (acc : List V) (H : Hp), i < n → acc.length = i → H D = some (.lst acc) → J i acc H → ∀ R : VK, (∀ y H4, H4 D = some (.lst acc) → J (i + 1) (acc ++ [y]) (upd H4 D (.lst (acc ++ [y]))) → R y H4) →
      g (.int (lo + i)) (wipe σ vs) H fun σ2 H2 => wipe σ2 vs = wipe σ vs ∧ te σ2 H2 R)
    (hd : ∀ acc H, acc.length = n → H D = some (.lst acc) → J n acc H → Qd H) :
    ∃ W : Nat → Nat → Hp → Prop, (∃ m, W 0 m (upd H1 D (.lst []))) ∧ ∀ i m H, W i m H →
      ((Itr lo n).stop i H ∧ Qd H) ∨ ((Itr lo n).go i H ∧ ∃ Nx : Hp → Prop, (∀ H', Nx H' → ∃ m', m' < m ∧ W (i + 1) m' H') ∧ ∀ x H', (Itr lo n).yld i H x H' → g x (wipe σ vs) H' fun σ2 H2 => wipe σ2 vs = wipe σ vs ∧ tYes σ2 H2 fun b H3 =>
        if b = true then te σ2 H3 fun y H4 => ∃ acc, H4 D = some (.lst acc) ∧ acc.length < sizeLine ∧ Nx (upd H4 D (.lst (acc ++ [y]))) else Nx H3) := by
  refine lc_range (fun i H => ∃ acc, acc.length = i ∧ H D = some (.lst acc) ∧ J i acc H) ⟨[], rfl, upd_same, h0⟩ (fun i H hi h => ?_) (fun H h => ?_)
  · obtain ⟨acc, hl, hD, hJ⟩ := h
    have q := hs i acc H hi hl hD hJ (fun y H4 => ∃ acc, H4 D = some (.lst acc) ∧ acc.length < sizeLine ∧ ∃ ac2, ac2.length = i + 1 ∧ (upd H4 D (.lst (acc ++ [y]))) D = some (.lst ac2) ∧ J (i + 1) ac2 (upd H4 D (.lst (acc ++ [y])))) (fun y H4 e j => ⟨acc, e, by rw [hl, sizeLine_eq]; omega, acc ++ [y], by simp [hl], upd_same, j⟩)
    exact q
  · obtain ⟨acc, hl, hD, hJ⟩ := h
    exact hd acc H hl hD hJ
/-- the elements are f i, nothing else changes -/
theorem lc_rangeF {lo : Int} {n : Nat} {g : TG} {te : TE} {vs : List Nat} {σ : L2.St} {H1 : Hp} {D : Addr} {Qd : Hp → Prop} (f : Nat → V) (hn : H1 D = none) (hz : n ≤ 1000000)
    (hs : ∀ (i : Nat) (H : Hp), i < n → Same H1 H → ∀ R : VK, (∀ H4, Same H H4 → R (f i) H4) → g (.int (lo + i)) (wipe σ vs) H fun σ2 H2 => wipe σ2 vs = wipe σ vs ∧ te σ2 H2 R)
    (hd : ∀ H, Same H1 H → H D = some (.lst ((List.range n).map f)) → Qd H) :
    ∃ W : Nat → Nat → Hp → Prop, (∃ m, W 0 m (upd H1 D (.lst []))) ∧ ∀ i m H, W i m H →
      ((Itr lo n).stop i H ∧ Qd H) ∨ ((Itr lo n).go i H ∧ ∃ Nx : Hp → Prop, (∀ H', Nx H' → ∃ m', m' < m ∧ W (i + 1) m' H') ∧ ∀ x H', (Itr lo n).yld i H x H' → g x (wipe σ vs) H' fun σ2 H2 => wipe σ2 vs = wipe σ vs ∧ tYes σ2 H2 fun b H3 =>
        if b = true then te σ2 H3 fun y H4 => ∃ acc, H4 D = some (.lst acc) ∧ acc.length < sizeLine ∧ Nx (upd H4 D (.lst (acc ++ [y]))) else Nx H3) := by
  refine lc_rangeI hz (fun i acc H => acc = (List.range i).map f ∧ Same H1 H) ⟨rfl, Same.upd hn⟩ (fun i acc H hi hl hD hJ R hR => ?_) (fun acc H hl hD hJ => ?_)
  · refine hs i H hi hJ.2 R fun H4 e => hR (f i) H4 (e _ _ hD) ⟨?_, fun b o h => ?_⟩
    · rw [List.range_succ, List.map_append, ← hJ.1]
      rfl
    · rw [upd_ne (ne_of_none h hn)]
      exact e _ _ (hJ.2 _ _ h)
  · exact hd H hJ.2 (by rw [hD, hJ.1])

/-! ### range(a, b) of ints of any size -/
theorem turn_long {P : Program} {w : World} {K : PySem.W.Frag} {tg : Expr} (it : Addr) (lo : Int) (n : Nat) : Turn P w K tg (Itr lo n) [it] it (fun i h => IsLongIter h it (lo + (i : Nat) * 1) ((n : Int) - (i : Nat)) 1) where
  mem := by simp
  obj := fun i h st b hb => by
    obtain rfl : b = it := by simpa using hb
    exact ⟨_, st, fun v z => nomatch z⟩
  keep := fun i h h' st k => k it (by simp) _ st
  item := by
    intro X hP hw hK hc i pins s σ H E I hf st hg
    subst hP hw hK
    obtain ⟨f0, f1, f2, f3, f4, f5⟩ := hf it (by simp)
    have hg2 : i < n := hg
    refine wpAny_pyNext_long_item st (by omega) fun h' st' sb => ?_
    have I1 : L2.Inv X pins σ H { s with heap := h', toks := s.toks + 1 } := I.turned (fun b o hb e => (sb.2 b hb).trans e) f0 f1 f3 f4 f5
    have st2 : IsLongIter h' it (lo + ((i + 1 : Nat) : Int) * 1) ((n : Int) - ((i + 1 : Nat) : Int)) 1 := by
      have e1 : lo + ((i + 1 : Nat) : Int) * 1 = lo + (i : Int) * 1 + 1 := by omega
      have e2 : (n : Int) - ((i + 1 : Nat) : Int) = (n : Int) - (i : Int) - 1 := by omega
      rw [e1, e2]
      exact st'
    refine ⟨_, rfl, go_of (s := { s with heap := h', toks := s.toks + 1 }) (n := "longrange_iterator") st2 rfl rfl (by decide) ⟨.int (lo + i), H, I1, ⟨s.toks, by rw [Int.mul_one]⟩, ⟨rfl, rfl⟩, st2, fun b hb => (hf b hb).1⟩⟩
  done := by
    intro X hP hw hK hc i pins s σ H E I hf st hg
    subst hP hw hK
    obtain ⟨f0, f1, f2, f3, f4, f5⟩ := hf it (by simp)
    have hg2 : n ≤ i := hg
    exact wpAny_pyNext_long_end (I.ok.hd hc) st (by omega) fun h' eb => ⟨rfl, I.turned (t' := s.toks) (fun b o hb e => eb b o hb e) f0 f1 f3 f4 f5⟩
  self := fun _ _ _ _ _ st h => wpAny_pyIter_longiter st h
def iRngL (ta : TA) : TI := fun σ H R => ta σ H fun vs H1 => on2 vs fun x y => onInt x fun i => onInt y fun j => R (Itr i (j - i).toNat) H1
section
variable {X : Cx} {tg : Expr}
theorem rangeL_it {pins : List (Addr × Obj)} {σ : L2.St} {H : Hp} {s : Shared} {R : It → Hp → Prop} {E : Value → Shared → Prop} {lo hi : Int} {t u v : Tok} {tk : Nat} (I : L2.Inv X pins σ H s)
    (q : R (Itr lo (hi - lo).toNat) H) : wpAny (model X.prog X.w) X.A (pyIter (.ref s.heap.objs.size)) (PIE X pins σ tg R) E { s with heap := s.heap.push { cls := .type "range", data := .fields #[.int lo t, .int hi u, .int 1 v] }, toks := tk } := by
  have I1 : L2.Inv X pins σ H { s with heap := s.heap.push { cls := .type "range", data := .fields #[.int lo t, .int hi u, .int 1 v] }, toks := tk } := I.kept fun b o e => Heap.get?_push_of_some _ e
  have e1 : lo + ((0 : Nat) : Int) * 1 = lo := by simp
  have e2 : (((hi - lo).toNat : Nat) : Int) - ((0 : Nat) : Int) = Builtin.Range.rangeSize lo hi 1 := by rw [rangeSize_one]; split <;> omega
  have fp : ∀ b, b ∈ [(s.heap.push { cls := .type "range", data := .fields #[.int lo t, .int hi u, .int 1 v] }).objs.size] → FpOk X pins H b := fun b hb => by
    obtain rfl : b = (s.heap.push { cls := .type "range", data := .fields #[.int lo t, .int hi u, .int 1 v] }).objs.size := by simpa using hb
    exact I1.fpOk (Nat.le_refl _) (I1.hok.fresh (Nat.le_refl _))
  cases hs : Builtin.Range.small lo hi 1 with
  | true =>
    refine wpAny_pyIter_range (IsRange.new ..) hs ⟨_, [(s.heap.push { cls := .type "range", data := .fields #[.int lo t, .int hi u, .int 1 v] }).objs.size], _, _, H, rfl, I1.kept (t' := tk) fun b o e => Heap.get?_push_of_some _ e, turn_range _ lo (hi - lo).toNat, ?_, fp, q⟩
    show IsRangeIter _ _ (lo + ((0 : Nat) : Int) * 1) ((((hi - lo).toNat : Nat) : Int) - ((0 : Nat) : Int)) 1
    rw [e1, e2]
    exact Heap.get?_push_size _ rfl
  | false =>
    refine wpAny_pyIter_longrange (IsRange.new ..) hs ⟨_, [(s.heap.push { cls := .type "range", data := .fields #[.int lo t, .int hi u, .int 1 v] }).objs.size], _, _, H, rfl, I1.kept (t' := tk) fun b o e => Heap.get?_push_of_some _ e, turn_long _ lo (hi - lo).toNat, ?_, fp, q⟩
    show IsLongIter _ _ (lo + ((0 : Nat) : Int) * 1) ((((hi - lo).toNat : Nat) : Int) - ((0 : Nat) : Int)) 1
    rw [e1, e2]
    exact Heap.get?_push_size _ rfl
theorem pi_rangeL {a b : Expr} {ta : TA} {p pos : Pos} (hg : Gl X "range") (hm : X.mg "range" = none) (ha : PA X [a, b] ta) (hs : starEach [a, b] X.env = (false, eval a X.env) :: starEach [b] X.env := by rfl) (hs2 : starEach [b] X.env = [(false, eval b X.env)] := by rfl) :
    PI X tg (.Call (.Name "range" p) [a, b] [] pos) (iRngL ta) := by
  refine ⟨fun pins s σ H R I h => Call_ (ld_blt I hg hm boot_range (PyProof.Rows.callWith_type1 (thn (ha.run pos pins s σ H _ I h) fun us s1 ⟨vs, H1, I1, r1, q1⟩ => ?_) (by rw [hs, hs2]) (by rw [hs2]; rfl)))⟩
  obtain ⟨x, y, rfl, q2⟩ := on2_ex q1
  obtain ⟨i, rfl, q3⟩ := onInt_ex q2
  obtain ⟨j, rfl, q⟩ := onInt_ex q3
  obtain ⟨u, v, rfl, ⟨t, rfl⟩, ⟨t', rfl⟩⟩ := vals2 r1
  exact call_range_2 (rangeL_it I1 q)
end

/-- a comprehension over a list: what holds between the turns -/
theorem lc_listI {K : PySem.W.Frag} {a : Addr} {xs : List V} {g : TG} {te : TE} {vs : List Nat} {σ : L2.St} {H1 : Hp} {D : Addr} {Qd : Hp → Prop} (hz : xs.length ≤ 1000000) (J : Nat → List V → Hp → Prop) (h0 : J 0 [] (upd H1 D (.lst [])))
    (hl : ∀ i acc H, i ≤ xs.length → H D = some (.lst acc) → J i acc H → SqL K H a xs)
    (hs : ∀ (i : Nat) (x : V) (acc : List V) (H : Hp), xs[i]? = some x → acc.length = i → H D = some (.lst acc) → J i acc H → ∀ R : VK, (∀ y H4, H4 D = some (.lst acc) → J (i + 1) (acc ++ [y]) (upd H4 D (.lst (acc ++ [y]))) → R y H4) →
      g x (wipe σ vs) H fun σ2 H2 => wipe σ2 vs = wipe σ vs ∧ te σ2 H2 R)
    (hd : ∀ acc H, acc.length = xs.length → H D = some (.lst acc) → J xs.length acc H → Qd H) :
    ∃ W : Nat → Nat → Hp → Prop, (∃ m, W 0 m (upd H1 D (.lst []))) ∧ ∀ i m H, W i m H →
      ((Itl K a).stop i H ∧ Qd H) ∨ ((Itl K a).go i H ∧ ∃ Nx : Hp → Prop, (∀ H', Nx H' → ∃ m', m' < m ∧ W (i + 1) m' H') ∧ ∀ x H', (Itl K a).yld i H x H' → g x (wipe σ vs) H' fun σ2 H2 => wipe σ2 vs = wipe σ vs ∧ tYes σ2 H2 fun b H3 =>
        if b = true then te σ2 H3 fun y H4 => ∃ acc, H4 D = some (.lst acc) ∧ acc.length < sizeLine ∧ Nx (upd H4 D (.lst (acc ++ [y]))) else Nx H3) := by
  refine lc_list (xs := xs) (fun i H => ∃ acc, acc.length = i ∧ H D = some (.lst acc) ∧ J i acc H) ⟨[], rfl, upd_same, h0⟩ (fun i H hi h => ?_) (fun i x H hx h => ?_) (fun H h => ?_)
  · obtain ⟨acc, _, hD, hJ⟩ := h
    exact hl i acc H hi hD hJ
  · obtain ⟨acc, hac, hD, hJ⟩ := h
    have hi := (List.getElem?_eq_some_iff.mp hx).1
    exact hs i x acc H hx hac hD hJ (fun y H4 => ∃ acc, H4 D = some (.lst acc) ∧ acc.length < sizeLine ∧ ∃ ac2, ac2.length = i + 1 ∧ (upd H4 D (.lst (acc ++ [y]))) D = some (.lst ac2) ∧ J (i + 1) ac2 (upd H4 D (.lst (acc ++ [y])))) (fun y H4 e j => ⟨acc, e, by rw [hac, sizeLine_eq]; omega, acc ++ [y], by simp [hac], upd_same, j⟩)
  · obtain ⟨acc, hac, hD, hJ⟩ := h
    exact hd acc H hac hD hJ
/-- the elements are f of the items, nothing else changes -/
theorem lc_listF {K : PySem.W.Frag} {a : Addr} {xs : List V} {g : TG} {te : TE} {vs : List Nat} {σ : L2.St} {H1 : Hp} {D : Addr} {Qd : Hp → Prop} (f : V → V) (hn : H1 D = none) (hz : xs.length ≤ 1000000) (hS : SqL K H1 a xs)
    (hs : ∀ (i : Nat) (x : V) (H : Hp), xs[i]? = some x → Same H1 H → ∀ R : VK, (∀ H4, Same H H4 → R (f x) H4) → g x (wipe σ vs) H fun σ2 H2 => wipe σ2 vs = wipe σ vs ∧ te σ2 H2 R)
    (hd : ∀ H, Same H1 H → H D = some (.lst (xs.map f)) → Qd H) :
    ∃ W : Nat → Nat → Hp → Prop, (∃ m, W 0 m (upd H1 D (.lst []))) ∧ ∀ i m H, W i m H →
      ((Itl K a).stop i H ∧ Qd H) ∨ ((Itl K a).go i H ∧ ∃ Nx : Hp → Prop, (∀ H', Nx H' → ∃ m', m' < m ∧ W (i + 1) m' H') ∧ ∀ x H', (Itl K a).yld i H x H' → g x (wipe σ vs) H' fun σ2 H2 => wipe σ2 vs = wipe σ vs ∧ tYes σ2 H2 fun b H3 =>
        if b = true then te σ2 H3 fun y H4 => ∃ acc, H4 D = some (.lst acc) ∧ acc.length < sizeLine ∧ Nx (upd H4 D (.lst (acc ++ [y]))) else Nx H3) := by
  refine lc_listI (xs := xs) hz (fun i acc H => acc = (xs.take i).map f ∧ Same H1 H) ⟨rfl, Same.upd hn⟩ (fun i acc H _ _ hJ => hJ.2.seq hS) (fun i x acc H hx hl hD hJ R hR => ?_) (fun acc H hl hD hJ => ?_)
  · refine hs i x H hx hJ.2 R fun H4 e => hR (f x) H4 (e _ _ hD) ⟨?_, fun b o h => ?_⟩
    · have hi := (List.getElem?_eq_some_iff.mp hx).1
      rw [List.take_add_one, hx, List.map_append, ← hJ.1]
      rfl
    · rw [upd_ne (ne_of_none h hn)]
      exact e _ _ (hJ.2 _ _ h)
  · exact hd H hJ.2 (by rw [hD, hJ.1, List.take_length])

/-- keywords where there are no defaults -/
theorem FunD.kbinds0 {K : PySem.W.Frag} {x qual : Str} {params : Arguments} {body : List Stmt} {scope : Scope} {kws : List (Str × V)} {f : Addr} {fd : FuncData} {ps : List Str} (F : FunD K x qual params body scope [] kws f fd) (n : Nat) (ks : List Str) (g : {α : Type} → List α → List α → List α)
    (hrel : ∀ {vs zs : List V} {us ws : List Value}, Vals vs us → Vals zs ws → Vals (g vs zs) (g us ws))
    (h : ∀ (kV doc pm : Value) (an : Option Addr) (cdv ct : Value) (us ws : List Value), us.length = n → ws.length = ks.length → bindArgs (PySem.W.fnOf x qual params body scope .none kV doc pm an cdv ct) ⟨us, ks.zip ws⟩ = pure (ps.zip (g us ws))) :
    KBn K fd ps n ks (fun us ws => g us ws) (fun vs zs => g vs zs) := by
  obtain ⟨oc, od, dV, kV, doc, pm, an, cdv, ct, osl, rfl, lk, hcd, hD, hK⟩ := F.ex
  rcases hD with ⟨_, rfl⟩ | ⟨e, _⟩
  · exact ⟨fun s us ws X l1 l2 => .of_eq (h kV doc pm an cdv ct us ws l1 l2), fun r1 r2 => hrel r1 r2⟩
  · exact absurd rfl e
end Sp
namespace K06
open PySem PySem.Spec PyProof.Rows L2 Sp
def top (i : Nat) : Stmt := PySem.Challenge.pw_spillruns_k06_first_by_looking.main.body.getD i (.Pass ⟨0, 0, 0, 0⟩)
abbrev s__wall : Stmt := top 0
def d__wall : He.DefD := ⟨("_wall", none), "_wall", "_wall", defArgs s__wall, defBody s__wall, defScope s__wall, [], []⟩
abbrev c_WrongValue : Stmt := top 2
abbrev c_InvalidNumber : Stmt := top 3
abbrev c_InvalidPeriod : Stmt := top 4
abbrev c_NotAForm : Stmt := top 5
abbrev c_InvalidNumbers : Stmt := top 6
abbrev c_NoAnswer : Stmt := top 7
abbrev c_TooMany : Stmt := top 8
abbrev s_is_integer : Stmt := top 11
def d_is_integer : He.DefD := ⟨("is_integer", none), "is_integer", "is_integer", defArgs s_is_integer, defBody s_is_integer, defScope s_is_integer, [], []⟩
abbrev s_check_number : Stmt := top 12
def d_check_number : He.DefD := ⟨("check_number", none), "check_number", "check_number", defArgs s_check_number, defBody s_check_number, defScope s_check_number, [], []⟩
abbrev s_check_values : Stmt := top 14
def d_check_values : He.DefD := ⟨("check_values", none), "check_values", "check_values", defArgs s_check_values, defBody s_check_values, defScope s_check_values, [], []⟩
abbrev s_value_at : Stmt := top 15
def d_value_at : He.DefD := ⟨("value_at", none), "value_at", "value_at", defArgs s_value_at, defBody s_value_at, defScope s_value_at, [], []⟩
abbrev s_least_period : Stmt := top 16
def d_least_period : He.DefD := ⟨("least_period", none), "least_period", "least_period", defArgs s_least_period, defBody s_least_period, defScope s_least_period, [], []⟩
abbrev s_least_listed : Stmt := top 17
def d_least_listed : He.DefD := ⟨("least_listed", none), "least_listed", "least_listed", defArgs s_least_listed, defBody s_least_listed, defScope s_least_listed, [], []⟩
abbrev s_form_of : Stmt := top 18
def d_form_of : He.DefD := ⟨("form_of", none), "form_of", "form_of", defArgs s_form_of, defBody s_form_of, defScope s_form_of, [], []⟩
abbrev s_common_multiple : Stmt := top 19
def d_common_multiple : He.DefD := ⟨("common_multiple", none), "common_multiple", "common_multiple", defArgs s_common_multiple, defBody s_common_multiple, defScope s_common_multiple, [], []⟩
abbrev s_parts_of : Stmt := top 20
def d_parts_of : He.DefD := ⟨("parts_of", none), "parts_of", "parts_of", defArgs s_parts_of, defBody s_parts_of, defScope s_parts_of, [], []⟩
abbrev s_joined : Stmt := top 21
def d_joined : He.DefD := ⟨("joined", none), "joined", "joined", defArgs s_joined, defBody s_joined, defScope s_joined, [], []⟩
abbrev c_Form : Stmt := top 22
abbrev s_Form_init : Stmt := inClass c_Form 0
def d_Form_init : He.DefD := ⟨("Form", some "__init__"), "__init__", "Form.__init__", defArgs s_Form_init, defBody s_Form_init, defScope s_Form_init, [.int 1, .int 0], []⟩
abbrev s_Form_call : Stmt := inClass c_Form 5
def d_Form_call : He.DefD := ⟨("Form", some "__call__"), "__call__", "Form.__call__", defArgs s_Form_call, defBody s_Form_call, defScope s_Form_call, [], []⟩
abbrev s_Form_eq : Stmt := inClass c_Form 6
def d_Form_eq : He.DefD := ⟨("Form", some "__eq__"), "__eq__", "Form.__eq__", defArgs s_Form_eq, defBody s_Form_eq, defScope s_Form_eq, [], []⟩
abbrev s_Form_repr : Stmt := inClass c_Form 7
def d_Form_repr : He.DefD := ⟨("Form", some "__repr__"), "__repr__", "Form.__repr__", defArgs s_Form_repr, defBody s_Form_repr, defScope s_Form_repr, [], []⟩
abbrev s_Form_add : Stmt := inClass c_Form 8
def d_Form_add : He.DefD := ⟨("Form", some "__add__"), "__add__", "Form.__add__", defArgs s_Form_add, defBody s_Form_add, defScope s_Form_add, [], []⟩
abbrev s_Form_radd : Stmt := inClass c_Form 9
def d_Form_radd : He.DefD := ⟨("Form", some "__radd__"), "__radd__", "Form.__radd__", defArgs s_Form_radd, defBody s_Form_radd, defScope s_Form_radd, [], []⟩
abbrev s_Form_at_most : Stmt := inClass c_Form 10
def d_Form_at_most : He.DefD := ⟨("Form", some "at_most"), "at_most", "Form.at_most", defArgs s_Form_at_most, defBody s_Form_at_most, defScope s_Form_at_most, [], []⟩
abbrev s_Form_at_least : Stmt := inClass c_Form 11
def d_Form_at_least : He.DefD := ⟨("Form", some "at_least"), "at_least", "Form.at_least", defArgs s_Form_at_least, defBody s_Form_at_least, defScope s_Form_at_least, [], []⟩
abbrev s_Form_first : Stmt := inClass c_Form 12
def d_Form_first : He.DefD := ⟨("Form", some "first"), "first", "Form.first", defArgs s_Form_first, defBody s_Form_first, defScope s_Form_first, [], []⟩
abbrev s_least_common_period : Stmt := top 23
def d_least_common_period : He.DefD := ⟨("least_common_period", none), "least_common_period", "least_common_period", defArgs s_least_common_period, defBody s_least_common_period, defScope s_least_common_period, [], []⟩
abbrev s_summed : Stmt := top 24
def d_summed : He.DefD := ⟨("summed", none), "summed", "summed", defArgs s_summed, defBody s_summed, defScope s_summed, [], []⟩
abbrev s__law_source : Stmt := top 26
def d__law_source : He.DefD := ⟨("_law_source", none), "_law_source", "_law_source", defArgs s__law_source, defBody s__law_source, defScope s__law_source, [], []⟩
abbrev s__law_draw : Stmt := top 27
def d__law_draw : He.DefD := ⟨("_law_draw", none), "_law_draw", "_law_draw", defArgs s__law_draw, defBody s__law_draw, defScope s__law_draw, [], []⟩
abbrev s__law_pick : Stmt := top 28
def d__law_pick : He.DefD := ⟨("_law_pick", none), "_law_pick", "_law_pick", defArgs s__law_pick, defBody s__law_pick, defScope s__law_pick, [], []⟩
abbrev s__law_at : Stmt := top 29
def d__law_at : He.DefD := ⟨("_law_at", none), "_law_at", "_law_at", defArgs s__law_at, defBody s__law_at, defScope s__law_at, [], []⟩
abbrev s__law_row : Stmt := top 30
def d__law_row : He.DefD := ⟨("_law_row", none), "_law_row", "_law_row", defArgs s__law_row, defBody s__law_row, defScope s__law_row, [], []⟩
abbrev s__law_longer : Stmt := top 31
def d__law_longer : He.DefD := ⟨("_law_longer", none), "_law_longer", "_law_longer", defArgs s__law_longer, defBody s__law_longer, defScope s__law_longer, [], []⟩
abbrev s__law_form : Stmt := top 32
def d__law_form : He.DefD := ⟨("_law_form", none), "_law_form", "_law_form", defArgs s__law_form, defBody s__law_form, defScope s__law_form, [], []⟩
abbrev s__law_before : Stmt := top 33
def d__law_before : He.DefD := ⟨("_law_before", none), "_law_before", "_law_before", defArgs s__law_before, defBody s__law_before, defScope s__law_before, [], []⟩
abbrev s__law_first_right : Stmt := top 34
def d__law_first_right : He.DefD := ⟨("_law_first_right", none), "_law_first_right", "_law_first_right", defArgs s__law_first_right, defBody s__law_first_right, defScope s__law_first_right, [], []⟩
abbrev s__law_right : Stmt := top 35
def d__law_right : He.DefD := ⟨("_law_right", none), "_law_right", "_law_right", defArgs s__law_right, defBody s__law_right, defScope s__law_right, [], []⟩
abbrev s_law : Stmt := top 36
def d_law : He.DefD := ⟨("law", none), "law", "law", defArgs s_law, defBody s_law, defScope s_law, [], []⟩
def fn : List He.DefD := [d__wall, d_is_integer, d_check_number, d_check_values, d_value_at, d_least_period, d_least_listed, d_form_of, d_common_multiple, d_parts_of, d_joined, d_Form_init, d_Form_call, d_Form_eq, d_Form_repr, d_Form_add, d_Form_radd, d_Form_at_most, d_Form_at_least, d_Form_first, d_least_common_period, d_summed, d__law_source, d__law_draw, d__law_pick, d__law_at, d__law_row, d__law_longer, d__law_form, d__law_before, d__law_first_right, d__law_right, d_law]
def fa : List He.Fa := [.glo "_wall", .glo "WrongValue", .glo "InvalidNumber", .glo "InvalidPeriod", .glo "NotAForm", .glo "InvalidNumbers", .glo "NoAnswer", .glo "TooMany", .int "MOST_FORM" 5000, .glo "is_integer", .glo "check_number", .glo "check_values", .glo "value_at", .glo "least_period", .glo "least_listed", .glo "form_of", .glo "common_multiple", .glo "parts_of", .glo "joined", .glo "Form", .cls "Form", .mkr "Form", .noat "Form" "spec", .meth "Form" "__call__", .meth "Form" "__eq__", .meth "Form" "__repr__", .meth "Form" "__add__", .meth "Form" "__radd__", .meth "Form" "at_most", .meth "Form" "at_least", .meth "Form" "first", .glo "least_common_period", .glo "summed", .glo "_law_source", .glo "_law_draw", .glo "_law_pick", .glo "_law_at", .glo "_law_row", .glo "_law_longer", .glo "_law_form", .glo "_law_before", .glo "_law_first_right", .glo "_law_right", .glo "law", .free "ArithmeticError", .free "ValueError", .free "abs", .free "all", .free "bool", .free "divmod", .free "enumerate", .free "int", .free "isinstance", .free "len", .free "list", .free "max", .free "min", .free "property", .free "range", .free "tuple", .free "zip"]
def fdA (K : PySem.W.Frag) (f : Addr) : FuncData := match K.lookup f with
  | some ⟨_, _, .func fd, _⟩ => fd
  | _ => default
theorem funD_fd {K : PySem.W.Frag} {x qual : Str} {params : Arguments} {body : List Stmt} {scope : Scope} {dvs : List V} {kws : List (Str × V)} {f : Addr} (h : ∃ fd, FunD K x qual params body scope dvs kws f fd) : FunD K x qual params body scope dvs kws f (fdA K f) := by
  obtain ⟨fd, F⟩ := h
  obtain ⟨oc, od, dV, kV, doc, pm, an, cdv, ct, osl, e, lk, r⟩ := F.ex
  have e2 : fdA K f = fd := by
    unfold fdA
    rw [lk]
  rw [e2]
  exact F
/-- what the text says -/
structure Tx (K : PySem.W.Frag) (mg : Str → Option Value) : Prop where
  g__wall : mg "_wall" = some (.ref (He.ga K "_wall"))
  F__wall : FunD K "_wall" "_wall" (defArgs s__wall) (defBody s__wall) (defScope s__wall) [] [] (He.fAd K d__wall.at_) (fdA K (He.fAd K d__wall.at_))
  g_WrongValue : mg "WrongValue" = some (.ref (He.ga K "WrongValue"))
  g_InvalidNumber : mg "InvalidNumber" = some (.ref (He.ga K "InvalidNumber"))
  g_InvalidPeriod : mg "InvalidPeriod" = some (.ref (He.ga K "InvalidPeriod"))
  g_NotAForm : mg "NotAForm" = some (.ref (He.ga K "NotAForm"))
  g_InvalidNumbers : mg "InvalidNumbers" = some (.ref (He.ga K "InvalidNumbers"))
  g_NoAnswer : mg "NoAnswer" = some (.ref (He.ga K "NoAnswer"))
  g_TooMany : mg "TooMany" = some (.ref (He.ga K "TooMany"))
  i_MOST_FORM : ∃ t, mg "MOST_FORM" = some (.int 5000 t)
  g_is_integer : mg "is_integer" = some (.ref (He.ga K "is_integer"))
  F_is_integer : FunD K "is_integer" "is_integer" (defArgs s_is_integer) (defBody s_is_integer) (defScope s_is_integer) [] [] (He.fAd K d_is_integer.at_) (fdA K (He.fAd K d_is_integer.at_))
  g_check_number : mg "check_number" = some (.ref (He.ga K "check_number"))
  F_check_number : FunD K "check_number" "check_number" (defArgs s_check_number) (defBody s_check_number) (defScope s_check_number) [] [] (He.fAd K d_check_number.at_) (fdA K (He.fAd K d_check_number.at_))
  g_check_values : mg "check_values" = some (.ref (He.ga K "check_values"))
  F_check_values : FunD K "check_values" "check_values" (defArgs s_check_values) (defBody s_check_values) (defScope s_check_values) [] [] (He.fAd K d_check_values.at_) (fdA K (He.fAd K d_check_values.at_))
  g_value_at : mg "value_at" = some (.ref (He.ga K "value_at"))
  F_value_at : FunD K "value_at" "value_at" (defArgs s_value_at) (defBody s_value_at) (defScope s_value_at) [] [] (He.fAd K d_value_at.at_) (fdA K (He.fAd K d_value_at.at_))
  g_least_period : mg "least_period" = some (.ref (He.ga K "least_period"))
  F_least_period : FunD K "least_period" "least_period" (defArgs s_least_period) (defBody s_least_period) (defScope s_least_period) [] [] (He.fAd K d_least_period.at_) (fdA K (He.fAd K d_least_period.at_))
  g_least_listed : mg "least_listed" = some (.ref (He.ga K "least_listed"))
  F_least_listed : FunD K "least_listed" "least_listed" (defArgs s_least_listed) (defBody s_least_listed) (defScope s_least_listed) [] [] (He.fAd K d_least_listed.at_) (fdA K (He.fAd K d_least_listed.at_))
  g_form_of : mg "form_of" = some (.ref (He.ga K "form_of"))
  F_form_of : FunD K "form_of" "form_of" (defArgs s_form_of) (defBody s_form_of) (defScope s_form_of) [] [] (He.fAd K d_form_of.at_) (fdA K (He.fAd K d_form_of.at_))
  g_common_multiple : mg "common_multiple" = some (.ref (He.ga K "common_multiple"))
  F_common_multiple : FunD K "common_multiple" "common_multiple" (defArgs s_common_multiple) (defBody s_common_multiple) (defScope s_common_multiple) [] [] (He.fAd K d_common_multiple.at_) (fdA K (He.fAd K d_common_multiple.at_))
  g_parts_of : mg "parts_of" = some (.ref (He.ga K "parts_of"))
  F_parts_of : FunD K "parts_of" "parts_of" (defArgs s_parts_of) (defBody s_parts_of) (defScope s_parts_of) [] [] (He.fAd K d_parts_of.at_) (fdA K (He.fAd K d_parts_of.at_))
  g_joined : mg "joined" = some (.ref (He.ga K "joined"))
  F_joined : FunD K "joined" "joined" (defArgs s_joined) (defBody s_joined) (defScope s_joined) [] [] (He.fAd K d_joined.at_) (fdA K (He.fAd K d_joined.at_))
  g_Form : mg "Form" = some (.ref (He.ga K "Form"))
  cl_Form : Cls K (He.ga K "Form")
  mk_Form : Mk K (He.ga K "Form") (He.ma K (He.ga K "Form") "__init__")
  no_Form_spec : NoAttr K (He.ga K "Form") "spec"
  F_Form_init : FunD K "__init__" "Form.__init__" (defArgs s_Form_init) (defBody s_Form_init) (defScope s_Form_init) [V.int 1, V.int 0] [] (He.fAd K d_Form_init.at_) (fdA K (He.fAd K d_Form_init.at_))
  m_Form_call : Meth K (He.ga K "Form") "__call__" (He.ma K (He.ga K "Form") "__call__")
  F_Form_call : FunD K "__call__" "Form.__call__" (defArgs s_Form_call) (defBody s_Form_call) (defScope s_Form_call) [] [] (He.fAd K d_Form_call.at_) (fdA K (He.fAd K d_Form_call.at_))
  m_Form_eq : Meth K (He.ga K "Form") "__eq__" (He.ma K (He.ga K "Form") "__eq__")
  F_Form_eq : FunD K "__eq__" "Form.__eq__" (defArgs s_Form_eq) (defBody s_Form_eq) (defScope s_Form_eq) [] [] (He.fAd K d_Form_eq.at_) (fdA K (He.fAd K d_Form_eq.at_))
  m_Form_repr : Meth K (He.ga K "Form") "__repr__" (He.ma K (He.ga K "Form") "__repr__")
  F_Form_repr : FunD K "__repr__" "Form.__repr__" (defArgs s_Form_repr) (defBody s_Form_repr) (defScope s_Form_repr) [] [] (He.fAd K d_Form_repr.at_) (fdA K (He.fAd K d_Form_repr.at_))
  m_Form_add : Meth K (He.ga K "Form") "__add__" (He.ma K (He.ga K "Form") "__add__")
  F_Form_add : FunD K "__add__" "Form.__add__" (defArgs s_Form_add) (defBody s_Form_add) (defScope s_Form_add) [] [] (He.fAd K d_Form_add.at_) (fdA K (He.fAd K d_Form_add.at_))
  m_Form_radd : Meth K (He.ga K "Form") "__radd__" (He.ma K (He.ga K "Form") "__radd__")
  F_Form_radd : FunD K "__radd__" "Form.__radd__" (defArgs s_Form_radd) (defBody s_Form_radd) (defScope s_Form_radd) [] [] (He.fAd K d_Form_radd.at_) (fdA K (He.fAd K d_Form_radd.at_))
  m_Form_at_most : Meth K (He.ga K "Form") "at_most" (He.ma K (He.ga K "Form") "at_most")
  F_Form_at_most : FunD K "at_most" "Form.at_most" (defArgs s_Form_at_most) (defBody s_Form_at_most) (defScope s_Form_at_most) [] [] (He.fAd K d_Form_at_most.at_) (fdA K (He.fAd K d_Form_at_most.at_))
  m_Form_at_least : Meth K (He.ga K "Form") "at_least" (He.ma K (He.ga K "Form") "at_least")
  F_Form_at_least : FunD K "at_least" "Form.at_least" (defArgs s_Form_at_least) (defBody s_Form_at_least) (defScope s_Form_at_least) [] [] (He.fAd K d_Form_at_least.at_) (fdA K (He.fAd K d_Form_at_least.at_))
  m_Form_first : Meth K (He.ga K "Form") "first" (He.ma K (He.ga K "Form") "first")
  F_Form_first : FunD K "first" "Form.first" (defArgs s_Form_first) (defBody s_Form_first) (defScope s_Form_first) [] [] (He.fAd K d_Form_first.at_) (fdA K (He.fAd K d_Form_first.at_))
  g_least_common_period : mg "least_common_period" = some (.ref (He.ga K "least_common_period"))
  F_least_common_period : FunD K "least_common_period" "least_common_period" (defArgs s_least_common_period) (defBody s_least_common_period) (defScope s_least_common_period) [] [] (He.fAd K d_least_common_period.at_) (fdA K (He.fAd K d_least_common_period.at_))
  g_summed : mg "summed" = some (.ref (He.ga K "summed"))
  F_summed : FunD K "summed" "summed" (defArgs s_summed) (defBody s_summed) (defScope s_summed) [] [] (He.fAd K d_summed.at_) (fdA K (He.fAd K d_summed.at_))
  g__law_source : mg "_law_source" = some (.ref (He.ga K "_law_source"))
  F__law_source : FunD K "_law_source" "_law_source" (defArgs s__law_source) (defBody s__law_source) (defScope s__law_source) [] [] (He.fAd K d__law_source.at_) (fdA K (He.fAd K d__law_source.at_))
  g__law_draw : mg "_law_draw" = some (.ref (He.ga K "_law_draw"))
  F__law_draw : FunD K "_law_draw" "_law_draw" (defArgs s__law_draw) (defBody s__law_draw) (defScope s__law_draw) [] [] (He.fAd K d__law_draw.at_) (fdA K (He.fAd K d__law_draw.at_))
  g__law_pick : mg "_law_pick" = some (.ref (He.ga K "_law_pick"))
  F__law_pick : FunD K "_law_pick" "_law_pick" (defArgs s__law_pick) (defBody s__law_pick) (defScope s__law_pick) [] [] (He.fAd K d__law_pick.at_) (fdA K (He.fAd K d__law_pick.at_))
  g__law_at : mg "_law_at" = some (.ref (He.ga K "_law_at"))
  F__law_at : FunD K "_law_at" "_law_at" (defArgs s__law_at) (defBody s__law_at) (defScope s__law_at) [] [] (He.fAd K d__law_at.at_) (fdA K (He.fAd K d__law_at.at_))
  g__law_row : mg "_law_row" = some (.ref (He.ga K "_law_row"))
  F__law_row : FunD K "_law_row" "_law_row" (defArgs s__law_row) (defBody s__law_row) (defScope s__law_row) [] [] (He.fAd K d__law_row.at_) (fdA K (He.fAd K d__law_row.at_))
  g__law_longer : mg "_law_longer" = some (.ref (He.ga K "_law_longer"))
  F__law_longer : FunD K "_law_longer" "_law_longer" (defArgs s__law_longer) (defBody s__law_longer) (defScope s__law_longer) [] [] (He.fAd K d__law_longer.at_) (fdA K (He.fAd K d__law_longer.at_))
  g__law_form : mg "_law_form" = some (.ref (He.ga K "_law_form"))
  F__law_form : FunD K "_law_form" "_law_form" (defArgs s__law_form) (defBody s__law_form) (defScope s__law_form) [] [] (He.fAd K d__law_form.at_) (fdA K (He.fAd K d__law_form.at_))
  g__law_before : mg "_law_before" = some (.ref (He.ga K "_law_before"))
  F__law_before : FunD K "_law_before" "_law_before" (defArgs s__law_before) (defBody s__law_before) (defScope s__law_before) [] [] (He.fAd K d__law_before.at_) (fdA K (He.fAd K d__law_before.at_))
  g__law_first_right : mg "_law_first_right" = some (.ref (He.ga K "_law_first_right"))
  F__law_first_right : FunD K "_law_first_right" "_law_first_right" (defArgs s__law_first_right) (defBody s__law_first_right) (defScope s__law_first_right) [] [] (He.fAd K d__law_first_right.at_) (fdA K (He.fAd K d__law_first_right.at_))
  g__law_right : mg "_law_right" = some (.ref (He.ga K "_law_right"))
  F__law_right : FunD K "_law_right" "_law_right" (defArgs s__law_right) (defBody s__law_right) (defScope s__law_right) [] [] (He.fAd K d__law_right.at_) (fdA K (He.fAd K d__law_right.at_))
  g_law : mg "law" = some (.ref (He.ga K "law"))
  F_law : FunD K "law" "law" (defArgs s_law) (defBody s_law) (defScope s_law) [] [] (He.fAd K d_law.at_) (fdA K (He.fAd K d_law.at_))
  b_ArithmeticError : mg "ArithmeticError" = none
  b_ValueError : mg "ValueError" = none
  b_abs : mg "abs" = none
  b_all : mg "all" = none
  b_bool : mg "bool" = none
  b_divmod : mg "divmod" = none
  b_enumerate : mg "enumerate" = none
  b_int : mg "int" = none
  b_isinstance : mg "isinstance" = none
  b_len : mg "len" = none
  b_list : mg "list" = none
  b_max : mg "max" = none
  b_min : mg "min" = none
  b_property : mg "property" = none
  b_range : mg "range" = none
  b_tuple : mg "tuple" = none
  b_zip : mg "zip" = none
def loose : List Str := (["_wall", "WrongValue", "InvalidNumber", "InvalidPeriod", "NotAForm", "InvalidNumbers", "NoAnswer", "TooMany", "MOST_FORM", "is_integer", "check_number", "check_values", "value_at", "least_period", "least_listed", "form_of", "common_multiple", "parts_of", "joined", "Form", "least_common_period", "summed", "_law_source", "_law_draw", "_law_pick", "_law_at", "_law_row", "_law_longer", "_law_form", "_law_before"] : List Str) ++ (["_law_first_right", "_law_right"] : List Str)
abbrev R : PySem.W.OpenRow := PySem.W.OpenLaw.row PySem.Challenge.rw_spillruns_k06_first_by_looking
def ex (K : PySem.W.Frag) : Bool := true
abbrev hk : PySem.W.Hook := He.hookX 6 fa fn [] [] ex
def ob (s : PySem.W.SharedT) : He.AlX := He.obsX 6 fa fn [] [] ex (HandSHeadRun.getT s)
theorem ob_eq (s : PySem.W.SharedT) : ob s = hk.obs s.abs := He.obsX_eq (HandSHeadRun.getT_eq s)
theorem run (w : World) : HandSHeadRun.RunEq R (PySem.W.view R.prog [36]) hk ob 20000 loose w := by
  intro os
  kernel_rfl
theorem tx_of {K : PySem.W.Frag} {h : Heap} {mg : Str → Option Value} (X : K.In h) (G : h.Ns mainGlobals mg) (c : He.SaysD fa fn K) : Tx K mg :=
  ⟨He.glo_ok X G (c.fact 0),
   funD_fd (c.def_ 0 (d := d__wall) rfl),
   He.glo_ok X G (c.fact 1),
   He.glo_ok X G (c.fact 2),
   He.glo_ok X G (c.fact 3),
   He.glo_ok X G (c.fact 4),
   He.glo_ok X G (c.fact 5),
   He.glo_ok X G (c.fact 6),
   He.glo_ok X G (c.fact 7),
   He.int_ok X G (c.fact 8),
   He.glo_ok X G (c.fact 9),
   funD_fd (c.def_ 1 (d := d_is_integer) rfl),
   He.glo_ok X G (c.fact 10),
   funD_fd (c.def_ 2 (d := d_check_number) rfl),
   He.glo_ok X G (c.fact 11),
   funD_fd (c.def_ 3 (d := d_check_values) rfl),
   He.glo_ok X G (c.fact 12),
   funD_fd (c.def_ 4 (d := d_value_at) rfl),
   He.glo_ok X G (c.fact 13),
   funD_fd (c.def_ 5 (d := d_least_period) rfl),
   He.glo_ok X G (c.fact 14),
   funD_fd (c.def_ 6 (d := d_least_listed) rfl),
   He.glo_ok X G (c.fact 15),
   funD_fd (c.def_ 7 (d := d_form_of) rfl),
   He.glo_ok X G (c.fact 16),
   funD_fd (c.def_ 8 (d := d_common_multiple) rfl),
   He.glo_ok X G (c.fact 17),
   funD_fd (c.def_ 9 (d := d_parts_of) rfl),
   He.glo_ok X G (c.fact 18),
   funD_fd (c.def_ 10 (d := d_joined) rfl),
   He.glo_ok X G (c.fact 19),
   He.cls_ok (c.fact 20),
   He.mkr_ok (c.fact 21),
   He.noat_ok (c.fact 22),
   funD_fd (c.def_ 11 (d := d_Form_init) rfl),
   He.meth_ok (c.fact 23),
   funD_fd (c.def_ 12 (d := d_Form_call) rfl),
   He.meth_ok (c.fact 24),
   funD_fd (c.def_ 13 (d := d_Form_eq) rfl),
   He.meth_ok (c.fact 25),
   funD_fd (c.def_ 14 (d := d_Form_repr) rfl),
   He.meth_ok (c.fact 26),
   funD_fd (c.def_ 15 (d := d_Form_add) rfl),
   He.meth_ok (c.fact 27),
   funD_fd (c.def_ 16 (d := d_Form_radd) rfl),
   He.meth_ok (c.fact 28),
   funD_fd (c.def_ 17 (d := d_Form_at_most) rfl),
   He.meth_ok (c.fact 29),
   funD_fd (c.def_ 18 (d := d_Form_at_least) rfl),
   He.meth_ok (c.fact 30),
   funD_fd (c.def_ 19 (d := d_Form_first) rfl),
   He.glo_ok X G (c.fact 31),
   funD_fd (c.def_ 20 (d := d_least_common_period) rfl),
   He.glo_ok X G (c.fact 32),
   funD_fd (c.def_ 21 (d := d_summed) rfl),
   He.glo_ok X G (c.fact 33),
   funD_fd (c.def_ 22 (d := d__law_source) rfl),
   He.glo_ok X G (c.fact 34),
   funD_fd (c.def_ 23 (d := d__law_draw) rfl),
   He.glo_ok X G (c.fact 35),
   funD_fd (c.def_ 24 (d := d__law_pick) rfl),
   He.glo_ok X G (c.fact 36),
   funD_fd (c.def_ 25 (d := d__law_at) rfl),
   He.glo_ok X G (c.fact 37),
   funD_fd (c.def_ 26 (d := d__law_row) rfl),
   He.glo_ok X G (c.fact 38),
   funD_fd (c.def_ 27 (d := d__law_longer) rfl),
   He.glo_ok X G (c.fact 39),
   funD_fd (c.def_ 28 (d := d__law_form) rfl),
   He.glo_ok X G (c.fact 40),
   funD_fd (c.def_ 29 (d := d__law_before) rfl),
   He.glo_ok X G (c.fact 41),
   funD_fd (c.def_ 30 (d := d__law_first_right) rfl),
   He.glo_ok X G (c.fact 42),
   funD_fd (c.def_ 31 (d := d__law_right) rfl),
   He.glo_ok X G (c.fact 43),
   funD_fd (c.def_ 32 (d := d_law) rfl),
   He.free_ok X G (c.fact 44),
   He.free_ok X G (c.fact 45),
   He.free_ok X G (c.fact 46),
   He.free_ok X G (c.fact 47),
   He.free_ok X G (c.fact 48),
   He.free_ok X G (c.fact 49),
   He.free_ok X G (c.fact 50),
   He.free_ok X G (c.fact 51),
   He.free_ok X G (c.fact 52),
   He.free_ok X G (c.fact 53),
   He.free_ok X G (c.fact 54),
   He.free_ok X G (c.fact 55),
   He.free_ok X G (c.fact 56),
   He.free_ok X G (c.fact 57),
   He.free_ok X G (c.fact 58),
   He.free_ok X G (c.fact 59),
   He.free_ok X G (c.fact 60)⟩
end K06
namespace K06
open PySem PySem.Spec PyProof.Rows L2 Sp
variable {P : Program} {w : World} {K : PySem.W.Frag} {mg : Str → Option Value} {base : Heap}
/-! ### the functions, plain -/
/-- the value at n: the last p of the values ns are followed with the step s -/
def valueAt (ns : List Int) (p : Nat) (s : Int) (n : Nat) : Int :=
  if n < ns.length then ns.getD n 0 else ns.getD (ns.length - p + (n - (ns.length - p)) % p) 0 + ((n - (ns.length - p)) / p : Nat) * s
/-- the i-th value behind the start -/
def tailAt (ns : List Int) (p : Nat) (s : Int) (i : Nat) : Int := valueAt ns p s (ns.length - p + i)
def rises (ns : List Int) (p : Nat) (s : Int) (q : Nat) : Bool := (List.range p).all fun i => tailAt ns p s (i + q) - tailAt ns p s i == tailAt ns p s q - tailAt ns p s 0
def shorterOk (ns : List Int) (p : Nat) (s : Int) (q : Nat) : Bool := p % q == 0 && rises ns p s q
def leastFrom (ns : List Int) (p : Nat) (s : Int) : Nat → Nat → Nat × Int
  | 0, _ => (p, s)
  | k + 1, q => if shorterOk ns p s q = true then (q, tailAt ns p s q - tailAt ns p s 0) else leastFrom ns p s k (q + 1)
def leastP (ns : List Int) (p : Nat) (s : Int) : Nat × Int := leastFrom ns p s (p - 1) 1
theorem leastFrom_skip {ns : List Int} {p : Nat} {s : Int} : ∀ (j k q : Nat), j ≤ k → (∀ i, i < j → shorterOk ns p s (q + i) = false) → leastFrom ns p s k q = leastFrom ns p s (k - j) (q + j)
  | 0, k, q, _, _ => rfl
  | j + 1, 0, q, h, _ => by omega
  | j + 1, k + 1, q, h, hn => by
    have h0 := hn 0 (by omega)
    rw [Nat.add_zero] at h0
    show (if shorterOk ns p s q = true then _ else leastFrom ns p s k (q + 1)) = _
    rw [h0, if_neg (by decide), leastFrom_skip j k (q + 1) (by omega) (fun i hi => by rw [Nat.add_assoc, Nat.add_comm 1 i]; exact hn (i + 1) (by omega))]
    congr 1 <;> omega
theorem leastP_found {ns : List Int} {p : Nat} {s : Int} {i : Nat} (hi : i < p - 1) (hn : ∀ j, j < i → shorterOk ns p s (1 + j) = false) (h : shorterOk ns p s (1 + i) = true) : leastP ns p s = (1 + i, tailAt ns p s (1 + i) - tailAt ns p s 0) := by
  unfold leastP
  rw [leastFrom_skip i (p - 1) 1 (by omega) hn]
  obtain ⟨k, hk⟩ : ∃ k, p - 1 - i = k + 1 := ⟨p - 1 - i - 1, by omega⟩
  rw [hk]
  show (if shorterOk ns p s (1 + i) = true then _ else _) = _
  rw [if_pos h]
theorem leastP_none {ns : List Int} {p : Nat} {s : Int} (hn : ∀ j, j < p - 1 → shorterOk ns p s (1 + j) = false) : leastP ns p s = (p, s) := by
  unfold leastP
  rw [leastFrom_skip (p - 1) (p - 1) 1 (Nat.le_refl _) hn, Nat.sub_self]
  rfl
def leastS (ns : List Int) (p : Nat) (s : Int) : Nat → Nat
  | 0 => 0
  | k + 1 => if valueAt ns p s (k + p) = ns.getD k 0 + s then leastS ns p s k else k + 1
def leastL (ns : List Int) (p : Nat) (s : Int) : List Int := ns.take (leastS ns p s (ns.length - p) + p)
/-- a form's spec -/
def formOf (ns : List Int) (p : Nat) (s : Int) : List Int × Nat × Int := (leastL ns (leastP ns p s).1 (leastP ns p s).2, (leastP ns p s).1, (leastP ns p s).2)
/-- of a size that may be multiplied -/
def Sm (x : Int) : Prop := x.natAbs < 2 ^ 1000
theorem Sm.mulW {i j : Int} (a : Sm i) (b : Sm j) : CMulW i j := wide_mul (a := 1000) (b := 1000) a b (by decide) (by decide) (by decide)
theorem atI_ints {ns : List Int} {z : Int} {j : Nat} (e : z = (j : Int)) (h : j < ns.length) : atI (ns.map V.int) z = some (.int (ns.getD j 0)) := by
  rw [e]
  refine atI_nat ?_
  rw [List.getElem?_map, List.getElem?_eq_getElem h]
  simp [List.getD, List.getElem?_eq_getElem h]
theorem atI_range {f : Nat → V} {n : Nat} {z : Int} {j : Nat} (e : z = (j : Int)) (h : j < n) : atI ((List.range n).map f) z = some (f j) := by
  rw [e]
  refine atI_nat ?_
  rw [List.getElem?_map, List.getElem?_range h]
  rfl

/-! ### draws -/
def Pool (H : Hp) (p : Addr) : Prop := ∃ a b c : Int, H p = some (.lst [.int a, .int b, .int c]) ∧ 0 ≤ a ∧ a < 2147483629 ∧ 0 ≤ c
/-- all but p is as it was -/
def Kp (p : Addr) (H H' : Hp) : Prop := ∀ b o, b ≠ p → H b = some o → H' b = some o
theorem Kp.refl {p : Addr} {H : Hp} : Kp p H H := fun _ _ _ h => h
theorem Kp.trans {p : Addr} {H H1 H2 : Hp} (a : Kp p H H1) (b : Kp p H1 H2) : Kp p H H2 := fun c o n h => b c o n (a c o n h)
theorem Kp.new {p q : Addr} {H : Hp} {o : HO} (hq : H q = none) : Kp p H (upd H q o) := fun b u _ h => by rw [upd_ne (ne_of_none h hq)]; exact h
theorem Kp.put {p : Addr} {H : Hp} {o : HO} : Kp p H (upd H p o) := fun b u n h => by rw [upd_ne n]; exact h
theorem Kp.same {p : Addr} {H H' : Hp} (e : Same H H') : Kp p H H' := fun b u _ h => e b u h
def sp__law_draw (K : PySem.W.Frag) : L2.Sp := fun vs H Q _ => on2 vs fun x y => onRef x fun p => onInt y fun m => Pool H p ∧ 0 < m ∧ m < 2 ^ 200 ∧
  ∀ (r : Int) (H' : Hp), 0 ≤ r → r < m → Pool H' p → Kp p H H' → Q (.int r) H'
abbrev N__law_draw : List Str := ["_law_pool", "_law_many", "_law_seed", "_law_figure"]
theorem sc__law_draw : FnScope N__law_draw ["_law_pool", "_law_many"] (defScope s__law_draw) := ⟨rfl, rfl, rfl, by decide +kernel, rfl, by decide +kernel, by decide +kernel⟩
def t__law_draw (K : PySem.W.Frag) : TS :=
    tSeq (tAsg (tOp fAdd (tOp (fIxL K) (fV 0) (tC (.int 1))) (tC (.int 1))) (gSub (fV 0) (tC (.int 1)) fSetL))
    (tSeq (tAsg (tCB fInt1 (tCons (tOp (fIxL K) (fV 0) (tC (.int 0))) tNil)) (gName 2))
    (tSeq (tAsg (tOp fMod (tCB fInt1 (tCons (tOp fAdd (tOp fAdd (tOp fAdd (tOp fMulW (fV 2) (fV 2)) (tOp fMul (tC (.int 69621)) (fV 2))) (tOp fMul (tC (.int 48611)) (tOp (fIxL K) (fV 0) (tC (.int 1))))) (tC (.int 11))) tNil)) (tC (.int 2147483629))) (gSub (fV 0) (tC (.int 0)) fSetL))
    (tSeq (tIfS (fT (tOp fGt (tOp (fIxL K) (fV 0) (tC (.int 2))) (tC (.int 0))))
    (tSeq (tAsg (tCB fDivmod (tCons (tOp (fIxL K) (fV 0) (tC (.int 2))) (tCons (fV 1) tNil))) (gTup K 2 (gCons (gSub (fV 0) (tC (.int 2)) fSetL) (gCons (gName 3) gNil))))
    (tRet (fV 3))) tNext)
    (tRet (tOp fMod (tCB fInt1 (tCons (tOp fDiv (tOp (fIxL K) (fV 0) (tC (.int 0))) (tC (.int 97))) tNil)) (fV 1))))))
abbrev Pure__law_draw (K : PySem.W.Frag) : Prop := ∀ (vs : List V) (H : Hp) (Q : VK) (E : XK), sp__law_draw K vs H Q E → t__law_draw K { nx := fun _ H' => Q .non H', rt := Q } (L2.start N__law_draw vs) H
theorem mW {m : Int} (h0 : 0 < m) (h1 : m < 2 ^ 200) (x : Int) : CDivW x m := wide_div (b := 200) h0 (by omega) (by decide) (by decide)
theorem pure__law_draw (T : Tx K mg) : Pure__law_draw K := by
  intro vs H Q E h
  obtain ⟨x, y, rfl, h⟩ := on2_ex h
  obtain ⟨p, rfl, h⟩ := onRef_ex h
  obtain ⟨m, rfl, ⟨a, b, c, hp, ha0, ha1, hc⟩, hm0, hm1, hQ⟩ := onInt_ex h
  refine ⟨_, SqL.of hp, _, rfl, _, hp, _, rfl, ?_⟩
  refine ⟨_, SqL.of upd_same, _, rfl, ?_⟩
  refine ⟨wide_mul (a := 31) (b := 31) (by omega) (by omega) (by decide) (by decide) (by decide), .inl ⟨by decide, by decide⟩, ?_⟩
  refine ⟨_, SqL.of upd_same, _, rfl, .inl ⟨by decide, by decide⟩, by show (0 : Int) < _; decide, _, upd_same, _, rfl, ?_⟩
  refine ⟨_, SqL.of upd_same, _, rfl, ?_⟩
  have hb0 : ∀ z : Int, 0 ≤ z % 2147483629 ∧ z % 2147483629 < 2147483629 := fun z => by omega
  refine ite2 (fun h => ?_) (fun h => ?_)
  · have h : (0 : Int) < c := of_decide_eq_true h
    refine ⟨_, SqL.of upd_same, _, rfl, mW hm0 hm1 _, fun q hq => ?_⟩
    have hqp : p ≠ q := ne_of_none upd_same hq
    refine ⟨q, _, rfl, SqT.of upd_same, rfl, _, _, rfl, ?_⟩
    refine ⟨_, (by rw [upd_ne hqp]; exact upd_same), _, rfl, _, _, rfl, rfl, ?_⟩
    refine hQ (c % m) _ (Int.emod_nonneg _ (by omega)) (Int.emod_lt_of_pos _ hm0) ⟨_, _, _, upd_same, (hb0 _).1, (hb0 _).2, Int.ediv_nonneg hc (by omega)⟩ ?_
    exact ((Kp.put.trans Kp.put).trans (Kp.new hq)).trans Kp.put
  · refine ⟨_, SqL.of upd_same, _, rfl, wide_div (b := 7) (by decide) (by decide) (by decide) (by decide), hm0, ?_⟩
    exact hQ _ _ (Int.emod_nonneg _ (by omega)) (Int.emod_lt_of_pos _ hm0) ⟨_, _, _, upd_same, (hb0 _).1, (hb0 _).2, hc⟩ (Kp.put.trans Kp.put)
theorem b__law_draw (T : Tx K mg) : Binds K (fdA K (He.fAd K d__law_draw.at_)) ["_law_pool", "_law_many"] [] := T.F__law_draw.bindsN fun _ _ _ _ _ _ us hl => match us, hl with | [_, _], _ => rfl
theorem ok__law_draw (T : Tx K mg) : FnOk P w K mg base CX0 1 (He.fAd K d__law_draw.at_) (fdA K (He.fAd K d__law_draw.at_)) ["_law_pool", "_law_many"] (sp__law_draw K) :=
  T.F__law_draw.ok sc__law_draw (fun _ _ _ _ h => on2_len h) (fun cdv A outer s H vs Q E hr h => ⟨t__law_draw K, PSs.nox ((pss_cons (ps_asg (pe_op o_add (pe_ix x_list (vv 0) pe_int (fun _ _ => rfl)) pe_int) (pg_sub (vv 0) pe_int s_list))
      (pss_cons (ps_set (i := 2) sc__law_draw.nd rfl (.inl rfl) (pe_callTy c_int1 (by rfl) T.b_int boot_int (pa_cons (pe_ix x_list (vv 0) pe_int (fun _ _ => rfl)) pa_nil)))
      (pss_cons (ps_asg (pe_op o_mod (pe_callTy c_int1 (by rfl) T.b_int boot_int (pa_cons (pe_op o_add (pe_op o_add (pe_op o_add (pe_op o_mulW (vv 2) (vv 2)) (pe_op o_mul pe_int (vv 2))) (pe_op o_mul pe_int (pe_ix x_list (vv 0) pe_int (fun _ _ => rfl)))) pe_int) pa_nil)) pe_int) (pg_sub (vv 0) pe_int s_list))
      (pss_cons (ps_if (t_cmp o_gt (pe_ix x_list (vv 0) pe_int (fun _ _ => rfl)) pe_int (nomark _))
      (pss_cons (ps_asg (pe_callB c_divmod (by rfl) T.b_divmod boot_divmod (pa_cons (pe_ix x_list (vv 0) pe_int (fun _ _ => rfl)) (pa_cons (vv 1) pa_nil))) (pg_tup rfl (pgs_cons (pg_sub (vv 0) pe_int s_list) (pgs_cons (pg_name (i := 3) sc__law_draw.nd rfl (.inl rfl)) pgs_nil))))
      (pss_one (ps_ret (vv 3)))) pss_nil)
      (pss_one (ps_ret (pe_op o_mod (pe_callTy c_int1 (by rfl) T.b_int boot_int (pa_cons (pe_op o_div (pe_ix x_list (vv 0) pe_int (fun _ _ => rfl)) pe_int) pa_nil)) (vv 1))))))))), pure__law_draw T vs H Q E h⟩)
/-- one of the things in a list -/
def sp__law_pick (K : PySem.W.Frag) : L2.Sp := fun vs H Q _ => on2 vs fun x y => onRef x fun p => onRef y fun m => Pool H p ∧ ∃ xs, SqL K H m xs ∧ m ≠ p ∧ xs ≠ [] ∧ xs.length < 1000 ∧
  ∀ (i : Nat) (v : V) (H' : Hp), xs[i]? = some v → Pool H' p → Kp p H H' → Q v H'
abbrev N__law_pick : List Str := ["_law_pool", "_law_menu"]
theorem sc__law_pick : FnScope N__law_pick ["_law_pool", "_law_menu"] (defScope s__law_pick) := ⟨rfl, rfl, rfl, by decide +kernel, rfl, by decide +kernel, by decide +kernel⟩
def t__law_pick (K : PySem.W.Frag) : TS :=
    tRet (tOp (fIxL K) (fV 1) (tCall (sp__law_draw K) [] E0 (tCons (fV 0) (tCons (tCB (fLen K) (tCons (fV 1) tNil)) tNil))))
abbrev Pure__law_pick (K : PySem.W.Frag) : Prop := ∀ (vs : List V) (H : Hp) (Q : VK) (E : XK), sp__law_pick K vs H Q E → t__law_pick K { nx := fun _ H' => Q .non H', rt := Q } (L2.start N__law_pick vs) H
theorem kpL {p : Addr} {H H' : Hp} {m : Addr} {xs : List V} (e : Kp p H H') (n : m ≠ p) (h : SqL K H m xs) : SqL K H' m xs := by
  rcases h with (h | ⟨o, h⟩) | h
  · exact .inl (.inl (e _ _ n h))
  · exact .inl (.inr ⟨o, e _ _ n h⟩)
  · exact .inr h
theorem kpT {p : Addr} {H H' : Hp} {m : Addr} {xs : List V} (e : Kp p H H') (n : m ≠ p) (h : SqT K H m xs) : SqT K H' m xs := by
  rcases h with (h | ⟨o, h⟩) | h
  · exact .inl (.inl (e _ _ n h))
  · exact .inl (.inr ⟨o, e _ _ n h⟩)
  · exact .inr h
theorem pure__law_pick (T : Tx K mg) : Pure__law_pick K := by
  intro vs H Q E h
  obtain ⟨x, y, rfl, h⟩ := on2_ex h
  obtain ⟨p, rfl, h⟩ := onRef_ex h
  obtain ⟨m, rfl, hp, xs, hx, hmp, hne, hl, hQ⟩ := onRef_ex h
  have hpos : 0 < xs.length := List.length_pos_iff.mpr hne
  refine ⟨_, .inl hx, hp, by omega, by omega, fun r H' h0 h1 hp' hk => ?_⟩
  have hr : r.toNat < xs.length := by omega
  exact ⟨_, kpL hk hmp hx, xs[r.toNat], at_of (j := r.toNat) (by omega) (by simp [hr]), hQ r.toNat _ H' (by simp [hr]) hp' hk⟩
theorem b__law_pick (T : Tx K mg) : Binds K (fdA K (He.fAd K d__law_pick.at_)) ["_law_pool", "_law_menu"] [] := T.F__law_pick.bindsN fun _ _ _ _ _ _ us hl => match us, hl with | [_, _], _ => rfl
theorem ok__law_pick (T : Tx K mg) : FnOk P w K mg base CX0 2 (He.fAd K d__law_pick.at_) (fdA K (He.fAd K d__law_pick.at_)) ["_law_pool", "_law_menu"] (sp__law_pick K) :=
  T.F__law_pick.ok sc__law_pick (fun _ _ _ _ h => on2_len h) (fun cdv A outer s H vs Q E hr h => ⟨t__law_pick K, PSs.nox ((pss_one (ps_ret (pe_ix x_list (vv 1) (pe_call (ok__law_draw T) (hr.mono (by decide)) (by rfl) T.g__law_draw T.F__law_draw.kp (b__law_draw T) .nil pass0 (pa_cons (vv 0) (pa_cons (pe_callB c_len (by rfl) T.b_len boot_len (pa_cons (vv 1) pa_nil)) pa_nil))) (fun _ _ => rfl))))), pure__law_pick T vs H Q E h⟩)
/-- a new pool -/
def sp__law_source (K : PySem.W.Frag) : L2.Sp := fun vs H Q _ => on2 vs fun x y => onRef x fun c => onInt y fun k => ∃ ns : List Int, SqL K H c (ns.map V.int) ∧ ns.length ≤ 1000 ∧ 0 ≤ k ∧ k ≤ 100 ∧
  ∀ (p : Addr) (H' : Hp), H p = none → Pool H' p → Same H H' → Q (.ref p) H'
abbrev N__law_source : List Str := ["_law_cells", "_law_k", "_law_figures", "_law_seed", "_law_cell"]
theorem sc__law_source : FnScope N__law_source ["_law_cells", "_law_k"] (defScope s__law_source) := ⟨rfl, rfl, rfl, by decide +kernel, rfl, by decide +kernel, by decide +kernel⟩
def t__law_source (K : PySem.W.Frag) : TS :=
    tSeq (tIfS (fT (tOp fLt (fV 1) (tCB (fLen K) (tCons (fV 0) tNil))))
    (tSeq (tAsg (tIf (tOr (fT (tOp fLt (tOp (fIxL K) (fV 0) (fV 1)) (tC (.int 0)))) (fT (tOp fGe (tOp (fIxL K) (fV 0) (fV 1)) (tOp fPow (tC (.int 10)) (tC (.int 18)))))) (tCB fAbs (tCons (tOp (fIxL K) (fV 0) (fV 1)) tNil)) (tC (.int 0))) (gName 2))
    (tRet (tLst (tCons (tOp fMod (tCB fInt1 (tCons (tOp fAdd (tOp fAdd (tOp fMul (tOp (fIxL K) (fV 0) (fV 1)) (tC (.int 40507))) (tOp fMul (tC (.int 977)) (fV 1))) (tC (.int 1))) tNil)) (tC (.int 2147483629))) (tCons (tC (.int 0)) (tCons (fV 2) tNil)))))) tNext)
    (tSeq (tAsg (tOp fAdd (tOp fMul (tC (.int 31)) (fV 1)) (tC (.int 7))) (gName 3))
    (tSeq (tFor (iList K (tSl (rSlL K) (fV 0) tNoPart (tPart (tC (.int 4))))) (gName 4)
    (tAsg (tOp fMod (tCB fInt1 (tCons (tOp fAdd (tOp fMul (fV 3) (tC (.int 48271))) (fV 4)) tNil)) (tC (.int 2147483587))) (gName 3)))
    (tRet (tLst (tCons (fV 3) (tCons (tC (.int 0)) (tCons (tC (.int 0)) tNil)))))))
abbrev Pure__law_source (K : PySem.W.Frag) : Prop := ∀ (vs : List V) (H : Hp) (Q : VK) (E : XK), sp__law_source K vs H Q E → t__law_source K { nx := fun _ H' => Q .non H', rt := Q } (L2.start N__law_source vs) H
theorem pure__law_source (T : Tx K mg) : Pure__law_source K := by
  intro vs H Q E h
  obtain ⟨x, y, rfl, h⟩ := on2_ex h
  obtain ⟨c, rfl, h⟩ := onRef_ex h
  obtain ⟨k, rfl, ns, hS, hl, hk0, hk1, hQ⟩ := onInt_ex h
  refine ⟨_, .inl hS, ?_⟩
  have hb0 : ∀ z : Int, 0 ≤ z % 2147483629 ∧ z % 2147483629 < 2147483629 := fun z => by omega
  refine ite2 (fun h => ?_) (fun h => ?_)
  · have h : k < ((ns.map V.int).length : Int) := of_decide_eq_true h
    rw [List.length_map] at h
    have ek : k = (k.toNat : Int) := by omega
    have hkl : k.toNat < ns.length := by omega
    have hat := atI_ints (ns := ns) (z := k) (j := k.toNat) ek hkl
    generalize ns.getD k.toNat 0 = z at hat
    have fin : ∀ f : Int, 0 ≤ f → tRet (tLst (tCons (tOp fMod (tCB fInt1 (tCons (tOp fAdd (tOp fAdd (tOp fMul (tOp (fIxL K) (fV 0) (fV 1)) (tC (.int 40507))) (tOp fMul (tC (.int 977)) (fV 1))) (tC (.int 1))) tNil)) (tC (.int 2147483629))) (tCons (tC (.int 0)) (tCons (fV 2) tNil)))) { nx := fun _ H' => Q .non H', rt := Q } [some (.ref c), some (.int k), some (.int f), none, none] H := fun f hf => by
      refine ⟨_, hS, _, hat, .inr ⟨by decide, by decide⟩, .inl ⟨by decide, by decide⟩, by show (0 : Int) < _; decide, by show 3 ≤ sizeLine; decide, fun p hp => ?_⟩
      exact hQ p _ hp ⟨_, _, _, upd_same, (hb0 _).1, (hb0 _).2, hf⟩ (Same.upd hp)
    refine ⟨_, hS, _, hat, ite2 (fun h1 => ?_) (fun h1 => ?_)⟩
    · refine iteT ⟨_, hS, _, hat, ?_⟩
      refine fin _ ?_
      split <;> omega
    · refine ⟨_, hS, _, hat, ⟨by decide, by decide, by decide⟩, ?_⟩
      refine ite2 (fun h2 => ?_) (fun h2 => ?_)
      · refine ⟨_, hS, _, hat, ?_⟩
        refine fin _ ?_
        split <;> omega
      · exact fin 0 (by omega)
  · refine ⟨.inl ⟨by decide, by decide⟩, _, rfl, _, _, rfl, hS, fun q hq => ?_⟩
    refine ⟨_, rfl, ⟨_, SqL.of upd_same⟩, ?_⟩
    refine for_list (K := K) (a := q) (xs := cutV (ns.map V.int) none (some 4)) (fun i σ H1 => Same (upd H q (.lst (cutV (ns.map V.int) none (some 4)))) H1 ∧ ∃ (s : Int) (o : Option V), 0 ≤ s ∧ s < 2147483629 ∧ σ = [some (.ref c), some (.int k), none, some (.int s), o]) ⟨Same.refl _, 31 * k + 7, none, by omega, by omega, rfl⟩ (fun i σ H1 _ hp => hp.1.seq (SqL.of upd_same)) (fun i x σ H1 hx hp => ?_) (fun σ H1 hp => ?_)
    · obtain ⟨e1, s, o, h0, h1, rfl⟩ := hp
      have : ∃ z : Int, x = .int z := by
        have hm := List.mem_of_getElem? hx
        have hm2 : x ∈ ns.map V.int := List.mem_of_mem_drop (List.mem_of_mem_take hm)
        obtain ⟨z, _, rfl⟩ := List.mem_map.mp hm2
        exact ⟨z, rfl⟩
      obtain ⟨z, rfl⟩ := this
      refine ⟨.inr ⟨by decide, by decide⟩, by show (0 : Int) < _; decide, e1, _, some (.int z), ?_, ?_, rfl⟩
      · exact Int.emod_nonneg _ (by decide)
      · exact Int.lt_trans (Int.emod_lt_of_pos _ (by decide)) (by decide)
    · obtain ⟨e1, s, o, h0, h1, rfl⟩ := hp
      refine ⟨by show 3 ≤ sizeLine; decide, fun p hp => ?_⟩
      refine hQ p _ ((Same.upd hq).free (e1.free hp)) ⟨_, _, _, upd_same, h0, h1, by omega⟩ (((Same.upd hq).trans e1).trans (Same.upd hp))
theorem b__law_source (T : Tx K mg) : Binds K (fdA K (He.fAd K d__law_source.at_)) ["_law_cells", "_law_k"] [] := T.F__law_source.bindsN fun _ _ _ _ _ _ us hl => match us, hl with | [_, _], _ => rfl
theorem ok__law_source (T : Tx K mg) : FnOk P w K mg base CX0 1 (He.fAd K d__law_source.at_) (fdA K (He.fAd K d__law_source.at_)) ["_law_cells", "_law_k"] (sp__law_source K) :=
  T.F__law_source.ok sc__law_source (fun _ _ _ _ h => on2_len h) (fun cdv A outer s H vs Q E hr h => ⟨t__law_source K, PSs.nox ((pss_cons (ps_if (t_cmp o_lt (vv 1) (pe_callB c_len (by rfl) T.b_len boot_len (pa_cons (vv 0) pa_nil)) (nomark _))
      (pss_cons (ps_set (i := 2) sc__law_source.nd rfl (.inl rfl) (pe_ifExp (PW.pt (pw_or (t_cmp o_lt (pe_ix x_list (vv 0) (vv 1) (fun _ _ => rfl)) pe_int (nomark _)) (pw_or1 (t_cmp o_ge (pe_ix x_list (vv 0) (vv 1) (fun _ _ => rfl)) (pe_op o_pow pe_int pe_int) (nomark _))))) (pe_callB c_abs (by rfl) T.b_abs boot_abs (pa_cons (pe_ix x_list (vv 0) (vv 1) (fun _ _ => rfl)) pa_nil)) pe_int))
      (pss_one (ps_ret (pe_lst (pa_cons (pe_op o_mod (pe_callTy c_int1 (by rfl) T.b_int boot_int (pa_cons (pe_op o_add (pe_op o_add (pe_op o_mul (pe_ix x_list (vv 0) (vv 1) (fun _ _ => rfl)) pe_int) (pe_op o_mul pe_int (vv 1))) pe_int) pa_nil)) pe_int) (pa_cons pe_int (pa_cons (vv 2) pa_nil))))))) pss_nil)
      (pss_cons (ps_set (i := 3) sc__law_source.nd rfl (.inl rfl) (pe_op o_add (pe_op o_mul pe_int (vv 1)) pe_int))
      (pss_cons (ps_for PassesOwn.never (by rfl) (pi_list (pe_slice sl_list (vv 0) po_none (po_some pe_int))) (pg_name (i := 4) sc__law_source.nd rfl (.inl rfl))
      (pss_one (ps_set (i := 3) sc__law_source.nd rfl (.inl rfl) (pe_op o_mod (pe_callTy c_int1 (by rfl) T.b_int boot_int (pa_cons (pe_op o_add (pe_op o_mul (vv 3) pe_int) (vv 4)) pa_nil)) pe_int))))
      (pss_one (ps_ret (pe_lst (pa_cons (vv 3) (pa_cons pe_int (pa_cons pe_int pa_nil)))))))))), pure__law_source T vs H Q E h⟩)

end K06
namespace K06
open PySem PySem.Spec PyProof.Rows L2 Sp
variable {P : Program} {w : World} {K : PySem.W.Frag} {mg : Str → Option Value} {base : Heap}
/-! ### forms -/
def sp_is_integer (K : PySem.W.Frag) : L2.Sp := fun vs H Q _ => on1 vs fun x => onInt x fun _ => Q (.bl true) H
abbrev N_is_integer : List Str := ["value"]
theorem sc_is_integer : FnScope N_is_integer ["value"] (defScope s_is_integer) := ⟨rfl, rfl, rfl, by decide +kernel, rfl, by decide +kernel, by decide +kernel⟩
def t_is_integer (K : PySem.W.Frag) : TS :=
    tRet (fAndV (tCB (fIsi K) (tCons (fV 0) (tCons (tC (.ty "int")) tNil))) (fNotV (tCB (fIsi K) (tCons (fV 0) (tCons (tC (.ty "bool")) tNil)))))
abbrev Pure_is_integer (K : PySem.W.Frag) : Prop := ∀ (vs : List V) (H : Hp) (Q : VK) (E : XK), sp_is_integer K vs H Q E → t_is_integer K { nx := fun _ H' => Q .non H', rt := Q } (L2.start N_is_integer vs) H
theorem pure_is_integer (T : Tx K mg) : Pure_is_integer K := by
  intro vs H Q E h
  obtain ⟨x, rfl, h⟩ := on1_ex h
  obtain ⟨i, rfl, hQ⟩ := onInt_ex h
  refine ⟨_, _, true, .ty "int", .base (.int i), kit_ty (by decide +kernel), ?_⟩
  exact ⟨_, _, false, .ty "bool", .base (.int i), kit_ty (by decide +kernel), hQ⟩
theorem b_is_integer (T : Tx K mg) : Binds K (fdA K (He.fAd K d_is_integer.at_)) ["value"] [] := T.F_is_integer.bindsN fun _ _ _ _ _ _ us hl => match us, hl with | [_], _ => rfl
theorem ok_is_integer (T : Tx K mg) : FnOk P w K mg base CX0 1 (He.fAd K d_is_integer.at_) (fdA K (He.fAd K d_is_integer.at_)) ["value"] (sp_is_integer K) :=
  T.F_is_integer.ok sc_is_integer (fun _ _ _ _ h => on1_len h) (fun cdv A outer s H vs Q E hr h => ⟨t_is_integer K, PSs.nox ((pss_one (ps_ret (e_and (pe_callB c_isi (by rfl) T.b_isinstance boot_isinstance (pa_cons (vv 0) (pa_cons (pe_bltn (by rfl) T.b_int boot_int rfl) pa_nil))) (pe_one (e_not (pe_callB c_isi (by rfl) T.b_isinstance boot_isinstance (pa_cons (vv 0) (pa_cons (pe_bltn (by rfl) T.b_bool boot_bool rfl) pa_nil))))))))), pure_is_integer T vs H Q E h⟩)
/-- a tuple of ints, at least one -/
def sp_check_values (K : PySem.W.Frag) : L2.Sp := fun vs H Q _ => on1 vs fun x => onRef x fun a => ∃ ns : List Int, H a = some (.tup (ns.map V.int)) ∧ ns ≠ [] ∧ ns.length ≤ 5000 ∧ ∀ H', Same H H' → Q .non H'
theorem dpInts (H : Hp) (ms : List Int) : DpAll K H (ms.map V.int) (ms.map PyData.int) := by
  induction ms with
  | nil => exact .nil
  | cons m r ih => exact .cons (.int m) ih
theorem shapedInts (ms : List Int) : SeqAt.shaped (.tuple (ms.map PyData.int)) = true := by
  have h1 : ∀ l : List Int, PyData.canLayAll0 (l.map PyData.int) = true := fun l => by
    induction l with
    | nil => rfl
    | cons m r ih => simp [PyData.canLayAll0, PyData.canLay0, ih]
  have h2 : ∀ l : List Int, PyData.depthAll (l.map PyData.int) ≤ 1 := fun l => by
    induction l with
    | nil => simp [PyData.depthAll]
    | cons m r ih => simp [PyData.depthAll, PyData.depth]; omega
  unfold SeqAt.shaped
  rw [Bool.and_eq_true]
  refine ⟨by simpa [PyData.canLay0] using h1 ms, decide_eq_true ?_⟩
  have := h2 ms
  simp only [PyData.depth]
  omega
abbrev N_check_values : List Str := ["values", "index", "number"]
theorem sc_check_values : FnScope N_check_values ["values"] (defScope s_check_values) := ⟨rfl, rfl, rfl, by decide +kernel, rfl, by decide +kernel, by decide +kernel⟩
def t_check_values (K : PySem.W.Frag) : TS :=
    tSeq (tIfS (tOr (tNot (fT (tCB (fIsi K) (tCons (fV 0) (tCons (tC (.ty "tuple")) tNil))))) (fT (tOp (rEqD K) (fV 0) (tTup tNil))))
    tNever tNext)
    (tFor (iEnumT K (tCons (fV 0) tNil)) (gTup K 2 (gCons (gName 1) (gCons (gName 2) gNil)))
    (tIfS (tOr (fT (tOp fEq (fV 1) (tC (.int 5000)))) (tNot (fT (tCall (sp_is_integer K) [] E0 (tCons (fV 2) tNil)))))
    tNever tNext))
abbrev Pure_check_values (K : PySem.W.Frag) : Prop := ∀ (vs : List V) (H : Hp) (Q : VK) (E : XK), sp_check_values K vs H Q E → t_check_values K { nx := fun _ H' => Q .non H', rt := Q } (L2.start N_check_values vs) H
theorem pure_check_values (T : Tx K mg) : Pure_check_values K := by
  intro vs H Q E h
  obtain ⟨x, rfl, h⟩ := on1_ex h
  obtain ⟨a, rfl, ns, ha, hne, hl, hQ⟩ := onRef_ex h
  refine ⟨_, _, true, .ty "tuple", .base (.tup ha), kit_ty (by decide +kernel), ?_⟩
  refine ⟨by show 0 ≤ sizeLine; decide, fun q hq => ?_⟩
  have hqa : a ≠ q := ne_of_none ha hq
  refine ⟨_, _, .tup (SqT.of (by rw [upd_ne hqa]; exact ha)) (dpInts _ ns), .tup (SqT.of upd_same) .nil, shapedInts ns, rfl, ?_⟩
  have e0 : PyData.eqv (.tuple (ns.map PyData.int)) (.tuple []) = false := by
    cases ns with
    | nil => exact absurd rfl hne
    | cons m r => rfl
  rw [e0]
  refine ⟨⟨_, SqT.of (by rw [upd_ne hqa]; exact ha)⟩, ?_⟩
  have e1 := Same.upd (o := .tup []) hq
  refine for_enumT (K := K) (a := a) (xs := ns.map V.int) (fun i σ H1 => Same H H1 ∧ ∃ o1 o2, σ = [some (.ref a), o1, o2]) ⟨e1, none, none, rfl⟩ (fun i σ H1 _ hp => SqT.of (hp.1 _ _ ha)) (fun i x σ H1 T' hx hp hT' => ?_) (fun σ H1 hp => hQ H1 hp.1)
  obtain ⟨s1, o1, o2, rfl⟩ := hp
  have hi : i < ns.length := by
    have := (List.getElem?_eq_some_iff.mp hx).1
    simpa using this
  obtain ⟨z, rfl⟩ : ∃ z, x = .int z := by
    obtain ⟨z, _, rfl⟩ := List.mem_map.mp (List.mem_of_getElem? hx)
    exact ⟨z, rfl⟩
  refine ⟨_, _, rfl, SqT.of upd_same, rfl, _, _, rfl, _, _, rfl, rfl, ?_⟩
  have e2 : decide (V.int (i : Nat) = V.int 5000) = false := decide_eq_false (fun z => by injection z with z; omega)
  show (if decide (V.int (i : Nat) = V.int 5000) = true then _ else _)
  rw [e2]
  exact ⟨s1.trans (Same.upd hT'), _, _, rfl⟩
theorem b_check_values (T : Tx K mg) : Binds K (fdA K (He.fAd K d_check_values.at_)) ["values"] [] := T.F_check_values.bindsN fun _ _ _ _ _ _ us hl => match us, hl with | [_], _ => rfl
theorem ok_check_values (T : Tx K mg) : FnOk P w K mg base CX0 2 (He.fAd K d_check_values.at_) (fdA K (He.fAd K d_check_values.at_)) ["values"] (sp_check_values K) :=
  T.F_check_values.ok sc_check_values (fun _ _ _ _ h => on1_len h) (fun cdv A outer s H vs Q E hr h => ⟨t_check_values K, PSs.nox ((pss_cons (ps_if (PW.pt (pw_or (pt_not (t_val (pe_callB c_isi (by rfl) T.b_isinstance boot_isinstance (pa_cons (vv 0) (pa_cons (pe_bltn (by rfl) T.b_tuple boot_tuple rfl) pa_nil))))) (pw_or1 (t_cmp (op_eqD hr.units) (vv 0) (pe_tup pa_nil) (nomark _)))))
      (pss_one ps_never) pss_nil)
      (pss_one (ps_for PassesOwn.never (by rfl) (pi_enumT (by rfl) T.b_enumerate (pa_cons (vv 0) pa_nil)) (pg_tup rfl (pgs_cons (pg_name (i := 1) sc_check_values.nd rfl (.inl rfl)) (pgs_cons (pg_name (i := 2) sc_check_values.nd rfl (.inl rfl)) pgs_nil)))
      (pss_one (ps_if (PW.pt (pw_or (t_cmp o_eq (vv 1) (pe_glob (by rfl) (T.i_MOST_FORM).choose_spec ⟨_, rfl⟩) (nomark _)) (pw_or1 (pt_not (t_val (pe_call (ok_is_integer T) (hr.mono (by decide)) (by rfl) T.g_is_integer T.F_is_integer.kp (b_is_integer T) .nil pass0 (pa_cons (vv 2) pa_nil)))))))
      (pss_one ps_never) pss_nil)))))), pure_check_values T vs H Q E h⟩)
/-- what value_at may be asked -/
structure Ask (ns : List Int) (p : Nat) (s : Int) : Prop where
  p1 : 1 ≤ p
  pl : p ≤ ns.length
  len : ns.length ≤ 5000
  step : Sm s
def sp_value_at (K : PySem.W.Frag) : L2.Sp := fun vs H Q _ => on4 vs fun v p s n => onRef v fun a => onInt p fun p => onInt s fun s => onInt n fun n => ∃ (ns : List Int) (P N : Nat), SqS K H a (ns.map V.int) ∧ p = P ∧ n = N ∧ Ask ns P s ∧ N < 2 ^ 1000 ∧
  ∀ H', Same H H' → Q (.int (valueAt ns P s N)) H'
abbrev N_value_at : List Str := ["values", "period", "step", "n", "first", "rounds", "place"]
theorem sc_value_at : FnScope N_value_at ["values", "period", "step", "n"] (defScope s_value_at) := ⟨rfl, rfl, rfl, by decide +kernel, rfl, by decide +kernel, by decide +kernel⟩
def t_value_at (K : PySem.W.Frag) : TS :=
    tSeq (tIfS (fT (tOp fLt (fV 3) (tCB (fLen K) (tCons (fV 0) tNil))))
    (tRet (tOp (fIxQ K) (fV 0) (fV 3))) tNext)
    (tSeq (tAsg (tOp fSub (tCB (fLen K) (tCons (fV 0) tNil)) (fV 1)) (gName 4))
    (tSeq (tAsg (tCB fDivmod (tCons (tOp fSub (fV 3) (fV 4)) (tCons (fV 1) tNil))) (gTup K 2 (gCons (gName 5) (gCons (gName 6) gNil))))
    (tRet (tOp fAdd (tOp (fIxQ K) (fV 0) (tOp fAdd (fV 4) (fV 6))) (tOp fMulW (fV 5) (fV 2))))))
abbrev Pure_value_at (K : PySem.W.Frag) : Prop := ∀ (vs : List V) (H : Hp) (Q : VK) (E : XK), sp_value_at K vs H Q E → t_value_at K { nx := fun _ H' => Q .non H', rt := Q } (L2.start N_value_at vs) H
theorem pure_value_at (T : Tx K mg) : Pure_value_at K := by
  intro vs H Q E h
  obtain ⟨x1, x2, x3, x4, rfl, h⟩ := on4_ex h
  obtain ⟨a, rfl, h⟩ := onRef_ex h
  obtain ⟨p, rfl, h⟩ := onInt_ex h
  obtain ⟨s, rfl, h⟩ := onInt_ex h
  obtain ⟨n, rfl, ns, P, N, hS, rfl, rfl, ⟨hp1, hpl, hl, hs⟩, hN, hQ⟩ := onInt_ex h
  refine ⟨_, hS, ite2 (fun h1 => ?_) (fun h1 => ?_)⟩
  · have h2 : N < ns.length := by
      have := of_decide_eq_true h1
      rw [List.length_map] at this
      omega
    refine ⟨_, hS, _, atI_ints (j := N) rfl h2, ?_⟩
    have e := hQ H (Same.refl H)
    unfold valueAt at e
    rw [if_pos h2] at e
    exact e
  · have h2 : ¬ N < ns.length := fun z => h1 (decide_eq_true (by rw [List.length_map]; omega))
    refine ⟨_, hS, wide_div (b := 13) (by omega) (by omega) (by decide) (by decide), fun q hq => ?_⟩
    refine ⟨q, _, rfl, SqT.of upd_same, rfl, _, _, rfl, _, _, rfl, rfl, ?_⟩
    rw [List.length_map]
    have e1 : (N : Int) - ((ns.length : Int) - (P : Int)) = ((N - (ns.length - P) : Nat) : Int) := by omega
    have e2 : ((N : Int) - ((ns.length : Int) - (P : Int))) / (P : Int) = (((N - (ns.length - P)) / P : Nat) : Int) := by rw [e1]; rfl
    have e3 : ((N : Int) - ((ns.length : Int) - (P : Int))) % (P : Int) = (((N - (ns.length - P)) % P : Nat) : Int) := by rw [e1]; rfl
    rw [e2, e3]
    have hm : (N - (ns.length - P)) % P < P := Nat.mod_lt _ (by omega)
    refine ⟨_, sameS (Same.upd hq) hS, _, atI_ints (j := ns.length - P + (N - (ns.length - P)) % P) (by omega) (by omega), ?_⟩
    refine ⟨Sm.mulW ?_ hs, ?_⟩
    · have : (N - (ns.length - P)) / P ≤ N := Nat.le_trans (Nat.div_le_self _ _) (Nat.sub_le _ _)
      show Int.natAbs _ < _
      rw [Int.natAbs_natCast]
      omega
    · have e := hQ _ (Same.upd (o := .tup [.int (((N - (ns.length - P)) / P : Nat) : Int), .int (((N - (ns.length - P)) % P : Nat) : Int)]) hq)
      unfold valueAt at e
      rw [if_neg h2] at e
      exact e
theorem b_value_at (T : Tx K mg) : Binds K (fdA K (He.fAd K d_value_at.at_)) ["values", "period", "step", "n"] [] := T.F_value_at.bindsN fun _ _ _ _ _ _ us hl => match us, hl with | [_, _, _, _], _ => rfl
theorem ok_value_at (T : Tx K mg) : FnOk P w K mg base CX0 1 (He.fAd K d_value_at.at_) (fdA K (He.fAd K d_value_at.at_)) ["values", "period", "step", "n"] (sp_value_at K) :=
  T.F_value_at.ok sc_value_at (fun _ _ _ _ h => on4_len h) (fun cdv A outer s H vs Q E hr h => ⟨t_value_at K, PSs.nox ((pss_cons (ps_if (t_cmp o_lt (vv 3) (pe_callB c_len (by rfl) T.b_len boot_len (pa_cons (vv 0) pa_nil)) (nomark _))
      (pss_one (ps_ret (pe_ix x_seq (vv 0) (vv 3) (fun _ _ => rfl)))) pss_nil)
      (pss_cons (ps_set (i := 4) sc_value_at.nd rfl (.inl rfl) (pe_op o_sub (pe_callB c_len (by rfl) T.b_len boot_len (pa_cons (vv 0) pa_nil)) (vv 1)))
      (pss_cons (ps_asg (pe_callB c_divmod (by rfl) T.b_divmod boot_divmod (pa_cons (pe_op o_sub (vv 3) (vv 4)) (pa_cons (vv 1) pa_nil))) (pg_tup rfl (pgs_cons (pg_name (i := 5) sc_value_at.nd rfl (.inl rfl)) (pgs_cons (pg_name (i := 6) sc_value_at.nd rfl (.inl rfl)) pgs_nil))))
      (pss_one (ps_ret (pe_op o_add (pe_ix x_seq (vv 0) (pe_op o_add (vv 4) (vv 6)) (fun _ _ => rfl)) (pe_op o_mulW (vv 5) (vv 2))))))))), pure_value_at T vs H Q E h⟩)
def sp_least_period (K : PySem.W.Frag) : L2.Sp := fun vs H Q _ => on3 vs fun v p s => onRef v fun a => onInt p fun p => onInt s fun s => ∃ (ns : List Int) (P : Nat), SqS K H a (ns.map V.int) ∧ p = P ∧ Ask ns P s ∧
  ∀ (t : Addr) (H' : Hp), Same H H' → H t = none → H' t = some (.tup [.int (leastP ns P s).1, .int (leastP ns P s).2]) → Q (.ref t) H'
abbrev N_least_period : List Str := ["values", "period", "step", "first", "tail", "shorter", "rise", "place"]
theorem sc_least_period : FnScope N_least_period ["values", "period", "step"] (defScope s_least_period) := ⟨rfl, rfl, rfl, by decide +kernel, rfl, by decide +kernel, by decide +kernel⟩
def t_least_period (K : PySem.W.Frag) : TS :=
    tSeq (tAsg (tOp fSub (tCB (fLen K) (tCons (fV 0) tNil)) (fV 1)) (gName 3))
    (tSeq (tAsg (tLc (iRng1 (tCons (tOp fMul (tC (.int 2)) (fV 1)) tNil)) (gName 7) tYes (tCall (sp_value_at K) [] E0 (tCons (fV 0) (tCons (fV 1) (tCons (fV 2) (tCons (tOp fAdd (fV 3) (fV 7)) tNil))))) [7]) (gName 4))
    (tSeq (tFor (iRngL (tCons (tC (.int 1)) (tCons (fV 1) tNil))) (gName 5)
    (tIfS (fT (tOp fEq (tOp fMod (fV 1) (fV 5)) (tC (.int 0))))
    (tSeq (tAsg (tOp fSub (tOp (fIxL K) (fV 4) (fV 5)) (tOp (fIxL K) (fV 4) (tC (.int 0)))) (gName 6))
    (tIfS (fT (tCB (fAll K) (tCons (tLc (iRng1 (tCons (fV 1) tNil)) (gName 7) tYes (tOp fEq (tOp fSub (tOp (fIxL K) (fV 4) (tOp fAdd (fV 7) (fV 5))) (tOp (fIxL K) (fV 4) (fV 7))) (fV 6)) [7]) tNil)))
    (tRet (tTup (tCons (fV 5) (tCons (fV 6) tNil)))) tNext)) tNext))
    (tRet (tTup (tCons (fV 1) (tCons (fV 2) tNil))))))
abbrev Pure_least_period (K : PySem.W.Frag) : Prop := ∀ (vs : List V) (H : Hp) (Q : VK) (E : XK), sp_least_period K vs H Q E → t_least_period K { nx := fun _ H' => Q .non H', rt := Q } (L2.start N_least_period vs) H
theorem pure_least_period (T : Tx K mg) : Pure_least_period K := by
  intro vs H Q E h
  obtain ⟨x1, x2, x3, rfl, h⟩ := on3_ex h
  obtain ⟨a, rfl, h⟩ := onRef_ex h
  obtain ⟨p, rfl, h⟩ := onInt_ex h
  obtain ⟨s, rfl, ns, P, hS, rfl, A, hQ⟩ := onInt_ex h
  obtain ⟨hp1, hpl, hl, hs⟩ := id A
  refine ⟨_, hS, ?_⟩
  refine ⟨.inl ⟨by decide, by decide⟩, _, rfl, by omega, by omega, fun D hD => ?_⟩
  refine lc_rangeF (fun k => .int (tailAt ns P s k)) hD (by omega) (fun i H1 hi e1 R hR => ?_) (fun H1 e1 hD1 => ?_)
  · refine ⟨rfl, ?_⟩
    refine ⟨ns, P, ns.length - P + i, sameS e1 hS, rfl, ?_, A, by omega, fun H' e2 => hR H' e2⟩
    rw [List.length_map]
    omega
  · have en : (2 * (P : Int)).toNat = 2 * P := by omega
    rw [en] at hD1
    refine for_range (lo := 1) (n := ((P : Int) - 1).toNat) (fun i σ H2 => Same H1 H2 ∧ (∀ j, j < i → shorterOk ns P s (1 + j) = false) ∧ ∃ o5 o6 o7, σ = [some (.ref a), some (.int P), some (.int s), some (.int ((ns.map V.int).length - P)), some (.ref D), o5, o6, o7])
      ⟨Same.refl _, fun j hj => by omega, _, _, _, rfl⟩ (fun i σ H2 hi hp => ?_) (fun σ H2 hp => ?_)
    · obtain ⟨e2, hn, o5, o6, o7, rfl⟩ := hp
      have hD2 := e2 _ _ hD1
      refine ⟨by omega, ?_⟩
      have em : (P : Int) % (1 + (i : Int)) = ((P % (1 + i) : Nat) : Int) := by
        rw [show (1 + (i : Int)) = ((1 + i : Nat) : Int) by omega]
        rfl
      refine ite2 (fun h1 => ?_) (fun h1 => ?_)
      · have h2 : P % (1 + i) = 0 := by
          have z := of_decide_eq_true h1
          injection z with z
          rw [em] at z
          omega
        refine ⟨_, SqL.of hD2, _, atI_range (j := 1 + i) (by omega) (by omega), _, SqL.of hD2, _, atI_range (j := 0) rfl (by omega), ?_⟩
        refine ⟨_, rfl, by omega, by omega, fun D' hD' => ?_⟩
        refine lc_rangeF (fun k => .bl (decide (V.int (tailAt ns P s (k + (1 + i)) - tailAt ns P s k) = V.int (tailAt ns P s (1 + i) - tailAt ns P s 0)))) hD' (by omega) (fun k H3 hk e3 R hR => ?_) (fun H3 e3 hD3 => ?_)
        · refine ⟨rfl, _, SqL.of (e3 _ _ hD2), _, atI_range (j := k + (1 + i)) (by omega) (by omega), _, SqL.of (e3 _ _ hD2), _, atI_range (j := k) (by omega) (by omega), ?_⟩
          exact hR H3 (Same.refl _)
        · refine ⟨(List.range P).map fun k => decide (V.int (tailAt ns P s (k + (1 + i)) - tailAt ns P s k) = V.int (tailAt ns P s (1 + i) - tailAt ns P s 0)), SqL.of (by rw [hD3, List.map_map]; rfl), ?_⟩
          have er : (((List.range P).map fun k => decide (V.int (tailAt ns P s (k + (1 + i)) - tailAt ns P s k) = V.int (tailAt ns P s (1 + i) - tailAt ns P s 0))).all id) = rises ns P s (1 + i) := by
            unfold rises
            rw [List.all_map]
            congr 1
            funext k
            simp [Bool.beq_eq_decide_eq]
          have es : shorterOk ns P s (1 + i) = rises ns P s (1 + i) := by
            unfold shorterOk
            rw [h2]
            rfl
          refine ite2 (fun h3 => ?_) (fun h3 => ?_)
          · rw [er] at h3
            have hf := leastP_found (ns := ns) (p := P) (s := s) (i := i) (by omega) hn (es.trans h3)
            refine ⟨by show 2 ≤ sizeLine; decide, fun t ht => ?_⟩
            refine hQ t _ (((e1.trans e2).trans e3).trans (Same.upd ht)) ((e1.trans (e2.trans e3)).free ht) ?_
            rw [upd_same, hf]
            simp
          · rw [er] at h3
            refine ⟨e2.trans e3, fun j hj => ?_, _, _, _, rfl⟩
            by_cases hji : j = i
            · subst hji
              rw [es]
              simpa using h3
            · exact hn j (by omega)
      · refine ⟨e2, fun j hj => ?_, _, _, _, rfl⟩
        by_cases hji : j = i
        · subst hji
          have : (P % (1 + j) == 0) = false := by
            rw [beq_eq_false_iff_ne]
            intro z
            exact h1 (decide_eq_true (by show V.int ((P : Int) % (1 + (j : Int))) = V.int 0; rw [em, z]; rfl))
          unfold shorterOk
          rw [this]
          rfl
        · exact hn j (by omega)
    · obtain ⟨e2, hn, o5, o6, o7, rfl⟩ := hp
      refine ⟨by show 2 ≤ sizeLine; decide, fun t ht => ?_⟩
      refine hQ t _ ((e1.trans e2).trans (Same.upd ht)) ((e1.trans e2).free ht) ?_
      rw [upd_same, leastP_none (fun j hj => hn j (by omega))]
theorem b_least_period (T : Tx K mg) : Binds K (fdA K (He.fAd K d_least_period.at_)) ["values", "period", "step"] [] := T.F_least_period.bindsN fun _ _ _ _ _ _ us hl => match us, hl with | [_, _, _], _ => rfl
theorem ok_least_period (T : Tx K mg) : FnOk P w K mg base CX0 2 (He.fAd K d_least_period.at_) (fdA K (He.fAd K d_least_period.at_)) ["values", "period", "step"] (sp_least_period K) :=
  T.F_least_period.ok sc_least_period (fun _ _ _ _ h => on3_len h) (fun cdv A outer s H vs Q E hr h => ⟨t_least_period K, PSs.nox ((pss_cons (ps_set (i := 3) sc_least_period.nd rfl (.inr rfl) (pe_op o_sub (pe_callB c_len (by rfl) T.b_len boot_len (pa_cons (vv 0) pa_nil)) (vv 1)))
      (pss_cons (ps_set (i := 4) sc_least_period.nd rfl (.inr rfl) (pe_lc (own := [("place", 7)]) (g := gName 7) (by rfl) sc_least_period.nd (pi_range1 (by rfl) T.b_range (pa_cons (pe_op o_mul pe_int (vv 1)) pa_nil)) (blkOk_by (own := [("place", 7)]) (N := N_least_period) (sc := defScope s_least_period) (by decide +kernel)) (fun _ _ _ _ _ => (pg_name (i := 7) sc_least_period.nd rfl (.inl rfl))) (fun _ _ _ _ _ => pts_nil) (fun _ _ _ _ _ => (pe_call (ok_value_at T) (hr.mono (by decide)) (by rfl) T.g_value_at T.F_value_at.kp (b_value_at T) .nil pass0 (pa_cons (vv 0) (pa_cons (vv 1) (pa_cons (vv 2) (pa_cons (pe_op o_add (vv 3) (vv 7)) pa_nil))))))))
      (pss_cons (ps_for PassesOwn.never (by rfl) (pi_rangeL (by rfl) T.b_range (pa_cons pe_int (pa_cons (vv 1) pa_nil))) (pg_name (i := 5) sc_least_period.nd rfl (.inr rfl))
      (pss_one (ps_if (t_cmp o_eq (pe_op o_mod (vv 1) (vv 5)) pe_int (nomark _))
      (pss_cons (ps_set (i := 6) sc_least_period.nd rfl (.inr rfl) (pe_op o_sub (pe_ix x_list (vv 4) (vv 5) (fun _ _ => rfl)) (pe_ix x_list (vv 4) pe_int (fun _ _ => rfl))))
      (pss_one (ps_if (t_val (pe_callB (c_all rfl) (by rfl) T.b_all boot_all (pa_cons (pe_lc (own := [("place", 7)]) (g := gName 7) (by rfl) sc_least_period.nd (pi_range1 (by rfl) T.b_range (pa_cons (vv 1) pa_nil)) (blkOk_by (own := [("place", 7)]) (N := N_least_period) (sc := defScope s_least_period) (by decide +kernel)) (fun _ _ _ _ _ => (pg_name (i := 7) sc_least_period.nd rfl (.inl rfl))) (fun _ _ _ _ _ => pts_nil) (fun _ _ _ _ _ => (pe_cmpR o_eq (pe_op o_sub (pe_ix x_list (vv 4) (pe_op o_add (vv 7) (vv 5)) (fun _ _ => rfl)) (pe_ix x_list (vv 4) (vv 7) (fun _ _ => rfl))) (vv 6) (nomark _)))) pa_nil)))
      (pss_one (ps_ret (pe_tup (pa_cons (vv 5) (pa_cons (vv 6) pa_nil))))) pss_nil))) pss_nil)))
      (pss_one (ps_ret (pe_tup (pa_cons (vv 1) (pa_cons (vv 2) pa_nil))))))))), pure_least_period T vs H Q E h⟩)
def sp_least_listed (K : PySem.W.Frag) : L2.Sp := fun vs H Q _ => on3 vs fun v p s => onRef v fun a => onInt p fun p => onInt s fun s => ∃ (ns : List Int) (P : Nat), SqS K H a (ns.map V.int) ∧ p = P ∧ Ask ns P s ∧
  ∀ (t : Addr) (H' : Hp), Same H H' → SqT K H' t ((leastL ns P s).map V.int) → Q (.ref t) H'
abbrev N_least_listed : List Str := ["values", "period", "step", "start"]
theorem sc_least_listed : FnScope N_least_listed ["values", "period", "step"] (defScope s_least_listed) := ⟨rfl, rfl, rfl, by decide +kernel, rfl, by decide +kernel, by decide +kernel⟩
def t_least_listed (K : PySem.W.Frag) : TS :=
    tSeq (tAsg (tOp fSub (tCB (fLen K) (tCons (fV 0) tNil)) (fV 1)) (gName 3))
    (tSeq (tWhile (tAnd (fT (tOp fGt (fV 3) (tC (.int 0)))) (fT (tOp fEq (tCall (sp_value_at K) [] E0 (tCons (fV 0) (tCons (fV 1) (tCons (fV 2) (tCons (tOp fAdd (tOp fSub (fV 3) (tC (.int 1))) (fV 1)) tNil))))) (tOp fAdd (tOp (fIxQ K) (fV 0) (tOp fSub (fV 3) (tC (.int 1)))) (fV 2)))))
    (tAsg (tOp fSub (fV 3) (tC (.int 1))) (gName 3)))
    (tRet (tCB (fTupQ K) (tCons (tSl (fSlQ K) (fV 0) tNoPart (tPart (tOp fAdd (fV 3) (fV 1)))) tNil))))
abbrev Pure_least_listed (K : PySem.W.Frag) : Prop := ∀ (vs : List V) (H : Hp) (Q : VK) (E : XK), sp_least_listed K vs H Q E → t_least_listed K { nx := fun _ H' => Q .non H', rt := Q } (L2.start N_least_listed vs) H
theorem cut_take (xs : List V) {z : Int} {k : Nat} (e : z = (k : Int)) : cutV xs none (some z) = xs.take k := by
  unfold cutV
  rw [e, HT.sIx_none, HT.sIx_nat]
  simp only [List.drop_zero, Nat.sub_zero]
  rw [List.take_eq_take_iff]
  omega
theorem cut_whole {xs : List V} {lo hi : Option Int} (h : HT.sIx xs.length 0 lo = 0 ∧ HT.sIx xs.length xs.length hi = xs.length) : cutV xs lo hi = xs := by
  unfold cutV
  rw [h.1, h.2]
  simp
theorem leastS_le (ns : List Int) (p : Nat) (s : Int) : ∀ k, leastS ns p s k ≤ k
  | 0 => Nat.le_refl _
  | k + 1 => by
    unfold leastS
    split
    · exact Nat.le_succ_of_le (leastS_le ns p s k)
    · exact Nat.le_refl _
theorem pure_least_listed (T : Tx K mg) : Pure_least_listed K := by
  intro vs H Q E h
  obtain ⟨x1, x2, x3, rfl, h⟩ := on3_ex h
  obtain ⟨a, rfl, h⟩ := onRef_ex h
  obtain ⟨p, rfl, h⟩ := onInt_ex h
  obtain ⟨s, rfl, ns, P, hS, rfl, A, hQ⟩ := onInt_ex h
  obtain ⟨hp1, hpl, hl, hs⟩ := id A
  refine ⟨_, hS, ?_⟩
  rw [List.length_map]
  refine ⟨fun m σ H1 => Same H H1 ∧ m ≤ ns.length - P ∧ leastS ns P s (ns.length - P) = leastS ns P s m ∧ σ = [some (.ref a), some (.int P), some (.int s), some (.int m)], ⟨ns.length - P, Same.refl _, Nat.le_refl _, rfl, ?_⟩, ?_⟩
  · show [some (V.ref a), some (V.int P), some (V.int s), some (V.int ((ns.length : Int) - P))] = _
    rw [show ((ns.length : Int) - P) = ((ns.length - P : Nat) : Int) by omega]
  rintro m σ H1 ⟨e1, hm, hmm, rfl⟩
  have fin : ∀ (m : Nat) (H1 : Hp), Same H H1 → m ≤ ns.length - P → leastS ns P s (ns.length - P) = m →
      tRet (tCB (fTupQ K) (tCons (tSl (fSlQ K) (fV 0) tNoPart (tPart (tOp fAdd (fV 3) (fV 1)))) tNil)) { nx := fun _ H' => Q .non H', rt := Q } [some (.ref a), some (.int P), some (.int s), some (.int m)] H1 := fun m H1 e1 hm hmm => by
    have ec := cut_take (ns.map V.int) (z := (m : Int) + P) (k := m + P) (by omega)
    have el : (ns.take (m + P)).map V.int = (leastL ns P s).map V.int := by
      unfold leastL
      rw [hmm]
    rw [← List.map_take, el] at ec
    refine ⟨_, rfl, ?_⟩
    rcases sameS e1 hS with hL | hT
    · refine .inl ⟨a, _, rfl, hL, fun p hp => ⟨_, .inl ⟨SqL.of upd_same, fun l hl => ?_⟩⟩⟩
      refine hQ l _ ((e1.trans (Same.upd hp)).trans (Same.upd hl)) (SqT.of ?_)
      rw [upd_same, ec]
    · refine .inr ⟨a, _, rfl, hT, fun hw => ⟨_, .inr ⟨hT, hQ a _ e1 ?_⟩⟩, fun _ p hp => ⟨_, .inr ⟨SqT.of upd_same, hQ p _ (e1.trans (Same.upd hp)) (SqT.of ?_)⟩⟩⟩
      · have e2 : cutV (ns.map V.int) none (some ((m : Int) + P)) = ns.map V.int := cut_whole hw
        rw [← ec, e2]
        exact hT
      · rw [upd_same, ec]
  cases m with
  | zero => exact fin 0 H1 e1 hm hmm
  | succ k =>
    refine ite2 (fun _ => ?_) (fun hz => absurd (decide_eq_true (show (0 : Int) < ((k + 1 : Nat) : Int) by omega)) hz)
    refine ⟨ns, P, k + P, sameS e1 hS, rfl, by omega, A, by omega, fun H2 e2 => ?_⟩
    refine ⟨_, sameS (e1.trans e2) hS, _, atI_ints (j := k) (by omega) (by omega), ?_⟩
    refine ite2 (fun hy => ?_) (fun hy => ?_)
    · have hy2 : valueAt ns P s (k + P) = ns.getD k 0 + s := by
        have z := of_decide_eq_true hy
        injection z
      refine ⟨fun σ' H' => Same H H' ∧ σ' = [some (.ref a), some (.int P), some (.int s), some (.int k)], fun σ' H' z => ⟨k, by omega, z.1, by omega, ?_, z.2⟩, e1.trans e2, ?_⟩
      · rw [hmm]
        show (if valueAt ns P s (k + P) = ns.getD k 0 + s then leastS ns P s k else k + 1) = _
        rw [if_pos hy2]
      · show [some (V.ref a), some (V.int P), some (V.int s), some (V.int (((k + 1 : Nat) : Int) - 1))] = _
        rw [show (((k + 1 : Nat) : Int) - 1) = (k : Int) by omega]
    · refine fin (k + 1) H2 (e1.trans e2) hm ?_
      rw [hmm]
      show (if valueAt ns P s (k + P) = ns.getD k 0 + s then leastS ns P s k else k + 1) = _
      rw [if_neg (fun z => hy (decide_eq_true (by show V.int _ = V.int _; rw [z])))]
theorem b_least_listed (T : Tx K mg) : Binds K (fdA K (He.fAd K d_least_listed.at_)) ["values", "period", "step"] [] := T.F_least_listed.bindsN fun _ _ _ _ _ _ us hl => match us, hl with | [_, _, _], _ => rfl
theorem ok_least_listed (T : Tx K mg) : FnOk P w K mg base CX0 2 (He.fAd K d_least_listed.at_) (fdA K (He.fAd K d_least_listed.at_)) ["values", "period", "step"] (sp_least_listed K) :=
  T.F_least_listed.ok sc_least_listed (fun _ _ _ _ h => on3_len h) (fun cdv A outer s H vs Q E hr h => ⟨t_least_listed K, PSs.nox ((pss_cons (ps_set (i := 3) sc_least_listed.nd rfl (.inl rfl) (pe_op o_sub (pe_callB c_len (by rfl) T.b_len boot_len (pa_cons (vv 0) pa_nil)) (vv 1)))
      (pss_cons (ps_while PassesOwn.never (PW.pt (pw_and (t_cmp o_gt (vv 3) pe_int (nomark _)) (pw_and1 (t_cmp o_eq (pe_call (ok_value_at T) (hr.mono (by decide)) (by rfl) T.g_value_at T.F_value_at.kp (b_value_at T) .nil pass0 (pa_cons (vv 0) (pa_cons (vv 1) (pa_cons (vv 2) (pa_cons (pe_op o_add (pe_op o_sub (vv 3) pe_int) (vv 1)) pa_nil))))) (pe_op o_add (pe_ix x_seq (vv 0) (pe_op o_sub (vv 3) pe_int) (fun _ _ => rfl)) (vv 2)) (nomark _)))))
      (pss_one (ps_set (i := 3) sc_least_listed.nd rfl (.inl rfl) (pe_op o_sub (vv 3) pe_int))))
      (pss_one (ps_ret (pe_callTy c_tupQ (by rfl) T.b_tuple boot_tuple (pa_cons (pe_slice sl_seq (vv 0) po_none (po_some (pe_op o_add (vv 3) (vv 1)))) pa_nil))))))), pure_least_listed T vs H Q E h⟩)
theorem leastFrom_le {ns : List Int} {p : Nat} {s : Int} : ∀ (k q : Nat), 1 ≤ q → q + k ≤ p → 1 ≤ (leastFrom ns p s k q).1 ∧ (leastFrom ns p s k q).1 ≤ p
  | 0, q, h1, h2 => ⟨by show 1 ≤ p; omega, Nat.le_refl _⟩
  | k + 1, q, h1, h2 => by
    unfold leastFrom
    split
    · exact ⟨h1, by show q ≤ p; omega⟩
    · exact leastFrom_le k (q + 1) (by omega) (by omega)
theorem leastP_le {ns : List Int} {p : Nat} {s : Int} (h : 1 ≤ p) : 1 ≤ (leastP ns p s).1 ∧ (leastP ns p s).1 ≤ p := leastFrom_le (p - 1) 1 (by omega) (by omega)
/-- a form at a: its spec -/
def FormAt (K : PySem.W.Frag) (H : Hp) (a : Addr) (f : List Int × Nat × Int) : Prop := ∃ dx t l, H a = some (.ins (He.ga K "Form") dx [("spec", .ref t)]) ∧ H t = some (.tup [.ref l, .int f.2.1, .int f.2.2]) ∧ SqT K H l (f.1.map V.int)
theorem FormAt.same {H H' : Hp} {a : Addr} {f : List Int × Nat × Int} (e : Same H H') (h : FormAt K H a f) : FormAt K H' a f := by
  obtain ⟨dx, t, l, h1, h2, h3⟩ := h
  exact ⟨dx, t, l, e _ _ h1, e _ _ h2, sameT e h3⟩
def sp_Form_init (K : PySem.W.Frag) : L2.Sp := fun vs H Q _ => on4 vs fun x v p s => onRef x fun x => onRef v fun a => onInt p fun p => onInt s fun s => ∃ (ns : List Int) (P : Nat) (dx : Addr), H x = some (.ins (He.ga K "Form") dx []) ∧ H a = some (.tup (ns.map V.int)) ∧ p = P ∧ Ask ns P s ∧
  Sm (leastP ns P s).2 ∧ ∀ H', (∀ b o, b ≠ x → H b = some o → H' b = some o) → FormAt K H' x (formOf ns P s) → Q .non H'
abbrev N_Form_init : List Str := ["self", "values", "period", "step", "shorter", "rise"]
theorem sc_Form_init : FnScope N_Form_init ["self", "values", "period", "step"] (defScope s_Form_init) := ⟨rfl, rfl, rfl, by decide +kernel, rfl, by decide +kernel, by decide +kernel⟩
def t_Form_init (K : PySem.W.Frag) : TS :=
    tSeq (tDrop (tCall (sp_check_values K) [] E0 (tCons (fV 1) tNil)))
    (tSeq (tIfS (tOr (tNot (fT (tCall (sp_is_integer K) [] E0 (tCons (fV 2) tNil)))) (tNot (fT (fChain fLe fLe (tC (.int 1)) (fV 2) (tCB (fLen K) (tCons (fV 1) tNil))))))
    tNever tNext)
    (tSeq (tIfS (tNot (fT (tCall (sp_is_integer K) [] E0 (tCons (fV 3) tNil))))
    tNever tNext)
    (tSeq (tAsg (tCall (sp_least_period K) [] E0 (tCons (fV 1) (tCons (fV 2) (tCons (fV 3) tNil)))) (gTup K 2 (gCons (gName 4) (gCons (gName 5) gNil))))
    (sFld K (fV 0) (tTup (tCons (tCall (sp_least_listed K) [] E0 (tCons (fV 1) (tCons (fV 4) (tCons (fV 5) tNil)))) (tCons (fV 4) (tCons (fV 5) tNil)))) "spec"))))
abbrev Pure_Form_init (K : PySem.W.Frag) : Prop := ∀ (vs : List V) (H : Hp) (Q : VK) (E : XK), sp_Form_init K vs H Q E → t_Form_init K { nx := fun _ H' => Q .non H', rt := Q } (L2.start N_Form_init vs) H
theorem sqt_ins {H : Hp} {x l C dx : Addr} {fs : List (Str × V)} {o : HO} {xs : List V} (h : SqT K H l xs) (hx : H x = some (.ins C dx fs)) : SqT K (upd H x o) l xs := by
  rcases h with (h | ⟨ob, h⟩) | h
  · exact .inl (.inl (by rw [upd_ne (ne_of h hx (fun z => by cases z))]; exact h))
  · exact .inl (.inr ⟨ob, by rw [upd_ne (ne_of h hx (fun z => by cases z))]; exact h⟩)
  · exact .inr h
theorem pure_Form_init (T : Tx K mg) : Pure_Form_init K := by
  intro vs H Q E h
  obtain ⟨x1, x2, x3, x4, rfl, h⟩ := on4_ex h
  obtain ⟨x, rfl, h⟩ := onRef_ex h
  obtain ⟨a, rfl, h⟩ := onRef_ex h
  obtain ⟨p, rfl, h⟩ := onInt_ex h
  obtain ⟨s, rfl, ns, P, dx, hx, ha, rfl, A, hsm, hQ⟩ := onInt_ex h
  obtain ⟨hp1, hpl, hl, hs⟩ := id A
  refine ⟨ns, ha, fun z => ?_, hl, fun H1 e1 => ?_⟩
  · rw [z] at hpl
    exact absurd hpl (by simp; omega)
  have ha1 := e1 _ _ ha
  refine ite2 (fun _ => ⟨_, .inr (SqT.of ha1), ?_⟩) (fun hz => absurd (decide_eq_true (show (1 : Int) ≤ (P : Int) by omega)) hz)
  refine ite2 (fun hz => ?_) (fun _ => ?_)
  · have z : decide ((P : Int) ≤ ((ns.map V.int).length : Int)) = true := decide_eq_true (by rw [List.length_map]; omega)
    rw [z] at hz
    exact absurd hz (by decide)
  refine ⟨ns, P, .inr (SqT.of ha1), rfl, A, fun t H2 e2 ht ht2 => ?_⟩
  refine ⟨t, _, rfl, SqT.of ht2, rfl, _, _, rfl, _, _, rfl, rfl, ?_⟩
  have hq := leastP_le (ns := ns) (s := s) hp1
  refine ⟨ns, (leastP ns P s).1, .inr (SqT.of (e2 _ _ ha1)), rfl, ⟨hq.1, by omega, hl, hsm⟩, fun l H3 e3 hl3 => ?_⟩
  refine ⟨by show 3 ≤ sizeLine; decide, fun u hu => ?_⟩
  have e13 := (e1.trans e2).trans e3
  have hxu : x ≠ u := ne_of_none (e13 _ _ hx) hu
  refine ⟨x, _, dx, _, rfl, by rw [upd_ne hxu]; exact e13 _ _ hx, T.cl_Form, T.no_Form_spec, by show 0 < 1000; decide, ?_⟩
  refine hQ _ (fun b o nb hb => ?_) ⟨dx, u, l, ?_, ?_, ?_⟩
  · rw [upd_ne nb, upd_ne (ne_of_none (e13 _ _ hb) hu)]
    exact e13 _ _ hb
  · rw [upd_same]
    rfl
  · rw [upd_ne (Ne.symm hxu), upd_same]
    rfl
  · have h5 := sameT (Same.upd (o := .tup [V.ref l, V.int (leastP ns P s).1, V.int (leastP ns P s).2]) hu) hl3
    exact sqt_ins h5 (by rw [upd_ne hxu]; exact e13 _ _ hx)
theorem ok_Form_init (T : Tx K mg) : FnOk P w K mg base CX0 3 (He.fAd K d_Form_init.at_) (fdA K (He.fAd K d_Form_init.at_)) ["self", "values", "period", "step"] (sp_Form_init K) :=
  T.F_Form_init.ok sc_Form_init (fun _ _ _ _ h => on4_len h) (fun cdv A outer s H vs Q E hr h => ⟨t_Form_init K, PSs.nox ((pss_cons (ps_expr (pe_call (ok_check_values T) (hr.mono (by decide)) (by rfl) T.g_check_values T.F_check_values.kp (b_check_values T) .nil pass0 (pa_cons (vv 1) pa_nil)))
      (pss_cons (ps_if (PW.pt (pw_or (pt_not (t_val (pe_call (ok_is_integer T) (hr.mono (by decide)) (by rfl) T.g_is_integer T.F_is_integer.kp (b_is_integer T) .nil pass0 (pa_cons (vv 2) pa_nil)))) (pw_or1 (pt_not (t_chain o_le o_le pe_int (vv 2) (pe_callB c_len (by rfl) T.b_len boot_len (pa_cons (vv 1) pa_nil)))))))
      (pss_one ps_never) pss_nil)
      (pss_cons (ps_if (pt_not (t_val (pe_call (ok_is_integer T) (hr.mono (by decide)) (by rfl) T.g_is_integer T.F_is_integer.kp (b_is_integer T) .nil pass0 (pa_cons (vv 3) pa_nil))))
      (pss_one ps_never) pss_nil)
      (pss_cons (ps_asg (pe_call (ok_least_period T) (hr.mono (by decide)) (by rfl) T.g_least_period T.F_least_period.kp (b_least_period T) .nil pass0 (pa_cons (vv 1) (pa_cons (vv 2) (pa_cons (vv 3) pa_nil)))) (pg_tup rfl (pgs_cons (pg_name (i := 4) sc_Form_init.nd rfl (.inl rfl)) (pgs_cons (pg_name (i := 5) sc_Form_init.nd rfl (.inl rfl)) pgs_nil))))
      (pss_one (ps_fld (vv 0) (pe_tup (pa_cons (pe_call (ok_least_listed T) (hr.mono (by decide)) (by rfl) T.g_least_listed T.F_least_listed.kp (b_least_listed T) .nil pass0 (pa_cons (vv 1) (pa_cons (vv 4) (pa_cons (vv 5) pa_nil)))) (pa_cons (vv 4) (pa_cons (vv 5) pa_nil)))) rfl))))))), pure_Form_init T vs H Q E h⟩)

end K06
namespace K06
open PySem PySem.Spec PyProof.Rows L2 Sp
variable {P : Program} {w : World} {K : PySem.W.Frag} {mg : Str → Option Value} {base : Heap}
/-! ### first -/
def Sn (x : Int) : Prop := x.natAbs < 2 ^ 900
theorem div_sm {a v s : Int} (h1 : Sn a) (h2 : Sn v) : Sm (-((a - v) / s)) := by
  unfold Sn at h1 h2
  unfold Sm
  have h4 := Int.natAbs_ediv_le_natAbs (a - v) s
  have h5 : (2 : Nat) ^ 1000 = 2 ^ 900 * 2 ^ 100 := (Nat.pow_add 2 900 100)
  rw [Int.natAbs_neg, h5]
  generalize (2 : Nat) ^ 900 = A at *
  omega
def cand (ns : List Int) (p : Nat) (s v : Int) (k : Nat) : Int := ((ns.length - p + k : Nat) : Int) + (-((ns.getD (ns.length - p + k) 0 - v) / s)) * (p : Int)
def FirstOk (f : List Int × Nat × Int) (v : Int) (r : V) : Prop :=
  (∃ i : Nat, r = .int i ∧ i < f.1.length ∧ v ≤ f.1.getD i 0 ∧ ∀ j, j < i → f.1.getD j 0 < v) ∨
  ((∀ j, j < f.1.length → f.1.getD j 0 < v) ∧ ((r = .non ∧ f.2.2 ≤ 0) ∨ ∃ b : Int, r = .int b ∧ 0 < f.2.2 ∧ (∃ k, k < f.2.1 ∧ b = cand f.1 f.2.1 f.2.2 v k) ∧ ∀ k, k < f.2.1 → b ≤ cand f.1 f.2.1 f.2.2 v k))
structure FAsk (f : List Int × Nat × Int) : Prop where
  p1 : 1 ≤ f.2.1
  pl : f.2.1 ≤ f.1.length
  len : f.1.length ≤ 5000
  vals : ∀ j, Sn (f.1.getD j 0)
  step : Sn f.2.2
def sp_Form_first (K : PySem.W.Frag) : L2.Sp := fun vs H Q _ => on2 vs fun x v => onRef x fun x => onInt v fun v => ∃ f, FormAt K H x f ∧ FAsk f ∧ Sn v ∧ ∀ r H', Same H H' → FirstOk f v r → Q r H'
abbrev N_Form_first : List Str := ["self", "value", "values", "period", "step", "n", "number", "start", "best", "place", "rounds"]
theorem sc_Form_first : FnScope N_Form_first ["self", "value"] (defScope s_Form_first) := ⟨rfl, rfl, rfl, by decide +kernel, rfl, by decide +kernel, by decide +kernel⟩
def t_Form_first (K : PySem.W.Frag) : TS :=
    tSeq (tIfS (tNot (fT (tCall (sp_is_integer K) [] E0 (tCons (fV 1) tNil))))
    tNever tNext)
    (tSeq (tAsg (tFld K (fV 0) "spec") (gTup K 3 (gCons (gName 2) (gCons (gName 3) (gCons (gName 4) gNil)))))
    (tSeq (tFor (iEnumT K (tCons (fV 2) tNil)) (gTup K 2 (gCons (gName 5) (gCons (gName 6) gNil)))
    (tIfS (fT (tOp fGe (fV 6) (fV 1)))
    (tRet (fV 5)) tNext))
    (tSeq (tIfS (fT (tOp fLe (fV 4) (tC (.int 0))))
    (tRet (tC .non)) tNext)
    (tSeq (tPar 7 8 (tCons (tOp fSub (tCB (fLen K) (tCons (fV 2) tNil)) (fV 3)) (tCons (tC .non) tNil)))
    (tSeq (tFor (iRng1 (tCons (fV 3) tNil)) (gName 9)
    (tSeq (tAsg (tUn fNeg (tOp fDiv (tOp fSub (tOp (fIxT K) (fV 2) (tOp fAdd (fV 7) (fV 9))) (fV 1)) (fV 4))) (gName 10))
    (tSeq (tAsg (tOp fAdd (tOp fAdd (fV 7) (fV 9)) (tOp fMulW (fV 10) (fV 3))) (gName 5))
    (tIfS (tOr (fT (tOp fIsN (fV 8) (tC .non))) (fT (tOp fLt (fV 5) (fV 8))))
    (tAsg (fV 5) (gName 8)) tNext))))
    (tRet (fV 8)))))))
abbrev Pure_Form_first (K : PySem.W.Frag) : Prop := ∀ (vs : List V) (H : Hp) (Q : VK) (E : XK), sp_Form_first K vs H Q E → t_Form_first K { nx := fun _ H' => Q .non H', rt := Q } (L2.start N_Form_first vs) H
theorem pure_Form_first (T : Tx K mg) : Pure_Form_first K := by
  intro vs H Q E h
  obtain ⟨x1, x2, rfl, h⟩ := on2_ex h
  obtain ⟨x, rfl, h⟩ := onRef_ex h
  obtain ⟨v, rfl, ⟨ns, p, s⟩, ⟨dx, t, l, hx, ht, hl⟩, ⟨hp1, hpl, hlen, hv, hs⟩, hv2, hQ⟩ := onInt_ex h
  dsimp only at *
  refine ⟨x, _, dx, _, _, rfl, hx, T.cl_Form, T.no_Form_spec, rfl, ?_⟩
  refine ⟨t, _, rfl, SqT.of ht, rfl, _, _, rfl, _, _, rfl, _, _, rfl, rfl, ?_⟩
  refine ⟨⟨_, hl⟩, ?_⟩
  refine for_enumT (K := K) (a := l) (xs := ns.map V.int) (fun i σ H1 => Same H H1 ∧ (∀ j, j < i → ns.getD j 0 < v) ∧ ∃ o5 o6, σ = [some (.ref x), some (.int v), some (.ref l), some (.int p), some (.int s), o5, o6, none, none, none, none]) ⟨Same.refl _, fun j hj => by omega, _, _, rfl⟩ (fun i σ H1 _ hp => sameT hp.1 hl) (fun i y σ H1 T' hy hp hT' => ?_) (fun σ H1 hp => ?_)
  · obtain ⟨s1, hlt, o5, o6, rfl⟩ := hp
    have hi : i < ns.length := by
      have := (List.getElem?_eq_some_iff.mp hy).1
      simpa using this
    have ey : y = .int (ns.getD i 0) := by
      rw [List.getElem?_map, List.getElem?_eq_getElem hi] at hy
      have := Option.some.inj hy
      rw [← this]
      simp [List.getD, List.getElem?_eq_getElem hi]
    subst ey
    refine ⟨_, _, rfl, SqT.of upd_same, rfl, _, _, rfl, _, _, rfl, rfl, ?_⟩
    refine ite2 (fun h1 => ?_) (fun h1 => ?_)
    · exact hQ _ _ (s1.trans (Same.upd hT')) (.inl ⟨i, rfl, hi, of_decide_eq_true h1, hlt⟩)
    · refine ⟨s1.trans (Same.upd hT'), fun j hj => ?_, _, _, rfl⟩
      by_cases hji : j = i
      · subst hji
        have : ¬ v ≤ ns.getD j 0 := fun z => h1 (decide_eq_true z)
        omega
      · exact hlt j (by omega)
  · obtain ⟨s1, hlt, o5, o6, rfl⟩ := hp
    have hlt2 : ∀ j, j < ns.length → ns.getD j 0 < v := fun j hj => hlt j (by simpa using hj)
    refine ite2 (fun h1 => ?_) (fun h1 => ?_)
    · exact hQ _ _ s1 (.inr ⟨hlt2, .inl ⟨rfl, of_decide_eq_true h1⟩⟩)
    · have hs0 : 0 < s := by
        have : ¬ s ≤ 0 := fun z => h1 (decide_eq_true z)
        omega
      refine ⟨_, .inr (sameT s1 hl), _, _, rfl, ?_⟩
      refine ⟨_, rfl, by omega, by omega, ?_⟩
      refine for_range (lo := 0) (n := p) (fun i σ H2 => Same H H2 ∧ ∃ (b : V) (o5 o9 o10 : Option V), ((i = 0 ∧ b = .non) ∨ ∃ m : Int, b = .int m ∧ (∃ k, k < i ∧ m = cand ns p s v k) ∧ ∀ k, k < i → m ≤ cand ns p s v k) ∧
        σ = [some (.ref x), some (.int v), some (.ref l), some (.int p), some (.int s), o5, o6, some (.int ((ns.map V.int).length - p)), some b, o9, o10]) ⟨s1, .non, _, _, _, .inl ⟨rfl, rfl⟩, rfl⟩ (fun i σ H2 hi hp => ?_) (fun σ H2 hp => ?_)
      · obtain ⟨s2, b, o5', o9, o10, hb, rfl⟩ := hp
        have hi2 : i < p := by omega
        refine ⟨_, sameT s2 hl, _, atI_ints (j := ns.length - p + i) (by rw [List.length_map]; omega) (by omega), wide_div (b := 900) hs0 hs (by decide) (by decide), ?_⟩
        have hsm : Sm (-((ns.getD (ns.length - p + i) 0 - v) / s)) := div_sm (hv _) hv2
        refine ⟨Sm.mulW hsm ?_, ?_⟩
        · show Int.natAbs _ < _
          omega
        have ec : ((ns.map V.int).length : Int) - p + (0 + (i : Int)) + (-((ns.getD (ns.length - p + i) 0 - v) / s)) * (p : Int) = cand ns p s v i := by
          unfold cand
          rw [List.length_map]
          omega
        rcases hb with ⟨h0, rfl⟩ | ⟨m, rfl, hk, hmin⟩
        · refine ⟨s2, _, _, _, _, .inr ⟨_, rfl, ⟨i, by omega, ec⟩, fun k hk => ?_⟩, rfl⟩
          obtain rfl : k = i := by omega
          exact Int.le_of_eq ec
        · refine ite2 (fun h1 => ?_) (fun h1 => ?_)
          · have h2 : ((ns.map V.int).length : Int) - p + (0 + (i : Int)) + (-((ns.getD (ns.length - p + i) 0 - v) / s)) * (p : Int) < m := of_decide_eq_true h1
            refine ⟨s2, _, _, _, _, .inr ⟨_, rfl, ⟨i, by omega, ec⟩, fun k hk => ?_⟩, rfl⟩
            by_cases hki : k = i
            · subst hki
              exact Int.le_of_eq ec
            · have h3 := hmin k (by omega)
              omega
          · have h2 : ¬ ((ns.map V.int).length : Int) - p + (0 + (i : Int)) + (-((ns.getD (ns.length - p + i) 0 - v) / s)) * (p : Int) < m := fun z => h1 (decide_eq_true z)
            obtain ⟨k0, hk0, ek0⟩ := hk
            refine ⟨s2, _, _, _, _, .inr ⟨m, rfl, ⟨k0, by omega, ek0⟩, fun k hk => ?_⟩, rfl⟩
            by_cases hki : k = i
            · subst hki
              rw [← ec]
              omega
            · exact hmin k (by omega)
      · obtain ⟨s2, b, o5', o9, o10, hb, rfl⟩ := hp
        refine hQ _ _ s2 (.inr ⟨hlt2, .inr ?_⟩)
        rcases hb with ⟨h0, _⟩ | ⟨m, rfl, ⟨k0, hk0, ek0⟩, hmin⟩
        · omega
        · exact ⟨m, rfl, hs0, ⟨k0, by omega, ek0⟩, fun k hk => hmin k (by omega)⟩
theorem b_Form_first (T : Tx K mg) : Binds K (fdA K (He.fAd K d_Form_first.at_)) ["self", "value"] [] := T.F_Form_first.bindsN fun _ _ _ _ _ _ us hl => match us, hl with | [_, _], _ => rfl
theorem ok_Form_first (T : Tx K mg) : FnOk P w K mg base CX0 2 (He.fAd K d_Form_first.at_) (fdA K (He.fAd K d_Form_first.at_)) ["self", "value"] (sp_Form_first K) :=
  T.F_Form_first.ok sc_Form_first (fun _ _ _ _ h => on2_len h) (fun cdv A outer s H vs Q E hr h => ⟨t_Form_first K, PSs.nox ((pss_cons (ps_if (pt_not (t_val (pe_call (ok_is_integer T) (hr.mono (by decide)) (by rfl) T.g_is_integer T.F_is_integer.kp (b_is_integer T) .nil pass0 (pa_cons (vv 1) pa_nil))))
      (pss_one ps_never) pss_nil)
      (pss_cons (ps_asg (pe_fld (vv 0) rfl) (pg_tup rfl (pgs_cons (pg_name (i := 2) sc_Form_first.nd rfl (.inl rfl)) (pgs_cons (pg_name (i := 3) sc_Form_first.nd rfl (.inl rfl)) (pgs_cons (pg_name (i := 4) sc_Form_first.nd rfl (.inl rfl)) pgs_nil)))))
      (pss_cons (ps_for PassesOwn.never (by rfl) (pi_enumT (by rfl) T.b_enumerate (pa_cons (vv 2) pa_nil)) (pg_tup rfl (pgs_cons (pg_name (i := 5) sc_Form_first.nd rfl (.inl rfl)) (pgs_cons (pg_name (i := 6) sc_Form_first.nd rfl (.inl rfl)) pgs_nil)))
      (pss_one (ps_if (t_cmp o_ge (vv 6) (vv 1) (nomark _))
      (pss_one (ps_ret (vv 5))) pss_nil)))
      (pss_cons (ps_if (t_cmp o_le (vv 4) pe_int (nomark _))
      (pss_one (ps_ret pe_non)) pss_nil)
      (pss_cons (ps_par (by rfl) sc_Form_first.nd rfl rfl (by decide) rfl rfl (pa_cons (pe_op o_sub (pe_callB c_len (by rfl) T.b_len boot_len (pa_cons (vv 2) pa_nil)) (vv 3)) (pa_cons pe_non pa_nil)) (by rfl))
      (pss_cons (ps_for PassesOwn.never (by rfl) (pi_range1 (by rfl) T.b_range (pa_cons (vv 3) pa_nil)) (pg_name (i := 9) sc_Form_first.nd rfl (.inl rfl))
      (pss_cons (ps_set (i := 10) sc_Form_first.nd rfl (.inl rfl) (pe_un o_neg (pe_op o_div (pe_op o_sub (pe_ix x_tup (vv 2) (pe_op o_add (vv 7) (vv 9)) (fun _ _ => rfl)) (vv 1)) (vv 4))))
      (pss_cons (ps_set (i := 5) sc_Form_first.nd rfl (.inl rfl) (pe_op o_add (pe_op o_add (vv 7) (vv 9)) (pe_op o_mulW (vv 10) (vv 3))))
      (pss_one (ps_if (PW.pt (pw_or (t_cmp o_isN (vv 8) pe_non (nomark _)) (pw_or1 (t_cmp o_lt (vv 5) (vv 8) (nomark _)))))
      (pss_one (ps_set (i := 8) sc_Form_first.nd rfl (.inl rfl) (vv 5))) pss_nil)))))
      (pss_one (ps_ret (vv 8)))))))))), pure_Form_first T vs H Q E h⟩)

/-! ### forms are made -/
def dv_Form_1 : List V := [.int 1, .int 0]
def dv_Form_2 : List V := [.int 0]
def dv_Form_3 : List V := []
abbrev ps_Form : List Str := ["self", "values", "period", "step"]
theorem mb_Form_1 (T : Tx K mg) : ∃ ds, Vals dv_Form_1 ds ∧ Binds K (fdA K (He.fAd K d_Form_init.at_)) ps_Form ds :=
  T.F_Form_init.binds1 2 0 (by decide) (by decide) fun _ _ _ _ _ _ _ us its h1 h2 => match us, its, h1, h2 with | [_, _], [_, _], _, _ => ⟨_, rfl, rfl⟩
theorem mb_Form_2 (T : Tx K mg) : ∃ ds, Vals dv_Form_2 ds ∧ Binds K (fdA K (He.fAd K d_Form_init.at_)) ps_Form ds :=
  T.F_Form_init.binds1 3 1 (by decide) (by decide) fun _ _ _ _ _ _ _ us its h1 h2 => match us, its, h1, h2 with | [_, _, _], [_, _], _, _ => ⟨_, rfl, rfl⟩
theorem mb_Form_3 (T : Tx K mg) : ∃ ds, Vals dv_Form_3 ds ∧ Binds K (fdA K (He.fAd K d_Form_init.at_)) ps_Form ds :=
  T.F_Form_init.binds1 4 2 (by decide) (by decide) fun _ _ _ _ _ _ _ us its h1 h2 => match us, its, h1, h2 with | [_, _, _, _], [_, _], _, _ => ⟨_, rfl, rfl⟩
def gSVP {α : Type} (us its ws : List α) : List α := us ++ match ws with
  | [s, v, p] => [v, p, s]
  | _ => []
def gV_Form_0_step_values_period : List V → List V → List V := fun vs zs => gSVP vs [.int 1, .int 0] zs
theorem mb_Form_0_step_values_period (T : Tx K mg) : ∃ its : List Value, KBn K (fdA K (He.fAd K d_Form_init.at_)) ps_Form 1 ["step", "values", "period"] (fun us ws => gSVP us its ws) gV_Form_0_step_values_period :=
  T.F_Form_init.kbindsD 1 ["step", "values", "period"] gSVP (by decide)
    (fun r1 r2 r3 => r1.append (by
      cases r3 with
      | nil => exact .nil
      | cons a r3 =>
        cases r3 with
        | nil => exact .nil
        | cons b r3 =>
          cases r3 with
          | nil => exact .nil
          | cons c r3 =>
            cases r3 with
            | nil => exact .cons b (.cons c (.cons a .nil))
            | cons _ _ => exact .nil))
    fun _ _ _ _ _ _ _ us its ws h1 h2 h3 => match us, its, ws, h1, h2, h3 with | [_], [_, _], [_, _, _], _, _, _ => ⟨_, rfl, rfl⟩

def gOne {α : Type} (us ws : List α) : List α := us ++ ws
def gV_Form_first_value : List V → List V → List V := fun vs zs => gOne vs zs
theorem kb_Form_first_value (T : Tx K mg) : KBn K (fdA K (He.fAd K d_Form_first.at_)) ["self", "value"] 1 ["value"] (fun us ws => gOne us ws) gV_Form_first_value :=
  Sp.FunD.kbinds0 T.F_Form_first 1 ["value"] gOne (fun r1 r2 => r1.append r2) fun _ _ _ _ _ _ us ws h1 h2 => match us, ws, h1, h2 with | [_], [_], _, _ => rfl

/-! ### rows -/
/-- the row at r: a list of values, a period, a step -/
def RowAt (K : PySem.W.Frag) (H : Hp) (r : Addr) (f : List Int × Nat × Int) : Prop := ∃ l, H r = some (.tup [.ref l, .int f.2.1, .int f.2.2]) ∧ H l = some (.lst (f.1.map V.int))
theorem RowAt.same {H H' : Hp} {a : Addr} {f : List Int × Nat × Int} (e : Same H H') (h : RowAt K H a f) : RowAt K H' a f := by
  obtain ⟨l, h1, h2⟩ := h
  exact ⟨l, e _ _ h1, e _ _ h2⟩
theorem RowAt.kp {H H' : Hp} {p a : Addr} {f : List Int × Nat × Int} (e : Kp p H H') (hp : Pool H p) (h : RowAt K H a f) (hne : ∀ l, H a = some (.tup [.ref l, .int f.2.1, .int f.2.2]) → l ≠ p) : RowAt K H' a f := by
  obtain ⟨l, h1, h2⟩ := h
  obtain ⟨_, _, _, h3, _⟩ := hp
  exact ⟨l, e _ _ (ne_of h1 h3 (fun z => by cases z)) h1, e _ _ (hne l h1) h2⟩
def sp__law_at (K : PySem.W.Frag) : L2.Sp := fun vs H Q _ => on2 vs fun x n => onRef x fun r => onInt n fun n => ∃ (f : List Int × Nat × Int) (N : Nat), RowAt K H r f ∧ n = N ∧ Ask f.1 f.2.1 f.2.2 ∧ N < 2 ^ 1000 ∧ ∀ H', Same H H' → Q (.int (valueAt f.1 f.2.1 f.2.2 N)) H'
abbrev N__law_at : List Str := ["_law_row_here", "_law_n", "_law_first", "_law_many", "_law_by", "_law_rounds", "_law_place"]
theorem sc__law_at : FnScope N__law_at ["_law_row_here", "_law_n"] (defScope s__law_at) := ⟨rfl, rfl, rfl, by decide +kernel, rfl, by decide +kernel, by decide +kernel⟩
def t__law_at (K : PySem.W.Frag) : TS :=
    tSeq (tAsg (fV 0) (gTup K 3 (gCons (gName 2) (gCons (gName 3) (gCons (gName 4) gNil)))))
    (tSeq (tIfS (fT (tOp fLt (fV 1) (tCB (fLen K) (tCons (fV 2) tNil))))
    (tRet (tOp (fIxL K) (fV 2) (fV 1))) tNext)
    (tSeq (tAsg (tCB fDivmod (tCons (tOp fAdd (tOp fSub (fV 1) (tCB (fLen K) (tCons (fV 2) tNil))) (fV 3)) (tCons (fV 3) tNil))) (gTup K 2 (gCons (gName 5) (gCons (gName 6) gNil))))
    (tRet (tOp fAdd (tOp (fIxL K) (fV 2) (tOp fAdd (tOp fSub (tCB (fLen K) (tCons (fV 2) tNil)) (fV 3)) (fV 6))) (tOp fMulW (fV 5) (fV 4))))))
abbrev Pure__law_at (K : PySem.W.Frag) : Prop := ∀ (vs : List V) (H : Hp) (Q : VK) (E : XK), sp__law_at K vs H Q E → t__law_at K { nx := fun _ H' => Q .non H', rt := Q } (L2.start N__law_at vs) H
theorem pure__law_at (T : Tx K mg) : Pure__law_at K := by
  intro vs H Q E h
  obtain ⟨x1, x2, rfl, h⟩ := on2_ex h
  obtain ⟨r, rfl, h⟩ := onRef_ex h
  obtain ⟨n, rfl, ⟨ns, P, s⟩, N, ⟨l, hr, hl⟩, rfl, ⟨hp1, hpl, hlen, hs⟩, hN, hQ⟩ := onInt_ex h
  dsimp only at *
  refine ⟨r, _, rfl, SqT.of hr, rfl, _, _, rfl, _, _, rfl, _, _, rfl, rfl, ?_⟩
  refine ⟨_, .inl (SqL.of hl), ite2 (fun h1 => ?_) (fun h1 => ?_)⟩
  · have h2 : N < ns.length := by
      have := of_decide_eq_true h1
      rw [List.length_map] at this
      omega
    refine ⟨_, SqL.of hl, _, atI_ints (j := N) rfl h2, ?_⟩
    have e := hQ H (Same.refl H)
    unfold valueAt at e
    rw [if_pos h2] at e
    exact e
  · have h2 : ¬ N < ns.length := fun z => h1 (decide_eq_true (by rw [List.length_map]; omega))
    refine ⟨_, .inl (SqL.of hl), wide_div (b := 13) (by omega) (by omega) (by decide) (by decide), fun q hq => ?_⟩
    have e0 := Same.upd (o := .tup [.int (((N : Int) - ((ns.map V.int).length : Int) + (P : Int)) / (P : Int)), .int (((N : Int) - ((ns.map V.int).length : Int) + (P : Int)) % (P : Int))]) hq
    refine ⟨q, _, rfl, SqT.of upd_same, rfl, _, _, rfl, _, _, rfl, rfl, ?_⟩
    refine ⟨_, .inl (SqL.of (e0 _ _ hl)), ?_⟩
    rw [List.length_map] at *
    have e1 : (N : Int) - (ns.length : Int) + (P : Int) = ((N - (ns.length - P) : Nat) : Int) := by omega
    have e2 : ((N : Int) - (ns.length : Int) + (P : Int)) / (P : Int) = (((N - (ns.length - P)) / P : Nat) : Int) := by rw [e1]; rfl
    have e3 : ((N : Int) - (ns.length : Int) + (P : Int)) % (P : Int) = (((N - (ns.length - P)) % P : Nat) : Int) := by rw [e1]; rfl
    have hm : (N - (ns.length - P)) % P < P := Nat.mod_lt _ (by omega)
    refine ⟨_, SqL.of (e0 _ _ hl), _, atI_ints (j := ns.length - P + (N - (ns.length - P)) % P) (by rw [e3]; omega) (by omega), ?_⟩
    refine ⟨Sm.mulW ?_ hs, ?_⟩
    · have : (N - (ns.length - P)) / P ≤ N := Nat.le_trans (Nat.div_le_self _ _) (Nat.sub_le _ _)
      rw [e2]
      show Int.natAbs _ < _
      rw [Int.natAbs_natCast]
      omega
    · have e := hQ _ e0
      unfold valueAt at e
      rw [if_neg h2] at e
      rw [← e2] at e
      exact e
theorem b__law_at (T : Tx K mg) : Binds K (fdA K (He.fAd K d__law_at.at_)) ["_law_row_here", "_law_n"] [] := T.F__law_at.bindsN fun _ _ _ _ _ _ us hl => match us, hl with | [_, _], _ => rfl
theorem ok__law_at (T : Tx K mg) : FnOk P w K mg base CX0 1 (He.fAd K d__law_at.at_) (fdA K (He.fAd K d__law_at.at_)) ["_law_row_here", "_law_n"] (sp__law_at K) :=
  T.F__law_at.ok sc__law_at (fun _ _ _ _ h => on2_len h) (fun cdv A outer s H vs Q E hr h => ⟨t__law_at K, PSs.nox ((pss_cons (ps_asg (vv 0) (pg_tup rfl (pgs_cons (pg_name (i := 2) sc__law_at.nd rfl (.inl rfl)) (pgs_cons (pg_name (i := 3) sc__law_at.nd rfl (.inl rfl)) (pgs_cons (pg_name (i := 4) sc__law_at.nd rfl (.inl rfl)) pgs_nil)))))
      (pss_cons (ps_if (t_cmp o_lt (vv 1) (pe_callB c_len (by rfl) T.b_len boot_len (pa_cons (vv 2) pa_nil)) (nomark _))
      (pss_one (ps_ret (pe_ix x_list (vv 2) (vv 1) (fun _ _ => rfl)))) pss_nil)
      (pss_cons (ps_asg (pe_callB c_divmod (by rfl) T.b_divmod boot_divmod (pa_cons (pe_op o_add (pe_op o_sub (vv 1) (pe_callB c_len (by rfl) T.b_len boot_len (pa_cons (vv 2) pa_nil))) (vv 3)) (pa_cons (vv 3) pa_nil))) (pg_tup rfl (pgs_cons (pg_name (i := 5) sc__law_at.nd rfl (.inl rfl)) (pgs_cons (pg_name (i := 6) sc__law_at.nd rfl (.inl rfl)) pgs_nil))))
      (pss_one (ps_ret (pe_op o_add (pe_ix x_list (vv 2) (pe_op o_add (pe_op o_sub (pe_callB c_len (by rfl) T.b_len boot_len (pa_cons (vv 2) pa_nil)) (vv 3)) (vv 6)) (fun _ _ => rfl)) (pe_op o_mulW (vv 5) (vv 4))))))))), pure__law_at T vs H Q E h⟩)
theorem Pool.same {H H' : Hp} {p : Addr} (e : Same H H') (h : Pool H p) : Pool H' p := by
  obtain ⟨a, b, c, h1, h2⟩ := h
  exact ⟨a, b, c, e _ _ h1, h2⟩
theorem Pool.ne {H : Hp} {p q : Addr} (h : Pool H p) (hq : H q = none) : q ≠ p := by
  obtain ⟨a, b, c, h1, _⟩ := h
  exact (ne_of_none h1 hq).symm
/-- .. beside a pool -/
def RowP (K : PySem.W.Frag) (H : Hp) (p r : Addr) (f : List Int × Nat × Int) : Prop := ∃ l, H r = some (.tup [.ref l, .int f.2.1, .int f.2.2]) ∧ H l = some (.lst (f.1.map V.int)) ∧ r ≠ p ∧ l ≠ p
theorem RowP.kp {H H' : Hp} {p a : Addr} {f : List Int × Nat × Int} (e : Kp p H H') (h : RowP K H p a f) : RowP K H' p a f := by
  obtain ⟨l, h1, h2, h3, h4⟩ := h
  exact ⟨l, e _ _ h3 h1, e _ _ h4 h2, h3, h4⟩
theorem RowP.at {H : Hp} {p a : Addr} {f : List Int × Nat × Int} (h : RowP K H p a f) : RowAt K H a f := by
  obtain ⟨l, h1, h2, h3, h4⟩ := h
  exact ⟨l, h1, h2⟩
/-- what a drawn row has -/
structure RAsk (f : List Int × Nat × Int) : Prop where
  p1 : 1 ≤ f.2.1
  pl : f.2.1 ≤ f.1.length
  len : f.1.length ≤ 100
  vals : ∀ z ∈ f.1, z.natAbs ≤ 10 ^ 20
  step : f.2.2.natAbs ≤ 10 ^ 20
theorem ints_of {Pz : Int → Prop} : ∀ {acc : List V}, (∀ v ∈ acc, ∃ z, v = .int z ∧ Pz z) → ∃ ns : List Int, acc = ns.map V.int ∧ ∀ z ∈ ns, Pz z
  | [], _ => ⟨[], rfl, fun _ h => by cases h⟩
  | v :: r, h => by
    obtain ⟨z, rfl, hz⟩ := h v (List.mem_cons_self ..)
    obtain ⟨ns, rfl, hn⟩ := ints_of (acc := r) fun u hu => h u (List.mem_cons_of_mem _ hu)
    refine ⟨z :: ns, rfl, fun y hy => ?_⟩
    rcases List.mem_cons.mp hy with rfl | hy
    · exact hz
    · exact hn y hy
def sp__law_row (K : PySem.W.Frag) : L2.Sp := fun vs H Q _ => on2 vs fun x n => onRef x fun p => onInt n fun n => Pool H p ∧ 1 ≤ n ∧ n ≤ 30 ∧ ∀ r f H', Pool H' p → Kp p H H' → RowP K H' p r f → RAsk f → Q (.ref r) H'
abbrev N__law_row : List Str := ["_law_pool", "_law_long", "_law_many", "_law_size", "_law_wide", "_law_first", "_law_k"]
theorem sc__law_row : FnScope N__law_row ["_law_pool", "_law_long"] (defScope s__law_row) := ⟨rfl, rfl, rfl, by decide +kernel, rfl, by decide +kernel, by decide +kernel⟩
def t__law_row (K : PySem.W.Frag) : TS :=
    tSeq (tAsg (tOp fAdd (tC (.int 1)) (tCall (sp__law_draw K) [] E0 (tCons (fV 0) (tCons (fV 1) tNil)))) (gName 2))
    (tSeq (tAsg (tOp fAdd (fV 2) (tCall (sp__law_draw K) [] E0 (tCons (fV 0) (tCons (fV 1) tNil)))) (gName 3))
    (tSeq (tAsg (tCall (sp__law_pick K) [] E0 (tCons (fV 0) (tCons (tLst (tCons (tC (.int 2)) (tCons (tC (.int 3)) (tCons (tC (.int 5)) (tCons (tOp fPow (tC (.int 10)) (tC (.int 6))) (tCons (tOp fPow (tC (.int 10)) (tC (.int 20))) tNil)))))) tNil))) (gName 4))
    (tSeq (tAsg (tLc (iRng1 (tCons (fV 3) tNil)) (gName 6) tYes (tOp fSub (tCall (sp__law_draw K) [] E0 (tCons (fV 0) (tCons (fV 4) tNil))) (tOp fDiv (fV 4) (tC (.int 3)))) [6]) (gName 5))
    (tRet (tTup (tCons (fV 5) (tCons (fV 2) (tCons (tCall (sp__law_pick K) [] E0 (tCons (fV 0) (tCons (tLst (tCons (tC (.int 0)) (tCons (tC (.int 1)) (tCons (tUn fNeg (tC (.int 1))) (tCons (tC (.int 2)) (tCons (tC (.int 5)) (tCons (tCall (sp__law_draw K) [] E0 (tCons (fV 0) (tCons (fV 4) tNil))) (tCons (tUn fNeg (tOp fPow (tC (.int 10)) (tC (.int 18)))) tNil)))))))) tNil))) tNil))))))))
abbrev Pure__law_row (K : PySem.W.Frag) : Prop := ∀ (vs : List V) (H : Hp) (Q : VK) (E : XK), sp__law_row K vs H Q E → t__law_row K { nx := fun _ H' => Q .non H', rt := Q } (L2.start N__law_row vs) H
theorem pure__law_row (T : Tx K mg) : Pure__law_row K := by
  intro vs H Q E h
  obtain ⟨x1, x2, rfl, h⟩ := on2_ex h
  obtain ⟨p, rfl, h⟩ := onRef_ex h
  obtain ⟨n, rfl, hp, hn1, hn2, hQ⟩ := onInt_ex h
  refine ⟨hp, by omega, by omega, fun r1 H1 h10 h11 hp1 hk1 => ?_⟩
  refine ⟨hp1, by omega, by omega, fun r2 H2 h20 h21 hp2 hk2 => ?_⟩
  refine ⟨⟨by decide, by decide, by decide⟩, ⟨by decide, by decide, by decide⟩, by show 5 ≤ sizeLine; decide, fun q hq => ?_⟩
  refine ⟨hp2.same (Same.upd hq), _, SqL.of upd_same, hp2.ne hq, by simp, by simp, fun i v H3 hv hp3 hk3 => ?_⟩
  obtain ⟨w', rfl, hw1, hw2⟩ : ∃ w' : Int, v = .int w' ∧ 2 ≤ w' ∧ w' ≤ 10 ^ 20 := by
    have hm := List.mem_of_getElem? hv
    simp only [List.mem_cons, List.not_mem_nil, or_false] at hm
    rcases hm with rfl | rfl | rfl | rfl | rfl <;> exact ⟨_, rfl, by decide, by decide⟩
  have hk03 : Kp p H H3 := ((hk1.trans hk2).trans (Kp.new hq)).trans hk3
  refine ⟨_, rfl, by omega, by omega, fun D hD => ?_⟩
  have hDp := hp3.ne hD
  refine lc_rangeI (by omega) (fun i acc H4 => (∀ v ∈ acc, ∃ z, v = .int z ∧ z.natAbs ≤ 10 ^ 20) ∧ Pool H4 p ∧ Kp p H3 H4) ⟨fun v hv => (by cases hv), hp3.same (Same.upd hD), Kp.new hD⟩ (fun i acc H4 hi hl hD4 hJ R hR => ?_) (fun acc H4 hl hD4 hJ => ?_)
  · obtain ⟨ha, hp4, hk4⟩ := hJ
    refine ⟨rfl, hp4, by omega, by omega, fun r H5 h50 h51 hp5 hk5 => ?_⟩
    refine ⟨wide_div (b := 2) (by decide) (by decide) (by decide) (by decide), hR _ H5 (hk5 _ _ hDp hD4) ⟨fun v hv => ?_, ?_, ?_⟩⟩
    · rcases List.mem_append.mp hv with hv | hv
      · exact ha v hv
      · obtain rfl := List.mem_singleton.mp hv
        exact ⟨_, rfl, by omega⟩
    · obtain ⟨a, b, c, h1, h2⟩ := hp5
      exact ⟨a, b, c, by rw [upd_ne (Ne.symm hDp)]; exact h1, h2⟩
    · refine fun b o hb h => ?_
      rw [upd_ne (ne_of_none h hD)]
      exact (hk4.trans hk5) b o hb h
  · obtain ⟨ha, hp4, hk4⟩ := hJ
    obtain ⟨ns, rfl, hns⟩ := ints_of ha
    rw [List.length_map] at hl
    refine ⟨hp4, by omega, by omega, fun r5 H5 h50 h51 hp5 hk5 => ?_⟩
    refine ⟨⟨by decide, by decide, by decide⟩, by show 7 ≤ sizeLine; decide, fun q' hq' => ?_⟩
    refine ⟨hp5.same (Same.upd hq'), _, SqL.of upd_same, hp5.ne hq', by simp, by simp, fun j v H6 hv hp6 hk6 => ?_⟩
    obtain ⟨by', rfl, hby⟩ : ∃ z : Int, v = .int z ∧ z.natAbs ≤ 10 ^ 20 := by
      have hm := List.mem_of_getElem? hv
      simp only [List.mem_cons, List.not_mem_nil, or_false] at hm
      rcases hm with rfl | rfl | rfl | rfl | rfl | rfl | rfl <;> exact ⟨_, rfl, by first | decide | omega⟩
    refine ⟨by show 3 ≤ sizeLine; decide, fun r hr => ?_⟩
    have hk46 : Kp p H4 H6 := (hk5.trans (Kp.new hq')).trans hk6
    have hlD : H6 D = some (.lst (ns.map V.int)) := hk46 _ _ hDp hD4
    refine hQ r (ns, (1 + r1).toNat, by') _ (hp6.same (Same.upd hr)) (((hk03.trans hk4).trans hk46).trans (Kp.new hr)) ⟨D, ?_, ?_, hp6.ne hr, hDp⟩ ⟨by show 1 ≤ (1 + r1).toNat; omega, by show (1 + r1).toNat ≤ ns.length; omega, by show ns.length ≤ 100; omega, hns, hby⟩
    · rw [upd_same]
      show some (HO.tup [V.ref D, V.int (1 + r1), V.int by']) = some (HO.tup [V.ref D, V.int (((1 + r1).toNat : Nat) : Int), V.int by'])
      rw [show (((1 + r1).toNat : Nat) : Int) = 1 + r1 by omega]
    · rw [upd_ne (ne_of_none hlD hr)]
      exact hlD
theorem b__law_row (T : Tx K mg) : Binds K (fdA K (He.fAd K d__law_row.at_)) ["_law_pool", "_law_long"] [] := T.F__law_row.bindsN fun _ _ _ _ _ _ us hl => match us, hl with | [_, _], _ => rfl
theorem ok__law_row (T : Tx K mg) : FnOk P w K mg base CX0 3 (He.fAd K d__law_row.at_) (fdA K (He.fAd K d__law_row.at_)) ["_law_pool", "_law_long"] (sp__law_row K) :=
  T.F__law_row.ok sc__law_row (fun _ _ _ _ h => on2_len h) (fun cdv A outer s H vs Q E hr h => ⟨t__law_row K, PSs.nox ((pss_cons (ps_set (i := 2) sc__law_row.nd rfl (.inl rfl) (pe_op o_add pe_int (pe_call (ok__law_draw T) (hr.mono (by decide)) (by rfl) T.g__law_draw T.F__law_draw.kp (b__law_draw T) .nil pass0 (pa_cons (vv 0) (pa_cons (vv 1) pa_nil)))))
      (pss_cons (ps_set (i := 3) sc__law_row.nd rfl (.inl rfl) (pe_op o_add (vv 2) (pe_call (ok__law_draw T) (hr.mono (by decide)) (by rfl) T.g__law_draw T.F__law_draw.kp (b__law_draw T) .nil pass0 (pa_cons (vv 0) (pa_cons (vv 1) pa_nil)))))
      (pss_cons (ps_set (i := 4) sc__law_row.nd rfl (.inr rfl) (pe_call (ok__law_pick T) (hr.mono (by decide)) (by rfl) T.g__law_pick T.F__law_pick.kp (b__law_pick T) .nil pass0 (pa_cons (vv 0) (pa_cons (pe_lst (pa_cons pe_int (pa_cons pe_int (pa_cons pe_int (pa_cons (pe_op o_pow pe_int pe_int) (pa_cons (pe_op o_pow pe_int pe_int) pa_nil)))))) pa_nil))))
      (pss_cons (ps_setLc (i := 5) (own := [("_law_k", 6)]) (g := gName 6) (by rfl) sc__law_row.nd rfl rfl (sw_true rfl rfl rfl (by decide +kernel)) (pi_range1 (by rfl) T.b_range (pa_cons (vv 3) pa_nil)) (blkOk_by (own := [("_law_k", 6)]) (N := N__law_row) (sc := defScope s__law_row) (by decide +kernel)) (fun _ _ _ _ _ => (pg_name (i := 6) sc__law_row.nd rfl (.inl rfl))) (fun _ _ _ _ _ => pts_nil) (fun _ _ _ _ _ => (pe_op o_sub (pe_call (ok__law_draw T) (hr.mono (by decide)) (by rfl) T.g__law_draw T.F__law_draw.kp (b__law_draw T) .nil pass0 (pa_cons (vv 0) (pa_cons (vv 4) pa_nil))) (pe_op o_div (vv 4) pe_int))))
      (pss_one (ps_ret (pe_tup (pa_cons (vv 5) (pa_cons (vv 2) (pa_cons (pe_call (ok__law_pick T) (hr.mono (by decide)) (by rfl) T.g__law_pick T.F__law_pick.kp (b__law_pick T) .nil pass0 (pa_cons (vv 0) (pa_cons (pe_lst (pa_cons pe_int (pa_cons pe_int (pa_cons (pe_un o_neg pe_int) (pa_cons pe_int (pa_cons pe_int (pa_cons (pe_call (ok__law_draw T) (hr.mono (by decide)) (by rfl) T.g__law_draw T.F__law_draw.kp (b__law_draw T) .nil pass0 (pa_cons (vv 0) (pa_cons (vv 4) pa_nil))) (pa_cons (pe_un o_neg (pe_op o_pow pe_int pe_int)) pa_nil)))))))) pa_nil))) pa_nil))))))))))), pure__law_row T vs H Q E h⟩)

end K06
namespace K06
open PySem PySem.Spec PyProof.Rows L2 Sp
variable {P : Program} {w : World} {K : PySem.W.Frag} {mg : Str → Option Value} {base : Heap}
theorem tailAt_lt {ns : List Int} {p : Nat} {s : Int} {i : Nat} (hp : p ≤ ns.length) (hi : i < p) : tailAt ns p s i = ns.getD (ns.length - p + i) 0 := by
  unfold tailAt valueAt
  rw [if_pos (by omega)]
theorem leastFrom_step {ns : List Int} {p : Nat} {s : Int} (hp : p ≤ ns.length) : ∀ (k q : Nat), q + k ≤ p → (leastFrom ns p s k q).2 = s ∨ ∃ i, i < p ∧ (leastFrom ns p s k q).2 = ns.getD (ns.length - p + i) 0 - ns.getD (ns.length - p + 0) 0
  | 0, q, _ => .inl rfl
  | k + 1, q, h => by
    unfold leastFrom
    split
    · refine .inr ⟨q, by omega, ?_⟩
      show tailAt ns p s q - tailAt ns p s 0 = _
      rw [tailAt_lt hp (by omega), tailAt_lt hp (by omega)]
    · exact leastFrom_step hp k (q + 1) (by omega)
theorem leastP_step {ns : List Int} {p : Nat} {s : Int} (h1 : 1 ≤ p) (hp : p ≤ ns.length) : (leastP ns p s).2 = s ∨ ∃ i, i < p ∧ (leastP ns p s).2 = ns.getD (ns.length - p + i) 0 - ns.getD (ns.length - p + 0) 0 := leastFrom_step hp (p - 1) 1 (by omega)
theorem getD_le {ns : List Int} {B : Nat} (h : ∀ z ∈ ns, z.natAbs ≤ B) (i : Nat) : (ns.getD i 0).natAbs ≤ B := by
  by_cases hi : i < ns.length
  · rw [List.getD_eq_getElem?_getD, List.getElem?_eq_getElem hi]
    exact h _ (List.getElem_mem hi)
  · rw [List.getD_eq_getElem?_getD, List.getElem?_eq_none (by omega)]
    exact Nat.zero_le _
theorem rise_le {ns : List Int} {p : Nat} {s : Int} {B : Nat} (h1 : 1 ≤ p) (hp : p ≤ ns.length) (h : ∀ z ∈ ns, z.natAbs ≤ B) (hs : s.natAbs ≤ B) : ((leastP ns p s).2).natAbs ≤ 2 * B := by
  rcases leastP_step (s := s) h1 hp with e | ⟨i, _, e⟩
  · rw [e]
    omega
  · rw [e]
    have a := getD_le h (ns.length - p + i)
    have b := getD_le h (ns.length - p + 0)
    omega
theorem big_sm {x : Int} (h : x.natAbs ≤ 10 ^ 60) : Sm x := by
  have e : (10 : Nat) ^ 60 < 2 ^ 200 := by decide
  have e2 : (2 : Nat) ^ 1000 = 2 ^ 200 * 2 ^ 800 := (Nat.pow_add 2 200 800)
  have e3 : 0 < (2 : Nat) ^ 800 := Nat.pow_pos (by decide)
  unfold Sm
  rw [e2]
  generalize (2 : Nat) ^ 800 = A at *
  calc x.natAbs < 2 ^ 200 := by omega
    _ ≤ 2 ^ 200 * A := Nat.le_mul_of_pos_right _ e3
theorem big_sn {x : Int} (h : x.natAbs ≤ 10 ^ 60) : Sn x := by
  have e : (10 : Nat) ^ 60 < 2 ^ 200 := by decide
  have e2 : (2 : Nat) ^ 900 = 2 ^ 200 * 2 ^ 700 := (Nat.pow_add 2 200 700)
  have e3 : 0 < (2 : Nat) ^ 700 := Nat.pow_pos (by decide)
  unfold Sn
  rw [e2]
  generalize (2 : Nat) ^ 700 = A at *
  calc x.natAbs < 2 ^ 200 := by omega
    _ ≤ 2 ^ 200 * A := Nat.le_mul_of_pos_right _ e3
theorem RAsk.ask {f : List Int × Nat × Int} (h : RAsk f) : Ask f.1 f.2.1 f.2.2 := ⟨h.p1, h.pl, by have := h.len; omega, big_sm (by have := h.step; omega)⟩
theorem leastL_len {ns : List Int} {p : Nat} {s : Int} (hp : p ≤ ns.length) : (leastL ns p s).length = leastS ns p s (ns.length - p) + p := by
  unfold leastL
  rw [List.length_take]
  have := leastS_le ns p s (ns.length - p)
  omega
theorem RAsk.fask {f : List Int × Nat × Int} (h : RAsk f) : FAsk (formOf f.1 f.2.1 f.2.2) := by
  obtain ⟨ns, p, s⟩ := f
  obtain ⟨h1, h2, h3, h4, h5⟩ := h
  dsimp only at *
  have hq := leastP_le (ns := ns) (s := s) h1
  have hl := leastL_len (s := (leastP ns p s).2) (Nat.le_trans hq.2 h2)
  refine ⟨hq.1, ?_, ?_, fun j => ?_, ?_⟩
  · show (leastP ns p s).1 ≤ (leastL ns (leastP ns p s).1 (leastP ns p s).2).length
    omega
  · show (leastL ns (leastP ns p s).1 (leastP ns p s).2).length ≤ 5000
    have := leastS_le ns (leastP ns p s).1 (leastP ns p s).2 (ns.length - (leastP ns p s).1)
    omega
  · refine big_sn (Nat.le_trans (getD_le (B := 10 ^ 20) (fun z hz => h4 z ?_) j) (by decide))
    exact List.mem_of_mem_take hz
  · refine big_sn (Nat.le_trans (rise_le h1 h2 h4 h5) (by decide))
theorem FormAt.kp {H H' : Hp} {p a : Addr} {f : List Int × Nat × Int} (e : Kp p H H') (hp : Pool H p) (h : FormAt K H a f) : FormAt K H' a f := by
  obtain ⟨dx, t, l, h1, h2, h3⟩ := h
  obtain ⟨x, y, z, h4, _⟩ := hp
  refine ⟨dx, t, l, e _ _ (ne_of h1 h4 (fun q => by cases q)) h1, e _ _ (ne_of h2 h4 (fun q => by cases q)) h2, ?_⟩
  rcases h3 with (h | ⟨o, h⟩) | h
  · exact .inl (.inl (e _ _ (ne_of h h4 (fun q => by cases q)) h))
  · exact .inl (.inr ⟨o, e _ _ (ne_of h h4 (fun q => by cases q)) h⟩)
  · exact .inr h
def sp__law_form (K : PySem.W.Frag) : L2.Sp := fun vs H Q _ => on2 vs fun x r => onRef x fun p => onRef r fun r => Pool H p ∧ ∃ f, RowP K H p r f ∧ RAsk f ∧ ∀ a H', Pool H' p → Kp p H H' → FormAt K H' a (formOf f.1 f.2.1 f.2.2) → Q (.ref a) H'
abbrev N__law_form : List Str := ["_law_pool", "_law_row_here", "_law_first", "_law_many", "_law_by"]
theorem sc__law_form : FnScope N__law_form ["_law_pool", "_law_row_here"] (defScope s__law_form) := ⟨rfl, rfl, rfl, by decide +kernel, rfl, by decide +kernel, by decide +kernel⟩
def t__law_form (K : PySem.W.Frag) : TS :=
    tSeq (tAsg (fV 1) (gTup K 3 (gCons (gName 2) (gCons (gName 3) (gCons (gName 4) gNil)))))
    (tSeq (tIfS (fT (tOp fEq (tCall (sp__law_draw K) [] E0 (tCons (fV 0) (tCons (tC (.int 2)) tNil))) (tC (.int 0))))
    (tRet (tMake (He.ga K "Form") (sp_Form_init K) dv_Form_3 E0 (tCons (tCB (fTupOfL K) (tCons (fV 2) tNil)) (tCons (fV 3) (tCons (fV 4) tNil))))) tNext)
    (tRet (tMakeN (He.ga K "Form") 0 (List.length (["step", "values", "period"] : List Str)) (sp_Form_init K) gV_Form_0_step_values_period E0 tNil (tCons (fV 4) (tCons (tCB (fTupOfL K) (tCons (fV 2) tNil)) (tCons (fV 3) tNil))))))
abbrev Pure__law_form (K : PySem.W.Frag) : Prop := ∀ (vs : List V) (H : Hp) (Q : VK) (E : XK), sp__law_form K vs H Q E → t__law_form K { nx := fun _ H' => Q .non H', rt := Q } (L2.start N__law_form vs) H
theorem made {H H' : Hp} {x dx p : Addr} {o1 o2 : HO} (hp : Pool H p) (hx : H x = none) (hdx : H dx = none) (k : ∀ b o, b ≠ x → (upd (upd H dx o1) x o2) b = some o → H' b = some o) : Pool H' p ∧ Same H H' := by
  have e : Same H H' := fun b o h => k b o (ne_of_none h hx) (by rw [upd_ne (ne_of_none h hx), upd_ne (ne_of_none h hdx)]; exact h)
  exact ⟨hp.same e, e⟩
theorem pure__law_form (T : Tx K mg) : Pure__law_form K := by
  intro vs H Q E h
  obtain ⟨x1, x2, rfl, h⟩ := on2_ex h
  obtain ⟨p, rfl, h⟩ := onRef_ex h
  obtain ⟨r, rfl, hp, ⟨ns, P, s⟩, ⟨l, hr, hl, hrp, hlp⟩, ra, hQ⟩ := onRef_ex h
  have ask := ra.ask
  have hsm : Sm (leastP ns P s).2 := big_sm (Nat.le_trans (rise_le ra.p1 ra.pl ra.vals ra.step) (by decide))
  dsimp only at *
  refine ⟨r, _, rfl, SqT.of hr, rfl, _, _, rfl, _, _, rfl, _, _, rfl, rfl, ?_⟩
  refine ⟨hp, by decide, by decide, fun d H1 hd0 hd1 hp1 hk1 => ?_⟩
  have hl1 := hk1 _ _ hlp hl
  refine ite2 (fun _ => ?_) (fun _ => ?_)
  · refine ⟨_, SqL.of hl1, fun q hq x dx hx hdx hne => ?_⟩
    have hqx : q ≠ x := ne_of_none upd_same hx
    have hqd : q ≠ dx := ne_of_none upd_same hdx
    refine ⟨ns, P, dx, upd_same, by rw [upd_ne hqx, upd_ne hqd]; exact upd_same, rfl, ask, hsm, fun H2 hk2 hf => ⟨rfl, ?_⟩⟩
    obtain ⟨hp2, e2⟩ := made (hp1.same (Same.upd hq)) hx hdx hk2
    exact hQ x H2 hp2 ((hk1.trans (Kp.new hq)).trans (Kp.same e2)) hf
  · refine ⟨_, SqL.of hl1, fun q hq => ⟨rfl, rfl, fun x dx hx hdx hne => ?_⟩⟩
    have hqx : q ≠ x := ne_of_none upd_same hx
    have hqd : q ≠ dx := ne_of_none upd_same hdx
    refine ⟨ns, P, dx, upd_same, by rw [upd_ne hqx, upd_ne hqd]; exact upd_same, rfl, ask, hsm, fun H2 hk2 hf => ⟨rfl, ?_⟩⟩
    obtain ⟨hp2, e2⟩ := made (hp1.same (Same.upd hq)) hx hdx hk2
    exact hQ x H2 hp2 ((hk1.trans (Kp.new hq)).trans (Kp.same e2)) hf
theorem b__law_form (T : Tx K mg) : Binds K (fdA K (He.fAd K d__law_form.at_)) ["_law_pool", "_law_row_here"] [] := T.F__law_form.bindsN fun _ _ _ _ _ _ us hl => match us, hl with | [_, _], _ => rfl
theorem ok__law_form (T : Tx K mg) : FnOk P w K mg base CX0 5 (He.fAd K d__law_form.at_) (fdA K (He.fAd K d__law_form.at_)) ["_law_pool", "_law_row_here"] (sp__law_form K) :=
  T.F__law_form.ok sc__law_form (fun _ _ _ _ h => on2_len h) (fun cdv A outer s H vs Q E hr h => ⟨t__law_form K, PSs.nox ((pss_cons (ps_asg (vv 1) (pg_tup rfl (pgs_cons (pg_name (i := 2) sc__law_form.nd rfl (.inl rfl)) (pgs_cons (pg_name (i := 3) sc__law_form.nd rfl (.inl rfl)) (pgs_cons (pg_name (i := 4) sc__law_form.nd rfl (.inl rfl)) pgs_nil)))))
      (pss_cons (ps_if (t_cmp o_eq (pe_call (ok__law_draw T) (hr.mono (by decide)) (by rfl) T.g__law_draw T.F__law_draw.kp (b__law_draw T) .nil pass0 (pa_cons (vv 0) (pa_cons pe_int pa_nil))) pe_int (nomark _))
      (pss_one (ps_ret (pe_make T.mk_Form (ok_Form_init T) (hr.mono (by decide)) (by rfl) T.g_Form (mb_Form_3 T).choose_spec.2 (mb_Form_3 T).choose_spec.1 pass0 (pa_cons (pe_callTy c_tupL (by rfl) T.b_tuple boot_tuple (pa_cons (vv 2) pa_nil)) (pa_cons (vv 3) (pa_cons (vv 4) pa_nil)))))) pss_nil)
      (pss_one (ps_ret (e_makeK0 T.mk_Form (ok_Form_init T) (hr.mono (by decide)) (by rfl) T.g_Form (mb_Form_0_step_values_period T).choose_spec pass0 (pk_cons (vv 4) (pk_cons (pe_callTy c_tupL (by rfl) T.b_tuple boot_tuple (pa_cons (vv 2) pa_nil)) (pk_cons (vv 3) pk_nil))))))))), pure__law_form T vs H Q E h⟩)

/-! ### looking at all before -/
def sp__law_before (K : PySem.W.Frag) : L2.Sp := fun vs H Q _ => on2 vs fun x n => onRef x fun r => onInt n fun n => ∃ (f : List Int × Nat × Int) (N : Nat), RowAt K H r f ∧ f.2.1 ≤ 100 ∧ n = N ∧ ∀ (q : Addr) (ks : List Nat) (H' : Hp), Same H H' → H' q = some (.lst (ks.map fun k => V.int (k : Nat))) → (∀ k ∈ ks, k < N) → ks.length ≤ 1000 → Q (.ref q) H'
abbrev N__law_before : List Str := ["_law_row_here", "_law_n", "_law_near", "_law_k"]
theorem sc__law_before : FnScope N__law_before ["_law_row_here", "_law_n"] (defScope s__law_before) := ⟨rfl, rfl, rfl, by decide +kernel, rfl, by decide +kernel, by decide +kernel⟩
def t__law_before (K : PySem.W.Frag) : TS :=
    tSeq (tAsg (tLstRg (tRg1 (tCB fMin2 (tCons (fV 1) (tCons (tC (.int 400)) tNil))))) (gName 2))
    (tRet (tOp fCatL (fV 2) (tLc (iRngL (tCons (tCB fMax2 (tCons (tC (.int 0)) (tCons (tOp fSub (fV 1) (tOp fMul (tC (.int 2)) (tOp (fIxT K) (fV 0) (tC (.int 1))))) tNil))) (tCons (fV 1) tNil))) (gName 3) (fT (tOp fGe (fV 3) (tC (.int 400)))) (fV 3) [3])))
abbrev Pure__law_before (K : PySem.W.Frag) : Prop := ∀ (vs : List V) (H : Hp) (Q : VK) (E : XK), sp__law_before K vs H Q E → t__law_before K { nx := fun _ H' => Q .non H', rt := Q } (L2.start N__law_before vs) H
theorem rgV0 (m : Nat) : rgV 0 (m : Int) = (List.range m).map fun k => V.int (k : Nat) := by
  unfold rgV
  rw [show ((m : Int) - 0).toNat = m by omega]
  refine List.map_congr_left fun k _ => ?_
  rw [Int.zero_add]
theorem pure__law_before (T : Tx K mg) : Pure__law_before K := by
  intro vs H Q E h
  obtain ⟨x1, x2, rfl, h⟩ := on2_ex h
  obtain ⟨r, rfl, h⟩ := onRef_ex h
  obtain ⟨n, rfl, ⟨ns, P, s⟩, N, ⟨l, hr, hl⟩, hP, rfl, hQ⟩ := onInt_ex h
  dsimp only at *
  have em : (if (400 : Int) < (N : Int) then (400 : Int) else (N : Int)) = ((min N 400 : Nat) : Int) := by
    split <;> omega
  refine ⟨_, rfl, ?_⟩
  rw [em]
  refine ⟨RgOk.of_le (by omega) (by omega) (by omega) (by omega), fun q hq => ?_⟩
  rw [rgV0]
  have e1 := Same.upd (o := .lst ((List.range (min N 400)).map fun k => V.int (k : Nat))) hq
  refine ⟨_, SqT.of (e1 _ _ hr), _, rfl, .inl ⟨by decide, by decide⟩, fun D hD => ?_⟩
  refine lc_range (fun i H2 => Same (upd H q (.lst ((List.range (min N 400)).map fun k => V.int (k : Nat)))) H2 ∧ ∃ ks : List Nat, H2 D = some (.lst (ks.map fun k => V.int (k : Nat))) ∧ (∀ k ∈ ks, k < N) ∧ ks.length ≤ i) ⟨Same.upd hD, [], upd_same, fun k hk => (by cases hk), Nat.le_refl _⟩ (fun i H2 hi hp => ?_) (fun H2 hp => ?_)
  · obtain ⟨e2, ks, hD2, hks, hkl⟩ := hp
    have en : (if (N : Int) - 2 * (P : Int) > 0 then (N : Int) - 2 * (P : Int) else 0) = ((N - 2 * P : Nat) : Int) := by
      split <;> omega
    rw [en] at hi ⊢
    have ei : ((N - 2 * P : Nat) : Int) + (i : Int) = ((N - 2 * P + i : Nat) : Int) := by omega
    rw [ei]
    have hlt : N - 2 * P + i < N := by omega
    refine ⟨rfl, ite2 (fun _ => ?_) (fun _ => ?_)⟩
    · refine ⟨_, hD2, by rw [List.length_map, sizeLine_eq]; omega, fun b o hb => ?_, ks ++ [N - 2 * P + i], ?_, fun k hk => ?_, ?_⟩
      · rw [upd_ne (ne_of_none hb hD)]
        exact e2 _ _ hb
      · rw [upd_same, List.map_append]
        rfl
      · rcases List.mem_append.mp hk with hk | hk
        · exact hks k hk
        · rw [List.mem_singleton.mp hk]
          exact hlt
      · rw [List.length_append]
        simp
        omega
    · exact ⟨e2, ks, hD2, hks, by omega⟩
  · obtain ⟨e2, ks, hD2, hks, hkl⟩ := hp
    have hk2 : ks.length ≤ 200 := by
      refine Nat.le_trans hkl ?_
      split <;> omega
    refine ⟨_, _, e2 _ _ upd_same, hD2, by rw [List.length_map, List.length_map, List.length_range, sizeLine_eq]; omega, fun u hu => ?_⟩
    refine hQ u (List.range (min N 400) ++ ks) _ ((e1.trans e2).trans (Same.upd hu)) (by rw [upd_same, List.map_append]) (fun k hk => ?_) (by rw [List.length_append, List.length_range]; omega)
    rcases List.mem_append.mp hk with hk | hk
    · have := List.mem_range.mp hk
      omega
    · exact hks k hk
theorem b__law_before (T : Tx K mg) : Binds K (fdA K (He.fAd K d__law_before.at_)) ["_law_row_here", "_law_n"] [] := T.F__law_before.bindsN fun _ _ _ _ _ _ us hl => match us, hl with | [_, _], _ => rfl
theorem ok__law_before (T : Tx K mg) : FnOk P w K mg base CX0 1 (He.fAd K d__law_before.at_) (fdA K (He.fAd K d__law_before.at_)) ["_law_row_here", "_law_n"] (sp__law_before K) :=
  T.F__law_before.ok sc__law_before (fun _ _ _ _ h => on2_len h) (fun cdv A outer s H vs Q E hr h => ⟨t__law_before K, PSs.nox ((pss_cons (ps_set (i := 2) sc__law_before.nd rfl (.inl rfl) (pe_listRg (by rfl) (by rfl) T.b_list (prg_1 (by rfl) T.b_range (pe_callB (c_min2 rfl) (by rfl) T.b_min boot_min (pa_cons (vv 1) (pa_cons pe_int pa_nil))))))
      (pss_one (ps_ret (pe_op o_catL (vv 2) (pe_lc (own := [("_law_k", 3)]) (g := gName 3) (by rfl) sc__law_before.nd (pi_rangeL (by rfl) T.b_range (pa_cons (pe_callB (c_max2 rfl) (by rfl) T.b_max boot_max (pa_cons pe_int (pa_cons (pe_op o_sub (vv 1) (pe_op o_mul pe_int (pe_ix x_tup (vv 0) pe_int (fun _ _ => rfl)))) pa_nil))) (pa_cons (vv 1) pa_nil))) (blkOk_by (own := [("_law_k", 3)]) (N := N__law_before) (sc := defScope s__law_before) (by decide +kernel)) (fun _ _ _ _ _ => (pg_name (i := 3) sc__law_before.nd rfl (.inl rfl))) (fun _ _ _ _ _ => (pts_one (t_cmp o_ge (vv 3) pe_int (nomark _)))) (fun _ _ _ _ _ => (vv 3)))))))), pure__law_before T vs H Q E h⟩)

end K06
namespace K06
open PySem PySem.Spec PyProof.Rows L2 Sp
variable {P : Program} {w : World} {K : PySem.W.Frag} {mg : Str → Option Value} {base : Heap}
/-! ### the functions' theory -/
theorem val_head {ns : List Int} {p : Nat} {s : Int} {n : Nat} (h : n < ns.length) : valueAt ns p s n = ns.getD n 0 := by
  unfold valueAt
  rw [if_pos h]
theorem val_tail {ns : List Int} {p : Nat} {s : Int} {n : Nat} (hp : p ≤ ns.length) (h : ns.length - p ≤ n) : valueAt ns p s n = ns.getD (ns.length - p + (n - (ns.length - p)) % p) 0 + ((n - (ns.length - p)) / p : Nat) * s := by
  by_cases hn : n < ns.length
  · rw [val_head hn]
    have h1 : n - (ns.length - p) < p := by omega
    rw [Nat.mod_eq_of_lt h1, Nat.div_eq_of_lt h1, show ns.length - p + (n - (ns.length - p)) = n by omega]
    simp
  · unfold valueAt
    rw [if_neg hn]
theorem val_shift {ns : List Int} {p : Nat} {s : Int} {n : Nat} (h1 : 1 ≤ p) (hp : p ≤ ns.length) (h : ns.length - p ≤ n) : valueAt ns p s (n + p) = valueAt ns p s n + s := by
  rw [val_tail hp (by omega), val_tail hp h]
  have e : n + p - (ns.length - p) = n - (ns.length - p) + p := by omega
  rw [e, Nat.add_mod_right, Nat.add_div_right _ (by omega)]
  have : (((n - (ns.length - p)) / p + 1 : Nat) : Int) * s = ((n - (ns.length - p)) / p : Nat) * s + s := by
    rw [Int.natCast_add, Int.add_mul]
    simp
  show _ + (((n - (ns.length - p)) / p + 1 : Nat) : Int) * s = _
  rw [this]
  omega
theorem iter_shift {F : Nat → Int} {a q : Nat} {c : Int} (h : ∀ n, a ≤ n → F (n + q) = F n + c) : ∀ (m n : Nat), a ≤ n → F (n + m * q) = F n + m * c
  | 0, n, _ => by simp
  | m + 1, n, hn => by
    have e : n + (m + 1) * q = (n + m * q) + q := by rw [Nat.add_mul]; omega
    rw [e, h _ (by omega), iter_shift h m n hn, Int.natCast_add, Int.add_mul]
    omega
/-- a function that rises by c over q from a on is told by its values up to a + q -/
theorem val_of_shift {F : Nat → Int} {ns : List Int} {q : Nat} {c : Int} (h1 : 1 ≤ q) (hq : q ≤ ns.length) (hv : ∀ n, n < ns.length → F n = ns.getD n 0) (hs : ∀ n, ns.length - q ≤ n → F (n + q) = F n + c) (n : Nat) : valueAt ns q c n = F n := by
  by_cases hn : n < ns.length
  · rw [val_head hn, hv n hn]
  · have hle : ns.length - q ≤ n := by omega
    rw [val_tail hq hle]
    have hm := Nat.mod_lt (n - (ns.length - q)) (show 0 < q by omega)
    have e : n = ns.length - q + (n - (ns.length - q)) % q + (n - (ns.length - q)) / q * q := by
      have := Nat.div_add_mod (n - (ns.length - q)) q
      rw [Nat.mul_comm] at this
      omega
    have e2 := iter_shift hs ((n - (ns.length - q)) / q) (ns.length - q + (n - (ns.length - q)) % q) (by omega)
    rw [← e] at e2
    rw [e2, hv _ (by omega)]
theorem rises_all {ns : List Int} {p : Nat} {s : Int} {q : Nat} (h1 : 1 ≤ p) (hp : p ≤ ns.length) (h : rises ns p s q = true) : ∀ n, ns.length - p ≤ n → valueAt ns p s (n + q) = valueAt ns p s n + (tailAt ns p s q - tailAt ns p s 0) := fun n hn => by
  have hm := Nat.mod_lt (n - (ns.length - p)) (show 0 < p by omega)
  have e : n = ns.length - p + (n - (ns.length - p)) % p + (n - (ns.length - p)) / p * p := by
    have := Nat.div_add_mod (n - (ns.length - p)) p
    rw [Nat.mul_comm] at this
    omega
  have sh : ∀ n, ns.length - p ≤ n → valueAt ns p s (n + p) = valueAt ns p s n + s := fun n hn => val_shift h1 hp hn
  have a1 := iter_shift sh ((n - (ns.length - p)) / p) (ns.length - p + (n - (ns.length - p)) % p) (by omega)
  have a2 := iter_shift sh ((n - (ns.length - p)) / p) (ns.length - p + (n - (ns.length - p)) % p + q) (by omega)
  have a3 := List.all_eq_true.mp h ((n - (ns.length - p)) % p) (List.mem_range.mpr hm)
  have a4 : tailAt ns p s ((n - (ns.length - p)) % p + q) - tailAt ns p s ((n - (ns.length - p)) % p) = tailAt ns p s q - tailAt ns p s 0 := by simpa using a3
  rw [← e] at a1
  have e2 : ns.length - p + (n - (ns.length - p)) % p + q + (n - (ns.length - p)) / p * p = n + q := by omega
  rw [e2] at a2
  have a5 : tailAt ns p s ((n - (ns.length - p)) % p + q) = valueAt ns p s (ns.length - p + (n - (ns.length - p)) % p + q) := by
    unfold tailAt
    rw [Nat.add_assoc]
  have a6 : tailAt ns p s ((n - (ns.length - p)) % p) = valueAt ns p s (ns.length - p + (n - (ns.length - p)) % p) := rfl
  rw [a1, a2, ← a5, ← a6]
  omega
/-- what leastP tells -/
theorem leastP_tells {ns : List Int} {p : Nat} {s : Int} (h1 : 1 ≤ p) (hp : p ≤ ns.length) :
    (∀ n, ns.length - p ≤ n → valueAt ns p s (n + (leastP ns p s).1) = valueAt ns p s n + (leastP ns p s).2) ∧ p % (leastP ns p s).1 = 0 := by
  have key : ∀ k q, 1 ≤ q → ((∀ n, ns.length - p ≤ n → valueAt ns p s (n + (leastFrom ns p s k q).1) = valueAt ns p s n + (leastFrom ns p s k q).2) ∧ p % (leastFrom ns p s k q).1 = 0) := by
    intro k
    induction k with
    | zero => exact fun q _ => ⟨fun n hn => val_shift h1 hp hn, Nat.mod_self p⟩
    | succ k ih =>
      intro q hq
      unfold leastFrom
      split
      · rename_i hs
        unfold shorterOk at hs
        rw [Bool.and_eq_true] at hs
        exact ⟨rises_all h1 hp hs.2, by simpa using hs.1⟩
      · exact ih (q + 1) (by omega)
  exact key (p - 1) 1 (by omega)
theorem leastS_tells (ns : List Int) (q : Nat) (c : Int) : ∀ k j, leastS ns q c k ≤ j → j < k → valueAt ns q c (j + q) = ns.getD j 0 + c
  | 0, j, _, h => by omega
  | k + 1, j, h, hj => by
    unfold leastS at h
    split at h
    · rename_i hk
      by_cases e : j = k
      · rw [e]
        exact hk
      · exact leastS_tells ns q c k j h (by omega)
    · omega
/-- a form's values are the ones that were told -/
theorem formOf_val {ns : List Int} {p : Nat} {s : Int} (h1 : 1 ≤ p) (hp : p ≤ ns.length) (n : Nat) : valueAt (formOf ns p s).1 (formOf ns p s).2.1 (formOf ns p s).2.2 n = valueAt ns p s n := by
  have hq := leastP_le (ns := ns) (s := s) h1
  have ht := (leastP_tells (s := s) h1 hp).1
  generalize eq : (leastP ns p s).1 = q at *
  generalize ec : (leastP ns p s).2 = c at *
  have hql : q ≤ ns.length := Nat.le_trans hq.2 hp
  have g : ∀ n, valueAt ns q c n = valueAt ns p s n := val_of_shift hq.1 hql (fun n hn => val_head hn) (fun n hn => ht n (by omega))
  show valueAt (leastL ns (leastP ns p s).1 (leastP ns p s).2) (leastP ns p s).1 (leastP ns p s).2 n = _
  rw [eq, ec]
  have hlen := leastL_len (s := c) hql
  have hS := leastS_le ns q c (ns.length - q)
  have gt : ∀ i, i < leastS ns q c (ns.length - q) + q → (leastL ns q c).getD i 0 = ns.getD i 0 := fun i hi => by
    unfold leastL
    rw [List.getD_eq_getElem?_getD, List.getD_eq_getElem?_getD, List.getElem?_take_of_lt hi]
  refine val_of_shift (F := valueAt ns p s) hq.1 (by omega) (fun n hn => ?_) (fun n hn => ?_) n
  · rw [gt n (by omega), ← g n, val_head (by omega)]
  · rw [hlen, Nat.add_sub_cancel] at hn
    by_cases hk : n < ns.length - q
    · have := leastS_tells ns q c (ns.length - q) n hn hk
      rw [g] at this
      rw [this, ← g n, val_head (by omega)]
    · exact ht n (by omega)
theorem rise_sign {ns : List Int} {p : Nat} {s : Int} (h1 : 1 ≤ p) (hp : p ≤ ns.length) (hc : (leastP ns p s).2 ≤ 0) : s ≤ 0 := by
  obtain ⟨ht, hd⟩ := leastP_tells (s := s) h1 hp
  have hq := leastP_le (ns := ns) (s := s) h1
  have a1 := iter_shift ht (p / (leastP ns p s).1) (ns.length - p) (Nat.le_refl _)
  rw [Nat.div_mul_cancel (Nat.dvd_of_mod_eq_zero hd), val_shift h1 hp (Nat.le_refl _)] at a1
  have a2 : s = ((p / (leastP ns p s).1 : Nat) : Int) * (leastP ns p s).2 := by omega
  rw [a2]
  exact Int.mul_nonpos_of_nonneg_of_nonpos (Int.natCast_nonneg _) hc
/-- what first tells, of the told values -/
theorem first_tells {f : List Int × Nat × Int} (ra : RAsk f) {v : Int} (hv : v.natAbs ≤ 10 ^ 30) {r : V} (h : FirstOk (formOf f.1 f.2.1 f.2.2) v r) :
    (r = .non ∧ f.2.2 ≤ 0 ∧ ∀ n, valueAt f.1 f.2.1 f.2.2 n < v) ∨ ∃ N : Nat, r = .int N ∧ N ≤ 10 ^ 40 ∧ v ≤ valueAt f.1 f.2.1 f.2.2 N ∧ ∀ n, n < N → valueAt f.1 f.2.1 f.2.2 n < v := by
  obtain ⟨ns, p, s⟩ := f
  have fa := ra.fask
  obtain ⟨h1, h2, h3, h4, h5⟩ := ra
  dsimp only at *
  have val := fun n => formOf_val (s := s) h1 h2 n
  have hsg := fun z => rise_sign (s := s) h1 h2 z
  have hxb : ∀ i, ((formOf ns p s).1.getD i 0).natAbs ≤ 10 ^ 20 := fun i => getD_le (fun z hz => h4 z (List.mem_of_mem_take hz)) i
  have hc0 : (formOf ns p s).2.2 = (leastP ns p s).2 := rfl
  have hl100 : (formOf ns p s).1.length ≤ 100 := by
    show (leastL ns _ _).length ≤ 100
    unfold leastL
    rw [List.length_take]
    omega
  obtain ⟨fp1, fpl, _, _, _⟩ := fa
  generalize formOf ns p s = g at *
  obtain ⟨gs, q, c⟩ := g
  unfold FirstOk at h
  dsimp only at *
  rcases h with ⟨i, rfl, hi, hvi, hj⟩ | ⟨hall, ⟨rfl, hc⟩ | ⟨b, rfl, hc, ⟨k0, hk0, rfl⟩, hmin⟩⟩
  · refine .inr ⟨i, rfl, by omega, ?_, fun n hn => ?_⟩
    · rw [← val, val_head hi]
      exact hvi
    · rw [← val, val_head (by omega)]
      exact hj n hn
  · refine .inl ⟨rfl, hsg (hc0 ▸ hc), fun n => ?_⟩
    rw [← val]
    by_cases hn : n < gs.length
    · rw [val_head hn]
      exact hall n hn
    · rw [val_tail fpl (by omega)]
      have a1 := hall (gs.length - q + (n - (gs.length - q)) % q) (by have := Nat.mod_lt (n - (gs.length - q)) (show 0 < q by omega); omega)
      have a2 := Int.mul_nonpos_of_nonneg_of_nonpos (Int.natCast_nonneg ((n - (gs.length - q)) / q)) hc
      omega
  · -- the candidates
    have cd : ∀ k, k < q → ∃ R : Nat, cand gs q c v k = ((gs.length - q + k + R * q : Nat) : Int) ∧ v ≤ gs.getD (gs.length - q + k) 0 + R * c ∧ (∀ m : Nat, m < R → gs.getD (gs.length - q + k) 0 + m * c < v) ∧ (R : Int) ≤ v - gs.getD (gs.length - q + k) 0 := fun k hk => by
      have hx := hall (gs.length - q + k) (by omega)
      unfold cand
      generalize gs.getD (gs.length - q + k) 0 = x at *
      have d1 := Int.mul_ediv_add_emod (x - v) c
      have d2 := Int.emod_nonneg (x - v) (show c ≠ 0 by omega)
      have d3 := Int.emod_lt_of_pos (x - v) hc
      generalize ht : (x - v) / c = t at *
      have t0 : t < 0 := by
        by_cases z : t < 0
        · exact z
        · have := Int.mul_nonneg (Int.le_of_lt hc) (show 0 ≤ t by omega)
          omega
      have eR : ((-t).toNat : Int) = -t := by omega
      have ctR : c * t = -(((-t).toNat : Nat) : Int) * c := by
        rw [eR, Int.neg_neg, Int.mul_comm]
      refine ⟨(-t).toNat, ?_, ?_, fun m hm => ?_, ?_⟩
      · have e9 : (((-t).toNat * q : Nat) : Int) = -t * (q : Int) := by rw [Int.natCast_mul, eR]
        omega
      · rw [eR]
        rw [Int.neg_mul, Int.mul_comm t c]
        omega
      · have hm2 : (m : Int) ≤ -t - 1 := by omega
        have := Int.mul_le_mul_of_nonneg_right hm2 (Int.le_of_lt hc)
        rw [Int.sub_mul, Int.neg_mul, Int.mul_comm t c, Int.one_mul] at this
        omega
      · rw [eR]
        have h6 : (x - v) * c ≤ (x - v) * 1 := Int.mul_le_mul_of_nonpos_left (show x - v ≤ 0 by omega) (show (1 : Int) ≤ c by omega)
        rw [Int.mul_one] at h6
        have h7 := Int.le_ediv_of_mul_le hc h6
        rw [ht] at h7
        omega
    obtain ⟨R, eR, hR1, hR2, hR3⟩ := cd k0 hk0
    refine .inr ⟨gs.length - q + k0 + R * q, congrArg V.int eR, ?_, ?_, fun n hn => ?_⟩
    · have hxk := hxb (gs.length - q + k0)
      have : R ≤ 10 ^ 31 := by omega
      have : R * q ≤ 10 ^ 31 * 100 := Nat.mul_le_mul this (by omega)
      omega
    · rw [← val, val_tail fpl (by omega)]
      have e1 : gs.length - q + k0 + R * q - (gs.length - q) = k0 + R * q := by omega
      rw [e1, Nat.add_mul_mod_self_right, Nat.mod_eq_of_lt hk0, Nat.add_mul_div_right _ _ (by omega), Nat.div_eq_of_lt hk0, Nat.zero_add]
      exact hR1
    · rw [← val]
      by_cases hn2 : n < gs.length
      · rw [val_head hn2]
        exact hall n hn2
      · rw [val_tail fpl (by omega)]
        have hm := Nat.mod_lt (n - (gs.length - q)) (show 0 < q by omega)
        obtain ⟨R', eR', _, hR2', _⟩ := cd ((n - (gs.length - q)) % q) hm
        refine hR2' _ ?_
        have h7 := hmin _ hm
        rw [eR, eR'] at h7
        have h8 : gs.length - q + k0 + R * q ≤ gs.length - q + (n - (gs.length - q)) % q + R' * q := by omega
        have h9 := Nat.div_add_mod (n - (gs.length - q)) q
        rw [Nat.mul_comm] at h9
        have h10 : (n - (gs.length - q)) / q * q < R' * q := by omega
        exact Nat.lt_of_mul_lt_mul_right h10
/-- what first hands back is one thing -/
theorem first_one {f : List Int × Nat × Int} {v : Int} {r r' : V} (h : FirstOk f v r) (h' : FirstOk f v r') (hp : 1 ≤ f.2.1) (hpl : f.2.1 ≤ f.1.length) : r = r' := by
  rcases h with ⟨i, rfl, hi, hvi, hj⟩ | ⟨hall, h⟩
  · rcases h' with ⟨i', rfl, hi', hvi', hj'⟩ | ⟨hall', _⟩
    · rcases Nat.lt_trichotomy i i' with z | z | z
      · have := hj' i z; omega
      · rw [z]
      · have := hj i' z; omega
    · have := hall' i hi; omega
  · rcases h' with ⟨i', rfl, hi', hvi', hj'⟩ | ⟨hall', h'⟩
    · have := hall i' hi'; omega
    · rcases h with ⟨rfl, hc⟩ | ⟨b, rfl, hc, ⟨k, hk, ek⟩, hm⟩
      · rcases h' with ⟨rfl, hc'⟩ | ⟨b', rfl, hc', _⟩
        · rfl
        · omega
      · rcases h' with ⟨rfl, hc'⟩ | ⟨b', rfl, hc', ⟨k', hk', ek'⟩, hm'⟩
        · omega
        · have a := hm k' hk'
          have b := hm' k hk
          rw [← ek'] at a
          rw [← ek] at b
          exact congrArg V.int (by omega)

theorem big60 : (10 : Nat) ^ 60 < 2 ^ 1000 := by
  have h := big_sm (x := ((10 ^ 60 : Nat) : Int)) (by rw [Int.natAbs_natCast]; exact Nat.le_refl _)
  unfold Sm at h
  rw [Int.natAbs_natCast] at h
  exact h
end K06
namespace K06
open PySem PySem.Spec PyProof.Rows L2 Sp
variable {P : Program} {w : World} {K : PySem.W.Frag} {mg : Str → Option Value} {base : Heap}
def sp__law_first_right (K : PySem.W.Frag) : L2.Sp := fun vs H Q _ => on3 vs fun m r v => onRef m fun m => onRef r fun r => onInt v fun v => ∃ f, FormAt K H m (formOf f.1 f.2.1 f.2.2) ∧ RowAt K H r f ∧ RAsk f ∧ v.natAbs ≤ 10 ^ 30 ∧ ∀ H', Same H H' → Q (.bl true) H'
abbrev N__law_first_right : List Str := ["_law_mine", "_law_row_here", "_law_value_here", "_law_told", "_law_n"]
theorem sc__law_first_right : FnScope N__law_first_right ["_law_mine", "_law_row_here", "_law_value_here"] (defScope s__law_first_right) := ⟨rfl, rfl, rfl, by decide +kernel, rfl, by decide +kernel, by decide +kernel⟩
def t__law_first_right (K : PySem.W.Frag) : TS :=
    tSeq (tAsg (tMeth (He.ga K "Form") "first" (sp_Form_first K) [] E0 (fV 0) (tCons (fV 2) tNil)) (gName 3))
    (tSeq (tIfS (fT (tOp fIsN (fV 3) (tC .non)))
    (tRet (fAndV (tOp fLe (tOp (fIxT K) (fV 1) (tC (.int 2))) (tC (.int 0))) (tOp fLt (tCB (fMax K) (tCons (tOp (fIxT K) (fV 1) (tC (.int 0))) tNil)) (fV 2)))) tNext)
    (tSeq (tIfS (tOr (tNot (fT (tCB (fIsi K) (tCons (fV 3) (tCons (tC (.ty "int")) tNil))))) (tOr (fT (tCB (fIsi K) (tCons (fV 3) (tCons (tC (.ty "bool")) tNil)))) (tOr (fT (tOp fLt (fV 3) (tC (.int 0)))) (fT (tOp fLt (tCall (sp__law_at K) [] E0 (tCons (fV 1) (tCons (fV 3) tNil))) (fV 2))))))
    (tRet (tC (.bl false))) tNext)
    (tRet (tCB (fAll K) (tCons (tLc (iList K (tCall (sp__law_before K) [] E0 (tCons (fV 1) (tCons (fV 3) tNil)))) (gName 4) tYes (tOp fLt (tCall (sp__law_at K) [] E0 (tCons (fV 1) (tCons (fV 4) tNil))) (fV 2)) [4]) tNil)))))
abbrev Pure__law_first_right (K : PySem.W.Frag) : Prop := ∀ (vs : List V) (H : Hp) (Q : VK) (E : XK), sp__law_first_right K vs H Q E → t__law_first_right K { nx := fun _ H' => Q .non H', rt := Q } (L2.start N__law_first_right vs) H
theorem pure__law_first_right (T : Tx K mg) : Pure__law_first_right K := by
  intro vs H Q E h
  obtain ⟨x1, x2, x3, rfl, h⟩ := on3_ex h
  obtain ⟨m, rfl, h⟩ := onRef_ex h
  obtain ⟨r, rfl, h⟩ := onRef_ex h
  obtain ⟨v, rfl, f, hf, hrow, ra, hv, hQ⟩ := onInt_ex h
  obtain ⟨dx, t, l', hm, _⟩ := id hf
  refine ⟨m, dx, _, rfl, hm, rfl, _, hf, ra.fask, big_sn (by omega), fun res H1 e1 hres => ?_⟩
  have hrow1 := hrow.same e1
  obtain ⟨l, hr, hl⟩ := id hrow1
  rcases first_tells ra hv hres with ⟨rfl, hs, hall⟩ | ⟨N, rfl, hN, hge, hlt⟩
  · refine ⟨_, SqT.of hr, _, rfl, ite2 (fun _ => ?_) (fun z => absurd (decide_eq_true hs) z)⟩
    refine ⟨_, SqT.of hr, _, rfl, f.1, SqL.of hl, by have := ra.p1; have := ra.pl; omega, fun mx hmx _ => ?_⟩
    have hlt : mx < v := by
      obtain ⟨i, hi, rfl⟩ := List.mem_iff_getElem.mp hmx
      have := hall i
      rw [val_head hi, List.getD_eq_getElem?_getD, List.getElem?_eq_getElem hi] at this
      exact this
    have e : decide (mx < v) = true := decide_eq_true hlt
    show Q (.bl (decide (mx < v))) H1
    rw [e]
    exact hQ H1 e1
  · refine ⟨_, _, true, .ty "int", .base (.int _), kit_ty (by decide +kernel), ?_⟩
    refine ⟨_, _, false, .ty "bool", .base (.int _), kit_ty (by decide +kernel), ?_⟩
    refine ⟨f, N, hrow1, rfl, ra.ask, ?_, fun H2 e2 => ?_⟩
    · exact Nat.lt_of_le_of_lt (Nat.le_trans hN (by decide)) (show 10 ^ 60 < 2 ^ 1000 from big60)
    refine ite2 (fun z => absurd (of_decide_eq_true z) (by show ¬ valueAt f.1 f.2.1 f.2.2 N < v; omega)) (fun _ => ?_)
    refine ⟨f, N, hrow1.same e2, Nat.le_trans ra.pl ra.len, rfl, fun q ks H3 e3 hq hks hkl => ?_⟩
    refine ⟨q, rfl, ⟨_, SqL.of hq⟩, fun D hD => ?_⟩
    refine lc_listF (K := K) (a := q) (xs := ks.map fun k => V.int (k : Nat)) (fun _ => .bl true) hD (by rw [List.length_map]; omega) (SqL.of hq) (fun i x H4 hx e4 R hR => ?_) (fun H4 e4 hD4 => ?_)
    · obtain ⟨k, hk, rfl⟩ := List.mem_map.mp (List.mem_of_getElem? hx)
      have hkN := hks k hk
      refine ⟨rfl, f, k, ((hrow1.same e2).same e3).same e4, rfl, ra.ask, ?_, fun H5 e5 => ?_⟩
      · exact Nat.lt_of_le_of_lt (Nat.le_trans (Nat.le_of_lt hkN) (Nat.le_trans hN (by decide))) (show 10 ^ 60 < 2 ^ 1000 from big60)
      have e : decide (valueAt f.1 f.2.1 f.2.2 k < v) = true := decide_eq_true (hlt k hkN)
      show R (.bl (decide (valueAt f.1 f.2.1 f.2.2 k < v))) H5
      rw [e]
      exact hR H5 e5
    · refine ⟨ks.map fun _ => true, SqL.of (by rw [hD4, List.map_map, List.map_map]; rfl), ?_⟩
      have e : (ks.map fun _ => true).all id = true := by simp
      rw [e]
      exact hQ H4 (((e1.trans e2).trans e3).trans e4)
theorem b__law_first_right (T : Tx K mg) : Binds K (fdA K (He.fAd K d__law_first_right.at_)) ["_law_mine", "_law_row_here", "_law_value_here"] [] := T.F__law_first_right.bindsN fun _ _ _ _ _ _ us hl => match us, hl with | [_, _, _], _ => rfl
theorem ok__law_first_right (T : Tx K mg) : FnOk P w K mg base CX0 3 (He.fAd K d__law_first_right.at_) (fdA K (He.fAd K d__law_first_right.at_)) ["_law_mine", "_law_row_here", "_law_value_here"] (sp__law_first_right K) :=
  T.F__law_first_right.ok sc__law_first_right (fun _ _ _ _ h => on3_len h) (fun cdv A outer s H vs Q E hr h => ⟨t__law_first_right K, PSs.nox ((pss_cons (ps_set (i := 3) sc__law_first_right.nd rfl (.inl rfl) (pe_meth (vv 0) T.cl_Form T.m_Form_first (ok_Form_first T) (hr.mono (by decide)) (b_Form_first T) .nil pass0 (pa_cons (vv 2) pa_nil)))
      (pss_cons (ps_if (t_cmp o_isN (vv 3) pe_non (nomark _))
      (pss_one (ps_ret (e_and (pe_cmpR o_le (pe_ix x_tup (vv 1) pe_int (fun _ _ => rfl)) pe_int (nomark _)) (pe_one (pe_cmpR o_lt (pe_callB (c_max rfl) (by rfl) T.b_max boot_max (pa_cons (pe_ix x_tup (vv 1) pe_int (fun _ _ => rfl)) pa_nil)) (vv 2) (nomark _)))))) pss_nil)
      (pss_cons (ps_if (PW.pt (pw_or (pt_not (t_val (pe_callB c_isi (by rfl) T.b_isinstance boot_isinstance (pa_cons (vv 3) (pa_cons (pe_bltn (by rfl) T.b_int boot_int rfl) pa_nil))))) (pw_or (t_val (pe_callB c_isi (by rfl) T.b_isinstance boot_isinstance (pa_cons (vv 3) (pa_cons (pe_bltn (by rfl) T.b_bool boot_bool rfl) pa_nil)))) (pw_or (t_cmp o_lt (vv 3) pe_int (nomark _)) (pw_or1 (t_cmp o_lt (pe_call (ok__law_at T) (hr.mono (by decide)) (by rfl) T.g__law_at T.F__law_at.kp (b__law_at T) .nil pass0 (pa_cons (vv 1) (pa_cons (vv 3) pa_nil))) (vv 2) (nomark _)))))))
      (pss_one (ps_ret pe_bl)) pss_nil)
      (pss_one (ps_ret (pe_callB (c_all rfl) (by rfl) T.b_all boot_all (pa_cons (pe_lc (own := [("_law_n", 4)]) (g := gName 4) (by rfl) sc__law_first_right.nd (pi_list (pe_call (ok__law_before T) (hr.mono (by decide)) (by rfl) T.g__law_before T.F__law_before.kp (b__law_before T) .nil pass0 (pa_cons (vv 1) (pa_cons (vv 3) pa_nil)))) (blkOk_by (own := [("_law_n", 4)]) (N := N__law_first_right) (sc := defScope s__law_first_right) (by decide +kernel)) (fun _ _ _ _ _ => (pg_name (i := 4) sc__law_first_right.nd rfl (.inl rfl))) (fun _ _ _ _ _ => pts_nil) (fun _ _ _ _ _ => (pe_cmpR o_lt (pe_call (ok__law_at T) (hr.mono (by decide)) (by rfl) T.g__law_at T.F__law_at.kp (b__law_at T) .nil pass0 (pa_cons (vv 1) (pa_cons (vv 4) pa_nil))) (vv 2) (nomark _)))) pa_nil)))))))), pure__law_first_right T vs H Q E h⟩)

def sp__law_right (K : PySem.W.Frag) : L2.Sp := fun vs H Q _ => on1 vs fun x => onRef x fun p => Pool H p ∧ ∀ H', Kp p H H' → Q (.bl true) H'
abbrev N__law_right : List Str := ["_law_pool", "_law_row_here", "_law_mine", "_law_at_here", "_law_some", "_law_number"]
theorem sc__law_right : FnScope N__law_right ["_law_pool"] (defScope s__law_right) := ⟨rfl, rfl, rfl, by decide +kernel, rfl, by decide +kernel, by decide +kernel⟩
def t__law_right (K : PySem.W.Frag) : TS :=
    tSeq (tAsg (tCall (sp__law_row K) [] E0 (tCons (fV 0) (tCons (tCall (sp__law_pick K) [] E0 (tCons (fV 0) (tCons (tLst (tCons (tC (.int 1)) (tCons (tC (.int 3)) (tCons (tC (.int 6)) (tCons (tC (.int 12)) tNil))))) tNil))) tNil))) (gName 1))
    (tSeq (tAsg (tCall (sp__law_form K) [] E0 (tCons (fV 0) (tCons (fV 1) tNil))) (gName 2))
    (tSeq (tAsg (tCall (sp__law_draw K) [] E0 (tCons (fV 0) (tCons (tC (.int 40)) tNil))) (gName 3))
    (tSeq (tAsg (tLst (tCons (tCall (sp__law_at K) [] E0 (tCons (fV 1) (tCons (fV 3) tNil))) (tCons (tOp fAdd (tCall (sp__law_at K) [] E0 (tCons (fV 1) (tCons (fV 3) tNil))) (tC (.int 1))) (tCons (tOp fSub (tCall (sp__law_at K) [] E0 (tCons (fV 1) (tCons (fV 3) tNil))) (tC (.int 1))) (tCons (tCB (fMax K) (tCons (tOp (fIxT K) (fV 1) (tC (.int 0))) tNil)) (tCons (tOp fAdd (tCB (fMax K) (tCons (tOp (fIxT K) (fV 1) (tC (.int 0))) tNil)) (tC (.int 1))) (tCons (tCB (fMin K) (tCons (tOp (fIxT K) (fV 1) (tC (.int 0))) tNil)) tNil))))))) (gName 4))
    (tSeq (tAsg (tOp fCatL (fV 4) (tLst (tCons (tC (.int 0)) (tCons (tOp fAdd (tOp fPow (tC (.int 10)) (tC (.int 25))) (tCall (sp__law_draw K) [] E0 (tCons (fV 0) (tCons (tC (.int 1000)) tNil)))) (tCons (tUn fNeg (tOp fPow (tC (.int 10)) (tC (.int 25)))) (tCons (tOp fAdd (tCB (fMax K) (tCons (tOp (fIxT K) (fV 1) (tC (.int 0))) tNil)) (tCall (sp__law_draw K) [] E0 (tCons (fV 0) (tCons (tOp fPow (tC (.int 10)) (tC (.int 6))) tNil)))) tNil)))))) (gName 4))
    (tSeq (tIfS (tNot (fT (tCB (fAll K) (tCons (tLc (iList K (fV 4)) (gName 5) tYes (tCall (sp__law_first_right K) [] E0 (tCons (fV 2) (tCons (fV 1) (tCons (fV 5) tNil)))) [5]) tNil))))
    (tRet (tC (.bl false))) tNext)
    (tRet (tOp fEq (tMethK (He.ga K "Form") "first" (List.length (["value"] : List Str)) (sp_Form_first K) gV_Form_first_value E0 (fV 2) (tCons (tCB (fMax K) (tCons (tOp (fIxT K) (fV 1) (tC (.int 0))) tNil)) tNil)) (tMeth (He.ga K "Form") "first" (sp_Form_first K) [] E0 (fV 2) (tCons (tCB (fMax K) (tCons (tOp (fIxT K) (fV 1) (tC (.int 0))) tNil)) tNil)))))))))
abbrev Pure__law_right (K : PySem.W.Frag) : Prop := ∀ (vs : List V) (H : Hp) (Q : VK) (E : XK), sp__law_right K vs H Q E → t__law_right K { nx := fun _ H' => Q .non H', rt := Q } (L2.start N__law_right vs) H
theorem FirstOk.shape {f : List Int × Nat × Int} {v : Int} {r : V} (h : FirstOk f v r) : r = .non ∨ ∃ z, r = .int z := by
  rcases h with ⟨i, rfl, _⟩ | ⟨_, ⟨rfl, _⟩ | ⟨b, rfl, _⟩⟩
  · exact .inr ⟨_, rfl⟩
  · exact .inl rfl
  · exact .inr ⟨_, rfl⟩
theorem RAsk.at_le {f : List Int × Nat × Int} (ra : RAsk f) {n : Nat} (hn : n ≤ 1000) : (valueAt f.1 f.2.1 f.2.2 n).natAbs ≤ 10 ^ 24 := by
  obtain ⟨ns, p, s⟩ := f
  obtain ⟨h1, h2, h3, h4, h5⟩ := ra
  dsimp only at *
  unfold valueAt
  split
  · exact Nat.le_trans (getD_le h4 _) (by decide)
  · have a := getD_le h4 (ns.length - p + (n - (ns.length - p)) % p)
    have b : (n - (ns.length - p)) / p ≤ 1000 := Nat.le_trans (Nat.div_le_self _ _) (by omega)
    have c : (((n - (ns.length - p)) / p : Nat) * s).natAbs ≤ 1000 * 10 ^ 20 := by
      rw [Int.natAbs_mul, Int.natAbs_natCast]
      exact Nat.mul_le_mul b h5
    omega
theorem pure__law_right (T : Tx K mg) : Pure__law_right K := by
  intro vs H Q E h
  obtain ⟨x1, rfl, h⟩ := on1_ex h
  obtain ⟨p, rfl, hp, hQ⟩ := onRef_ex h
  refine ⟨by show 4 ≤ sizeLine; decide, fun q0 hq0 => ?_⟩
  refine ⟨hp.same (Same.upd hq0), _, SqL.of upd_same, hp.ne hq0, by simp, by simp, fun i v H1 hv hp1 hk1 => ?_⟩
  obtain ⟨w', rfl, hw1, hw2⟩ : ∃ w' : Int, v = .int w' ∧ 1 ≤ w' ∧ w' ≤ 30 := by
    have hm := List.mem_of_getElem? hv
    simp only [List.mem_cons, List.not_mem_nil, or_false] at hm
    rcases hm with rfl | rfl | rfl | rfl <;> exact ⟨_, rfl, by decide, by decide⟩
  refine ⟨hp1, hw1, hw2, fun r f H2 hp2 hk2 hrow ra => ?_⟩
  refine ⟨hp2, f, hrow, ra, fun m H3 hp3 hk3 hform => ?_⟩
  have hrow3 := hrow.kp hk3
  refine ⟨hp3, by decide, by decide, fun d H4 hd0 hd1 hp4 hk4 => ?_⟩
  have hrow4 := hrow3.kp hk4
  have hform4 := hform.kp hk4 hp3
  obtain ⟨dn, rfl⟩ : ∃ dn : Nat, d = (dn : Int) := ⟨d.toNat, by omega⟩
  have hb := ra.at_le (n := dn) (by omega)
  have ask := ra.ask
  have hdn : dn < 2 ^ 1000 := Nat.lt_of_le_of_lt (Nat.le_trans (show dn ≤ 10 ^ 60 by omega) (Nat.le_refl _)) big60
  have hlen : 0 < f.1.length := by have := ra.p1; have := ra.pl; omega
  refine ⟨f, dn, hrow4.at, rfl, ask, hdn, fun H5 e5 => ?_⟩
  refine ⟨f, dn, hrow4.at.same e5, rfl, ask, hdn, fun H6 e6 => ?_⟩
  refine ⟨f, dn, (hrow4.at.same e5).same e6, rfl, ask, hdn, fun H7 e7 => ?_⟩
  have e47 := (e5.trans e6).trans e7
  have hrow7 : RowP K H7 p r f := hrow4.kp (Kp.same e47)
  obtain ⟨l, hr7, hl7, hrp, hlp⟩ := id hrow7
  refine ⟨_, SqT.of hr7, _, rfl, f.1, SqL.of hl7, hlen, fun m1 hm1 _ => ?_⟩
  refine ⟨_, SqT.of hr7, _, rfl, f.1, SqL.of hl7, hlen, fun m2 hm2 _ => ?_⟩
  refine ⟨_, SqT.of hr7, _, rfl, f.1, SqL.of hl7, hlen, fun m3 hm3 _ => ?_⟩
  refine ⟨by show 6 ≤ sizeLine; decide, fun q1 hq1 => ?_⟩
  have hp7 := hp4.same e47
  have hq1p := hp7.ne hq1
  refine ⟨⟨by decide, by decide, by decide⟩, hp7.same (Same.upd hq1), by decide, by decide, fun d1 H8 hd10 hd11 hp8 hk8 => ?_⟩
  have hrow8 : RowP K H8 p r f := hrow7.kp ((Kp.new hq1).trans hk8)
  obtain ⟨l', hr8, hl8, _, _⟩ := id hrow8
  have hq8 := hk8 _ _ hq1p upd_same
  refine ⟨⟨by decide, by decide, by decide⟩, _, SqT.of hr8, _, rfl, f.1, SqL.of hl8, hlen, fun m4 hm4 _ => ?_⟩
  refine ⟨⟨by decide, by decide, by decide⟩, hp8, by decide, by decide, fun d2 H9 hd20 hd21 hp9 hk9 => ?_⟩
  have hrow9 : RowP K H9 p r f := hrow8.kp hk9
  refine ⟨by show 4 ≤ sizeLine; decide, fun q2 hq2 => ?_⟩
  have hq9 := hk9 _ _ hq1p hq8
  have e9 := Same.upd (o := .lst [V.int 0, V.int (10 ^ 25 + d1), V.int (-10 ^ 25), V.int (m4 + d2)]) hq2
  refine ⟨_, _, e9 _ _ hq9, upd_same, by show 10 ≤ sizeLine; decide, fun q3 hq3 => ?_⟩
  have hk79 : Kp p H4 H9 := (((Kp.same e47).trans (Kp.new hq1)).trans hk8).trans hk9
  have hform9 := hform4.kp hk79 hp4
  have hvals := fun z hz => ra.vals z hz
  have t6 : Int.toNat 6 = 6 := rfl
  have t25 : Int.toNat 25 = 25 := rfl
  have b1 := hvals m1 hm1
  have b2 := hvals m2 hm2
  have b3 := hvals m3 hm3
  have b4 := hvals m4 hm4
  have hk0 : Kp p H H9 := ((((Kp.new hq0).trans hk1).trans hk2).trans hk3).trans (hk4.trans hk79)
  refine ⟨q3, rfl, ⟨_, SqL.of upd_same⟩, fun D hD => ?_⟩
  refine lc_listF (K := K) (a := q3) (xs := _) (fun _ => .bl true) hD (by show 10 ≤ 1000000; decide) (SqL.of upd_same) (fun i x Ha hx ea R hR => ?_) (fun Ha ea hDa => ?_)
  · obtain ⟨z, rfl, hz⟩ : ∃ z : Int, x = .int z ∧ z.natAbs ≤ 10 ^ 30 := by
      have hmem := List.mem_of_getElem? hx
      simp only [List.mem_append, List.mem_cons, List.not_mem_nil, or_false] at hmem
      rcases hmem with (rfl | rfl | rfl | rfl | rfl | rfl) | (rfl | rfl | rfl | rfl) <;> refine ⟨_, rfl, ?_⟩ <;> simp only [t6, t25] at * <;> omega
    have eb := (e9.trans (Same.upd (o := _) hq3)).trans ea
    exact ⟨rfl, f, hform9.same eb, hrow9.at.same eb, ra, hz, fun Hb e => hR Hb e⟩
  · refine ⟨List.replicate 10 true, SqL.of (by rw [hDa]; rfl), ?_⟩
    have eb := (e9.trans (Same.upd (o := _) hq3)).trans ea
    have hrowa := hrow9.at.same eb
    have hforma := hform9.same eb
    obtain ⟨la, hra, hla⟩ := id hrowa
    obtain ⟨dx, t, l2, hma, _⟩ := id hforma
    refine ⟨⟨dx, _, hma, rfl⟩, _, SqT.of hra, _, rfl, f.1, SqL.of hla, hlen, fun m5 hm5 hx5 => ?_⟩
    have b5 := hvals m5 hm5
    refine ⟨rfl, _, hforma, ra.fask, big_sn (by omega), fun r1 Hb e1 hr1 => ?_⟩
    refine ⟨m, dx, _, rfl, e1 _ _ hma, rfl, _, SqT.of (e1 _ _ hra), _, rfl, f.1, SqL.of (e1 _ _ hla), hlen, fun m6 hm6 hx6 => ?_⟩
    have b6 := hvals m6 hm6
    refine ⟨_, hforma.same e1, ra.fask, big_sn (by omega), fun r2 Hc e2 hr2 => ?_⟩
    have em : m6 = m5 := by
      have a1 := hx5 m6 hm6
      have a2 := hx6 m5 hm5
      omega
    rw [em] at hr2
    have er := first_one hr1 hr2 ra.fask.p1 ra.fask.pl
    subst er
    have fin : Q (.bl true) Hc := hQ Hc (hk0.trans (Kp.same ((eb.trans e1).trans e2)))
    rcases hr1.shape with rfl | ⟨z, rfl⟩
    · exact fin
    · show Q (.bl (decide (V.int z = V.int z))) Hc
      rw [decide_eq_true rfl]
      exact fin
theorem b__law_right (T : Tx K mg) : Binds K (fdA K (He.fAd K d__law_right.at_)) ["_law_pool"] [] := T.F__law_right.bindsN fun _ _ _ _ _ _ us hl => match us, hl with | [_], _ => rfl
theorem ok__law_right (T : Tx K mg) : FnOk P w K mg base CX0 6 (He.fAd K d__law_right.at_) (fdA K (He.fAd K d__law_right.at_)) ["_law_pool"] (sp__law_right K) :=
  T.F__law_right.ok sc__law_right (fun _ _ _ _ h => on1_len h) (fun cdv A outer s H vs Q E hr h => ⟨t__law_right K, PSs.nox ((pss_cons (ps_set (i := 1) sc__law_right.nd rfl (.inr rfl) (pe_call (ok__law_row T) (hr.mono (by decide)) (by rfl) T.g__law_row T.F__law_row.kp (b__law_row T) .nil pass0 (pa_cons (vv 0) (pa_cons (pe_call (ok__law_pick T) (hr.mono (by decide)) (by rfl) T.g__law_pick T.F__law_pick.kp (b__law_pick T) .nil pass0 (pa_cons (vv 0) (pa_cons (pe_lst (pa_cons pe_int (pa_cons pe_int (pa_cons pe_int (pa_cons pe_int pa_nil))))) pa_nil))) pa_nil))))
      (pss_cons (ps_set (i := 2) sc__law_right.nd rfl (.inr rfl) (pe_call (ok__law_form T) (hr.mono (by decide)) (by rfl) T.g__law_form T.F__law_form.kp (b__law_form T) .nil pass0 (pa_cons (vv 0) (pa_cons (vv 1) pa_nil))))
      (pss_cons (ps_set (i := 3) sc__law_right.nd rfl (.inl rfl) (pe_call (ok__law_draw T) (hr.mono (by decide)) (by rfl) T.g__law_draw T.F__law_draw.kp (b__law_draw T) .nil pass0 (pa_cons (vv 0) (pa_cons pe_int pa_nil))))
      (pss_cons (ps_set (i := 4) sc__law_right.nd rfl (.inl rfl) (pe_lst (pa_cons (pe_call (ok__law_at T) (hr.mono (by decide)) (by rfl) T.g__law_at T.F__law_at.kp (b__law_at T) .nil pass0 (pa_cons (vv 1) (pa_cons (vv 3) pa_nil))) (pa_cons (pe_op o_add (pe_call (ok__law_at T) (hr.mono (by decide)) (by rfl) T.g__law_at T.F__law_at.kp (b__law_at T) .nil pass0 (pa_cons (vv 1) (pa_cons (vv 3) pa_nil))) pe_int) (pa_cons (pe_op o_sub (pe_call (ok__law_at T) (hr.mono (by decide)) (by rfl) T.g__law_at T.F__law_at.kp (b__law_at T) .nil pass0 (pa_cons (vv 1) (pa_cons (vv 3) pa_nil))) pe_int) (pa_cons (pe_callB (c_max rfl) (by rfl) T.b_max boot_max (pa_cons (pe_ix x_tup (vv 1) pe_int (fun _ _ => rfl)) pa_nil)) (pa_cons (pe_op o_add (pe_callB (c_max rfl) (by rfl) T.b_max boot_max (pa_cons (pe_ix x_tup (vv 1) pe_int (fun _ _ => rfl)) pa_nil)) pe_int) (pa_cons (pe_callB (c_min rfl) (by rfl) T.b_min boot_min (pa_cons (pe_ix x_tup (vv 1) pe_int (fun _ _ => rfl)) pa_nil)) pa_nil))))))))
      (pss_cons (ps_set (i := 4) sc__law_right.nd rfl (.inl rfl) (pe_op o_catL (vv 4) (pe_lst (pa_cons pe_int (pa_cons (pe_op o_add (pe_op o_pow pe_int pe_int) (pe_call (ok__law_draw T) (hr.mono (by decide)) (by rfl) T.g__law_draw T.F__law_draw.kp (b__law_draw T) .nil pass0 (pa_cons (vv 0) (pa_cons pe_int pa_nil)))) (pa_cons (pe_un o_neg (pe_op o_pow pe_int pe_int)) (pa_cons (pe_op o_add (pe_callB (c_max rfl) (by rfl) T.b_max boot_max (pa_cons (pe_ix x_tup (vv 1) pe_int (fun _ _ => rfl)) pa_nil)) (pe_call (ok__law_draw T) (hr.mono (by decide)) (by rfl) T.g__law_draw T.F__law_draw.kp (b__law_draw T) .nil pass0 (pa_cons (vv 0) (pa_cons (pe_op o_pow pe_int pe_int) pa_nil)))) pa_nil)))))))
      (pss_cons (ps_if (pt_not (t_val (pe_callB (c_all rfl) (by rfl) T.b_all boot_all (pa_cons (pe_lc (own := [("_law_number", 5)]) (g := gName 5) (by rfl) sc__law_right.nd (pi_list (vv 4)) (blkOk_by (own := [("_law_number", 5)]) (N := N__law_right) (sc := defScope s__law_right) (by decide +kernel)) (fun _ _ _ _ _ => (pg_name (i := 5) sc__law_right.nd rfl (.inl rfl))) (fun _ _ _ _ _ => pts_nil) (fun _ _ _ _ _ => (pe_call (ok__law_first_right T) (hr.mono (by decide)) (by rfl) T.g__law_first_right T.F__law_first_right.kp (b__law_first_right T) .nil pass0 (pa_cons (vv 2) (pa_cons (vv 1) (pa_cons (vv 5) pa_nil)))))) pa_nil))))
      (pss_one (ps_ret pe_bl)) pss_nil)
      (pss_one (ps_ret (pe_cmpR o_eq (e_methK0 (vv 2) T.cl_Form T.m_Form_first (ok_Form_first T) (hr.mono (by decide)) (kb_Form_first_value T) pass0 (pk_cons (pe_callB (c_max rfl) (by rfl) T.b_max boot_max (pa_cons (pe_ix x_tup (vv 1) pe_int (fun _ _ => rfl)) pa_nil)) pk_nil)) (pe_meth (vv 2) T.cl_Form T.m_Form_first (ok_Form_first T) (hr.mono (by decide)) (b_Form_first T) .nil pass0 (pa_cons (pe_callB (c_max rfl) (by rfl) T.b_max boot_max (pa_cons (pe_ix x_tup (vv 1) pe_int (fun _ _ => rfl)) pa_nil)) pa_nil)) (nomark _))))))))))), pure__law_right T vs H Q E h⟩)
def sp_law (K : PySem.W.Frag) : L2.Sp := fun vs H Q _ => on1 vs fun x => onRef x fun c => ∃ ns : List Int, SqL K H c (ns.map V.int) ∧ ns.length ≤ 63 ∧ ∀ H', Q (.bl true) H'
abbrev N_law : List Str := ["_law_cells", "_law_k"]
theorem sc_law : FnScope N_law ["_law_cells"] (defScope s_law) := ⟨rfl, rfl, rfl, by decide +kernel, rfl, by decide +kernel, by decide +kernel⟩
def t_law (K : PySem.W.Frag) : TS :=
    tSeq (tIfS (tOr (fT (tOp fNotN (tMeth (He.ga K "Form") "first" (sp_Form_first K) [] E0 (tMake (He.ga K "Form") (sp_Form_init K) dv_Form_1 E0 (tCons (tTup (tCons (tC (.int 0)) (tCons (tC (.int 1)) tNil))) tNil)) (tCons (tC (.int 2)) tNil)) (tC .non))) (fT (tOp fNe (tMeth (He.ga K "Form") "first" (sp_Form_first K) [] E0 (tMake (He.ga K "Form") (sp_Form_init K) dv_Form_3 E0 (tCons (tTup (tCons (tC (.int 0)) (tCons (tC (.int 1)) tNil))) (tCons (tC (.int 1)) (tCons (tC (.int 1)) tNil)))) (tCons (tOp fPow (tC (.int 10)) (tC (.int 30))) tNil)) (tOp fPow (tC (.int 10)) (tC (.int 30))))))
    (tRet (tC (.bl false))) tNext)
    (tRet (tCB (fAll K) (tCons (tLc (iRng1 (tCons (tCB fMax2 (tCons (tC (.int 2)) (tCons (tCB fMin2 (tCons (tCB (fLen K) (tCons (fV 0) tNil)) (tCons (tC (.int 8)) tNil))) tNil))) tNil)) (gName 1) tYes (tCall (sp__law_right K) [] E0 (tCons (tCall (sp__law_source K) [] E0 (tCons (fV 0) (tCons (fV 1) tNil))) tNil)) [1]) tNil)))
abbrev Pure_law (K : PySem.W.Frag) : Prop := ∀ (vs : List V) (H : Hp) (Q : VK) (E : XK), sp_law K vs H Q E → t_law K { nx := fun _ H' => Q .non H', rt := Q } (L2.start N_law vs) H

theorem fo_a : formOf [0, 1] 1 0 = ([0, 1], 1, 0) := by decide
theorem fo_b : formOf [0, 1] 1 1 = ([0], 1, 1) := by decide
theorem fa_small {gs : List Int} {q : Nat} {c : Int} (h1 : 1 ≤ q) (h2 : q ≤ gs.length) (h3 : gs.length ≤ 5000) (h4 : ∀ z ∈ gs, z.natAbs ≤ 10 ^ 60) (h5 : c.natAbs ≤ 10 ^ 60) : FAsk (gs, q, c) := ⟨h1, h2, h3, fun j => big_sn (getD_le h4 j), big_sn h5⟩
theorem fk_a {r : V} (h : FirstOk ([0, 1], 1, 0) 2 r) : r = .non := by
  rcases h with ⟨i, rfl, hi, hv, _⟩ | ⟨_, ⟨rfl, _⟩ | ⟨b, rfl, hc, _⟩⟩
  · match i, hi with
    | 0, _ => exact absurd hv (by decide)
    | 1, _ => exact absurd hv (by decide)
  · rfl
  · exact absurd hc (by decide)
theorem fk_b {r : V} (h : FirstOk ([0], 1, 1) (10 ^ 30) r) : r = .int (10 ^ 30) := by
  rcases h with ⟨i, rfl, hi, hv, _⟩ | ⟨_, ⟨rfl, hc⟩ | ⟨b, rfl, hc, ⟨k, hk, hb⟩, _⟩⟩
  · match i, hi with
    | 0, _ => exact absurd hv (by decide)
  · exact absurd hc (by decide)
  · match k, hk with
    | 0, _ =>
      rw [hb]
      decide
theorem pure_law (T : Tx K mg) : Pure_law K := by
  intro vs H Q E h
  obtain ⟨x1, rfl, h⟩ := on1_ex h
  obtain ⟨c, rfl, ns, hS, hl, hQ⟩ := onRef_ex h
  -- Form((0, 1)).first(2)
  refine ⟨by show 2 ≤ sizeLine; decide, fun q hq x dx hx hdx hne => ?_⟩
  have hqx : q ≠ x := ne_of_none upd_same hx
  have hqd : q ≠ dx := ne_of_none upd_same hdx
  refine ⟨[0, 1], 1, dx, upd_same, by rw [upd_ne hqx, upd_ne hqd]; exact upd_same, rfl, ⟨by decide, by decide, by decide, big_sm (by decide)⟩, big_sm (by decide), fun H2 hk2 hf => ⟨rfl, ?_⟩⟩
  have e2 : Same H H2 := fun b o hb => by
    have hb1 := Same.upd (o := .tup [V.int 0, V.int 1]) hq b o hb
    exact hk2 b o (ne_of_none hb1 hx) (by rw [upd_ne (ne_of_none hb1 hx), upd_ne (ne_of_none hb1 hdx)]; exact hb1)
  rw [fo_a] at hf
  obtain ⟨dx2, t2, l2, hx2, _⟩ := id hf
  refine ⟨x, dx2, _, rfl, hx2, rfl, _, hf, fa_small (by decide) (by decide) (by decide) (by decide) (by decide), big_sn (by decide), fun r H3 e3 hr => ?_⟩
  obtain rfl := fk_a hr
  -- Form((0, 1), 1, 1).first(10 ** 30)
  refine ⟨by show 2 ≤ sizeLine; decide, fun q' hq' x' dx' hx' hdx' hne' => ?_⟩
  have hqx' : q' ≠ x' := ne_of_none upd_same hx'
  have hqd' : q' ≠ dx' := ne_of_none upd_same hdx'
  refine ⟨[0, 1], 1, dx', upd_same, by rw [upd_ne hqx', upd_ne hqd']; exact upd_same, rfl, ⟨by decide, by decide, by decide, big_sm (by decide)⟩, big_sm (by decide), fun H4 hk4 hf4 => ⟨rfl, ?_⟩⟩
  have e4 : Same H3 H4 := fun b o hb => by
    have hb1 := Same.upd (o := .tup [V.int 0, V.int 1]) hq' b o hb
    exact hk4 b o (ne_of_none hb1 hx') (by rw [upd_ne (ne_of_none hb1 hx'), upd_ne (ne_of_none hb1 hdx')]; exact hb1)
  rw [fo_b] at hf4
  obtain ⟨dx5, t5, l5, hx5, _⟩ := id hf4
  refine ⟨x', dx5, _, rfl, hx5, rfl, ⟨by decide, by decide, by decide⟩, _, hf4, fa_small (by decide) (by decide) (by decide) (by decide) (by decide), big_sn (by decide), fun r H5 e5 hr => ?_⟩
  obtain rfl := fk_b hr
  refine ⟨⟨by decide, by decide, by decide⟩, ?_⟩
  have e05 : Same H H5 := ((e2.trans e3).trans e4).trans e5
  have hS5 := e05.seq hS
  refine ⟨_, .inl hS5, ?_⟩
  rw [List.length_map]
  refine ⟨_, rfl, ?_, ?_, fun D hD => ?_⟩
  · split <;> split <;> omega
  · split <;> split <;> omega
  refine lc_rangeF (fun _ => .bl true) hD (by split <;> split <;> omega) (fun i H6 hi e6 R hR => ?_) (fun H6 e6 hD6 => ?_)
  · refine ⟨rfl, ns, e6.seq hS5, by omega, by omega, ?_, fun p H7 hp0 hp7 e7 => ⟨hp7, fun H8 hk8 => hR H8 fun b o hb => hk8 b o (ne_of_none hb hp0) (e7 _ _ hb)⟩⟩
    have : i < 8 + 1 := by
      refine Nat.lt_of_lt_of_le hi ?_
      split <;> split <;> omega
    omega
  · refine ⟨(List.range _).map fun _ => true, SqL.of (by rw [hD6, List.map_map]; rfl), ?_⟩
    have e : ∀ n, ((List.range n).map fun _ => true).all id = true := fun n => by simp
    rw [e]
    exact hQ H6
theorem b_law (T : Tx K mg) : Binds K (fdA K (He.fAd K d_law.at_)) ["_law_cells"] [] := T.F_law.bindsN fun _ _ _ _ _ _ us hl => match us, hl with | [_], _ => rfl
theorem ok_law (T : Tx K mg) : FnOk P w K mg base CX0 7 (He.fAd K d_law.at_) (fdA K (He.fAd K d_law.at_)) ["_law_cells"] (sp_law K) :=
  T.F_law.ok sc_law (fun _ _ _ _ h => on1_len h) (fun cdv A outer s H vs Q E hr h => ⟨t_law K, PSs.nox ((pss_cons (ps_if (PW.pt (pw_or (t_cmp o_notN (pe_meth (pe_make T.mk_Form (ok_Form_init T) (hr.mono (by decide)) (by rfl) T.g_Form (mb_Form_1 T).choose_spec.2 (mb_Form_1 T).choose_spec.1 pass0 (pa_cons (pe_tup (pa_cons pe_int (pa_cons pe_int pa_nil))) pa_nil)) T.cl_Form T.m_Form_first (ok_Form_first T) (hr.mono (by decide)) (b_Form_first T) .nil pass0 (pa_cons pe_int pa_nil)) pe_non (nomark _)) (pw_or1 (t_cmp o_ne (pe_meth (pe_make T.mk_Form (ok_Form_init T) (hr.mono (by decide)) (by rfl) T.g_Form (mb_Form_3 T).choose_spec.2 (mb_Form_3 T).choose_spec.1 pass0 (pa_cons (pe_tup (pa_cons pe_int (pa_cons pe_int pa_nil))) (pa_cons pe_int (pa_cons pe_int pa_nil)))) T.cl_Form T.m_Form_first (ok_Form_first T) (hr.mono (by decide)) (b_Form_first T) .nil pass0 (pa_cons (pe_op o_pow pe_int pe_int) pa_nil)) (pe_op o_pow pe_int pe_int) (nomark _)))))
      (pss_one (ps_ret pe_bl)) pss_nil)
      (pss_one (ps_ret (pe_callB (c_all rfl) (by rfl) T.b_all boot_all (pa_cons (pe_lc (own := [("_law_k", 1)]) (g := gName 1) (by rfl) sc_law.nd (pi_range1 (by rfl) T.b_range (pa_cons (pe_callB (c_max2 rfl) (by rfl) T.b_max boot_max (pa_cons pe_int (pa_cons (pe_callB (c_min2 rfl) (by rfl) T.b_min boot_min (pa_cons (pe_callB c_len (by rfl) T.b_len boot_len (pa_cons (vv 0) pa_nil)) (pa_cons pe_int pa_nil))) pa_nil))) pa_nil)) (blkOk_by (own := [("_law_k", 1)]) (N := N_law) (sc := defScope s_law) (by decide +kernel)) (fun _ _ _ _ _ => (pg_name (i := 1) sc_law.nd rfl (.inl rfl))) (fun _ _ _ _ _ => pts_nil) (fun _ _ _ _ _ => (pe_call (ok__law_right T) (hr.mono (by decide)) (by rfl) T.g__law_right T.F__law_right.kp (b__law_right T) .nil pass0 (pa_cons (pe_call (ok__law_source T) (hr.mono (by decide)) (by rfl) T.g__law_source T.F__law_source.kp (b__law_source T) .nil pass0 (pa_cons (vv 0) (pa_cons (vv 1) pa_nil))) pa_nil)))) pa_nil)))))), pure_law T vs H Q E h⟩)

end K06
open PySem PySem.W PySem.Calls PyProof.Rows
set_option maxHeartbeats 0 in
theorem PySem.Challenge.cw_spillruns_k06_first_by_looking_holds : PySem.Challenge.rw_spillruns_k06_first_by_looking.Holds := by
  w_on; o_law
  refine HandSHeadRun.head_any (r := OpenLaw.row PySem.Challenge.rw_spillruns_k06_first_by_looking) (q := view (OpenLaw.row PySem.Challenge.rw_spillruns_k06_first_by_looking).prog [36]) (H := K06.hk) (ob := K06.ob) (M := 20000) (loose := K06.loose) (d := HandSHeadRun.topDef (OpenLaw.row PySem.Challenge.rw_spillruns_k06_first_by_looking).prog 36) (kwd := []) K06.ob_eq
    (by kernel_rfl) (fun s => by kernel_rfl) K06.run (by kernel_rfl) (by kernel_rfl) (by kernel_rfl) (by rfl) (by first | assumption | decide +kernel) (by decide +kernel) ⟨rfl, rfl, rfl, rfl, rfl, by decide +kernel⟩ ?hw ?hc
  case hw => w_witness2
  case hc =>
    refine LamX.walk_ofTsE (l := PySem.Challenge.rw_spillruns_k06_first_by_looking) (n := 63) (k := 7) (x := "_law_cells") (CX := fun _ => L2.CX0) rfl (by decide) (by kernel_rfl) ⟨rfl, by decide, by decide⟩ ?F (fun _ _ _ _ _ z => z)
    intro w mg fa h Y G hmg0
    obtain ⟨K, KX, c⟩ := Y
    have hmg : mg ("law" : PySem.Str) = some (.ref fa) := by
      have e : (HandSHeadRun.topDef (OpenLaw.row PySem.Challenge.rw_spillruns_k06_first_by_looking).prog 36).name = ("law" : PySem.Str) := by kernel_rfl
      rw [← e]
      exact hmg0
    have T := K06.tx_of KX G c.t.d
    have e := hmg.symm.trans T.g_law
    cases e
    refine ⟨K, KX, K06.fdA K (He.fAd K K06.d_law.at_), [], K06.sp_law K, (fun _ z => nomatch z), (fun _ z => nomatch z), (fun _ z => nomatch z), (fun s v => (L2.FunD.bindsA (ps := ["_law_cells"]) T.F_law fun _ _ _ _ _ _ us hl => match us, hl with | [_], _ => rfl) s [v] rfl), (fun H a ns hl _ _ hS => ⟨ns, hS, hl, fun _ => rfl⟩), fun base _ _ _ => K06.ok_law T⟩


