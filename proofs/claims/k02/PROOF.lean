import PyProof.Rows.All
import Wide.All
import OpenK.AllK
import Wide.FinOn
import HandS.ForMost
import HandS.Exc
import HandS.ExcInit
import HandS.IsInst
import HandS.Style
import HandS.Wide
import HandS.Gcd
import HandS.Deep
import HandS.EndBits
import HandS.Flow
import KE.KMathG
import Flt.RightSqrt
import HandS.ForExc
import PySem.Challenge.RW_alikeplay_k02_roots_and_wraps
set_option Elab.async false
set_option linter.all false
set_option maxRecDepth 100000
/-! QL: readings that compute. Every rule here has a reading that weak head reduction unfolds up to a branch, a quantifier or a conjunction. -/
namespace Q
open PySem PySem.Spec PyProof.Rows L2

/-- two ways -/
structure Br (c A B : Prop) : Prop where
  t : c → A
  f : ¬ c → B
theorem Br.tt {c A B : Prop} (h : c) (a : A) : Br c A B := ⟨fun _ => a, fun n => absurd h n⟩
theorem Br.ff {c A B : Prop} (h : ¬ c) (b : B) : Br c A B := ⟨fun x => absurd x h, fun _ => b⟩

/-! ### slots -/
def nth : L2.St → Nat → Option V
  | [], _ => none
  | x :: _, 0 => x
  | _ :: σ, n + 1 => nth σ n
theorem nth_eq : ∀ (σ : L2.St) (i : Nat) (v : V), nth σ i = some v → σ[i]? = some (some v)
  | [], _, _, h => by cases h
  | x :: _, 0, v, h => by
    have e : x = some v := h
    subst e
    rfl
  | _ :: σ, n + 1, v, h => by
    have := nth_eq σ n v h
    simpa using this
def rVar (i : Nat) : TE := fun σ H Q => match nth σ i with
  | some v => Q v H
  | none => False
def setK : L2.St → Nat → V → (L2.St → Prop) → Prop
  | [], _, _, k => k []
  | _ :: σ, 0, v, k => k (some v :: σ)
  | x :: σ, n + 1, v, k => setK σ n v fun σ' => k (x :: σ')
theorem setK_eq : ∀ (σ : L2.St) (i : Nat) (v : V) (k : L2.St → Prop), setK σ i v k → k (σ.set i (some v))
  | [], _, _, _, h => h
  | _ :: σ, 0, _, _, h => h
  | x :: σ, n + 1, v, k, h => setK_eq σ n v (fun σ' => k (x :: σ')) h
def gSet (i : Nat) : TG := fun v σ H Q => setK σ i v fun σ' => Q σ' H
/-- the slots at the start -/
def noneK : Nat → (L2.St → Prop) → Prop
  | 0, k => k []
  | n + 1, k => noneK n fun σ => k (none :: σ)
def stK : Nat → List V → (L2.St → Prop) → Prop
  | n, [], k => noneK n k
  | 0, v :: vs, k => stK 0 vs fun σ => k (some v :: σ)
  | n + 1, v :: vs, k => stK n vs fun σ => k (some v :: σ)
theorem noneK_eq : ∀ (n : Nat) (k : L2.St → Prop), noneK n k → k (List.replicate n none)
  | 0, _, h => h
  | n + 1, k, h => noneK_eq n (fun σ => k (none :: σ)) h
theorem stK_eq : ∀ (n : Nat) (vs : List V) (k : L2.St → Prop), stK n vs k → k (vs.map some ++ List.replicate (n - vs.length) none)
  | n, [], k, h => by simpa using noneK_eq n k (by cases n <;> exact h)
  | 0, v :: vs, k, h => by simpa using stK_eq 0 vs (fun σ => k (some v :: σ)) h
  | n + 1, v :: vs, k, h => by simpa using stK_eq n vs (fun σ => k (some v :: σ)) h

section
variable {X : Cx}
theorem PE.imp {e : Expr} {t t' : TE} (h : PE X e t) (i : ∀ σ H Q, t' σ H Q → t σ H Q) : PE X e t' := ⟨fun pins s σ H Q I q => h.run pins s σ H Q I (i _ _ _ q)⟩
theorem PS.imp {e : Stmt} {t t' : TS} (h : PS X e t) (i : ∀ D σ H, t' D σ H → t D σ H) : PS X e t' := ⟨fun pins s σ H D I q => h.run pins s σ H D I (i _ _ _ q)⟩
theorem qv (i : Nat) {x : Str} {pos : Pos} (hN : X.N[i]? = some x := by rfl) (hv : Vis X.env.scope x := by first | exact Or.inl rfl | exact Or.inr (Or.inl rfl) | exact Or.inr (Or.inr rfl)) (hd : (x == ("__debug__" : Str)) = false := by decide)
    (hcd : (x == ("__classdict__" : Str)) = false := by decide) : PE X (.Name x pos) (rVar i) :=
  PE.imp (pe_var hN hv hd hcd) fun σ H Q h => by
    unfold rVar at h
    split at h
    · rename_i v e
      exact ⟨v, nth_eq _ _ _ e, h⟩
    · exact h.elim
theorem qgn {i : Nat} {x : Str} {pos : Pos} (hN : X.N.Nodup) (hi : X.N[i]? = some x) (hx : Loc X.env.scope x) (hf : X.fn x = true ∨ X.env.scope.names.lookup x = some .local := by first | exact .inl rfl | exact .inr rfl | assumption) : PG X (.Name x pos) (gSet i) :=
  ⟨fun pins s σ H v u Q I r h => (pg_name hN hi hx hf).run pins s σ H v u Q I r (setK_eq _ _ _ _ h)⟩
/-- name = e -/
def sSet (te : TE) (i : Nat) : TS := fun D σ H => te σ H fun x H1 => setK σ i x fun σ' => D.nx σ' H1
theorem qset {i : Nat} {x : Str} {e : Expr} {te : TE} {pos pos' : Pos} (hN : X.N.Nodup) (hi : X.N[i]? = some x) (hx : Loc X.env.scope x) (he : PE X e te) (hs : swapsWith e (some (.Name x pos')) pos.line X.env = pure false := by rfl) (hf : X.fn x = true ∨ X.env.scope.names.lookup x = some .local := by first | exact .inl rfl | exact .inr rfl | assumption) :
    PS X (.Assign [.Name x pos'] e pos) (sSet te i) := by
  refine ⟨fun pins s σ H D I h => ?_⟩
  refine wpAny_Assign_Name (thn (he.run pins s σ H _ I h) fun v s1 ⟨y, H1, I1, r1, q1⟩ => ?_) hs
  exact store_ok I1 hN hi hx r1 (fun s2 I2 => ⟨_, H1, I2, setK_eq _ _ _ _ q1⟩) hf

/-! ### operators -/
theorem OpR.imp {f : Value → Value → Sem Value} {r r' : R2} (h : OpR X f r) (i : ∀ x y H Q, r' x y H Q → r x y H Q) : OpR X f r' := fun pins s σ H x y v u Q I rx ry q => h pins s σ H x y v u Q I rx ry (i _ _ _ _ q)
theorem CallR.imp {f : Value} {r r' : List V → Hp → VK → Prop} (h : CallR X f r) (i : ∀ xs H Q, r' xs H Q → r xs H Q) : CallR X f r' := fun pins s σ H xs us Q I rx q => h pins s σ H xs us Q I rx (i _ _ _ q)
/-- ints in, a value out -/
def mI (C : Int → Int → Prop) (g : Int → Int → V) : R2 := fun x y H Q => match x, y with
  | .int i, .int j => C i j ∧ Q (g i j) H
  | _, _ => False
def mI0 (g : Int → Int → V) : R2 := fun x y H Q => match x, y with
  | .int i, .int j => Q (g i j) H
  | _, _ => False
theorem mI_imp {C : Int → Int → Prop} {g : Int → Int → V} (x y : V) (H : Hp) (Q : VK) (h : mI C g x y H Q) : rI C g x y H Q := by
  cases x <;> cases y <;> first | exact h.elim | exact ⟨_, _, rfl, rfl, h.1, h.2⟩
theorem mI0_imp {g : Int → Int → V} (x y : V) (H : Hp) (Q : VK) (h : mI0 g x y H Q) : rI0 g x y H Q := by
  cases x <;> cases y <;> first | exact h.elim | exact ⟨_, _, rfl, rfl, h⟩
/-- + : ints, texts, lists, tuples -/
def mAdd (K : PySem.W.Frag) : R2 := fun x y H Q => match x, y with
  | .int i, .int j => Q (.int (i + j)) H
  | .str a, .str b => a.length + b.length ≤ sizeLine ∧ Q (.str (a ++ b)) H
  | .int i, .bl k => Q (.int (i + b2i k)) H
  | .ref l, .ref b => rCat (.ref l) (.ref b) H Q ∨ rCatT K (.ref l) (.ref b) H Q
  | _, _ => False
theorem op_addM : OpR X (binaryOp .Add) (mAdd X.K) := by
  intro pins s σ H x y v u Q I rx ry h
  cases x <;> cases y <;> first
    | exact h.elim
    | exact op_add pins s σ H _ _ v u Q I rx ry ⟨_, _, rfl, rfl, h⟩
    | exact op_add_str pins s σ H _ _ v u Q I rx ry ⟨_, _, rfl, rfl, h.1, h.2⟩
    | exact op_add_ib pins s σ H _ _ v u Q I rx ry ⟨_, _, rfl, rfl, h⟩
    | exact (op_cat.or op_catT) pins s σ H _ _ v u Q I rx ry h
def mSub : R2 := fun x y H Q => match x, y with
  | .int i, .int j => Q (.int (i - j)) H
  | _, _ => False
theorem op_subM : OpR X (binaryOp .Sub) mSub := OpR.imp op_sub fun x y H Q h => by
  cases x <;> cases y <;> first | exact h.elim | exact ⟨_, _, rfl, rfl, h⟩
def CMulA (i j : Int) : Prop := CMul i j ∨ CMulW i j
/-- * : ints, a list or a tuple many times -/
def mMul (K : PySem.W.Frag) : R2 := fun x y H Q => match x, y with
  | .int i, .int j => CMulA i j ∧ Q (.int (i * j)) H
  | .ref l, .int k => rRep (.ref l) (.int k) H Q
  | _, _ => False
theorem op_mulM : OpR X (binaryOp .Mult) (mMul X.K) := by
  intro pins s σ H x y v u Q I rx ry h
  cases x <;> cases y <;> first
    | exact h.elim
    | exact op_rep pins s σ H _ _ v u Q I rx ry h
    | (obtain ⟨c, q⟩ := h
       rcases c with c | c
       · exact op_mul pins s σ H _ _ v u Q I rx ry ⟨_, _, rfl, rfl, c, q⟩
       · exact op_mulW pins s σ H _ _ v u Q I rx ry ⟨_, _, rfl, rfl, c, q⟩)
/-- // : the divisor is not 0 and has less than 9000 bits -/
def CDivA (_ j : Int) : Prop := j ≠ 0 ∧ j.natAbs.log2 < 9000
theorem op_fdivA : OpR X (binaryOp .FloorDiv) (rI CDivA fun i j => .int (i.fdiv j)) := opI fun i j _ _ _ _ _ hc q => floordiv_int hc.1 q (.inl (PyProof.noPylong_of_log2 hc.2))
def mFdiv : R2 := fun x y H Q => match x, y with
  | .int i, .int j => (j ≠ 0 ∧ j.natAbs.log2 < 9000) ∧ Q (.int (i.fdiv j)) H
  | _, _ => False
theorem op_fdivM : OpR X (binaryOp .FloorDiv) mFdiv := OpR.imp op_fdivA fun x y H Q h => by
  cases x <;> cases y <;> first | exact h.elim | exact ⟨_, _, rfl, rfl, h.1, h.2⟩
def mMod : R2 := fun x y H Q => match x, y with
  | .int i, .int j => j ≠ 0 ∧ Q (.int (i.fmod j)) H
  | _, _ => False
theorem op_modM : OpR X (binaryOp .Mod) mMod := OpR.imp op_modN fun x y H Q h => by
  cases x <;> cases y <;> first | exact h.elim | exact ⟨_, _, rfl, rfl, h.1, h.2⟩
def mPow : R2 := fun x y H Q => match x, y with
  | .int i, .int j => (0 ≤ j ∧ j ≤ 1000000 ∧ i.natAbs < 2 ^ 64) ∧ Q (.int (i ^ j.toNat)) H
  | _, _ => False
theorem op_powM : OpR X (binaryOp .Pow) mPow := OpR.imp op_pow fun x y H Q h => by
  cases x <;> cases y <;> first | exact h.elim | exact ⟨_, _, rfl, rfl, h.1, h.2⟩
/-- a written power of written numbers -/
theorem qpowc {i j v : Int} {k1 k2 : Nat} {p1 p2 pos : Pos} (h : 0 ≤ j ∧ j ≤ 1000000 ∧ i.natAbs < 2 ^ 64 ∧ i ^ j.toNat = v) : PE X (.BinOp (.Constant (.int i) k1 p1) .Pow (.Constant (.int j) k2 p2) pos) (tC (.int v)) :=
  PE.imp (pe_op op_pow pe_int pe_int) fun σ H Q q => ⟨_, _, rfl, rfl, ⟨h.1, h.2.1, h.2.2.1⟩, by show Q (.int (i ^ j.toNat)) H; rw [h.2.2.2]; exact q⟩
def mAnd : R2 := fun x y H Q => match x, y with
  | .int i, .int j => Q (.int (Builtin.bitAnd i j)) H
  | _, _ => False
theorem op_andM' : OpR X (binaryOp .BitAnd) mAnd := OpR.imp op_and fun x y H Q h => by
  cases x <;> cases y <;> first | exact h.elim | exact ⟨_, _, rfl, rfl, h⟩
def mShr : R2 := fun x y H Q => match x, y with
  | .int i, .int j => 0 ≤ j ∧ Q (.int (i / 2 ^ j.toNat)) H
  | _, _ => False
theorem op_shrM : OpR X (binaryOp .RShift) mShr := OpR.imp op_shr fun x y H Q h => by
  cases x <;> cases y <;> first | exact h.elim | exact ⟨_, _, rfl, rfl, h.1, h.2⟩
def mNeg : V → Hp → VK → Prop := fun x H Q => match x with
  | .int i => Q (.int (-i)) H
  | _ => False
theorem un_negM : UnR X (unaryOp .USub) mNeg := fun pins s σ H x v Q I rx h => by
  cases x <;> first | exact h.elim | exact un_neg pins s σ H _ v Q I rx ⟨_, rfl, h⟩

/-! ### built-ins -/
def mAbs : List V → Hp → VK → Prop := fun xs H Q => match xs with
  | [.int i] => Q (.int (i.natAbs : Nat)) H
  | _ => False
theorem abs_if (n : Int) : (if n < 0 then -n else n) = (n.natAbs : Int) := by split <;> omega
theorem c_abs : CallR X (.builtin "abs") mAbs := CallR.imp call_abs fun xs H Q h => by
  unfold mAbs at h
  split at h
  · exact ⟨_, rfl, by rw [abs_if]; exact h⟩
  · exact h.elim
def mInt : List V → Hp → VK → Prop := fun xs H Q => match xs with
  | [.int i] => Q (.int i) H
  | [.bl k] => Q (.int (if k then 1 else 0)) H
  | _ => False
theorem c_int : CallR X (.type "int") mInt := CallR.imp call_int1 fun xs H Q h => by
  unfold mInt at h
  split at h
  · exact .inl ⟨_, rfl, h⟩
  · exact .inr ⟨_, rfl, h⟩
  · exact h.elim
/-- what is a list or a tuple of xs -/
def Sq (K : PySem.W.Frag) (H : Hp) (p : Addr) (xs : List V) : Prop := SqL K H p xs ∨ SqT K H p xs
def mLen (K : PySem.W.Frag) : List V → Hp → VK → Prop := fun xs H Q => match xs with
  | [.ref p] => (∃ ys, Sq K H p ys ∧ Q (.int ys.length) H)
  | [.str z] => z.length ≤ sizeLine ∧ Q (.int z.length) H
  | _ => False
theorem c_len : CallR X (.builtin "len") (mLen X.K) := CallR.imp (call_len_seq.or call_len_str) fun xs H Q h => by
  unfold mLen at h
  split at h
  · obtain ⟨ys, a, q⟩ := h
    exact .inl ⟨_, ys, rfl, a, q⟩
  · exact .inr ⟨_, rfl, h.1, h.2⟩
  · exact h.elim
def mMax : List V → Hp → VK → Prop := fun xs H Q => match xs with
  | [.int i, .int j] => Q (.int (if j > i then j else i)) H
  | _ => False
theorem c_max (hc : X.calm = true) : CallR X (.builtin "max") mMax := CallR.imp (call_max2 hc) fun xs H Q h => by
  unfold mMax at h
  split at h
  · exact ⟨_, _, rfl, h⟩
  · exact h.elim
def mMin : List V → Hp → VK → Prop := fun xs H Q => match xs with
  | [.int i, .int j] => Q (.int (if j < i then j else i)) H
  | _ => False
theorem c_min (hc : X.calm = true) : CallR X (.builtin "min") mMin := CallR.imp (call_min2 hc) fun xs H Q h => by
  unfold mMin at h
  split at h
  · exact ⟨_, _, rfl, h⟩
  · exact h.elim
def mGcd : List V → Hp → VK → Prop := fun xs H Q => match xs with
  | [.int a, .int b] => Q (.int ((Nat.gcd a.natAbs b.natAbs : Nat) : Int)) H
  | _ => False
theorem c_gcd : CallR X (.builtin "math.gcd") mGcd := CallR.imp cr_gcd fun xs H Q h => by
  unfold mGcd at h
  split at h
  · exact ⟨_, _, rfl, h⟩
  · exact h.elim
def mIsqrt : List V → Hp → VK → Prop := fun xs H Q => match xs with
  | [.int n] => (0 ≤ n ∧ n < 2 ^ 200) ∧ ∀ r : Int, (0 ≤ r ∧ r * r ≤ n ∧ n < (r + 1) * (r + 1)) → Q (.int r) H
  | _ => False
theorem c_isqrt : CallR X (.builtin "math.isqrt") mIsqrt := by
  intro pins s σ H xs us Q I r h
  unfold mIsqrt at h
  split at h
  · rename_i n
    obtain ⟨⟨h0, h1⟩, q⟩ := h
    obtain ⟨u, rfl, t, rfl⟩ := vals1 r
    have hl : n.toNat.log2 ≤ 200 := PySem.W.mg_log (show n.toNat < 2 ^ (200 + 1) by omega)
    refine call_function_meets PySem.W.MGF.kind_isqrt PySem.W.MGF.plain_isqrt PySem.W.MGF.entry_isqrt (PySem.W.MGF.args_isqrt _) (PySem.W.mg_run_isqrt n t (by omega) (by omega) (by omega)).meets ⟨.int _, H, I.tok _, ⟨_, rfl⟩, q _ ?_⟩
    obtain ⟨a, b⟩ := Float64.isqrt_spec n.toNat
    generalize Float64.isqrt n.toNat = z at *
    have a' : ((z * z : Nat) : Int) ≤ (n.toNat : Int) := by omega
    have b' : (n.toNat : Int) < (((z + 1) * (z + 1) : Nat) : Int) := by omega
    have e : ((z + 1 : Nat) : Int) = (z : Int) + 1 := by omega
    rw [Int.natCast_mul] at a' b'
    rw [e] at b'
    refine ⟨by omega, ?_, ?_⟩ <;> omega
  · exact h.elim
/-- list(x): a new list -/
def mList (K : PySem.W.Frag) : List V → Hp → VK → Prop := fun xs H Q => match xs with
  | [.ref p] => ∃ ys, Sq K H p ys ∧ ∀ l, H l = none → Q (.ref l) (upd H l (.lst ys))
  | _ => False
theorem c_list : CallR X (.type "list") (mList X.K) := CallR.imp call_list_of fun xs H Q h => by
  unfold mList at h
  split at h
  · obtain ⟨ys, a, q⟩ := h
    exact ⟨_, ys, rfl, a, q⟩
  · exact h.elim
/-- tuple(x) -/
def mTuple (K : PySem.W.Frag) : List V → Hp → VK → Prop := fun xs H Q => match xs with
  | [.ref p] => ∃ ys, (SqL K H p ys ∧ ∀ l, H l = none → Q (.ref l) (upd H l (.tup ys))) ∨ (SqT K H p ys ∧ Q (.ref p) H)
  | _ => False
theorem c_tuple : CallR X (.type "tuple") (mTuple X.K) := CallR.imp call_tuple_of fun xs H Q h => by
  unfold mTuple at h
  split at h
  · obtain ⟨ys, q⟩ := h
    exact ⟨_, ys, rfl, q⟩
  · exact h.elim

/-! ### subscripts -/
def mIx (K : PySem.W.Frag) : R2 := fun x y H Q => match x, y with
  | .ref p, .int i => ∃ xs, Sq K H p xs ∧ ∃ v, atI xs i = some v ∧ Q v H
  | .str z, .int i => z.length ≤ sizeLine ∧ ∃ c, atI z.cps.toList i = some c ∧ Q (.str ⟨#[c]⟩) H
  | _, _ => False
theorem ix_M : IxR X (mIx X.K) := by
  intro e1 e2 pins s σ H x y v u Q I rx ry h hp
  cases x <;> cases y <;> first
    | exact h.elim
    | (obtain ⟨z, c, e, q⟩ := h
       exact ix_str e1 e2 pins s σ H _ _ v u Q I rx ry ⟨_, _, _, rfl, rfl, z, e, q⟩ hp)
    | (obtain ⟨xs, a, w, e, q⟩ := h
       rcases a with a | a
       · exact ix_list e1 e2 pins s σ H _ _ v u Q I rx ry ⟨_, _, _, _, rfl, rfl, a, e, q⟩ hp
       · exact ix_tup e1 e2 pins s σ H _ _ v u Q I rx ry ⟨_, _, _, _, rfl, rfl, a, e, q⟩ hp)
/-- xs[i] = v -/
def mSetIx : TSet := fun o i v H Q => match o, i with
  | .ref p, .int k => ∃ xs j, H p = some (.lst xs) ∧ ixN xs.length k = some j ∧ Q (upd H p (.lst (xs.set j v)))
  | _, _ => False
theorem set_M : PSet X mSetIx := by
  intro pins s σ H o i v ov iv u Q I ro ri rv h
  cases o <;> cases i <;> first
    | exact h.elim
    | (obtain ⟨xs, j, a, e, q⟩ := h
       exact set_list pins s σ H _ _ _ ov iv u Q I ro ri rv ⟨_, _, _, _, rfl, rfl, a, e, q⟩)

/-! ### tests, as propositions -/
abbrev PK := Prop → Hp → Prop
abbrev TP := L2.St → Hp → PK → Prop
def PPost (X : Cx) (pins : List (Addr × Obj)) (σ : L2.St) (Q : PK) (b : Bool) (s' : Shared) : Prop := ∃ p H', (b = true ↔ p) ∧ Inv X pins σ H' s' ∧ Q p H'
structure PP (X : Cx) (e : Expr) (t : TP) : Prop where
  run : ∀ (pins : List (Addr × Obj)) (s : Shared) (σ : L2.St) (H : Hp) (Q : PK), Inv X pins σ H s → t σ H Q → wpAny (model X.prog X.w) X.A (isTrue e X.env (eval e X.env)) (PPost X pins σ Q) X.xe s
structure PPW (X : Cx) (e : Expr) (t : TP) : Prop where
  run : ∀ (whole : Sem Value) (pins : List (Addr × Obj)) (s : Shared) (σ : L2.St) (H : Hp) (Q : PK), Inv X pins σ H s → t σ H Q → wpAny (model X.prog X.w) X.A (isTrue e X.env whole) (PPost X pins σ Q) X.xe s
theorem PPW.pp {e : Expr} {t : TP} (h : PPW X e t) : PP X e t := ⟨h.run _⟩
theorem PP.of {e : Expr} {t : TT} (h : PT X e t) : PP X e fun σ H Q => t σ H fun b H' => Q (b = true) H' :=
  ⟨fun pins s σ H Q I q => thn (h.run pins s σ H _ I q) fun b s' ⟨H', I', q'⟩ => ⟨_, H', Iff.rfl, I', q'⟩⟩
/-- .. and back: for the rules that ask a test by Bool -/
def bT (t : TP) : TT := fun σ H Q => t σ H fun p H' => Br p (Q true H') (Q false H')
theorem PP.pt {e : Expr} {t : TP} (h : PP X e t) : PT X e (bT t) :=
  ⟨fun pins s σ H Q I q => thn (h.run pins s σ H _ I q) fun b s' ⟨p, H', e, I', q'⟩ => ⟨H', I', by
    cases b with
    | true => exact q'.t (e.mp rfl)
    | false => exact q'.f fun z => by have := e.mpr z; cases this⟩⟩
/-- a comparison -/
abbrev RP := V → V → Hp → PK → Prop
def OpP (X : Cx) (f : Value → Value → Sem Value) (r : RP) : Prop :=
  ∀ (pins : List (Addr × Obj)) (s : Shared) (σ : L2.St) (H : Hp) (x y : V) (v u : Value) (Q : PK), Inv X pins σ H s → RelV x v → RelV y u → r x y H Q →
    wpAny (model X.prog X.w) X.A (f v u) (fun c s' => ∃ b p H', c = Value.bool b ∧ (b = true ↔ p) ∧ Inv X pins σ H' s' ∧ Q p H') X.xe s
theorem OpP.of {f : Value → Value → Sem Value} {r : R2} {rp : RP} (h : OpR X f r) (i : ∀ x y H (Q : PK), rp x y H Q → r x y H fun z H' => ∃ b p, z = .bl b ∧ (b = true ↔ p) ∧ Q p H') : OpP X f rp :=
  fun pins s σ H x y v u Q I rx ry q => thn (h pins s σ H x y v u _ I rx ry (i _ _ _ _ q)) fun c s' ⟨z, H', I', r', b, p, e, iff, q'⟩ => by
    subst e
    exact ⟨b, p, H', r', iff, I', q'⟩
variable {a b c : Expr} {ta tb tc : TE} {pos : Pos}
def tCmpP (r : RP) (ta tb : TE) : TP := fun σ H Q => ta σ H fun x H1 => tb σ H1 fun y H2 => r x y H2 Q
theorem pp_cmp {op : CmpOp} {r : RP} (ho : OpP X (compareOp op) r) (ha : PE X a ta) (hb : PE X b tb) (hm : behindInMarks op b = false) : PP X (.Compare a [op] [b] pos) (tCmpP r ta tb) := by
  refine ⟨fun pins s σ H Q I h => ?_⟩
  refine wpAny_isTrue_Compare1 (thn (ha.run pins s σ H _ I h) fun v s1 ⟨x, H1, I1, r1, q1⟩ => thn (hb.run pins s1 σ H1 _ I1 q1) fun u s2 ⟨y, H2, I2, r2, q2⟩ =>
    thn (ho pins s2 σ H2 x y v u _ I2 r1 r2 q2) fun c s3 ⟨b, p, H3, e, iff, I3, q3⟩ => ?_) hm
  subst e
  exact wpAny_truthy_bool ⟨p, H3, iff, I3, q3⟩
/-- the value of a comparison, a bool -/
def tCmpV (r : RP) (ta tb : TE) : TE := fun σ H Q => ta σ H fun x H1 => tb σ H1 fun y H2 => r x y H2 fun p H3 => ∀ b : Bool, (b = true ↔ p) → Q (.bl b) H3
theorem pe_cmpP {op : CmpOp} {r : RP} (ho : OpP X (compareOp op) r) (ha : PE X a ta) (hb : PE X b tb) (hm : behindInMarks op b = false) : PE X (.Compare a [op] [b] pos) (tCmpV r ta tb) := by
  refine ⟨fun pins s σ H Q I h => ?_⟩
  refine wpAny_Compare1 (thn (ha.run pins s σ H _ I h) fun v s1 ⟨x, H1, I1, r1, q1⟩ => thn (hb.run pins s1 σ H1 _ I1 q1) fun u s2 ⟨y, H2, I2, r2, q2⟩ =>
    thn (ho pins s2 σ H2 x y v u _ I2 r1 r2 q2) fun c s3 ⟨b, p, H3, e, iff, I3, q3⟩ => ?_) hm
  subst e
  exact ⟨.bl b, H3, I3, rfl, q3 b iff⟩
def pLt : RP := fun x y H Q => match x, y with
  | .int i, .int j => Q (i < j) H
  | .str i, .str j => Q (i.cps.toList < j.cps.toList) H
  | _, _ => False
theorem o_lt : OpP X (compareOp .Lt) pLt := OpP.of (op_lt.or op_lt_str) fun x y H Q h => by
  cases x <;> cases y <;> first
    | exact h.elim
    | exact .inl ⟨_, _, rfl, rfl, _, _, rfl, decide_eq_true_iff, h⟩
    | exact .inr ⟨_, _, rfl, rfl, _, _, rfl, decide_eq_true_iff, h⟩
def pLe : RP := fun x y H Q => match x, y with
  | .int i, .int j => Q (i ≤ j) H
  | _, _ => False
theorem o_le : OpP X (compareOp .LtE) pLe := OpP.of op_le fun x y H Q h => by
  cases x <;> cases y <;> first
    | exact h.elim
    | exact ⟨_, _, rfl, rfl, _, _, rfl, decide_eq_true_iff, h⟩
def pGt : RP := fun x y H Q => match x, y with
  | .int i, .int j => Q (i > j) H
  | _, _ => False
theorem o_gt : OpP X (compareOp .Gt) pGt := OpP.of op_gt fun x y H Q h => by
  cases x <;> cases y <;> first
    | exact h.elim
    | exact ⟨_, _, rfl, rfl, _, _, rfl, decide_eq_true_iff, h⟩
def pGe : RP := fun x y H Q => match x, y with
  | .int i, .int j => Q (i ≥ j) H
  | _, _ => False
theorem o_ge : OpP X (compareOp .GtE) pGe := OpP.of op_ge fun x y H Q h => by
  cases x <;> cases y <;> first
    | exact h.elim
    | exact ⟨_, _, rfl, rfl, _, _, rfl, decide_eq_true_iff, h⟩
/-- ==: scalars by themselves; what holds an object by its data -/
def pEq (K : PySem.W.Frag) : RP := fun x y H Q => match x, y with
  | .int i, .int j => Q (i = j) H
  | .bl i, .bl j => Q (i = j) H
  | .str i, .str j => Q (i = j) H
  | .non, .non => Q True H
  | .non, .int _ => Q False H
  | .int _, .non => Q False H
  | .non, .str _ => Q False H
  | .str _, .non => Q False H
  | .non, .bl _ => Q False H
  | .bl _, .non => Q False H
  | .int _, .str _ => Q False H
  | .str _, .int _ => Q False H
  | .bl _, .str _ => Q False H
  | .str _, .bl _ => Q False H
  | x, y => ∃ d e, Dp K H x d ∧ Dp K H y e ∧ SeqAt.shaped d = true ∧ SeqAt.shaped e = true ∧ Q (PyData.eqv d e = true) H
def pNe (K : PySem.W.Frag) : RP := fun x y H Q => match x, y with
  | .int i, .int j => Q (¬ (i = j)) H
  | .bl i, .bl j => Q (¬ (i = j)) H
  | .str i, .str j => Q (¬ (i = j)) H
  | .non, .non => Q False H
  | .non, .int _ => Q True H
  | .int _, .non => Q True H
  | .non, .str _ => Q True H
  | .str _, .non => Q True H
  | .non, .bl _ => Q True H
  | .bl _, .non => Q True H
  | .int _, .str _ => Q True H
  | .str _, .int _ => Q True H
  | .bl _, .str _ => Q True H
  | .str _, .bl _ => Q True H
  | x, y => ∃ d e, Dp K H x d ∧ Dp K H y e ∧ SeqAt.shaped d = true ∧ SeqAt.shaped e = true ∧ Q (¬ PyData.eqv d e = true) H
theorem o_eq (hu : X.A.units + 64 < cLine) : OpP X (compareOp .Eq) (pEq X.K) := OpP.of (op_eq.or (op_eqD hu)) fun x y H Q h => by
  cases x <;> cases y <;> first
    | exact .inl ⟨rfl, _, _, rfl, by simp, h⟩
    | (obtain ⟨d, e, hd, he, sd, se, q⟩ := h
       exact .inr ⟨d, e, hd, he, sd, se, _, _, rfl, Iff.rfl, q⟩)
theorem o_ne (hu : X.A.units + 64 < cLine) : OpP X (compareOp .NotEq) (pNe X.K) := OpP.of (op_ne.or (op_neD hu)) fun x y H Q h => by
  cases x <;> cases y <;> first
    | exact .inl ⟨rfl, _, _, rfl, by simp, h⟩
    | (obtain ⟨d, e, hd, he, sd, se, q⟩ := h
       exact .inr ⟨d, e, hd, he, sd, se, _, _, rfl, by simp, q⟩)
def pIs : RP := fun x y H Q => match x, y with
  | x, .non => Q (x = .non) H
  | .bl i, .bl j => Q (i = j) H
  | _, _ => False
def pIsN : RP := fun x y H Q => match x, y with
  | x, .non => Q (¬ x = .non) H
  | .bl i, .bl j => Q (¬ i = j) H
  | _, _ => False
theorem o_is : OpP X (compareOp .Is) pIs := OpP.of (op_isN.or op_isBl) fun x y H Q h => by
  cases y <;> first
    | (cases x <;> exact .inl ⟨rfl, _, _, rfl, by simp, h⟩)
    | (cases x <;> first
        | exact h.elim
        | exact .inr ⟨_, _, rfl, rfl, _, _, rfl, by simp, h⟩)
theorem o_isnot : OpP X (compareOp .IsNot) pIsN := OpP.of (op_notN.or op_notBl) fun x y H Q h => by
  cases y <;> first
    | (cases x <;> exact .inl ⟨rfl, _, _, rfl, by simp, h⟩)
    | (cases x <;> first
        | exact h.elim
        | exact .inr ⟨_, _, rfl, rfl, _, _, rfl, by simp, h⟩)

/-! ### truth, and, or, not -/
def TruM (K : PySem.W.Frag) (x : V) (H : Hp) (Q : PK) : Prop := match x with
  | .non => Q False H
  | .bl b => Q (b = true) H
  | .int i => Q (i ≠ 0) H
  | .str y => y.length ≤ sizeLine ∧ Q (y.length ≠ 0) H
  | .ref p => (∃ xs, Sq K H p xs ∧ Q (xs ≠ []) H) ∨ ∃ kvs, H p = some (.dK kvs) ∧ Q (kvs ≠ []) H
  | _ => False
theorem not_isEmpty {α : Type} (xs : List α) : (!xs.isEmpty) = true ↔ xs ≠ [] := by cases xs <;> simp
theorem pp_truth {t : TE} (h : PE X a t) (he : ∀ whole, isTrue a X.env whole = (do let v ← whole; standAt a.pos; holding [v] (truthy v)) := by intro _; rfl) :
    PP X a (fun σ H Q => t σ H fun x H' => TruM X.K x H' Q) := by
  refine ⟨fun pins s σ H Q I hw => ?_⟩
  refine isTrue_plain (thn (h.run pins s σ H _ I hw) fun v s1 ⟨x, H1, I1, r1, q1⟩ => ?_) (he _)
  have go : ∀ (k : Bool) (p : Prop), TruV X.K x H1 k → (k = true ↔ p) → Q p H1 → wpAny (model X.prog X.w) X.A (truthy v) (PPost X pins σ Q) X.xe s1 := fun k p tv iff q =>
    thn (tru_ok pins s1 σ H1 x v (fun b H' => b = k ∧ H' = H1) I1 r1 ⟨k, tv, rfl, rfl⟩) fun b s2 ⟨H2, I2, e1, e2⟩ => by
      subst e1 e2
      exact ⟨p, _, iff, I2, q⟩
  cases x with
  | non => exact go false _ rfl (by simp) q1
  | bl b => exact go b _ rfl Iff.rfl q1
  | int i => exact go (i != 0) _ rfl (by simp) q1
  | str y => exact go _ _ ⟨q1.1, rfl⟩ (by simp) q1.2
  | ref p =>
    have q2 : (∃ xs, Sq X.K H1 p xs ∧ Q (xs ≠ []) H1) ∨ ∃ kvs, H1 p = some (.dK kvs) ∧ Q (kvs ≠ []) H1 := q1
    rcases q2 with ⟨xs, hx | hx, q⟩ | ⟨kvs, hx, q⟩
    · exact go _ _ (.inl ⟨xs, hx, rfl⟩) (not_isEmpty xs) q
    · exact go _ _ (.inr (.inl ⟨xs, hx, rfl⟩)) (not_isEmpty xs) q
    · exact go _ _ (.inr (.inr ⟨kvs, hx, rfl⟩)) (not_isEmpty kvs) q
  | _ => exact (show False from q1).elim
variable {tA tB : TP} {rest : List Expr}
/-- and: by two ways -/
def tAndP (t u : TP) : TP := fun σ H Q => t σ H fun p H1 => Br p (u σ H1 Q) (Q False H1)
def tOrP (t u : TP) : TP := fun σ H Q => t σ H fun p H1 => Br p (Q True H1) (u σ H1 Q)
def tNotP (t : TP) : TP := fun σ H Q => t σ H fun p H1 => Q (¬ p) H1
theorem b_true {p : Prop} (h : p) : ((true : Bool) = true ↔ True) := by simp
theorem PPost.fls {pins : List (Addr × Obj)} {σ : L2.St} {Q : PK} {s : Shared} {H1 : Hp} (I : Inv X pins σ H1 s) (q : Q False H1) : PPost X pins σ Q false s := ⟨False, H1, by simp, I, q⟩
theorem PPost.tru {pins : List (Addr × Obj)} {σ : L2.St} {Q : PK} {s : Shared} {H1 : Hp} (I : Inv X pins σ H1 s) (q : Q True H1) : PPost X pins σ Q true s := ⟨True, H1, by simp, I, q⟩
theorem nb {p : Prop} (e : (false : Bool) = true ↔ p) : ¬ p := fun z => by have := e.mpr z; cases this
theorem qw_and1 (ha : PP X a tA) : PPW X (.BoolOp .And [a] pos) tA := by
  refine ⟨fun wh pins s σ H Q I h => ?_⟩
  refine isTrue_and (thn (ha.run pins s σ H Q I h) fun c s1 e => ?_)
  cases c with
  | true => exact isTrue_and_nil e
  | false => exact e
theorem qw_or1 (ha : PP X a tA) : PPW X (.BoolOp .Or [a] pos) tA := by
  refine ⟨fun wh pins s σ H Q I h => ?_⟩
  refine isTrue_or (thn (ha.run pins s σ H Q I h) fun c s1 e => ?_)
  cases c with
  | false => exact isTrue_or_nil e
  | true => exact e
theorem qw_and (ha : PP X a tA) (hb : PPW X (.BoolOp .And (b :: rest) pos) tB) : PPW X (.BoolOp .And (a :: b :: rest) pos) (tAndP tA tB) := by
  refine ⟨fun wh pins s σ H Q I h => ?_⟩
  refine isTrue_and (thn (ha.run pins s σ H _ I h) fun c s1 ⟨p, H1, e, I1, q1⟩ => ?_)
  cases c with
  | true => exact hb.run wh pins s1 σ H1 Q I1 (q1.t (e.mp rfl))
  | false => exact PPost.fls I1 (q1.f (nb e))
theorem qw_or (ha : PP X a tA) (hb : PPW X (.BoolOp .Or (b :: rest) pos) tB) : PPW X (.BoolOp .Or (a :: b :: rest) pos) (tOrP tA tB) := by
  refine ⟨fun wh pins s σ H Q I h => ?_⟩
  refine isTrue_or (thn (ha.run pins s σ H _ I h) fun c s1 ⟨p, H1, e, I1, q1⟩ => ?_)
  cases c with
  | true => exact PPost.tru I1 (q1.t (e.mp rfl))
  | false => exact hb.run wh pins s1 σ H1 Q I1 (q1.f (nb e))
theorem qp_not (ha : PP X a tA) : PP X (.UnaryOp .Not a pos) (tNotP tA) := by
  refine ⟨fun pins s σ H Q I h => ?_⟩
  refine isTrue_not (thn (ha.run pins s σ H (fun p H1 => Q (¬ p) H1) I h) fun b s1 ⟨p, H1, e, I1, q⟩ => ⟨_, H1, ?_, I1, q⟩)
  cases b with
  | true => simp [e.mp rfl]
  | false => simp [nb e]
/-- and, or of two, three .. tests without a fork: the tests may be made one after another, the heap as it is -/
def tAndJ (t u : TP) : TP := fun σ H Q => t σ H fun p H1 => ∃ r : Prop, (p → u σ H1 fun q H2 => H2 = H1 ∧ r = q) ∧ Q (p ∧ r) H1
def tOrJ (t u : TP) : TP := fun σ H Q => t σ H fun p H1 => ∃ r : Prop, (¬ p → u σ H1 fun q H2 => H2 = H1 ∧ r = q) ∧ Q (p ∨ r) H1
theorem qw_andJ (ha : PP X a tA) (hb : PPW X (.BoolOp .And (b :: rest) pos) tB) : PPW X (.BoolOp .And (a :: b :: rest) pos) (tAndJ tA tB) := by
  refine ⟨fun wh pins s σ H Q I h => ?_⟩
  refine isTrue_and (thn (ha.run pins s σ H _ I h) fun c s1 ⟨p, H1, e, I1, r, q1, q2⟩ => ?_)
  cases c with
  | true =>
    refine thn (hb.run wh pins s1 σ H1 _ I1 (q1 (e.mp rfl))) fun c s2 ⟨p2, H2, e2, I2, eh, er⟩ => ?_
    subst eh er
    exact ⟨_, _, by simp [e.mp rfl, e2], I2, q2⟩
  | false => exact ⟨_, H1, by simp [nb e], I1, q2⟩
theorem qw_orJ (ha : PP X a tA) (hb : PPW X (.BoolOp .Or (b :: rest) pos) tB) : PPW X (.BoolOp .Or (a :: b :: rest) pos) (tOrJ tA tB) := by
  refine ⟨fun wh pins s σ H Q I h => ?_⟩
  refine isTrue_or (thn (ha.run pins s σ H _ I h) fun c s1 ⟨p, H1, e, I1, r, q1, q2⟩ => ?_)
  cases c with
  | true => exact ⟨_, H1, by simp [e.mp rfl], I1, q2⟩
  | false =>
    refine thn (hb.run wh pins s1 σ H1 _ I1 (q1 (nb e))) fun c s2 ⟨p2, H2, e2, I2, eh, er⟩ => ?_
    subst eh er
    exact ⟨_, _, by simp [nb e, e2], I2, q2⟩
/-! as values: the operands are bools -/
def tBoolV (t : TE) (k : Bool → Hp → Prop) : L2.St → Hp → Prop := fun σ H => t σ H fun x H1 => match x with
  | .bl b => k b H1
  | _ => False
def tAndV' (ta tb : TE) : TE := fun σ H Q => ta σ H fun x H1 => match x with
  | .bl b => Br (b = true) (tb σ H1 Q) (Q (.bl false) H1)
  | _ => False
def tOrV' (ta tb : TE) : TE := fun σ H Q => ta σ H fun x H1 => match x with
  | .bl b => Br (b = true) (Q (.bl true) H1) (tb σ H1 Q)
  | _ => False
def tNotV' (ta : TE) : TE := fun σ H Q => ta σ H fun x H1 => match x with
  | .bl b => Q (.bl (!b)) H1
  | _ => False
theorem qe_and (ha : PE X a ta) (hb : PE X (.BoolOp .And (b :: rest) pos) tb) : PE X (.BoolOp .And (a :: b :: rest) pos) (tAndV' ta tb) := by
  refine ⟨fun pins s σ H Q I h => ?_⟩
  refine BoolOp_and (thn (ha.run pins s σ H _ I h) fun v s1 ⟨x, H1, I1, r1, q1⟩ => ?_)
  cases x with
  | bl c =>
    cases r1
    refine wpAny_truthy_bool ?_
    cases c with
    | true => exact hb.run pins s1 σ H1 Q I1 (q1.t rfl)
    | false => exact ⟨.bl false, H1, I1, rfl, q1.f (by simp)⟩
  | _ => exact (show False from q1).elim
theorem qe_or (ha : PE X a ta) (hb : PE X (.BoolOp .Or (b :: rest) pos) tb) : PE X (.BoolOp .Or (a :: b :: rest) pos) (tOrV' ta tb) := by
  refine ⟨fun pins s σ H Q I h => ?_⟩
  refine BoolOp_or (thn (ha.run pins s σ H _ I h) fun v s1 ⟨x, H1, I1, r1, q1⟩ => ?_)
  cases x with
  | bl c =>
    cases r1
    refine wpAny_truthy_bool ?_
    cases c with
    | false => exact hb.run pins s1 σ H1 Q I1 (q1.f (by simp))
    | true => exact ⟨.bl true, H1, I1, rfl, q1.t rfl⟩
  | _ => exact (show False from q1).elim
theorem qe_not (ha : PE X a ta) : PE X (.UnaryOp .Not a pos) (tNotV' ta) := by
  refine ⟨fun pins s σ H Q I h => ?_⟩
  refine UnaryOp_ (thn (ha.run pins s σ H _ I h) fun v s1 ⟨x, H1, I1, r1, q1⟩ => ?_)
  cases x with
  | bl c =>
    cases r1
    exact not_of (wpAny_truthy_bool ⟨.bl (!c), H1, I1, rfl, q1⟩)
  | _ => exact (show False from q1).elim
/-- a if t else b -/
def tIfP (t : TP) (ta tb : TE) : TE := fun σ H Q => t σ H fun p H1 => Br p (ta σ H1 Q) (tb σ H1 Q)
theorem qe_if (hc : PP X c tA) (ha : PE X a ta) (hb : PE X b tb) : PE X (.IfExp c a b pos) (tIfP tA ta tb) := by
  refine ⟨fun pins s σ H Q I h => ?_⟩
  refine wpAny_IfExp (thn (hc.run pins s σ H _ I h) fun d s1 ⟨p, H1, e, I1, q1⟩ => ?_)
  cases d with
  | true => exact ha.run pins s1 σ H1 Q I1 (q1.t (e.mp rfl))
  | false => exact hb.run pins s1 σ H1 Q I1 (q1.f (nb e))
/-- x op1 y op2 z as a test -/
def tChainP (r r' : RP) (ta tb tc : TE) : TP := fun σ H Q => ta σ H fun x H1 => tb σ H1 fun y H2 => r x y H2 fun p H3 => ∃ q : Prop, (p → tc σ H3 fun z H4 => r' y z H4 fun q' H5 => H5 = H3 ∧ q = q') ∧ Q (p ∧ q) H3
theorem qp_chain {op op' : CmpOp} {r r' : RP} (ho : OpP X (compareOp op) r) (ho' : OpP X (compareOp op') r') (ha : PE X a ta) (hb : PE X b tb) (hc : PE X c tc)
    (hm : lastMarks [op, op'] [b, c] = false := by with_unfolding_all rfl) : PP X (.Compare a [op, op'] [b, c] pos) (tChainP r r' ta tb tc) := by
  refine ⟨fun pins s σ H Q I h => ?_⟩
  refine isTrue_chain (thn (ha.run pins s σ H _ I h) fun v s1 ⟨x, H1, I1, r1, q1⟩ => test_link (thn (hb.run pins s1 σ H1 _ I1 q1) fun u s2 ⟨y, H2, I2, r2, q2⟩ =>
    thn (ho pins s2 σ H2 x y v u _ I2 r1 r2 q2) fun d s3 ⟨k, p, H3, e, iff, I3, q, q3, q4⟩ => ?_)) hm
  subst e
  refine wpAny_truthy_bool ?_
  cases k with
  | false => exact ite_ff ⟨_, H3, by simp [nb iff], I3, q4⟩
  | true =>
    refine ite_tt (test_last (thn (hc.run pins s3 σ H3 _ I3 (q3 (iff.mp rfl))) fun w' s4 ⟨z', H4, I4, r4, q4'⟩ => thn (ho' pins s4 σ H4 y z' u w' _ I4 r2 r4 q4') fun d' s5 ⟨k2, p2, H5, e2, iff2, I5, eh, er⟩ => ?_))
    subst e2 eh er
    exact wpAny_truthy_bool ⟨_, _, by simp [iff.mp rfl, iff2], I5, q4⟩
def tChainV (r r' : RP) (ta tb tc : TE) : TE := fun σ H Q => ta σ H fun x H1 => tb σ H1 fun y H2 => r x y H2 fun p H3 => ∃ q : Prop, (p → tc σ H3 fun z H4 => r' y z H4 fun q' H5 => H5 = H3 ∧ q = q') ∧ ∀ b : Bool, (b = true ↔ p ∧ q) → Q (.bl b) H3
theorem qe_chain {op op' : CmpOp} {r r' : RP} (ho : OpP X (compareOp op) r) (ho' : OpP X (compareOp op') r') (ha : PE X a ta) (hb : PE X b tb) (hc : PE X c tc)
    (hm : lastMarks [op, op'] [b, c] = false := by with_unfolding_all rfl) : PE X (.Compare a [op, op'] [b, c] pos) (tChainV r r' ta tb tc) := by
  refine ⟨fun pins s σ H Q I h => ?_⟩
  refine Compare_chain (thn (ha.run pins s σ H _ I h) fun v s1 ⟨x, H1, I1, r1, q1⟩ => chain_link (thn (hb.run pins s1 σ H1 _ I1 q1) fun u s2 ⟨y, H2, I2, r2, q2⟩ =>
    thn (ho pins s2 σ H2 x y v u _ I2 r1 r2 q2) fun d s3 ⟨k, p, H3, e, iff, I3, q, q3, q4⟩ => ?_)) hm
  subst e
  refine wpAny_truthy_bool ?_
  cases k with
  | false => exact ite_ff ⟨.bl false, H3, I3, rfl, q4 false (by simp [nb iff])⟩
  | true =>
    refine ite_tt (chain_last (thn (hc.run pins s3 σ H3 _ I3 (q3 (iff.mp rfl))) fun w' s4 ⟨z', H4, I4, r4, q4'⟩ => thn (ho' pins s4 σ H4 y z' u w' _ I4 r2 r4 q4') fun d' s5 ⟨k2, p2, H5, e2, iff2, I5, eh, er⟩ => ?_))
    subst e2 eh er
    exact ⟨.bl k2, _, I5, rfl, q4 k2 (by simp [iff.mp rfl, iff2])⟩

/-! ### expressions whose value is a bool -/
structure PB (X : Cx) (e : Expr) (t : TP) : Prop where
  run : ∀ (pins : List (Addr × Obj)) (s : Shared) (σ : L2.St) (H : Hp) (Q : PK), Inv X pins σ H s → t σ H Q →
    wpAny (model X.prog X.w) X.A (eval e X.env) (fun c s' => ∃ b p H', c = Value.bool b ∧ (b = true ↔ p) ∧ Inv X pins σ H' s' ∧ Q p H') X.xe s
def tOfB (t : TP) : TE := fun σ H Q => t σ H fun p H1 => ∀ b : Bool, (b = true ↔ p) → Q (.bl b) H1
theorem qe_B (h : PB X a tA) : PE X a (tOfB tA) := ⟨fun pins s σ H Q I q => thn (h.run pins s σ H _ I q) fun c s' ⟨b, p, H', e, iff, I', q'⟩ => by
  subst e
  exact ⟨.bl b, H', I', rfl, q' b iff⟩⟩
def tBof (t : TE) : TP := fun σ H Q => t σ H fun x H1 => match x with
  | .bl b => Q (b = true) H1
  | _ => False
theorem qb_val (h : PE X a ta) : PB X a (tBof ta) := ⟨fun pins s σ H Q I q => thn (h.run pins s σ H _ I q) fun c s' ⟨x, H', I', r, q'⟩ => by
  cases x with
  | bl b =>
    cases r
    exact ⟨b, _, H', rfl, Iff.rfl, I', q'⟩
  | _ => exact (show False from q').elim⟩
theorem qb_cmp {op : CmpOp} {r : RP} (ho : OpP X (compareOp op) r) (ha : PE X a ta) (hb : PE X b tb) (hm : behindInMarks op b = false) : PB X (.Compare a [op] [b] pos) (tCmpP r ta tb) := by
  refine ⟨fun pins s σ H Q I h => ?_⟩
  exact wpAny_Compare1 (thn (ha.run pins s σ H _ I h) fun v s1 ⟨x, H1, I1, r1, q1⟩ => thn (hb.run pins s1 σ H1 _ I1 q1) fun u s2 ⟨y, H2, I2, r2, q2⟩ =>
    thn (ho pins s2 σ H2 x y v u _ I2 r1 r2 q2) fun c s3 h3 => h3) hm
def tIffP (t u : TP) : TP := fun σ H Q => t σ H fun p H1 => u σ H1 fun q H2 => Q (p ↔ q) H2
def tNifP (t u : TP) : TP := fun σ H Q => t σ H fun p H1 => u σ H1 fun q H2 => Q (¬ (p ↔ q)) H2
theorem qb_iff (ha : PB X a tA) (hb : PB X b tB) : PB X (.Compare a [.Eq] [b] pos) (tIffP tA tB) := by
  refine ⟨fun pins s σ H Q I h => ?_⟩
  refine wpAny_Compare1 (thn (ha.run pins s σ H _ I h) fun v s1 ⟨x, p, H1, e1, iff1, I1, q1⟩ => thn (hb.run pins s1 σ H1 _ I1 q1) fun u s2 ⟨y, q, H2, e2, iff2, I2, q2⟩ => ?_) (nomark _)
  subst e1 e2
  refine eq_bool ⟨_, _, H2, rfl, ?_, I2, q2⟩
  rw [← iff1, ← iff2]
  cases x <;> cases y <;> simp
theorem qb_nif (ha : PB X a tA) (hb : PB X b tB) : PB X (.Compare a [.NotEq] [b] pos) (tNifP tA tB) := by
  refine ⟨fun pins s σ H Q I h => ?_⟩
  refine wpAny_Compare1 (thn (ha.run pins s σ H _ I h) fun v s1 ⟨x, p, H1, e1, iff1, I1, q1⟩ => thn (hb.run pins s1 σ H1 _ I1 q1) fun u s2 ⟨y, q, H2, e2, iff2, I2, q2⟩ => ?_) (nomark _)
  subst e1 e2
  refine ne_bool ⟨_, _, H2, rfl, ?_, I2, q2⟩
  rw [← iff1, ← iff2]
  cases x <;> cases y <;> simp
theorem qb_and1 (ha : PB X a tA) : PB X (.BoolOp op [a] pos) tA := ⟨fun pins s σ H Q I hw => BoolOp_one (ha.run pins s σ H Q I hw)⟩
theorem qb_and (ha : PB X a tA) (hb : PB X (.BoolOp .And (b :: rest) pos) tB) : PB X (.BoolOp .And (a :: b :: rest) pos) (tAndP tA tB) := by
  refine ⟨fun pins s σ H Q I h => ?_⟩
  refine BoolOp_and (thn (ha.run pins s σ H _ I h) fun v s1 ⟨x, p, H1, e, iff, I1, q1⟩ => ?_)
  subst e
  refine wpAny_truthy_bool ?_
  cases x with
  | true => exact hb.run pins s1 σ H1 Q I1 (q1.t (iff.mp rfl))
  | false => exact ⟨false, False, H1, rfl, by simp, I1, q1.f (nb iff)⟩
theorem qb_or (ha : PB X a tA) (hb : PB X (.BoolOp .Or (b :: rest) pos) tB) : PB X (.BoolOp .Or (a :: b :: rest) pos) (tOrP tA tB) := by
  refine ⟨fun pins s σ H Q I h => ?_⟩
  refine BoolOp_or (thn (ha.run pins s σ H _ I h) fun v s1 ⟨x, p, H1, e, iff, I1, q1⟩ => ?_)
  subst e
  refine wpAny_truthy_bool ?_
  cases x with
  | true => exact ⟨true, True, H1, rfl, by simp, I1, q1.t (iff.mp rfl)⟩
  | false => exact hb.run pins s1 σ H1 Q I1 (q1.f (nb iff))
theorem qb_chain {op op' : CmpOp} {r r' : RP} (ho : OpP X (compareOp op) r) (ho' : OpP X (compareOp op') r') (ha : PE X a ta) (hb : PE X b tb) (hc : PE X c tc)
    (hm : lastMarks [op, op'] [b, c] = false := by with_unfolding_all rfl) : PB X (.Compare a [op, op'] [b, c] pos) (tChainP r r' ta tb tc) := by
  refine ⟨fun pins s σ H Q I h => ?_⟩
  refine Compare_chain (thn (ha.run pins s σ H _ I h) fun v s1 ⟨x, H1, I1, r1, q1⟩ => chain_link (thn (hb.run pins s1 σ H1 _ I1 q1) fun u s2 ⟨y, H2, I2, r2, q2⟩ =>
    thn (ho pins s2 σ H2 x y v u _ I2 r1 r2 q2) fun d s3 ⟨k, p, H3, e, iff, I3, q, q3, q4⟩ => ?_)) hm
  subst e
  refine wpAny_truthy_bool ?_
  cases k with
  | false => exact ite_ff ⟨false, _, H3, rfl, by simp [nb iff], I3, q4⟩
  | true =>
    refine ite_tt (chain_last (thn (hc.run pins s3 σ H3 _ I3 (q3 (iff.mp rfl))) fun w' s4 ⟨z', H4, I4, r4, q4'⟩ => thn (ho' pins s4 σ H4 y z' u w' _ I4 r2 r4 q4') fun d' s5 ⟨k2, p2, H5, e2, iff2, I5, eh, er⟩ => ?_))
    subst e2 eh er
    exact ⟨k2, _, _, rfl, by simp [iff.mp rfl, iff2], I5, q4⟩
/-- a bool's test -/
theorem pp_B (h : PB X a tA) (he : ∀ whole, isTrue a X.env whole = (do let v ← whole; standAt a.pos; holding [v] (truthy v)) := by intro _; rfl) : PP X a tA := by
  refine ⟨fun pins s σ H Q I hw => ?_⟩
  refine isTrue_plain (thn (h.run pins s σ H _ I hw) fun v s1 ⟨x, p, H1, e, iff, I1, q1⟩ => ?_) (he _)
  subst e
  exact wpAny_truthy_bool ⟨p, H1, iff, I1, q1⟩
theorem qp_iff (ha : PB X a tA) (hb : PB X b tB) : PP X (.Compare a [.Eq] [b] pos) (tIffP tA tB) := by
  refine ⟨fun pins s σ H Q I h => ?_⟩
  refine wpAny_isTrue_Compare1 (thn (ha.run pins s σ H _ I h) fun v s1 ⟨x, p, H1, e1, iff1, I1, q1⟩ => thn (hb.run pins s1 σ H1 _ I1 q1) fun u s2 ⟨y, q, H2, e2, iff2, I2, q2⟩ => ?_) (nomark _)
  subst e1 e2
  refine eq_bool (wpAny_truthy_bool ⟨_, H2, ?_, I2, q2⟩)
  rw [← iff1, ← iff2]
  cases x <;> cases y <;> simp
theorem qp_nif (ha : PB X a tA) (hb : PB X b tB) : PP X (.Compare a [.NotEq] [b] pos) (tNifP tA tB) := by
  refine ⟨fun pins s σ H Q I h => ?_⟩
  refine wpAny_isTrue_Compare1 (thn (ha.run pins s σ H _ I h) fun v s1 ⟨x, p, H1, e1, iff1, I1, q1⟩ => thn (hb.run pins s1 σ H1 _ I1 q1) fun u s2 ⟨y, q, H2, e2, iff2, I2, q2⟩ => ?_) (nomark _)
  subst e1 e2
  refine ne_bool (wpAny_truthy_bool ⟨_, H2, ?_, I2, q2⟩)
  rw [← iff1, ← iff2]
  cases x <;> cases y <;> simp
/-- a test told by one proposition, whatever the ways through it; the heap as it is -/
def tSpec (t : TP) : TP := fun σ H Q => ∃ r : Prop, (t σ H fun p H1 => H1 = H ∧ (p ↔ r)) ∧ Q r H
theorem pp_spec (h : PP X a tA) : PP X a (tSpec tA) := ⟨fun pins s σ H Q I ⟨r, h1, h2⟩ => thn (h.run pins s σ H _ I h1) fun b s1 ⟨p, H1, iff, I1, e, iff2⟩ => by
  subst e
  exact ⟨r, H1, iff.trans iff2, I1, h2⟩⟩
theorem pb_spec (h : PB X a tA) : PB X a (tSpec tA) := ⟨fun pins s σ H Q I ⟨r, h1, h2⟩ => thn (h.run pins s σ H _ I h1) fun c s1 ⟨b, p, H1, ec, iff, I1, e, iff2⟩ => by
  subst e
  exact ⟨b, r, H1, ec, iff.trans iff2, I1, h2⟩⟩

/-! ### statements -/
variable {t u : TS} {body : List Stmt}
def sIf (c : TP) (t u : TS) : TS := fun D σ H => c σ H fun p H1 => Br p (t D σ H1) (u D σ H1)
theorem qif {x y : List Stmt} (hc : PP X c tA) (hx : PSs X x t) (hy : PSs X y u) : PS X (.If c x y pos) (sIf tA t u) := by
  refine ⟨fun pins s σ H D I h => ?_⟩
  refine wpAny_If (thn (hc.run pins s σ H _ I h) fun d s1 ⟨p, H1, e, I1, q1⟩ => ?_)
  cases d with
  | true => exact hx.run pins s1 σ H1 D I1 (q1.t (e.mp rfl))
  | false => exact hy.run pins s1 σ H1 D I1 (q1.f (nb e))
/-- the ways meet again behind a statement: R -/
def sJoin (t : TS) : TS := fun D σ H => ∃ R : L2.St → Hp → Prop, t { D with nx := R } σ H ∧ ∀ σ' H', R σ' H' → D.nx σ' H'
theorem qjoin {st : Stmt} (h : PS X st t) : PS X st (sJoin t) := by
  refine ⟨fun pins s σ H D I ⟨R, h1, h2⟩ => ?_⟩
  refine thn (h.run pins s σ H _ I h1) fun f s' q => ?_
  cases f with
  | next =>
    obtain ⟨σ', H', I', q⟩ := q
    exact ⟨σ', H', I', h2 _ _ q⟩
  | brk => exact q
  | cont => exact q
  | ret v => exact q
/-- while: the word W with a measure -/
def sWhile (c : TP) (tb : TS) : TS := fun D σ H => ∃ W : Nat → L2.St → Hp → Prop, (∃ m, W m σ H) ∧ ∀ m σ H, W m σ H →
  c σ H fun p H1 => Br p (tb { D with nx := fun σ' H' => ∃ m', m' < m ∧ W m' σ' H', ct := fun σ' H' => ∃ m', m' < m ∧ W m' σ' H', bk := D.nx } σ H1) (D.nx σ H1)
theorem qwhile (hp : PassesOwn (model X.prog X.w) X.A X.env X.xe) (hc : PP X c tA) (hb : PSs X body u) : PS X (.While c body [] pos) (sWhile tA u) := by
  refine ⟨fun pins s σ H D I h => ?_⟩
  obtain ⟨W, ⟨m0, w0⟩, turn⟩ := h
  refine wpAny_While (codeAny_whileLoop (fun n s' => ∃ σ' H', Inv X pins σ' H' s' ∧ W n σ' H') ?_ m0 ⟨σ, H, I, w0⟩)
  rintro n s1 ⟨σ1, H1, I1, w1⟩
  refine wpAny_passesOwn hp (thn (hc.run pins s1 σ1 H1 _ I1 (turn n σ1 H1 w1)) fun b s2 ⟨p, H2, e, I2, q2⟩ => ?_)
  cases b with
  | true =>
    rw [if_pos rfl]
    refine wpAny_passesOwn hp (thn (hb.run pins s2 σ1 H2 _ I2 (q2.t (e.mp rfl))) fun f s3 q3 => ?_)
    cases f with
    | next =>
      obtain ⟨σ3, H3, I3, m', hm, w3⟩ := q3
      exact ⟨m', hm, σ3, H3, I3, w3⟩
    | cont =>
      obtain ⟨σ3, H3, I3, m', hm, w3⟩ := q3
      exact ⟨m', hm, σ3, H3, I3, w3⟩
    | brk => exact q3
    | ret v => exact q3
  | false =>
    rw [if_neg Bool.false_ne_true]
    exact wpAny_execs_nil ⟨σ1, H2, I2, q2.f (nb e)⟩

/-! ### ranges -/
def qRng1 (ta : TA) : TI := fun σ H R => ta σ H fun vs H1 => match vs with
  | [.int j] => (-(2 ^ 62) ≤ j ∧ j < 2 ^ 62) ∧ R (Itr 0 j.toNat) H1
  | _ => False
theorem qRng1_eq (ta : TA) : iRng1 ta = qRng1 ta := by
  funext σ H R
  unfold iRng1 qRng1
  congr 1
  funext vs H1
  apply propext
  constructor
  · rintro ⟨j, rfl, a, b, q⟩
    exact ⟨⟨a, b⟩, q⟩
  · intro h
    split at h
    · exact ⟨_, rfl, h.1.1, h.1.2, h.2⟩
    · exact h.elim
theorem qi_range1 {tg : Expr} {ta : TA} {p : Pos} (hg : Gl X "range") (hm : X.mg "range" = none) (ha : PA X [a] ta) (hs : starEach [a] X.env = [(false, eval a X.env)] := by rfl) : PI X tg (.Call (.Name "range" p) [a] [] pos) (qRng1 ta) := by
  rw [← qRng1_eq]
  exact pi_range1 hg hm ha hs
def qRng2 (ta : TA) : TI := fun σ H R => ta σ H fun vs H1 => match vs with
  | [.int i, .int j] => (-(2 ^ 62) ≤ i ∧ i < 2 ^ 62 ∧ -(2 ^ 62) ≤ j ∧ j < 2 ^ 62) ∧ R (Itr i (j - i).toNat) H1
  | _ => False
theorem qRng2_eq (ta : TA) : iRng2 ta = qRng2 ta := by
  funext σ H R
  unfold iRng2 qRng2
  congr 1
  funext vs H1
  apply propext
  constructor
  · rintro ⟨i, j, rfl, a, q⟩
    exact ⟨a, q⟩
  · intro h
    split at h
    · exact ⟨_, _, rfl, h.1, h.2⟩
    · exact h.elim
theorem qi_range2 {tg : Expr} {ta : TA} {p : Pos} (hg : Gl X "range") (hm : X.mg "range" = none) (ha : PA X [a, b] ta) (hs : starEach [a, b] X.env = [(false, eval a X.env), (false, eval b X.env)] := by rfl) (hs2 : starEach [b] X.env = [(false, eval b X.env)] := by rfl) :
    PI X tg (.Call (.Name "range" p) [a, b] [] pos) (qRng2 ta) := by
  rw [← qRng2_eq]
  exact pi_range2 hg hm ha hs hs2

/-! ### isinstance of the built-in classes -/
inductive Ty where
  | int | bool | str | tuple | list | dict
def Ty.nm : Ty → String
  | .int => "int" | .bool => "bool" | .str => "str" | .tuple => "tuple" | .list => "list" | .dict => "dict"
/-- what an object is: a list, a tuple, a dict -/
def IsSeq (K : PySem.W.Frag) (H : Hp) (p : Addr) (T : Ty) : Prop := match T with
  | .list => ∃ xs, SqL K H p xs
  | .tuple => ∃ xs, SqT K H p xs
  | .dict => ∃ kvs, H p = some (.dK kvs)
  | _ => False
def tyEq : Ty → Ty → Bool
  | .list, .list => true | .tuple, .tuple => true | .dict, .dict => true | _, _ => false
def isiP (K : PySem.W.Frag) (T : Ty) (x : V) (H : Hp) (Q : Bool → Prop) : Prop := match x with
  | .int _ => Q (match T with | .int => true | _ => false)
  | .bl _ => Q (match T with | .int => true | .bool => true | _ => false)
  | .str _ => Q (match T with | .str => true | _ => false)
  | .non => Q false
  | .ref p => ∃ U, IsSeq K H p U ∧ Q (tyEq U T)
  | _ => False
theorem tyX_seq {K : PySem.W.Frag} {H : Hp} {p : Addr} {U : Ty} (h : IsSeq K H p U) : TyX K H (.ref p) (.type U.nm) := by
  cases U with
  | list =>
    obtain ⟨xs, h⟩ := h
    rcases h with (h | ⟨o, h⟩) | ⟨o, its, n, hk, hc, _⟩
    · exact .base (.lst h)
    · exact .base (.frz h)
    · exact .kList hk hc
  | tuple =>
    obtain ⟨xs, h⟩ := h
    rcases h with (h | ⟨o, h⟩) | ⟨o, its, n, hk, hc, _⟩
    · exact .base (.tup h)
    · exact .fTuple h
    · exact .kTuple hk hc
  | dict =>
    obtain ⟨xs, h⟩ := h
    exact .base (.dK h)
  | _ => exact h.elim
theorem isi_ok (T : Ty) (x : V) (H : Hp) (Q : VK) (h : isiP X.K T x H fun b => Q (.bl b) H) : rIsi X.K [x, .ty T.nm] H Q := by
  cases x with
  | int i => exact ⟨_, _, .type "int", _, _, rfl, .ty _, .base (.int i), kit_ty (by cases T <;> decide +kernel), h⟩
  | bl i => exact ⟨_, _, .type "bool", _, _, rfl, .ty _, .base (.bl i), kit_ty (by cases T <;> decide +kernel), h⟩
  | str i => exact ⟨_, _, .type "str", _, _, rfl, .ty _, .base (.str i), kit_ty (by cases T <;> decide +kernel), h⟩
  | non => exact ⟨_, _, .type "NoneType", _, _, rfl, .ty _, .base .non, kit_ty (by cases T <;> decide +kernel), h⟩
  | ref p =>
    obtain ⟨U, hU, q⟩ := h
    exact ⟨_, _, _, _, _, rfl, .ty _, tyX_seq hU, kit_ty (by cases U <;> first | exact hU.elim | (cases T <;> decide +kernel)), q⟩
  | _ => exact (show False from h).elim
def tIsi (K : PySem.W.Frag) (T : Ty) (ta : TE) : TE := fun σ H Q => ta σ H fun x H1 => isiP K T x H1 fun b => Q (.bl b) H1
theorem qisi (T : Ty) {n : Str} {p p2 : Pos} (hg : Gl X "isinstance") (hm : X.mg "isinstance" = none) (hgT : Gl X n) (hmT : X.mg n = none) (ha : PE X a ta) (hv : bootBuiltins n = some (.type T.nm) := by decide +kernel) (hn : n ≠ "__name__" := by decide) (hd : (n == ("__debug__" : Str)) = false := by decide)
    (he : starEach [a, .Name n p2] X.env = (false, eval a X.env) :: starEach [.Name n p2] X.env := by rfl) (hpl : (backTo pos (starEach [.Name n p2] X.env)).any (·.1) = false := by rfl) :
    PE X (.Call (.Name "isinstance" p) [a, .Name n p2] [] pos) (tIsi X.K T ta) := by
  refine ⟨fun pins s σ H Q I h => ?_⟩
  have e : (fun (x : V) (H1 : Hp) => isiP X.K T x H1 fun b => Q (.bl b) H1) = fun x H1 => ∃ z, [x, V.ty T.nm] = [z, V.ty T.nm] ∧ isiP X.K T z H1 fun b => Q (.bl b) H1 := by
    funext x H1
    refine propext ⟨fun q => ⟨x, rfl, q⟩, fun ⟨z, e, q⟩ => ?_⟩
    cases e
    exact q
  have h : ta σ H fun (x : V) (H1 : Hp) => isiP X.K T x H1 fun b => Q (.bl b) H1 := h
  rw [e] at h
  refine wpAny_Call_Name_kw (ld_blt I hg hm (by decide +kernel : bootBuiltins "isinstance" = some (.builtin "isinstance")) ?_)
  exact PyProof.Rows.callWith_builtin1 (thn ((pa_cons ha (pa_cons (pe_bltn (v := .ty T.nm) hgT hmT hv rfl hn hd) pa_nil) he).run pos pins s σ H (fun vs H1 => ∃ z, vs = [z, V.ty T.nm] ∧ isiP X.K T z H1 fun b => Q (.bl b) H1) I h) fun us s1 ⟨vs, H1, I1, r1, z, e1, q1⟩ => by
    subst e1
    exact call_isi pins s1 σ H1 _ us Q I1 r1 (isi_ok T z H1 Q q1)) he hpl

/-! ### more operators, more statements -/
theorem tru_at {x : V} {v : Value} {pins : List (Addr × Obj)} {σ : L2.St} {H1 : Hp} {s1 : Shared} {Q : PK} (I1 : Inv X pins σ H1 s1) (r1 : RelV x v) (q1 : TruM X.K x H1 Q) : wpAny (model X.prog X.w) X.A (truthy v) (PPost X pins σ Q) X.xe s1 := by
  have go : ∀ (k : Bool) (p : Prop), TruV X.K x H1 k → (k = true ↔ p) → Q p H1 → wpAny (model X.prog X.w) X.A (truthy v) (PPost X pins σ Q) X.xe s1 := fun k p tv iff q =>
    thn (tru_ok pins s1 σ H1 x v (fun b H' => b = k ∧ H' = H1) I1 r1 ⟨k, tv, rfl, rfl⟩) fun b s2 ⟨H2, I2, e1, e2⟩ => by
      subst e1 e2
      exact ⟨p, _, iff, I2, q⟩
  cases x with
  | non => exact go false _ rfl (by simp) q1
  | bl b => exact go b _ rfl Iff.rfl q1
  | int i => exact go (i != 0) _ rfl (by simp) q1
  | str y => exact go _ _ ⟨q1.1, rfl⟩ (by simp) q1.2
  | ref p =>
    have q2 : (∃ xs, Sq X.K H1 p xs ∧ Q (xs ≠ []) H1) ∨ ∃ kvs, H1 p = some (.dK kvs) ∧ Q (kvs ≠ []) H1 := q1
    rcases q2 with ⟨xs, hx | hx, q⟩ | ⟨kvs, hx, q⟩
    · exact go _ _ (.inl ⟨xs, hx, rfl⟩) (not_isEmpty xs) q
    · exact go _ _ (.inr (.inl ⟨xs, hx, rfl⟩)) (not_isEmpty xs) q
    · exact go _ _ (.inr (.inr ⟨kvs, hx, rfl⟩)) (not_isEmpty kvs) q
  | _ => exact (show False from q1).elim
/-- not x, x of any kind -/
def tNotV (K : PySem.W.Frag) (ta : TE) : TE := fun σ H Q => ta σ H fun x H1 => TruM K x H1 fun p H2 => ∀ b : Bool, (b = true ↔ ¬ p) → Q (.bl b) H2
theorem qe_notV (ha : PE X a ta) : PE X (.UnaryOp .Not a pos) (tNotV X.K ta) := by
  refine ⟨fun pins s σ H Q I h => ?_⟩
  refine UnaryOp_ (thn (ha.run pins s σ H _ I h) fun v s1 ⟨x, H1, I1, r1, q1⟩ => ?_)
  refine not_of (thn (tru_at I1 r1 q1) fun k s2 ⟨p, H2, iff, I2, q2⟩ => ⟨.bl (!k), H2, I2, rfl, q2 (!k) ?_⟩)
  cases k with
  | true => simp [iff.mp rfl]
  | false => simp [nb iff]
theorem qb_not (ha : PE X a ta) : PB X (.UnaryOp .Not a pos) (fun σ H Q => ta σ H fun x H1 => TruM X.K x H1 fun p H2 => Q (¬ p) H2) := by
  refine ⟨fun pins s σ H Q I h => ?_⟩
  refine UnaryOp_ (thn (ha.run pins s σ H _ I h) fun v s1 ⟨x, H1, I1, r1, q1⟩ => ?_)
  refine not_of (thn (tru_at I1 r1 q1) fun k s2 ⟨p, H2, iff, I2, q2⟩ => ⟨!k, ¬ p, H2, rfl, ?_, I2, q2⟩)
  cases k with
  | true => simp [iff.mp rfl]
  | false => simp [nb iff]
theorem qb_notB (ha : PB X a tA) : PB X (.UnaryOp .Not a pos) (tNotP tA) := by
  refine ⟨fun pins s σ H Q I h => ?_⟩
  refine UnaryOp_ (thn (ha.run pins s σ H _ I h) fun v s1 ⟨x, p, H1, e, iff, I1, q1⟩ => ?_)
  subst e
  refine not_of (wpAny_truthy_bool ⟨!x, ¬ p, H1, rfl, ?_, I1, q1⟩)
  cases x with
  | true => simp [iff.mp rfl]
  | false => simp [nb iff]
theorem setK_iff : ∀ (σ : L2.St) (i : Nat) (v : V) (k : L2.St → Prop), setK σ i v k ↔ k (σ.set i (some v))
  | [], _, _, _ => Iff.rfl
  | _ :: σ, 0, _, _ => Iff.rfl
  | x :: σ, n + 1, v, k => setK_iff σ n v (fun σ' => k (x :: σ'))
def sPar (i j : Nat) (ta : TA) : TS := fun D σ H => ta σ H fun vs H1 => match vs with
  | [v, w] => setK σ i v fun σ1 => setK σ1 j w fun σ2 => D.nx σ2 H1
  | _ => False
theorem sPar_eq (i j : Nat) (ta : TA) : tPar i j ta = sPar i j ta := by
  funext D σ H
  unfold tPar sPar
  congr 1
  funext vs H1
  apply propext
  constructor
  · rintro ⟨v, w, rfl, q⟩
    exact (setK_iff _ _ _ _).mpr ((setK_iff _ _ _ _).mpr q)
  · intro h
    split at h
    · exact ⟨_, _, rfl, (setK_iff _ _ _ _).mp ((setK_iff _ _ _ _).mp h)⟩
    · exact h.elim
theorem qpar {i j : Nat} {x y : Str} {ta : TA} {px py pt : Pos} {kt k2 pt2} (hc : X.calm = true) (hN : X.N.Nodup) (hi : X.N[i]? = some x) (hj : X.N[j]? = some y) (hij : i ≠ j)
    (hx : X.env.scope.names.lookup x = some .local) (hy : X.env.scope.names.lookup y = some .local) (ha : PA X [a, b] ta)
    (hw : swappedStores [.Tuple [.Name x px, .Name y py] kt pt] (.Tuple [a, b] k2 pt2) X.env = pure (some [x, y]))
    (hs : swapsWithSole [.Tuple [.Name x px, .Name y py] kt pt] (.Tuple [a, b] k2 pt2) pos.line X.env = pure false := by rfl) :
    PS X (.Assign [.Tuple [.Name x px, .Name y py] kt pt] (.Tuple [a, b] k2 pt2) pos) (sPar i j ta) := by
  rw [← sPar_eq]
  exact ps_par hc hN hi hj hij hx hy ha hw hs
def sAug (i : Nat) (te : TE) (ti : TIp) : TS := fun D σ H => match nth σ i with
  | some x => te σ H fun y H1 => ti x y H1 fun z H2 => setK σ i z fun σ' => D.nx σ' H2
  | none => False
theorem qaug {i : Nat} {x : Str} {e : Expr} {te : TE} {op : Operator} {ti : TIp} {pos' : Pos} (hN : X.N.Nodup) (hi : X.N[i]? = some x) (hx : Loc X.env.scope x) (he : PE X e te) (ho : PIp X op ti) (hf : X.fn x = true ∨ X.env.scope.names.lookup x = some .local := by first | exact .inl rfl | exact .inr rfl | assumption) :
    PS X (.AugAssign (.Name x pos') op e pos) (sAug i te ti) := PS.imp (ps_aug hN hi hx he ho hf) fun D σ H h => by
  unfold sAug at h
  split at h
  · rename_i v ev
    refine ⟨v, nth_eq _ _ _ ev, ?_⟩
    have e : (fun (y : V) (H1 : Hp) => ti v y H1 fun z H2 => D.nx (σ.set i (some z)) H2) = fun y H1 => ti v y H1 fun z H2 => setK σ i z fun σ' => D.nx σ' H2 := by
      funext y H1
      congr 1
      funext z H2
      exact (propext (setK_iff σ i z fun σ' => D.nx σ' H2)).symm
    rw [e]
    exact h
  · exact h.elim
theorem ip_addM : PIp X .Add (fun x y H Q => match x, y with
    | .int i, .int j => Q (.int (i + j)) H
    | .str a, .str b => a.length + b.length ≤ sizeLine ∧ Q (.str (a ++ b)) H
    | _, _ => False) := by
  intro pins s σ H x y v u Q I rx ry h
  cases x <;> cases y <;> first
    | exact h.elim
    | exact iop_add pins s σ H _ _ v u Q I rx ry ⟨_, _, rfl, rfl, h⟩
    | exact iop_add_str pins s σ H _ _ v u Q I rx ry ⟨_, _, rfl, rfl, h.1, h.2⟩
theorem ip_subM : PIp X .Sub mSub := by
  intro pins s σ H x y v u Q I rx ry h
  cases x <;> cases y <;> first | exact h.elim | exact iop_sub pins s σ H _ _ v u Q I rx ry ⟨_, _, rfl, rfl, h⟩
theorem ip_mulM : PIp X .Mult (fun x y H Q => match x, y with
    | .int i, .int j => CMul i j ∧ Q (.int (i * j)) H
    | _, _ => False) := by
  intro pins s σ H x y v u Q I rx ry h
  cases x <;> cases y <;> first | exact h.elim | exact iop_mul pins s σ H _ _ v u Q I rx ry ⟨_, _, rfl, rfl, h.1, h.2⟩
/-- slices of lists, tuples -/
def mSl (K : PySem.W.Frag) : V → Option Int → Option Int → Hp → VK → Prop := fun x lo hi H Q => match x with
  | .ref p => rSlL K (.ref p) lo hi H Q ∨ rSlT K (.ref p) lo hi H Q
  | _ => False
theorem sl_M : SlR X (mSl X.K) := by
  have h := sl_list.or (sl_tup (X := X))
  intro pins s σ H x v vl vu lo hi sl Q I rx hs pl pu q
  cases x with
  | ref p => exact h pins s σ H _ v vl vu lo hi sl Q I rx hs pl pu q
  | _ => exact (show False from q).elim
def mAppend : V → List V → Hp → VK → Prop := fun x vs H Q => match x, vs with
  | .ref l, [y] => ∃ xs, H l = some (.lst xs) ∧ xs.length < sizeLine ∧ Q .non (upd H l (.lst (xs ++ [y])))
  | _, _ => False
theorem m_append : MtR X "list.append" mAppend := by
  intro pins s σ H x xs v us Q I rx rr h
  refine mt_append pins s σ H x xs v us Q I rx rr ?_
  unfold mAppend at h
  split at h
  · obtain ⟨ys, a, b, q⟩ := h
    exact ⟨_, ys, _, rfl, rfl, a, b, q⟩
  · exact h.elim
/-- for over a list or a tuple -/
def iSeq (K : PySem.W.Frag) (tl : TE) : TI := fun σ H R => tl σ H fun x H1 => match x with
  | .ref a => (∃ xs, SqL K H1 a xs) ∧ R (Itl K a) H1 ∨ (∃ xs, SqT K H1 a xs) ∧ R (Itt K a) H1
  | _ => False
theorem qi_seq {tg l : Expr} {tl : TE} (hl : PE X l tl) : PI X tg l (iSeq X.K tl) := by
  refine ⟨fun pins s σ H R I h => ?_⟩
  refine thn (hl.run pins s σ H _ I h) fun v s1 ⟨x, H1, I1, r1, q1⟩ => ?_
  cases x with
  | ref a =>
    have q2 : (∃ xs, SqL X.K H1 a xs) ∧ R (Itl X.K a) H1 ∨ (∃ xs, SqT X.K H1 a xs) ∧ R (Itt X.K a) H1 := q1
    cases r1
    rcases q2 with ⟨⟨xs, hq⟩, q⟩ | ⟨⟨xs, hq⟩, q⟩
    · obtain ⟨its, rv, p, hz⟩ := I1.list hq
      refine wpAny_pyIter_list p.isList ?_
      refine ⟨s1.heap.objs.size, [s1.heap.objs.size], _, _, H1, rfl, I1.kept (t' := s1.toks) fun b o e => Heap.get?_push_of_some _ e, turn_list a _, ⟨_, Heap.get?_push_size _ rfl, rfl, rfl⟩, fun b hb => ?_, q⟩
      have e : b = s1.heap.objs.size := by simpa using hb
      subst e
      exact I1.fpOk (Nat.le_refl _) (I1.hok.fresh (Nat.le_refl _))
    · obtain ⟨its, rv, p, hz⟩ := I1.tuple hq
      refine wpAny_pyIter_tuple (show s1.heap.IsTuple a its.toArray from p) ?_
      refine ⟨s1.heap.objs.size, [s1.heap.objs.size], _, _, H1, rfl, I1.kept (t' := s1.toks) fun b o e => Heap.get?_push_of_some _ e, turn_tuple a _, ⟨_, Heap.get?_push_size _ rfl, rfl, rfl⟩, fun b hb => ?_, q⟩
      have e : b = s1.heap.objs.size := by simpa using hb
      subst e
      exact I1.fpOk (Nat.le_refl _) (I1.hok.fresh (Nat.le_refl _))
  | _ => exact (show False from q1).elim
/-! a module's constant -/
def GlV (K : PySem.W.Frag) (mg : Str → Option Value) (x : Str) (v : V) : Prop := ∃ u, mg x = some u ∧ RelV v u
theorem pe_glE {x : Str} {v : V} (hg : Gl X x) (h : GlV X.K X.mg x v) (hd : (x == ("__debug__" : Str)) = false := by decide) : PE X (.Name x pos) (tC v) := by
  obtain ⟨u, h1, h2⟩ := h
  exact pe_glob hg h1 h2 hd
/-! comprehensions, the test a proposition -/
theorem qts_nil : PTs X [] tYes := pts_nil
theorem qts_one {c : Expr} {t : TP} (h : PP X c t) : PTs X [c] (bT t) := pts_one h.pt
theorem hu65_of {A : Around} {k : Nat} (hr : Room k A) : A.units + 65 < cLine := by
  have := hr.un
  omega
end

theorem atI_ge {xs : List V} {k : Int} {v : V} (h0 : 0 ≤ k) (h : xs[k.toNat]? = some v) : atI xs k = some v := by
  have e : k = ((k.toNat : Nat) : Int) := by omega
  rw [e]
  exact atI_nat h
theorem map_at {ns : List Int} {i : Nat} (h : i < ns.length) : (ns.map V.int)[i]? = some (.int ns[i]) := by
  rw [List.getElem?_map, List.getElem?_eq_getElem h]
  rfl
theorem atI_mem {xs : List V} {k : Int} (h0 : 0 ≤ k) (h : k < (xs.length : Nat)) : ∃ v, atI xs k = some v ∧ v ∈ xs := by
  have hk : k.toNat < xs.length := by omega
  exact ⟨xs[k.toNat], atI_ge h0 (List.getElem?_eq_getElem hk), List.getElem_mem hk⟩
theorem get_old {H : Hp} {p q : Addr} {o x : HO} (h : H q = some x) (hp : H p = none) : upd H p o q = some x := by
  rw [upd_ne (ne_of_none h hp)]
  exact h
theorem get_oth {H : Hp} {p q : Addr} {o x : HO} (h : H q = some x) (hp : q ≠ p) : upd H p o q = some x := by
  rw [upd_ne hp]
  exact h
/-! ### promises, by the number of arguments -/
def sp0 (P : Hp → VK → XK → Prop) : Sp := fun vs H Q E => match vs with | [] => P H Q E | _ => False
def sp1 (P : V → Hp → VK → XK → Prop) : Sp := fun vs H Q E => match vs with | [a] => P a H Q E | _ => False
def sp2 (P : V → V → Hp → VK → XK → Prop) : Sp := fun vs H Q E => match vs with | [a, b] => P a b H Q E | _ => False
def sp3 (P : V → V → V → Hp → VK → XK → Prop) : Sp := fun vs H Q E => match vs with | [a, b, c] => P a b c H Q E | _ => False
def sp4 (P : V → V → V → V → Hp → VK → XK → Prop) : Sp := fun vs H Q E => match vs with | [a, b, c, d] => P a b c d H Q E | _ => False
def sp5 (P : V → V → V → V → V → Hp → VK → XK → Prop) : Sp := fun vs H Q E => match vs with | [a, b, c, d, e] => P a b c d e H Q E | _ => False
def sp6 (P : V → V → V → V → V → V → Hp → VK → XK → Prop) : Sp := fun vs H Q E => match vs with | [a, b, c, d, e, f] => P a b c d e f H Q E | _ => False
def sp7 (P : V → V → V → V → V → V → V → Hp → VK → XK → Prop) : Sp := fun vs H Q E => match vs with | [a, b, c, d, e, f, g] => P a b c d e f g H Q E | _ => False
section
variable {P : Program} {w : World} {K : PySem.W.Frag} {mg : Str → Option Value} {base : Heap}
theorem okL {x qual : Str} {st : Stmt} {f : Addr} {fd : FuncData} {N ps : List Str} {k : Nat} {sp : Sp} (F : Fun K x qual st f fd) (S : FnScope N ps (defScope st)) (len : ∀ vs H Q E, sp vs H Q E → vs.length = ps.length)
    (hbody : ∀ (cdv : Value) (A : Around) (outer : List Env) (s : Shared) (H : Hp) (vs : List V) (Q : VK) (E : XK), Room k (A.deeper (envOfC qual (defScope st) s.heap.objs.size f cdv)) → sp vs H Q E →
      ∃ t, PSs (cxOf CX0 P w K mg base N qual (defScope st) f cdv A outer s H E).nox (defBody st) t ∧ stK N.length vs fun σ => t { nx := fun _ H' => Q .non H', rt := Q } σ H) : FnOk P w K mg base CX0 (k + 1) f fd ps sp :=
  F.ok S len fun cdv A outer s H vs Q E hr h => by
    obtain ⟨t, p, q⟩ := hbody cdv A outer s H vs Q E hr h
    exact ⟨t, p, stK_eq _ _ _ q⟩
theorem okLX {x qual : Str} {st : Stmt} {f : Addr} {fd : FuncData} {N ps : List Str} {k : Nat} {sp : Sp} (F : Fun K x qual st f fd) (S : FnScope N ps (defScope st)) (len : ∀ vs H Q E, sp vs H Q E → vs.length = ps.length)
    (hbody : ∀ (cdv : Value) (A : Around) (outer : List Env) (s : Shared) (H : Hp) (vs : List V) (Q : VK) (E : XK), Room k (A.deeper (envOfC qual (defScope st) s.heap.objs.size f cdv)) → sp vs H Q E →
      ∃ t, PSs (cxOf (L2.CX P w) P w K mg base N qual (defScope st) f cdv A outer s H E) (defBody st) t ∧ stK N.length vs fun σ => t { nx := fun _ H' => Q .non H', rt := Q } σ H) : FnOk P w K mg base (L2.CX P w) (k + 1) f fd ps sp :=
  F.okX S len fun cdv A outer s H vs Q E hr h => by
    obtain ⟨t, p, q⟩ := hbody cdv A outer s H vs Q E hr h
    exact ⟨t, p, stK_eq _ _ _ q⟩
theorem ok0 {x qual : Str} {st : Stmt} {f : Addr} {fd : FuncData} {N ps : List Str} {k : Nat} {R : Hp → VK → XK → Prop} (F : Fun K x qual st f fd) (S : FnScope N ps (defScope st))
    (hbody : ∀ (cdv : Value) (A : Around) (outer : List Env) (s : Shared) (H : Hp) (Q : VK) (E : XK), Room k (A.deeper (envOfC qual (defScope st) s.heap.objs.size f cdv)) → R H Q E →
      ∃ t, PSs (cxOf CX0 P w K mg base N qual (defScope st) f cdv A outer s H E).nox (defBody st) t ∧ stK N.length [] fun σ => t { nx := fun _ H' => Q .non H', rt := Q } σ H) (hl : ps.length = 0 := by rfl) : FnOk P w K mg base CX0 (k + 1) f fd ps (sp0 R) := by
  refine okL F S (fun vs H Q E h => ?_) fun cdv A outer s H vs Q E hr h => ?_
  · unfold sp0 at h
    split at h
    · rw [hl]
      rfl
    · exact h.elim
  · unfold sp0 at h
    split at h
    · exact hbody cdv A outer s H Q E hr h
    · exact h.elim
theorem ok1 {x qual : Str} {st : Stmt} {f : Addr} {fd : FuncData} {N ps : List Str} {k : Nat} {R : V → Hp → VK → XK → Prop} (F : Fun K x qual st f fd) (S : FnScope N ps (defScope st))
    (hbody : ∀ (cdv : Value) (A : Around) (outer : List Env) (s : Shared) (H : Hp) (ya : V) (Q : VK) (E : XK), Room k (A.deeper (envOfC qual (defScope st) s.heap.objs.size f cdv)) → R ya H Q E →
      ∃ t, PSs (cxOf CX0 P w K mg base N qual (defScope st) f cdv A outer s H E).nox (defBody st) t ∧ stK N.length [ya] fun σ => t { nx := fun _ H' => Q .non H', rt := Q } σ H) (hl : ps.length = 1 := by rfl) : FnOk P w K mg base CX0 (k + 1) f fd ps (sp1 R) := by
  refine okL F S (fun vs H Q E h => ?_) fun cdv A outer s H vs Q E hr h => ?_
  · unfold sp1 at h
    split at h
    · rw [hl]
      rfl
    · exact h.elim
  · unfold sp1 at h
    split at h
    · exact hbody cdv A outer s H _ Q E hr h
    · exact h.elim
theorem ok2 {x qual : Str} {st : Stmt} {f : Addr} {fd : FuncData} {N ps : List Str} {k : Nat} {R : V → V → Hp → VK → XK → Prop} (F : Fun K x qual st f fd) (S : FnScope N ps (defScope st))
    (hbody : ∀ (cdv : Value) (A : Around) (outer : List Env) (s : Shared) (H : Hp) (ya yb : V) (Q : VK) (E : XK), Room k (A.deeper (envOfC qual (defScope st) s.heap.objs.size f cdv)) → R ya yb H Q E →
      ∃ t, PSs (cxOf CX0 P w K mg base N qual (defScope st) f cdv A outer s H E).nox (defBody st) t ∧ stK N.length [ya, yb] fun σ => t { nx := fun _ H' => Q .non H', rt := Q } σ H) (hl : ps.length = 2 := by rfl) : FnOk P w K mg base CX0 (k + 1) f fd ps (sp2 R) := by
  refine okL F S (fun vs H Q E h => ?_) fun cdv A outer s H vs Q E hr h => ?_
  · unfold sp2 at h
    split at h
    · rw [hl]
      rfl
    · exact h.elim
  · unfold sp2 at h
    split at h
    · exact hbody cdv A outer s H _ _ Q E hr h
    · exact h.elim
theorem ok3 {x qual : Str} {st : Stmt} {f : Addr} {fd : FuncData} {N ps : List Str} {k : Nat} {R : V → V → V → Hp → VK → XK → Prop} (F : Fun K x qual st f fd) (S : FnScope N ps (defScope st))
    (hbody : ∀ (cdv : Value) (A : Around) (outer : List Env) (s : Shared) (H : Hp) (ya yb yc : V) (Q : VK) (E : XK), Room k (A.deeper (envOfC qual (defScope st) s.heap.objs.size f cdv)) → R ya yb yc H Q E →
      ∃ t, PSs (cxOf CX0 P w K mg base N qual (defScope st) f cdv A outer s H E).nox (defBody st) t ∧ stK N.length [ya, yb, yc] fun σ => t { nx := fun _ H' => Q .non H', rt := Q } σ H) (hl : ps.length = 3 := by rfl) : FnOk P w K mg base CX0 (k + 1) f fd ps (sp3 R) := by
  refine okL F S (fun vs H Q E h => ?_) fun cdv A outer s H vs Q E hr h => ?_
  · unfold sp3 at h
    split at h
    · rw [hl]
      rfl
    · exact h.elim
  · unfold sp3 at h
    split at h
    · exact hbody cdv A outer s H _ _ _ Q E hr h
    · exact h.elim
theorem ok4 {x qual : Str} {st : Stmt} {f : Addr} {fd : FuncData} {N ps : List Str} {k : Nat} {R : V → V → V → V → Hp → VK → XK → Prop} (F : Fun K x qual st f fd) (S : FnScope N ps (defScope st))
    (hbody : ∀ (cdv : Value) (A : Around) (outer : List Env) (s : Shared) (H : Hp) (ya yb yc yd : V) (Q : VK) (E : XK), Room k (A.deeper (envOfC qual (defScope st) s.heap.objs.size f cdv)) → R ya yb yc yd H Q E →
      ∃ t, PSs (cxOf CX0 P w K mg base N qual (defScope st) f cdv A outer s H E).nox (defBody st) t ∧ stK N.length [ya, yb, yc, yd] fun σ => t { nx := fun _ H' => Q .non H', rt := Q } σ H) (hl : ps.length = 4 := by rfl) : FnOk P w K mg base CX0 (k + 1) f fd ps (sp4 R) := by
  refine okL F S (fun vs H Q E h => ?_) fun cdv A outer s H vs Q E hr h => ?_
  · unfold sp4 at h
    split at h
    · rw [hl]
      rfl
    · exact h.elim
  · unfold sp4 at h
    split at h
    · exact hbody cdv A outer s H _ _ _ _ Q E hr h
    · exact h.elim
theorem ok5 {x qual : Str} {st : Stmt} {f : Addr} {fd : FuncData} {N ps : List Str} {k : Nat} {R : V → V → V → V → V → Hp → VK → XK → Prop} (F : Fun K x qual st f fd) (S : FnScope N ps (defScope st))
    (hbody : ∀ (cdv : Value) (A : Around) (outer : List Env) (s : Shared) (H : Hp) (ya yb yc yd ye : V) (Q : VK) (E : XK), Room k (A.deeper (envOfC qual (defScope st) s.heap.objs.size f cdv)) → R ya yb yc yd ye H Q E →
      ∃ t, PSs (cxOf CX0 P w K mg base N qual (defScope st) f cdv A outer s H E).nox (defBody st) t ∧ stK N.length [ya, yb, yc, yd, ye] fun σ => t { nx := fun _ H' => Q .non H', rt := Q } σ H) (hl : ps.length = 5 := by rfl) : FnOk P w K mg base CX0 (k + 1) f fd ps (sp5 R) := by
  refine okL F S (fun vs H Q E h => ?_) fun cdv A outer s H vs Q E hr h => ?_
  · unfold sp5 at h
    split at h
    · rw [hl]
      rfl
    · exact h.elim
  · unfold sp5 at h
    split at h
    · exact hbody cdv A outer s H _ _ _ _ _ Q E hr h
    · exact h.elim
theorem ok6 {x qual : Str} {st : Stmt} {f : Addr} {fd : FuncData} {N ps : List Str} {k : Nat} {R : V → V → V → V → V → V → Hp → VK → XK → Prop} (F : Fun K x qual st f fd) (S : FnScope N ps (defScope st))
    (hbody : ∀ (cdv : Value) (A : Around) (outer : List Env) (s : Shared) (H : Hp) (ya yb yc yd ye yf : V) (Q : VK) (E : XK), Room k (A.deeper (envOfC qual (defScope st) s.heap.objs.size f cdv)) → R ya yb yc yd ye yf H Q E →
      ∃ t, PSs (cxOf CX0 P w K mg base N qual (defScope st) f cdv A outer s H E).nox (defBody st) t ∧ stK N.length [ya, yb, yc, yd, ye, yf] fun σ => t { nx := fun _ H' => Q .non H', rt := Q } σ H) (hl : ps.length = 6 := by rfl) : FnOk P w K mg base CX0 (k + 1) f fd ps (sp6 R) := by
  refine okL F S (fun vs H Q E h => ?_) fun cdv A outer s H vs Q E hr h => ?_
  · unfold sp6 at h
    split at h
    · rw [hl]
      rfl
    · exact h.elim
  · unfold sp6 at h
    split at h
    · exact hbody cdv A outer s H _ _ _ _ _ _ Q E hr h
    · exact h.elim
theorem ok7 {x qual : Str} {st : Stmt} {f : Addr} {fd : FuncData} {N ps : List Str} {k : Nat} {R : V → V → V → V → V → V → V → Hp → VK → XK → Prop} (F : Fun K x qual st f fd) (S : FnScope N ps (defScope st))
    (hbody : ∀ (cdv : Value) (A : Around) (outer : List Env) (s : Shared) (H : Hp) (ya yb yc yd ye yf yg : V) (Q : VK) (E : XK), Room k (A.deeper (envOfC qual (defScope st) s.heap.objs.size f cdv)) → R ya yb yc yd ye yf yg H Q E →
      ∃ t, PSs (cxOf CX0 P w K mg base N qual (defScope st) f cdv A outer s H E).nox (defBody st) t ∧ stK N.length [ya, yb, yc, yd, ye, yf, yg] fun σ => t { nx := fun _ H' => Q .non H', rt := Q } σ H) (hl : ps.length = 7 := by rfl) : FnOk P w K mg base CX0 (k + 1) f fd ps (sp7 R) := by
  refine okL F S (fun vs H Q E h => ?_) fun cdv A outer s H vs Q E hr h => ?_
  · unfold sp7 at h
    split at h
    · rw [hl]
      rfl
    · exact h.elim
  · unfold sp7 at h
    split at h
    · exact hbody cdv A outer s H _ _ _ _ _ _ _ Q E hr h
    · exact h.elim
theorem okX0 {x qual : Str} {st : Stmt} {f : Addr} {fd : FuncData} {N ps : List Str} {k : Nat} {R : Hp → VK → XK → Prop} (F : Fun K x qual st f fd) (S : FnScope N ps (defScope st))
    (hbody : ∀ (cdv : Value) (A : Around) (outer : List Env) (s : Shared) (H : Hp) (Q : VK) (E : XK), Room k (A.deeper (envOfC qual (defScope st) s.heap.objs.size f cdv)) → R H Q E →
      ∃ t, PSs (cxOf (L2.CX P w) P w K mg base N qual (defScope st) f cdv A outer s H E) (defBody st) t ∧ stK N.length [] fun σ => t { nx := fun _ H' => Q .non H', rt := Q } σ H) (hl : ps.length = 0 := by rfl) : FnOk P w K mg base (L2.CX P w) (k + 1) f fd ps (sp0 R) := by
  refine okLX F S (fun vs H Q E h => ?_) fun cdv A outer s H vs Q E hr h => ?_
  · unfold sp0 at h
    split at h
    · rw [hl]
      rfl
    · exact h.elim
  · unfold sp0 at h
    split at h
    · exact hbody cdv A outer s H Q E hr h
    · exact h.elim
theorem okX1 {x qual : Str} {st : Stmt} {f : Addr} {fd : FuncData} {N ps : List Str} {k : Nat} {R : V → Hp → VK → XK → Prop} (F : Fun K x qual st f fd) (S : FnScope N ps (defScope st))
    (hbody : ∀ (cdv : Value) (A : Around) (outer : List Env) (s : Shared) (H : Hp) (ya : V) (Q : VK) (E : XK), Room k (A.deeper (envOfC qual (defScope st) s.heap.objs.size f cdv)) → R ya H Q E →
      ∃ t, PSs (cxOf (L2.CX P w) P w K mg base N qual (defScope st) f cdv A outer s H E) (defBody st) t ∧ stK N.length [ya] fun σ => t { nx := fun _ H' => Q .non H', rt := Q } σ H) (hl : ps.length = 1 := by rfl) : FnOk P w K mg base (L2.CX P w) (k + 1) f fd ps (sp1 R) := by
  refine okLX F S (fun vs H Q E h => ?_) fun cdv A outer s H vs Q E hr h => ?_
  · unfold sp1 at h
    split at h
    · rw [hl]
      rfl
    · exact h.elim
  · unfold sp1 at h
    split at h
    · exact hbody cdv A outer s H _ Q E hr h
    · exact h.elim
theorem okX2 {x qual : Str} {st : Stmt} {f : Addr} {fd : FuncData} {N ps : List Str} {k : Nat} {R : V → V → Hp → VK → XK → Prop} (F : Fun K x qual st f fd) (S : FnScope N ps (defScope st))
    (hbody : ∀ (cdv : Value) (A : Around) (outer : List Env) (s : Shared) (H : Hp) (ya yb : V) (Q : VK) (E : XK), Room k (A.deeper (envOfC qual (defScope st) s.heap.objs.size f cdv)) → R ya yb H Q E →
      ∃ t, PSs (cxOf (L2.CX P w) P w K mg base N qual (defScope st) f cdv A outer s H E) (defBody st) t ∧ stK N.length [ya, yb] fun σ => t { nx := fun _ H' => Q .non H', rt := Q } σ H) (hl : ps.length = 2 := by rfl) : FnOk P w K mg base (L2.CX P w) (k + 1) f fd ps (sp2 R) := by
  refine okLX F S (fun vs H Q E h => ?_) fun cdv A outer s H vs Q E hr h => ?_
  · unfold sp2 at h
    split at h
    · rw [hl]
      rfl
    · exact h.elim
  · unfold sp2 at h
    split at h
    · exact hbody cdv A outer s H _ _ Q E hr h
    · exact h.elim
theorem okX3 {x qual : Str} {st : Stmt} {f : Addr} {fd : FuncData} {N ps : List Str} {k : Nat} {R : V → V → V → Hp → VK → XK → Prop} (F : Fun K x qual st f fd) (S : FnScope N ps (defScope st))
    (hbody : ∀ (cdv : Value) (A : Around) (outer : List Env) (s : Shared) (H : Hp) (ya yb yc : V) (Q : VK) (E : XK), Room k (A.deeper (envOfC qual (defScope st) s.heap.objs.size f cdv)) → R ya yb yc H Q E →
      ∃ t, PSs (cxOf (L2.CX P w) P w K mg base N qual (defScope st) f cdv A outer s H E) (defBody st) t ∧ stK N.length [ya, yb, yc] fun σ => t { nx := fun _ H' => Q .non H', rt := Q } σ H) (hl : ps.length = 3 := by rfl) : FnOk P w K mg base (L2.CX P w) (k + 1) f fd ps (sp3 R) := by
  refine okLX F S (fun vs H Q E h => ?_) fun cdv A outer s H vs Q E hr h => ?_
  · unfold sp3 at h
    split at h
    · rw [hl]
      rfl
    · exact h.elim
  · unfold sp3 at h
    split at h
    · exact hbody cdv A outer s H _ _ _ Q E hr h
    · exact h.elim
theorem okX4 {x qual : Str} {st : Stmt} {f : Addr} {fd : FuncData} {N ps : List Str} {k : Nat} {R : V → V → V → V → Hp → VK → XK → Prop} (F : Fun K x qual st f fd) (S : FnScope N ps (defScope st))
    (hbody : ∀ (cdv : Value) (A : Around) (outer : List Env) (s : Shared) (H : Hp) (ya yb yc yd : V) (Q : VK) (E : XK), Room k (A.deeper (envOfC qual (defScope st) s.heap.objs.size f cdv)) → R ya yb yc yd H Q E →
      ∃ t, PSs (cxOf (L2.CX P w) P w K mg base N qual (defScope st) f cdv A outer s H E) (defBody st) t ∧ stK N.length [ya, yb, yc, yd] fun σ => t { nx := fun _ H' => Q .non H', rt := Q } σ H) (hl : ps.length = 4 := by rfl) : FnOk P w K mg base (L2.CX P w) (k + 1) f fd ps (sp4 R) := by
  refine okLX F S (fun vs H Q E h => ?_) fun cdv A outer s H vs Q E hr h => ?_
  · unfold sp4 at h
    split at h
    · rw [hl]
      rfl
    · exact h.elim
  · unfold sp4 at h
    split at h
    · exact hbody cdv A outer s H _ _ _ _ Q E hr h
    · exact h.elim
theorem okX5 {x qual : Str} {st : Stmt} {f : Addr} {fd : FuncData} {N ps : List Str} {k : Nat} {R : V → V → V → V → V → Hp → VK → XK → Prop} (F : Fun K x qual st f fd) (S : FnScope N ps (defScope st))
    (hbody : ∀ (cdv : Value) (A : Around) (outer : List Env) (s : Shared) (H : Hp) (ya yb yc yd ye : V) (Q : VK) (E : XK), Room k (A.deeper (envOfC qual (defScope st) s.heap.objs.size f cdv)) → R ya yb yc yd ye H Q E →
      ∃ t, PSs (cxOf (L2.CX P w) P w K mg base N qual (defScope st) f cdv A outer s H E) (defBody st) t ∧ stK N.length [ya, yb, yc, yd, ye] fun σ => t { nx := fun _ H' => Q .non H', rt := Q } σ H) (hl : ps.length = 5 := by rfl) : FnOk P w K mg base (L2.CX P w) (k + 1) f fd ps (sp5 R) := by
  refine okLX F S (fun vs H Q E h => ?_) fun cdv A outer s H vs Q E hr h => ?_
  · unfold sp5 at h
    split at h
    · rw [hl]
      rfl
    · exact h.elim
  · unfold sp5 at h
    split at h
    · exact hbody cdv A outer s H _ _ _ _ _ Q E hr h
    · exact h.elim
theorem okX6 {x qual : Str} {st : Stmt} {f : Addr} {fd : FuncData} {N ps : List Str} {k : Nat} {R : V → V → V → V → V → V → Hp → VK → XK → Prop} (F : Fun K x qual st f fd) (S : FnScope N ps (defScope st))
    (hbody : ∀ (cdv : Value) (A : Around) (outer : List Env) (s : Shared) (H : Hp) (ya yb yc yd ye yf : V) (Q : VK) (E : XK), Room k (A.deeper (envOfC qual (defScope st) s.heap.objs.size f cdv)) → R ya yb yc yd ye yf H Q E →
      ∃ t, PSs (cxOf (L2.CX P w) P w K mg base N qual (defScope st) f cdv A outer s H E) (defBody st) t ∧ stK N.length [ya, yb, yc, yd, ye, yf] fun σ => t { nx := fun _ H' => Q .non H', rt := Q } σ H) (hl : ps.length = 6 := by rfl) : FnOk P w K mg base (L2.CX P w) (k + 1) f fd ps (sp6 R) := by
  refine okLX F S (fun vs H Q E h => ?_) fun cdv A outer s H vs Q E hr h => ?_
  · unfold sp6 at h
    split at h
    · rw [hl]
      rfl
    · exact h.elim
  · unfold sp6 at h
    split at h
    · exact hbody cdv A outer s H _ _ _ _ _ _ Q E hr h
    · exact h.elim
theorem okX7 {x qual : Str} {st : Stmt} {f : Addr} {fd : FuncData} {N ps : List Str} {k : Nat} {R : V → V → V → V → V → V → V → Hp → VK → XK → Prop} (F : Fun K x qual st f fd) (S : FnScope N ps (defScope st))
    (hbody : ∀ (cdv : Value) (A : Around) (outer : List Env) (s : Shared) (H : Hp) (ya yb yc yd ye yf yg : V) (Q : VK) (E : XK), Room k (A.deeper (envOfC qual (defScope st) s.heap.objs.size f cdv)) → R ya yb yc yd ye yf yg H Q E →
      ∃ t, PSs (cxOf (L2.CX P w) P w K mg base N qual (defScope st) f cdv A outer s H E) (defBody st) t ∧ stK N.length [ya, yb, yc, yd, ye, yf, yg] fun σ => t { nx := fun _ H' => Q .non H', rt := Q } σ H) (hl : ps.length = 7 := by rfl) : FnOk P w K mg base (L2.CX P w) (k + 1) f fd ps (sp7 R) := by
  refine okLX F S (fun vs H Q E h => ?_) fun cdv A outer s H vs Q E hr h => ?_
  · unfold sp7 at h
    split at h
    · rw [hl]
      rfl
    · exact h.elim
  · unfold sp7 at h
    split at h
    · exact hbody cdv A outer s H _ _ _ _ _ _ _ Q E hr h
    · exact h.elim
end
/-! ### the stream of a law's digits -/
def StrAt (K : PySem.W.Frag) (H : Hp) (st : Addr) : Prop := ∃ (L : Addr) (ns : List Int) (c k : Int), H st = some (.lst [.ref L, .int c, .int k]) ∧ SqL K H L (ns.map V.int) ∧ 0 ≤ k
theorem seq_ne {K : PySem.W.Frag} {H : Hp} {a b : Addr} {xs : List V} {o : HO} (h : SqL K H a xs) (hb : b ≠ a) : SqL K (upd H b o) a xs := by
  rcases h with (h | ⟨u, h⟩) | h
  · exact .inl (.inl (by rw [upd_ne hb.symm]; exact h))
  · exact .inl (.inr ⟨u, by rw [upd_ne hb.symm]; exact h⟩)
  · exact .inr h
theorem seq_ne2 {K : PySem.W.Frag} {H : Hp} {a b : Addr} {ns : List Int} {cs : List V} {L : Addr} (h : SqL K H a (ns.map V.int)) (hb : H b = some (.lst (.ref L :: cs))) (o : HO) : SqL K (upd H b o) a (ns.map V.int) := by
  by_cases e : b = a
  · subst e
    rcases h with (h | ⟨u, h⟩) | h
    · rw [hb] at h
      cases ns with
      | nil => cases h
      | cons n r => cases h
    · rw [hb] at h
      cases h
    · exact .inr h
  · exact seq_ne h e
theorem StrAt.same {K : PySem.W.Frag} {H H' : Hp} {st : Addr} (s : Same H H') (h : StrAt K H st) : StrAt K H' st := by
  obtain ⟨L, ns, c, k, h1, h2, h3⟩ := h
  exact ⟨L, ns, c, k, s _ _ h1, s.seq h2, h3⟩
theorem StrAt.new {K : PySem.W.Frag} {H : Hp} {st p : Addr} {o : HO} (hp : H p = none) (h : StrAt K H st) : StrAt K (upd H p o) st :=
  h.same fun b u e => get_old e hp
theorem StrAt.ne {K : PySem.W.Frag} {H : Hp} {st p : Addr} (h : StrAt K H st) (hp : H p = none) : p ≠ st := fun e => by
  obtain ⟨L, ms, c, k, e2, _⟩ := h
  rw [e, e2] at hp
  cases hp
theorem upd_self {H : Hp} {a : Addr} {o : HO} (h : H a = some o) : upd H a o = H := by
  funext b
  unfold upd
  split
  · rename_i e
    rw [e, h]
  · rfl
theorem log2_small {m : Int} (h0 : 0 < m) (h : m < 10 ^ 100) : m.natAbs.log2 < 9000 := by
  have h1 : m.natAbs ≠ 0 := by omega
  refine (Nat.log2_lt h1).mpr ?_
  have h2 : m.natAbs < 10 ^ 100 := by omega
  exact Nat.lt_trans h2 (by decide +kernel)
end Q

set_option maxHeartbeats 4000000
namespace Law
open PySem PySem.Spec PyProof.Rows L2 Q
/-! the walk's words -/
local macro_rules | `(tactic| walk_at "hp") => `(tactic| first
  | assumption
  | exact upd_same
  | (refine get_old ?_ (by assumption); walk_at "hp")
  | (refine get_oth ?_ (by first | assumption | (exact Ne.symm (by assumption))); walk_at "hp"))
local macro_rules | `(tactic| walk_at "sq") => `(tactic| first
  | assumption
  | exact Or.inl (by assumption)
  | exact Or.inr (by assumption)
  | exact Or.inl (SqL.of (by walk_at "hp"))
  | exact Or.inr (SqT.of (by walk_at "hp"))
  | exact SqL.of (by walk_at "hp")
  | exact SqT.of (by walk_at "hp"))
local macro_rules | `(tactic| walk_at "side") => `(tactic| first
  | trivial | rfl | (exact Or.inr (wide_mul (a := 250) (b := 250) (by omega) (by omega) (by omega) (by omega) (by omega))) | omega | (exact ⟨by omega, by omega⟩) | (exact ⟨by first | omega | assumption, by first | omega | assumption | decide⟩) | (exact ⟨by decide, by decide, by decide⟩) | (exact Or.inl (Or.inl ⟨by omega, by omega⟩)) | (exact Or.inl (Or.inr ⟨by omega, by omega⟩)) | (exact Nat.zero_le _) | (exact Nat.le_of_lt (small1000 (by simp; done))) | assumption | (exact StrAt.new (by assumption) (by assumption)) | (exact StrAt.new (by assumption) (StrAt.new (by assumption) (by assumption))) | (exact StrAt.new (by assumption) (StrAt.new (by assumption) (StrAt.new (by assumption) (by assumption)))) | decide)
local macro_rules | `(tactic| walk_at "w") => `(tactic| (conv => whnf))
/-- one step of the walk -/
local macro_rules | `(tactic| walk_at "g1") => `(tactic| focus ((try (conv => whnf)); first
  | done
  | with_reducible assumption
  | ((with_reducible refine Br.tt ?c ?_); (case c => first | rfl | trivial | omega | assumption | (exact StrAt.new (by assumption) (by assumption)) | (exact StrAt.new (by assumption) (StrAt.new (by assumption) (by assumption))) | (exact StrAt.new (by assumption) (StrAt.new (by assumption) (StrAt.new (by assumption) (by assumption)))) | decide))
  | ((with_reducible refine Br.ff ?c ?_); (case c => first | omega | assumption | (intro h; cases h; done) | decide))
  | ((with_reducible refine And.intro ?c ?_); (case c => walk_at "side"))
  | (with_reducible refine Or.inr (Exists.intro _ (And.intro rfl ?_)))
  | (with_reducible refine Or.inl (And.intro (by assumption) ?_))
  | (with_reducible refine Exists.intro _ (Exists.intro _ (And.intro rfl (And.intro rfl ?_))))
  | ((with_reducible apply Exists.intro (α := Prop)); (refine And.intro (fun _ => ?a) ?b); (case a => ((conv => whnf); exact ⟨rfl, rfl⟩)))
  | (show _ ↔ _; first | exact Iff.rfl | omega | (simp; done) | (simp; omega) | (simp_all; done))
  | (refine fun (b : Bool) (hb : b = true ↔ _) => ?_; (first
      | (have hb2 : b = true := hb.mpr (by first | trivial | assumption | omega); clear hb; subst hb2)
      | (have hb2 : b = false := Bool.eq_false_iff.mpr (fun e => by have e2 := hb.mp e; clear hb; first | exact e2.elim | contradiction | omega | (simp at e2; done)); clear hb; subst hb2)
      | (simp at hb; subst hb)
      | skip))))
local macro_rules | `(tactic| walk_at "g") => `(tactic| repeat walk_at "g1")
/-- both ways of each branch -/
local macro_rules | `(tactic| walk_at "gs") => `(tactic| ((repeat walk_at "g1"); (try ((conv => whnf); (with_reducible refine Br.mk (fun hc => ?_) (fun hc => ?_)) <;> walk_at "gs"))))

def topS (i : Nat) : Stmt := PySem.Challenge.pw_alikeplay_k02_roots_and_wraps.main.body.getD i (.Pass ⟨0, 0, 0, 0⟩)
abbrev s_is_whole : Stmt := topS 7
theorem sc_is_whole : FnScope ["value"] ["value"] (defScope s_is_whole) := ⟨rfl, rfl, rfl, by decide +kernel, rfl, by decide +kernel, by decide +kernel⟩
abbrev s_is_between : Stmt := topS 8
theorem sc_is_between : FnScope ["value", "low", "high"] ["value", "low", "high"] (defScope s_is_between) := ⟨rfl, rfl, rfl, by decide +kernel, rfl, by decide +kernel, by decide +kernel⟩
abbrev s_check_whole : Stmt := topS 9
theorem sc_check_whole : FnScope ["value", "name"] ["value", "name"] (defScope s_check_whole) := ⟨rfl, rfl, rfl, by decide +kernel, rfl, by decide +kernel, by decide +kernel⟩
abbrev s_floor_root : Stmt := topS 10
theorem sc_floor_root : FnScope ["n"] ["n"] (defScope s_floor_root) := ⟨rfl, rfl, rfl, by decide +kernel, rfl, by decide +kernel, by decide +kernel⟩
abbrev s_wrapped : Stmt := topS 11
theorem sc_wrapped : FnScope ["n"] ["n"] (defScope s_wrapped) := ⟨rfl, rfl, rfl, by decide +kernel, rfl, by decide +kernel, by decide +kernel⟩
abbrev s__law_stream : Stmt := topS 13
theorem sc__law_stream : FnScope ["_law_script"] ["_law_script"] (defScope s__law_stream) := ⟨rfl, rfl, rfl, by decide +kernel, rfl, by decide +kernel, by decide +kernel⟩
abbrev s__law_next : Stmt := topS 14
theorem sc__law_next : FnScope ["_law_stream_here", "_law_many", "_law_k", "_law_cell", "_law_digit"] ["_law_stream_here", "_law_many"] (defScope s__law_next) := ⟨rfl, rfl, rfl, by decide +kernel, rfl, by decide +kernel, by decide +kernel⟩
abbrev s__law_is_integer : Stmt := topS 15
theorem sc__law_is_integer : FnScope ["_law_actual"] ["_law_actual"] (defScope s__law_is_integer) := ⟨rfl, rfl, rfl, by decide +kernel, rfl, by decide +kernel, by decide +kernel⟩
abbrev s_law : Stmt := topS 22
theorem sc_law : FnScope ["_law_script", "_law_stream_here", "_law_n", "_law_size", "_law_root", "_law_told", "_law_odd", "_law_low_here", "_law_high", "_law_due"] ["_law_script"] (defScope s_law) := ⟨rfl, rfl, rfl, by decide +kernel, rfl, by decide +kernel, by decide +kernel⟩
structure Ad where
  a_is_whole : Addr
  d_is_whole : FuncData
  a_is_between : Addr
  d_is_between : FuncData
  a_check_whole : Addr
  d_check_whole : FuncData
  a_floor_root : Addr
  d_floor_root : FuncData
  a_wrapped : Addr
  d_wrapped : FuncData
  a__law_stream : Addr
  d__law_stream : FuncData
  a__law_next : Addr
  d__law_next : FuncData
  a__law_is_integer : Addr
  d__law_is_integer : FuncData
  a_law : Addr
  d_law : FuncData
structure Tx (K : PySem.W.Frag) (mg : Str → Option Value) (A : Ad) : Prop where
  f_is_whole : Fun K "is_whole" "is_whole" s_is_whole A.a_is_whole A.d_is_whole
  g_is_whole : mg "is_whole" = some (.ref A.a_is_whole)
  b_is_whole : Binds K A.d_is_whole ["value"] []
  f_is_between : Fun K "is_between" "is_between" s_is_between A.a_is_between A.d_is_between
  g_is_between : mg "is_between" = some (.ref A.a_is_between)
  b_is_between : Binds K A.d_is_between ["value", "low", "high"] []
  f_check_whole : Fun K "check_whole" "check_whole" s_check_whole A.a_check_whole A.d_check_whole
  g_check_whole : mg "check_whole" = some (.ref A.a_check_whole)
  b_check_whole : Binds K A.d_check_whole ["value", "name"] []
  f_floor_root : Fun K "floor_root" "floor_root" s_floor_root A.a_floor_root A.d_floor_root
  g_floor_root : mg "floor_root" = some (.ref A.a_floor_root)
  b_floor_root : Binds K A.d_floor_root ["n"] []
  f_wrapped : Fun K "wrapped" "wrapped" s_wrapped A.a_wrapped A.d_wrapped
  g_wrapped : mg "wrapped" = some (.ref A.a_wrapped)
  b_wrapped : Binds K A.d_wrapped ["n"] []
  f__law_stream : Fun K "_law_stream" "_law_stream" s__law_stream A.a__law_stream A.d__law_stream
  g__law_stream : mg "_law_stream" = some (.ref A.a__law_stream)
  b__law_stream : Binds K A.d__law_stream ["_law_script"] []
  f__law_next : Fun K "_law_next" "_law_next" s__law_next A.a__law_next A.d__law_next
  g__law_next : mg "_law_next" = some (.ref A.a__law_next)
  b__law_next : Binds K A.d__law_next ["_law_stream_here", "_law_many"] []
  f__law_is_integer : Fun K "_law_is_integer" "_law_is_integer" s__law_is_integer A.a__law_is_integer A.d__law_is_integer
  g__law_is_integer : mg "_law_is_integer" = some (.ref A.a__law_is_integer)
  b__law_is_integer : Binds K A.d__law_is_integer ["_law_actual"] []
  f_law : Fun K "law" "law" s_law A.a_law A.d_law
  g_law : mg "law" = some (.ref A.a_law)
  b_law : Binds K A.d_law ["_law_script"] []
  m_abs : mg "abs" = none
  m_bool : mg "bool" = none
  m_int : mg "int" = none
  m_isinstance : mg "isinstance" = none
  m_len : mg "len" = none
  m_list : mg "list" = none
  c_LOWEST : GlV K mg "LOWEST" (V.int (-2147483648))
  c_WRAP : GlV K mg "WRAP" (V.int (4294967296))
  i_isqrt : mg "isqrt" = some (.builtin "math.isqrt")
section
variable {P : Program} {w : World} {K : PySem.W.Frag} {mg : Str → Option Value} {base : Heap} {A : Ad}
/-! ### whole numbers -/
/-- a value that is no integer, of a kind that is told -/
def NotInt (K : PySem.W.Frag) (H : Hp) (v : V) : Prop := match v with
  | .bl _ => True
  | .str _ => True
  | .non => True
  | .ref p => ∃ U, IsSeq K H p U
  | _ => False
def P_is_whole (K : PySem.W.Frag) : V → Hp → VK → XK → Prop := fun x H Q E => (NotInt K H x ∧ Q (.bl false) H) ∨ ∃ i : Int, x = .int i ∧ Q (.bl true) H
theorem ok_is_whole (T : Tx K mg A) : FnOk P w K mg base CX0 1 A.a_is_whole A.d_is_whole ["value"] (sp1 (P_is_whole K)) := by
  refine ok1 T.f_is_whole sc_is_whole (fun cdv A' outer s H x0 Q E hr h => ⟨_, (pss_one (ps_ret (qe_B (qb_and (qb_val (qisi Ty.int (by rfl) T.m_isinstance (by rfl) T.m_int (qv 0))) (qb_and1 (qb_notB (qb_val (qisi Ty.bool (by rfl) T.m_isinstance (by rfl) T.m_bool (qv 0))))))))), ?_⟩)
  try dsimp only [L2.cxOf]
  rcases h with ⟨n, h⟩ | ⟨i, rfl, h⟩
  · cases x0 with
    | ref p =>
      obtain ⟨U, hU⟩ := n
      walk_at "w"
      refine ⟨U, hU, ?_⟩
      cases U <;> first | exact hU.elim | walk_at "g"
    | int i => exact n.elim
    | bl i => walk_at "g"
    | str i => walk_at "g"
    | non => walk_at "g"
    | _ => exact n.elim
  · walk_at "g"
/-- only ints come -/
def P_check_whole (K : PySem.W.Frag) : V → V → Hp → VK → XK → Prop := fun x _ H Q E => match x with
  | .int _ => Q .non H
  | _ => False
theorem ok_check_whole (T : Tx K mg A) (G_is_whole : FnOk P w K mg base CX0 1 A.a_is_whole A.d_is_whole ["value"] (sp1 (P_is_whole K))) : FnOk P w K mg base CX0 2 A.a_check_whole A.d_check_whole ["value", "name"] (sp2 (P_check_whole K)) := by
  refine ok2 T.f_check_whole sc_check_whole (fun cdv A' outer s H x0 x1 Q E hr h => ⟨_, (pss_one (qif (qp_not (pp_B (qb_val (pe_call G_is_whole (hr.mono (by decide)) (by rfl) T.g_is_whole T.f_is_whole.kp T.b_is_whole .nil pass0 (pa_cons (qv 0) pa_nil))))) (pss_one ps_never) pss_nil)), ?_⟩)
  try dsimp only [L2.cxOf]
  cases x0 with
  | int i =>
    conv at h => whnf
    walk_at "g"
  | _ => exact h.elim

def P_is_between (K : PySem.W.Frag) : V → V → V → Hp → VK → XK → Prop := fun x lo hi H Q E => ∃ a b : Int, lo = .int a ∧ hi = .int b ∧ ((NotInt K H x ∧ Q (.bl false) H) ∨ ∃ i : Int, x = .int i ∧ ∀ r : Bool, (r = true ↔ a ≤ i ∧ i ≤ b) → Q (.bl r) H)
theorem ok_is_between (T : Tx K mg A) (G_is_whole : FnOk P w K mg base CX0 1 A.a_is_whole A.d_is_whole ["value"] (sp1 (P_is_whole K))) : FnOk P w K mg base CX0 2 A.a_is_between A.d_is_between ["value", "low", "high"] (sp3 (P_is_between K)) := by
  refine ok3 T.f_is_between sc_is_between (fun cdv A' outer s H x0 x1 x2 Q E hr h => ⟨_, (pss_one (ps_ret (qe_B (qb_and (qb_val (pe_call G_is_whole (hr.mono (by decide)) (by rfl) T.g_is_whole T.f_is_whole.kp T.b_is_whole .nil pass0 (pa_cons (qv 0) pa_nil))) (qb_and1 (qb_chain o_le o_le (qv 1) (qv 0) (qv 2))))))), ?_⟩)
  try dsimp only [L2.cxOf]
  obtain ⟨a, b, rfl, rfl, ⟨n, h⟩ | ⟨i, rfl, h⟩⟩ := h
  · walk_at "g"
  · walk_at "g"

def P_floor_root (K : PySem.W.Frag) : V → Hp → VK → XK → Prop := fun x H Q E => match x with
  | .int n => 0 ≤ n ∧ n < 2 ^ 200 ∧ ∀ r : Int, (0 ≤ r ∧ r * r ≤ n ∧ n < (r + 1) * (r + 1)) → Q (.int r) H
  | _ => False
theorem ok_floor_root (T : Tx K mg A) (G_is_whole : FnOk P w K mg base CX0 1 A.a_is_whole A.d_is_whole ["value"] (sp1 (P_is_whole K))) : FnOk P w K mg base CX0 2 A.a_floor_root A.d_floor_root ["n"] (sp1 (P_floor_root K)) := by
  refine ok1 T.f_floor_root sc_floor_root (fun cdv A' outer s H x0 Q E hr h => ⟨_, (pss_cons (qif (PPW.pp (qw_or (qp_not (pp_B (qb_val (pe_call G_is_whole (hr.mono (by decide)) (by rfl) T.g_is_whole T.f_is_whole.kp T.b_is_whole .nil pass0 (pa_cons (qv 0) pa_nil))))) (qw_or1 (pp_cmp o_lt (qv 0) pe_int (nomark _))))) (pss_one ps_never) pss_nil)
      (pss_one (ps_ret (pe_callBfun c_isqrt (by rfl) T.i_isqrt (pa_cons (qv 0) pa_nil))))), ?_⟩)
  try dsimp only [L2.cxOf]
  cases x0 <;> first | exact h.elim | skip
  obtain ⟨h0, h1, h⟩ := h
  walk_at "g"
def wrapZ (n : Int) : Int := (n + 2147483648) % 4294967296 - 2147483648
def P_wrapped (K : PySem.W.Frag) : V → Hp → VK → XK → Prop := fun x H Q E => match x with
  | .int n => Q (.int (wrapZ n)) H
  | _ => False
theorem ok_wrapped (T : Tx K mg A) (G_check_whole : FnOk P w K mg base CX0 2 A.a_check_whole A.d_check_whole ["value", "name"] (sp2 (P_check_whole K))) : FnOk P w K mg base CX0 3 A.a_wrapped A.d_wrapped ["n"] (sp1 (P_wrapped K)) := by
  refine ok1 T.f_wrapped sc_wrapped (fun cdv A' outer s H x0 Q E hr h => ⟨_, (pss_cons (ps_expr (pe_call G_check_whole (hr.mono (by decide)) (by rfl) T.g_check_whole T.f_check_whole.kp T.b_check_whole .nil pass0 (pa_cons (qv 0) (pa_cons pe_str pa_nil))))
      (pss_one (ps_ret (pe_op op_addM (pe_op op_modM (pe_callTy c_int (by rfl) T.m_int (by decide +kernel) (pa_cons (pe_op op_subM (qv 0) (pe_glE (by rfl) T.c_LOWEST)) pa_nil)) (pe_glE (by rfl) T.c_WRAP)) (pe_glE (by rfl) T.c_LOWEST))))), ?_⟩)
  try dsimp only [L2.cxOf]
  cases x0 <;> first | exact h.elim | skip
  rename_i n
  have h : Q (.int (wrapZ n)) H := h
  have e : ((n - -2147483648).fmod 4294967296 + -2147483648) = wrapZ n := by
    rw [Int.fmod_eq_emod_of_nonneg _ (by decide)]
    unfold wrapZ
    omega
  rw [← e] at h
  walk_at "g"

/-! ### the stream of digits: what is drawn is any number below the one that is asked -/
def P__law_stream (K : PySem.W.Frag) : V → Hp → VK → XK → Prop := fun x H Q E => ∃ (a : Addr) (ns : List Int), x = .ref a ∧ SqL K H a (ns.map V.int) ∧ ∀ (st : Addr) (H' : Hp), H st = none → Same H H' → StrAt K H' st → Q (.ref st) H'
theorem ok__law_stream (T : Tx K mg A) : FnOk P w K mg base CX0 1 A.a__law_stream A.d__law_stream ["_law_script"] (sp1 (P__law_stream K)) := by
  refine ok1 T.f__law_stream sc__law_stream (fun cdv A' outer s H x0 Q E hr h => ⟨_, (pss_one (ps_ret (pe_lst (pa_cons (pe_callTy c_list (by rfl) T.m_list (by decide +kernel) (pa_cons (qv 0) pa_nil)) (pa_cons pe_int (pa_cons pe_int pa_nil)))))), ?_⟩)
  try dsimp only [L2.cxOf]
  obtain ⟨a, ns, rfl, hS, h⟩ := h
  walk_at "w"
  refine ⟨_, .inl hS, fun l hl => ?_⟩
  walk_at "w"
  refine ⟨by walk_at "side", fun p hp => ?_⟩
  have s1 : Same H (upd H l (.lst (ns.map V.int))) := fun b u e => get_old e hl
  refine h p _ (s1.free hp) (s1.trans fun b u e => get_old e hp) ⟨l, ns, 0, 0, upd_same, .inl (.inl (get_old upd_same hp)), by omega⟩
/-- the next digit below many -/
def P__law_next (K : PySem.W.Frag) : V → V → Hp → VK → XK → Prop := fun x y H Q E => ∃ (st : Addr) (many : Int), x = .ref st ∧ y = .int many ∧ StrAt K H st ∧ 0 < many ∧ many < 10 ^ 100 ∧
  ∀ (d : Int) (H' : Hp), 0 ≤ d → d < many → StrAt K H' st → (∀ q, q ≠ st → H' q = H q) → Q (.int d) H'
theorem ok__law_next (T : Tx K mg A) : FnOk P w K mg base CX0 1 A.a__law_next A.d__law_next ["_law_stream_here", "_law_many"] (sp2 (P__law_next K)) := by
  refine ok2 T.f__law_next sc__law_next (fun cdv A' outer s H x0 x1 Q E hr h => ⟨_, (pss_cons (qjoin (qif (pp_cmp (o_eq hr.units) (pe_ix ix_M (qv 0) pe_int (fun _ _ => rfl)) pe_int (nomark _)) (pss_cons (qset (i := 2) sc__law_next.nd rfl (Or.inl rfl) (pe_ix ix_M (qv 0) pe_int (fun _ _ => rfl)))
      (pss_cons (qset (i := 3) sc__law_next.nd rfl (Or.inl rfl) (pe_op op_addM pe_int (qv 2)))
      (pss_cons (qjoin (qif (pp_cmp o_lt (qv 2) (pe_callB c_len (by rfl) T.m_len (by decide +kernel) (pa_cons (pe_ix ix_M (qv 0) pe_int (fun _ _ => rfl)) pa_nil)) (nomark _)) (pss_one (qset (i := 3) sc__law_next.nd rfl (Or.inl rfl) (pe_callB c_abs (by rfl) T.m_abs (by decide +kernel) (pa_cons (pe_ix ix_M (pe_ix ix_M (qv 0) pe_int (fun _ _ => rfl)) (qv 2) (fun _ _ => rfl)) pa_nil)))) pss_nil))
      (pss_cons (qjoin (qif (pp_cmp o_lt (qv 3) (qpowc (v := 1000000000000000000) (by decide +kernel)) (nomark _)) (pss_cons (qset (i := 3) sc__law_next.nd rfl (Or.inl rfl) (pe_op op_modM (pe_callTy c_int (by rfl) T.m_int (by decide +kernel) (pa_cons (pe_op op_addM (pe_op op_addM (pe_op op_mulM (qv 3) pe_int) (pe_op op_mulM (qv 2) pe_int)) pe_int) pa_nil)) pe_int))
      (pss_one (qset (i := 3) sc__law_next.nd rfl (Or.inl rfl) (pe_op op_addM (pe_op op_mulM (pe_op op_modM (pe_callTy c_int (by rfl) T.m_int (by decide +kernel) (pa_cons (pe_op op_addM (pe_op op_mulM (qv 3) pe_int) pe_int) pa_nil)) pe_int) pe_int) (qv 3))))) pss_nil))
      (pss_cons (ps_asg (qv 3) (pg_sub (qv 0) pe_int set_M))
      (pss_one (ps_asg (pe_op op_addM (qv 2) pe_int) (pg_sub (qv 0) pe_int set_M)))))))) pss_nil))
      (pss_cons (qset (i := 4) sc__law_next.nd rfl (Or.inl rfl) (pe_op op_modM (pe_callTy c_int (by rfl) T.m_int (by decide +kernel) (pa_cons (pe_ix ix_M (qv 0) pe_int (fun _ _ => rfl)) pa_nil)) (qv 1)))
      (pss_cons (ps_asg (pe_op op_fdivM (pe_ix ix_M (qv 0) pe_int (fun _ _ => rfl)) (qv 1)) (pg_sub (qv 0) pe_int set_M))
      (pss_one (ps_ret (qv 4)))))), ?_⟩)
  try dsimp only [L2.cxOf]
  obtain ⟨st, many, rfl, rfl, ⟨L, ns, c, k, hst, hL, hk⟩, hm, hl, h⟩ := h
  walk_at "w"
  -- behind the first if
  refine ⟨fun σ' H' => ∃ a b c' k', σ' = [some (.ref st), some (.int many), a, b, none] ∧ (0 : Int) ≤ k' ∧ H' = upd H st (.lst [.ref L, .int c', .int k']), ?_, ?_⟩
  · walk_at "w"
    refine ⟨_, .inl (SqL.of hst), _, rfl, ?_⟩
    walk_at "w"
    refine ⟨fun _ => ?_, fun _ => ⟨none, none, c, k, rfl, hk, (upd_self hst).symm⟩⟩
    walk_at "w"
    refine ⟨_, .inl (SqL.of hst), _, rfl, ?_⟩
    walk_at "w"
    -- if k < len: cell = abs(script[k])
    refine ⟨fun σ' H' => ∃ c' : Int, σ' = [some (.ref st), some (.int many), some (.int k), some (.int c'), none] ∧ H = H', ?_, ?_⟩
    · walk_at "w"
      refine ⟨_, .inl (SqL.of hst), _, rfl, ?_⟩
      walk_at "w"
      refine ⟨_, .inl hL, ?_⟩
      walk_at "w"
      refine ⟨fun hc => ?_, fun hc => ⟨_, rfl, rfl⟩⟩
      have hc : k < ((ns.map V.int).length : Nat) := hc
      rw [List.length_map] at hc
      have e := atI_ge hk (map_at (ns := ns) (i := k.toNat) (by omega))
      walk_at "w"
      refine ⟨_, .inl (SqL.of hst), _, rfl, ?_⟩
      walk_at "w"
      refine ⟨_, .inl hL, _, e, ?_⟩
      exact ⟨_, rfl, rfl⟩
    · rintro _ _ ⟨c', rfl, rfl⟩
      walk_at "w"
      -- if cell < 10 ** 18
      refine ⟨fun σ' H'' => ∃ c' : Int, σ' = [some (.ref st), some (.int many), some (.int k), some (.int c'), none] ∧ H = H'', ?_, ?_⟩
      · walk_at "g"
        walk_at "w"
        refine ⟨fun _ => ?_, fun _ => ⟨_, rfl, rfl⟩⟩
        walk_at "g"
        exact ⟨_, rfl, rfl⟩
      · rintro σ'' H'' ⟨c2, rfl, rfl⟩
        walk_at "w"
        refine ⟨_, _, hst, rfl, ?_⟩
        walk_at "w"
        refine ⟨_, _, upd_same, rfl, ?_⟩
        refine ⟨some (.int k), some (.int c2), c2, k + 1, rfl, by omega, ?_⟩
        rw [upd_upd]
        rfl
  · rintro σ' H' ⟨a, b, c', k', rfl, hk', rfl⟩
    have hL' := fun o => seq_ne2 hL hst o
    walk_at "w"
    refine ⟨_, .inl (SqL.of upd_same), _, rfl, ?_⟩
    walk_at "g"
    walk_at "w"
    refine ⟨_, .inl (SqL.of upd_same), _, rfl, ?_⟩
    walk_at "w"
    refine ⟨⟨by omega, log2_small hm hl⟩, ?_⟩
    walk_at "w"
    refine ⟨_, _, upd_same, rfl, ?_⟩
    walk_at "w"
    have e : (c' : Int).fmod many = c' % many := Int.fmod_eq_emod_of_nonneg _ (by omega)
    refine h (c'.fmod many) _ (by rw [e]; exact Int.emod_nonneg _ (by omega)) (by rw [e]; exact Int.emod_lt_of_pos _ hm) ⟨L, ns, _, k', upd_same, ?_, hk'⟩ fun q hq => ?_
    · rw [upd_upd]
      exact hL' _
    · rw [upd_ne hq, upd_ne hq]
def P__law_is_integer (K : PySem.W.Frag) : V → Hp → VK → XK → Prop := P_is_whole K
theorem ok__law_is_integer (T : Tx K mg A) : FnOk P w K mg base CX0 1 A.a__law_is_integer A.d__law_is_integer ["_law_actual"] (sp1 (P__law_is_integer K)) := by
  refine ok1 T.f__law_is_integer sc__law_is_integer (fun cdv A' outer s H x0 Q E hr h => ⟨_, (pss_one (ps_ret (qe_B (qb_and (qb_val (qisi Ty.int (by rfl) T.m_isinstance (by rfl) T.m_int (qv 0))) (qb_and1 (qb_notB (qb_val (qisi Ty.bool (by rfl) T.m_isinstance (by rfl) T.m_bool (qv 0))))))))), ?_⟩)
  try dsimp only [L2.cxOf]
  rcases h with ⟨n, h⟩ | ⟨i, rfl, h⟩
  · cases x0 with
    | ref p =>
      obtain ⟨U, hU⟩ := n
      walk_at "w"
      refine ⟨U, hU, ?_⟩
      cases U <;> first | exact hU.elim | walk_at "g"
    | int i => exact n.elim
    | bl i => walk_at "g"
    | str i => walk_at "g"
    | non => walk_at "g"
    | _ => exact n.elim
  · walk_at "g"

theorem wrap_facts (n : Int) : -2147483648 ≤ wrapZ n ∧ wrapZ n ≤ 2147483647 ∧ (n - wrapZ n) % 4294967296 = 0 ∧ wrapZ (wrapZ n) = wrapZ n := by
  unfold wrapZ
  omega
def P_law (K : PySem.W.Frag) : V → Hp → VK → XK → Prop := fun x H Q E => ∃ (a : Addr) (ns : List Int), x = .ref a ∧ SqL K H a (ns.map V.int) ∧ ns.length ≤ 63 ∧ (∀ z ∈ ns, Builtin.Int.intBits z ≤ 1048576) ∧ ∀ H', Q (.bl true) H'

theorem ok_law (T : Tx K mg A) (G_is_between : FnOk P w K mg base CX0 2 A.a_is_between A.d_is_between ["value", "low", "high"] (sp3 (P_is_between K))) (G__law_next : FnOk P w K mg base CX0 1 A.a__law_next A.d__law_next ["_law_stream_here", "_law_many"] (sp2 (P__law_next K))) (G_is_whole : FnOk P w K mg base CX0 1 A.a_is_whole A.d_is_whole ["value"] (sp1 (P_is_whole K))) (G_wrapped : FnOk P w K mg base CX0 3 A.a_wrapped A.d_wrapped ["n"] (sp1 (P_wrapped K))) (G__law_is_integer : FnOk P w K mg base CX0 1 A.a__law_is_integer A.d__law_is_integer ["_law_actual"] (sp1 (P__law_is_integer K))) (G_floor_root : FnOk P w K mg base CX0 2 A.a_floor_root A.d_floor_root ["n"] (sp1 (P_floor_root K))) (G__law_stream : FnOk P w K mg base CX0 1 A.a__law_stream A.d__law_stream ["_law_script"] (sp1 (P__law_stream K))) : FnOk P w K mg base CX0 4 A.a_law A.d_law ["_law_script"] (sp1 (P_law K)) := by
  refine ok1 T.f_law sc_law (fun cdv A' outer s H x0 Q E hr h => ⟨_, (pss_cons (qset (i := 1) sc_law.nd rfl (Or.inl rfl) (pe_call G__law_stream (hr.mono (by decide)) (by rfl) T.g__law_stream T.f__law_stream.kp T.b__law_stream .nil pass0 (pa_cons (qv 0) pa_nil)))
      (pss_cons (qset (i := 2) sc_law.nd rfl (Or.inl rfl) (pe_call G__law_next (hr.mono (by decide)) (by rfl) T.g__law_next T.f__law_next.kp T.b__law_next .nil pass0 (pa_cons (qv 1) (pa_cons pe_int pa_nil))))
      (pss_cons (qjoin (qif (pp_cmp o_gt (pe_call G__law_next (hr.mono (by decide)) (by rfl) T.g__law_next T.f__law_next.kp T.b__law_next .nil pass0 (pa_cons (qv 1) (pa_cons pe_int pa_nil))) pe_int (nomark _)) (pss_cons (qset (i := 3) sc_law.nd rfl (Or.inl rfl) (pe_op op_addM pe_int (pe_call G__law_next (hr.mono (by decide)) (by rfl) T.g__law_next T.f__law_next.kp T.b__law_next .nil pass0 (pa_cons (qv 1) (pa_cons (qpowc (v := 100000000000000000000) (by decide +kernel)) pa_nil)))))
      (pss_one (qset (i := 2) sc_law.nd rfl (Or.inl rfl) (pe_op op_subM (pe_op op_addM (pe_op op_mulM (qv 3) (qv 3)) (pe_call G__law_next (hr.mono (by decide)) (by rfl) T.g__law_next T.f__law_next.kp T.b__law_next .nil pass0 (pa_cons (qv 1) (pa_cons pe_int pa_nil)))) pe_int)))) pss_nil))
      (pss_cons (qset (i := 4) sc_law.nd rfl (Or.inl rfl) (pe_call G_floor_root (hr.mono (by decide)) (by rfl) T.g_floor_root T.f_floor_root.kp T.b_floor_root .nil pass0 (pa_cons (qv 2) pa_nil)))
      (pss_cons (qif (pp_spec (PPW.pp (qw_or (qp_not (pp_B (qb_val (pe_call G__law_is_integer (hr.mono (by decide)) (by rfl) T.g__law_is_integer T.f__law_is_integer.kp T.b__law_is_integer .nil pass0 (pa_cons (qv 4) pa_nil))))) (qw_or (pp_cmp o_lt (qv 4) pe_int (nomark _)) (qw_or (pp_cmp o_gt (pe_op op_mulM (qv 4) (qv 4)) (qv 2) (nomark _)) (qw_or1 (pp_cmp o_le (pe_op op_mulM (pe_op op_addM (qv 4) pe_int) (pe_op op_addM (qv 4) pe_int)) (qv 2) (nomark _)))))))) (pss_one (ps_ret pe_bl)) pss_nil)
      (pss_cons (qset (i := 2) sc_law.nd rfl (Or.inl rfl) (pe_op op_subM (pe_call G__law_next (hr.mono (by decide)) (by rfl) T.g__law_next T.f__law_next.kp T.b__law_next .nil pass0 (pa_cons (qv 1) (pa_cons (pe_op op_mulM pe_int (qpowc (v := 1000000000000) (by decide +kernel))) pa_nil))) (qpowc (v := 1000000000000) (by decide +kernel))))
      (pss_cons (qjoin (qif (pp_cmp (o_eq hr.units) (pe_call G__law_next (hr.mono (by decide)) (by rfl) T.g__law_next T.f__law_next.kp T.b__law_next .nil pass0 (pa_cons (qv 1) (pa_cons pe_int pa_nil))) pe_int (nomark _)) (pss_one (qset (i := 2) sc_law.nd rfl (Or.inl rfl) (pe_op op_subM (pe_op op_addM (pe_op op_mulM pe_int (pe_op op_subM (pe_call G__law_next (hr.mono (by decide)) (by rfl) T.g__law_next T.f__law_next.kp T.b__law_next .nil pass0 (pa_cons (qv 1) (pa_cons pe_int pa_nil))) pe_int)) (pe_call G__law_next (hr.mono (by decide)) (by rfl) T.g__law_next T.f__law_next.kp T.b__law_next .nil pass0 (pa_cons (qv 1) (pa_cons pe_int pa_nil)))) pe_int))) pss_nil))
      (pss_cons (qset (i := 5) sc_law.nd rfl (Or.inl rfl) (pe_call G_wrapped (hr.mono (by decide)) (by rfl) T.g_wrapped T.f_wrapped.kp T.b_wrapped .nil pass0 (pa_cons (qv 2) pa_nil)))
      (pss_cons (qif (pp_spec (PPW.pp (qw_or (qp_not (pp_B (qb_val (pe_call G__law_is_integer (hr.mono (by decide)) (by rfl) T.g__law_is_integer T.f__law_is_integer.kp T.b__law_is_integer .nil pass0 (pa_cons (qv 5) pa_nil))))) (qw_or (pp_cmp o_lt (qv 5) (pe_un un_negM pe_int) (nomark _)) (qw_or1 (pp_cmp o_gt (qv 5) pe_int (nomark _))))))) (pss_one (ps_ret pe_bl)) pss_nil)
      (pss_cons (qif (pp_spec (PPW.pp (qw_or (pp_cmp (o_ne hr.units) (pe_op op_modM (pe_callTy c_int (by rfl) T.m_int (by decide +kernel) (pa_cons (pe_op op_subM (qv 2) (qv 5)) pa_nil)) pe_int) pe_int (nomark _)) (qw_or1 (pp_cmp (o_ne hr.units) (pe_call G_wrapped (hr.mono (by decide)) (by rfl) T.g_wrapped T.f_wrapped.kp T.b_wrapped .nil pass0 (pa_cons (qv 5) pa_nil)) (qv 5) (nomark _)))))) (pss_one (ps_ret pe_bl)) pss_nil)
      (pss_cons (qset (i := 6) sc_law.nd rfl (Or.inl rfl) (pe_ix ix_M (pe_lst (pa_cons pe_bl (pa_cons pe_bl (pa_cons pe_non (pa_cons pe_str (pa_cons (pe_tup (pa_cons pe_int pa_nil)) pa_nil)))))) (pe_call G__law_next (hr.mono (by decide)) (by rfl) T.g__law_next T.f__law_next.kp T.b__law_next .nil pass0 (pa_cons (qv 1) (pa_cons pe_int pa_nil))) (fun _ _ => rfl)))
      (pss_cons (qif (pp_spec (PPW.pp (qw_or (pp_cmp o_isnot (pe_call G_is_whole (hr.mono (by decide)) (by rfl) T.g_is_whole T.f_is_whole.kp T.b_is_whole .nil pass0 (pa_cons (qv 2) pa_nil)) pe_bl (nomark _)) (qw_or (pp_cmp o_isnot (pe_call G_is_whole (hr.mono (by decide)) (by rfl) T.g_is_whole T.f_is_whole.kp T.b_is_whole .nil pass0 (pa_cons (qv 6) pa_nil)) pe_bl (nomark _)) (qw_or1 (pp_cmp o_isnot (pe_call G_is_between (hr.mono (by decide)) (by rfl) T.g_is_between T.f_is_between.kp T.b_is_between .nil pass0 (pa_cons (qv 6) (pa_cons (pe_un un_negM pe_int) (pa_cons pe_int pa_nil)))) pe_bl (nomark _))))))) (pss_one (ps_ret pe_bl)) pss_nil)
      (pss_cons (qset (i := 7) sc_law.nd rfl (Or.inl rfl) (pe_op op_subM (qv 2) (pe_call G__law_next (hr.mono (by decide)) (by rfl) T.g__law_next T.f__law_next.kp T.b__law_next .nil pass0 (pa_cons (qv 1) (pa_cons pe_int pa_nil)))))
      (pss_cons (qset (i := 8) sc_law.nd rfl (Or.inl rfl) (pe_op op_subM (pe_op op_addM (qv 2) (pe_call G__law_next (hr.mono (by decide)) (by rfl) T.g__law_next T.f__law_next.kp T.b__law_next .nil pass0 (pa_cons (qv 1) (pa_cons pe_int pa_nil)))) pe_int))
      (pss_cons (qset (i := 9) sc_law.nd rfl (Or.inl rfl) (qe_B (qb_chain o_le o_le (qv 7) (qv 2) (qv 8))))
      (pss_cons (qset (i := 5) sc_law.nd rfl (Or.inl rfl) (pe_call G_is_between (hr.mono (by decide)) (by rfl) T.g_is_between T.f_is_between.kp T.b_is_between .nil pass0 (pa_cons (qv 2) (pa_cons (qv 7) (pa_cons (qv 8) pa_nil)))))
      (pss_one (ps_ret (qe_B (qb_and (qb_val (qisi Ty.bool (by rfl) T.m_isinstance (by rfl) T.m_bool (qv 5))) (qb_and1 (qb_cmp (o_eq hr.units) (qv 5) (qv 9) (nomark _))))))))))))))))))))))), ?_⟩)
  try dsimp only [L2.cxOf]
  obtain ⟨a, ns, rfl, hS, hlen, hbits, h⟩ := h
  walk_at "w"
  refine ⟨a, ns, rfl, hS, fun st H1 n1 s1 S1 => ?_⟩
  walk_at "g"
  walk_at "g"
  refine fun n H2 n0 n1 S2 f2 => ?_
  walk_at "w"
  refine ⟨fun σ' H' => ∃ (n' : Int) (b3 : Option V), σ' = [some (.ref a), some (.ref st), some (.int n'), b3, none, none, none, none, none, none] ∧ (0 ≤ n' ∧ n' ≤ 10 ^ 41) ∧ StrAt K H' st, ?_, ?_⟩
  · walk_at "g"
    refine fun d H3 d0 d1 S3 f3 => ?_
    walk_at "w"
    refine ⟨fun _ => ?_, fun _ => ⟨_, _, rfl, ⟨by omega, by omega⟩, S3⟩⟩
    walk_at "g"
    walk_at "g"
    refine fun d H4 d0 d1 S4 f4 => ?_
    walk_at "w"
    have hsq : (1 + d) * (1 + d) ≤ 10 ^ 20 * 10 ^ 20 := Int.mul_le_mul (by omega) (by omega) (by omega) (by decide)
    have hsq0 : 1 * 1 ≤ (1 + d) * (1 + d) := Int.mul_le_mul (by omega) (by omega) (by omega) (by omega)
    refine ⟨.inr (wide_mul (a := 100) (b := 100) (by omega) (by omega) (by omega) (by omega) (by omega)), ?_⟩
    walk_at "g"
    refine fun e H5 e0 e1 S5 f5 => ?_
    walk_at "w"
    refine ⟨_, _, rfl, ⟨?_, ?_⟩, S5⟩ <;> omega
  · rintro σ' H' ⟨n', b3, rfl, ⟨hn0, hn1⟩, S3⟩
    walk_at "w"
    refine ⟨hn0, by omega, fun r ⟨hr0, hr1, hr2⟩ => ?_⟩
    have hr3 : r ≤ 10 ^ 21 := by
      refine Int.not_lt.mp fun hc => ?_
      have : 10 ^ 21 * 10 ^ 21 ≤ r * r := Int.mul_le_mul (by omega) (by omega) (by omega) (by omega)
      omega
    walk_at "w"
    refine ⟨False, ?_, ?_⟩
    · walk_at "gs"
    · walk_at "g"
      walk_at "g"
      refine fun n H4 n0 n1 S4 f4 => ?_
      walk_at "w"
      refine ⟨fun σ' H' => ∃ (n' : Int), σ' = [some (.ref a), some (.ref st), some (.int n'), b3, some (.int r), none, none, none, none, none] ∧ StrAt K H' st, ?_, ?_⟩
      · walk_at "g"
        refine fun d H5 d0 d1 S5 f5 => ?_
        walk_at "w"
        refine ⟨fun _ => ?_, fun _ => ⟨_, rfl, S5⟩⟩
        walk_at "g"
        refine fun d H6 d0 d1 S6 f6 => ?_
        walk_at "g"
        refine fun d H7 d0 d1 S7 f7 => ?_
        walk_at "w"
        exact ⟨_, rfl, S7⟩
      · rintro σ' H' ⟨m, rfl, S5⟩
        obtain ⟨w1, w2, w3, w4⟩ := wrap_facts m
        have w5 : (m - wrapZ m).fmod 4294967296 = 0 := by rw [Int.fmod_eq_emod_of_nonneg _ (by decide)]; exact w3
        walk_at "w"
        refine ⟨False, by walk_at "gs", ?_⟩
        walk_at "g"
        refine ⟨False, by walk_at "gs", ?_⟩
        walk_at "g"
        refine fun p hp => ?_
        have ps := S5.ne hp
        walk_at "g"
        refine fun p2 hp2 => ?_
        have ps2 := (S5.new hp).ne hp2
        walk_at "g"
        refine fun d H6 d0 d1 S6 f6 => ?_
        walk_at "w"
        obtain ⟨v, ev, hv⟩ := atI_mem (xs := [V.bl true, V.bl false, V.non, V.str "1", V.ref p]) d0 d1
        refine ⟨_, .inl (SqL.of ((f6 p2 ps2).trans upd_same)), v, ev, ?_⟩
        have hpt : H6 p = some (.tup [V.int 1]) := (f6 p ps).trans (get_old upd_same hp2)
        have hN : NotInt K H6 v := by
          simp only [List.mem_cons, List.not_mem_nil, or_false] at hv
          rcases hv with rfl | rfl | rfl | rfl | rfl
          · trivial
          · trivial
          · trivial
          · trivial
          · exact ⟨.tuple, _, SqT.of hpt⟩
        walk_at "w"
        refine ⟨False, by walk_at "g", ?_⟩
        walk_at "g"
        refine fun d H7 d0 d1 S7 f7 => ?_
        walk_at "g"
        refine fun d2 H8 d20 d21 S8 f8 => ?_
        walk_at "g"
        rename_i due hdue r hr b hb
        have e : b = true := hb.mpr (Bool.eq_iff_iff.mpr (hr.trans hdue.symm))
        subst e
        exact h _
end
theorem all_mk {l : PySem.W.OpenLaw} {w : World} {K : PySem.W.Frag} {h : Heap} {mg : Str → Option Value} {fa : Addr} (X : K.In h) (G : h.Ns mainGlobals mg) (hfa : mg "law" = some (.ref fa))
    {f_is_whole : Addr} {od_is_whole an_is_whole : Option Addr} {sl_is_whole : Array (Option Value)} {oc_is_whole kV_is_whole dc_is_whole pm_is_whole cd_is_whole ct_is_whole : Value}
    (a_is_whole : PySem.W.nsIn K mainGlobals "is_whole" = some (some (.ref f_is_whole))) (l_is_whole : K.lookup f_is_whole = some ⟨oc_is_whole, od_is_whole, .func (PySem.W.fnOf "is_whole" "is_whole" (defArgs s_is_whole) (defBody s_is_whole) (defScope s_is_whole) .none kV_is_whole dc_is_whole pm_is_whole an_is_whole cd_is_whole ct_is_whole), sl_is_whole⟩) (c_is_whole : PySem.W.codeIn K cd_is_whole "is_whole" = true) (k_is_whole : PySem.W.keepIn K (.ref f_is_whole) = true)
    {f_is_between : Addr} {od_is_between an_is_between : Option Addr} {sl_is_between : Array (Option Value)} {oc_is_between kV_is_between dc_is_between pm_is_between cd_is_between ct_is_between : Value}
    (a_is_between : PySem.W.nsIn K mainGlobals "is_between" = some (some (.ref f_is_between))) (l_is_between : K.lookup f_is_between = some ⟨oc_is_between, od_is_between, .func (PySem.W.fnOf "is_between" "is_between" (defArgs s_is_between) (defBody s_is_between) (defScope s_is_between) .none kV_is_between dc_is_between pm_is_between an_is_between cd_is_between ct_is_between), sl_is_between⟩) (c_is_between : PySem.W.codeIn K cd_is_between "is_between" = true) (k_is_between : PySem.W.keepIn K (.ref f_is_between) = true)
    {f_check_whole : Addr} {od_check_whole an_check_whole : Option Addr} {sl_check_whole : Array (Option Value)} {oc_check_whole kV_check_whole dc_check_whole pm_check_whole cd_check_whole ct_check_whole : Value}
    (a_check_whole : PySem.W.nsIn K mainGlobals "check_whole" = some (some (.ref f_check_whole))) (l_check_whole : K.lookup f_check_whole = some ⟨oc_check_whole, od_check_whole, .func (PySem.W.fnOf "check_whole" "check_whole" (defArgs s_check_whole) (defBody s_check_whole) (defScope s_check_whole) .none kV_check_whole dc_check_whole pm_check_whole an_check_whole cd_check_whole ct_check_whole), sl_check_whole⟩) (c_check_whole : PySem.W.codeIn K cd_check_whole "check_whole" = true) (k_check_whole : PySem.W.keepIn K (.ref f_check_whole) = true)
    {f_floor_root : Addr} {od_floor_root an_floor_root : Option Addr} {sl_floor_root : Array (Option Value)} {oc_floor_root kV_floor_root dc_floor_root pm_floor_root cd_floor_root ct_floor_root : Value}
    (a_floor_root : PySem.W.nsIn K mainGlobals "floor_root" = some (some (.ref f_floor_root))) (l_floor_root : K.lookup f_floor_root = some ⟨oc_floor_root, od_floor_root, .func (PySem.W.fnOf "floor_root" "floor_root" (defArgs s_floor_root) (defBody s_floor_root) (defScope s_floor_root) .none kV_floor_root dc_floor_root pm_floor_root an_floor_root cd_floor_root ct_floor_root), sl_floor_root⟩) (c_floor_root : PySem.W.codeIn K cd_floor_root "floor_root" = true) (k_floor_root : PySem.W.keepIn K (.ref f_floor_root) = true)
    {f_wrapped : Addr} {od_wrapped an_wrapped : Option Addr} {sl_wrapped : Array (Option Value)} {oc_wrapped kV_wrapped dc_wrapped pm_wrapped cd_wrapped ct_wrapped : Value}
    (a_wrapped : PySem.W.nsIn K mainGlobals "wrapped" = some (some (.ref f_wrapped))) (l_wrapped : K.lookup f_wrapped = some ⟨oc_wrapped, od_wrapped, .func (PySem.W.fnOf "wrapped" "wrapped" (defArgs s_wrapped) (defBody s_wrapped) (defScope s_wrapped) .none kV_wrapped dc_wrapped pm_wrapped an_wrapped cd_wrapped ct_wrapped), sl_wrapped⟩) (c_wrapped : PySem.W.codeIn K cd_wrapped "wrapped" = true) (k_wrapped : PySem.W.keepIn K (.ref f_wrapped) = true)
    {f__law_stream : Addr} {od__law_stream an__law_stream : Option Addr} {sl__law_stream : Array (Option Value)} {oc__law_stream kV__law_stream dc__law_stream pm__law_stream cd__law_stream ct__law_stream : Value}
    (a__law_stream : PySem.W.nsIn K mainGlobals "_law_stream" = some (some (.ref f__law_stream))) (l__law_stream : K.lookup f__law_stream = some ⟨oc__law_stream, od__law_stream, .func (PySem.W.fnOf "_law_stream" "_law_stream" (defArgs s__law_stream) (defBody s__law_stream) (defScope s__law_stream) .none kV__law_stream dc__law_stream pm__law_stream an__law_stream cd__law_stream ct__law_stream), sl__law_stream⟩) (c__law_stream : PySem.W.codeIn K cd__law_stream "_law_stream" = true) (k__law_stream : PySem.W.keepIn K (.ref f__law_stream) = true)
    {f__law_next : Addr} {od__law_next an__law_next : Option Addr} {sl__law_next : Array (Option Value)} {oc__law_next kV__law_next dc__law_next pm__law_next cd__law_next ct__law_next : Value}
    (a__law_next : PySem.W.nsIn K mainGlobals "_law_next" = some (some (.ref f__law_next))) (l__law_next : K.lookup f__law_next = some ⟨oc__law_next, od__law_next, .func (PySem.W.fnOf "_law_next" "_law_next" (defArgs s__law_next) (defBody s__law_next) (defScope s__law_next) .none kV__law_next dc__law_next pm__law_next an__law_next cd__law_next ct__law_next), sl__law_next⟩) (c__law_next : PySem.W.codeIn K cd__law_next "_law_next" = true) (k__law_next : PySem.W.keepIn K (.ref f__law_next) = true)
    {f__law_is_integer : Addr} {od__law_is_integer an__law_is_integer : Option Addr} {sl__law_is_integer : Array (Option Value)} {oc__law_is_integer kV__law_is_integer dc__law_is_integer pm__law_is_integer cd__law_is_integer ct__law_is_integer : Value}
    (a__law_is_integer : PySem.W.nsIn K mainGlobals "_law_is_integer" = some (some (.ref f__law_is_integer))) (l__law_is_integer : K.lookup f__law_is_integer = some ⟨oc__law_is_integer, od__law_is_integer, .func (PySem.W.fnOf "_law_is_integer" "_law_is_integer" (defArgs s__law_is_integer) (defBody s__law_is_integer) (defScope s__law_is_integer) .none kV__law_is_integer dc__law_is_integer pm__law_is_integer an__law_is_integer cd__law_is_integer ct__law_is_integer), sl__law_is_integer⟩) (c__law_is_integer : PySem.W.codeIn K cd__law_is_integer "_law_is_integer" = true) (k__law_is_integer : PySem.W.keepIn K (.ref f__law_is_integer) = true)
    {f_law : Addr} {od_law an_law : Option Addr} {sl_law : Array (Option Value)} {oc_law kV_law dc_law pm_law cd_law ct_law : Value}
    (a_law : PySem.W.nsIn K mainGlobals "law" = some (some (.ref f_law))) (l_law : K.lookup f_law = some ⟨oc_law, od_law, .func (PySem.W.fnOf "law" "law" (defArgs s_law) (defBody s_law) (defScope s_law) .none kV_law dc_law pm_law an_law cd_law ct_law), sl_law⟩) (c_law : PySem.W.codeIn K cd_law "law" = true) (k_law : PySem.W.keepIn K (.ref f_law) = true)
    (z_abs : PySem.W.nsIn K mainGlobals "abs" = some none)
    (z_bool : PySem.W.nsIn K mainGlobals "bool" = some none)
    (z_int : PySem.W.nsIn K mainGlobals "int" = some none)
    (z_isinstance : PySem.W.nsIn K mainGlobals "isinstance" = some none)
    (z_len : PySem.W.nsIn K mainGlobals "len" = some none)
    (z_list : PySem.W.nsIn K mainGlobals "list" = some none)
    {u_LOWEST : Value} (v_LOWEST : PySem.W.nsIn K mainGlobals "LOWEST" = some (some u_LOWEST)) (r_LOWEST : RelV (V.int (-2147483648)) u_LOWEST)
    {u_WRAP : Value} (v_WRAP : PySem.W.nsIn K mainGlobals "WRAP" = some (some u_WRAP)) (r_WRAP : RelV (V.int (4294967296)) u_WRAP)
    (i_isqrt : PySem.W.nsIn K mainGlobals "isqrt" = some (some (.builtin "math.isqrt")))
    : ∃ fd : FuncData, (∀ (s : Shared) (v : Value), BindsTo s fd ⟨[v], []⟩ [("_law_script", v)]) ∧ ∀ base : Heap, K.In base → base.Ns mainGlobals mg → FnOk l.prog w K mg base CX0 4 fa fd ["_law_script"] (sp1 (P_law K)) := by
  have e := hfa.symm.trans (PySem.W.mg_of X G a_law)
  cases e
  have F_is_whole := fun_mk (st := s_is_whole) l_is_whole c_is_whole k_is_whole
  have F_is_between := fun_mk (st := s_is_between) l_is_between c_is_between k_is_between
  have F_check_whole := fun_mk (st := s_check_whole) l_check_whole c_check_whole k_check_whole
  have F_floor_root := fun_mk (st := s_floor_root) l_floor_root c_floor_root k_floor_root
  have F_wrapped := fun_mk (st := s_wrapped) l_wrapped c_wrapped k_wrapped
  have F__law_stream := fun_mk (st := s__law_stream) l__law_stream c__law_stream k__law_stream
  have F__law_next := fun_mk (st := s__law_next) l__law_next c__law_next k__law_next
  have F__law_is_integer := fun_mk (st := s__law_is_integer) l__law_is_integer c__law_is_integer k__law_is_integer
  have F_law := fun_mk (st := s_law) l_law c_law k_law
  have b_is_whole := F_is_whole.binds (ps := ["value"]) fun _ _ _ _ _ _ us hl => match us, hl with | [_], _ => rfl
  have b_is_between := F_is_between.binds (ps := ["value", "low", "high"]) fun _ _ _ _ _ _ us hl => match us, hl with | [_, _, _], _ => rfl
  have b_check_whole := F_check_whole.binds (ps := ["value", "name"]) fun _ _ _ _ _ _ us hl => match us, hl with | [_, _], _ => rfl
  have b_floor_root := F_floor_root.binds (ps := ["n"]) fun _ _ _ _ _ _ us hl => match us, hl with | [_], _ => rfl
  have b_wrapped := F_wrapped.binds (ps := ["n"]) fun _ _ _ _ _ _ us hl => match us, hl with | [_], _ => rfl
  have b__law_stream := F__law_stream.binds (ps := ["_law_script"]) fun _ _ _ _ _ _ us hl => match us, hl with | [_], _ => rfl
  have b__law_next := F__law_next.binds (ps := ["_law_stream_here", "_law_many"]) fun _ _ _ _ _ _ us hl => match us, hl with | [_, _], _ => rfl
  have b__law_is_integer := F__law_is_integer.binds (ps := ["_law_actual"]) fun _ _ _ _ _ _ us hl => match us, hl with | [_], _ => rfl
  have b_law := F_law.binds (ps := ["_law_script"]) fun _ _ _ _ _ _ us hl => match us, hl with | [_], _ => rfl
  let A : Ad := { a_is_whole := f_is_whole, d_is_whole := PySem.W.fnOf "is_whole" "is_whole" (defArgs s_is_whole) (defBody s_is_whole) (defScope s_is_whole) .none kV_is_whole dc_is_whole pm_is_whole an_is_whole cd_is_whole ct_is_whole, a_is_between := f_is_between, d_is_between := PySem.W.fnOf "is_between" "is_between" (defArgs s_is_between) (defBody s_is_between) (defScope s_is_between) .none kV_is_between dc_is_between pm_is_between an_is_between cd_is_between ct_is_between, a_check_whole := f_check_whole, d_check_whole := PySem.W.fnOf "check_whole" "check_whole" (defArgs s_check_whole) (defBody s_check_whole) (defScope s_check_whole) .none kV_check_whole dc_check_whole pm_check_whole an_check_whole cd_check_whole ct_check_whole, a_floor_root := f_floor_root, d_floor_root := PySem.W.fnOf "floor_root" "floor_root" (defArgs s_floor_root) (defBody s_floor_root) (defScope s_floor_root) .none kV_floor_root dc_floor_root pm_floor_root an_floor_root cd_floor_root ct_floor_root, a_wrapped := f_wrapped, d_wrapped := PySem.W.fnOf "wrapped" "wrapped" (defArgs s_wrapped) (defBody s_wrapped) (defScope s_wrapped) .none kV_wrapped dc_wrapped pm_wrapped an_wrapped cd_wrapped ct_wrapped, a__law_stream := f__law_stream, d__law_stream := PySem.W.fnOf "_law_stream" "_law_stream" (defArgs s__law_stream) (defBody s__law_stream) (defScope s__law_stream) .none kV__law_stream dc__law_stream pm__law_stream an__law_stream cd__law_stream ct__law_stream, a__law_next := f__law_next, d__law_next := PySem.W.fnOf "_law_next" "_law_next" (defArgs s__law_next) (defBody s__law_next) (defScope s__law_next) .none kV__law_next dc__law_next pm__law_next an__law_next cd__law_next ct__law_next, a__law_is_integer := f__law_is_integer, d__law_is_integer := PySem.W.fnOf "_law_is_integer" "_law_is_integer" (defArgs s__law_is_integer) (defBody s__law_is_integer) (defScope s__law_is_integer) .none kV__law_is_integer dc__law_is_integer pm__law_is_integer an__law_is_integer cd__law_is_integer ct__law_is_integer, a_law := fa, d_law := PySem.W.fnOf "law" "law" (defArgs s_law) (defBody s_law) (defScope s_law) .none kV_law dc_law pm_law an_law cd_law ct_law }
  have T : Tx K mg A := { f_is_whole := F_is_whole, g_is_whole := PySem.W.mg_of X G a_is_whole, b_is_whole := b_is_whole, f_is_between := F_is_between, g_is_between := PySem.W.mg_of X G a_is_between, b_is_between := b_is_between, f_check_whole := F_check_whole, g_check_whole := PySem.W.mg_of X G a_check_whole, b_check_whole := b_check_whole, f_floor_root := F_floor_root, g_floor_root := PySem.W.mg_of X G a_floor_root, b_floor_root := b_floor_root, f_wrapped := F_wrapped, g_wrapped := PySem.W.mg_of X G a_wrapped, b_wrapped := b_wrapped, f__law_stream := F__law_stream, g__law_stream := PySem.W.mg_of X G a__law_stream, b__law_stream := b__law_stream, f__law_next := F__law_next, g__law_next := PySem.W.mg_of X G a__law_next, b__law_next := b__law_next, f__law_is_integer := F__law_is_integer, g__law_is_integer := PySem.W.mg_of X G a__law_is_integer, b__law_is_integer := b__law_is_integer, f_law := F_law, g_law := PySem.W.mg_of X G a_law, b_law := b_law, m_abs := PySem.W.mg_none_of X G z_abs, m_bool := PySem.W.mg_none_of X G z_bool, m_int := PySem.W.mg_none_of X G z_int, m_isinstance := PySem.W.mg_none_of X G z_isinstance, m_len := PySem.W.mg_none_of X G z_len, m_list := PySem.W.mg_none_of X G z_list, c_LOWEST := ⟨_, PySem.W.mg_of X G v_LOWEST, r_LOWEST⟩, c_WRAP := ⟨_, PySem.W.mg_of X G v_WRAP, r_WRAP⟩, i_isqrt := PySem.W.mg_of X G i_isqrt }
  refine ⟨A.d_law, fun s v => .of_eq rfl, fun base _ _ => ?_⟩
  have G_is_whole := ok_is_whole (P := l.prog) (w := w) (base := base) T
  have G_is_between := ok_is_between (P := l.prog) (w := w) (base := base) T G_is_whole
  have G_check_whole := ok_check_whole (P := l.prog) (w := w) (base := base) T G_is_whole
  have G_floor_root := ok_floor_root (P := l.prog) (w := w) (base := base) T G_is_whole
  have G_wrapped := ok_wrapped (P := l.prog) (w := w) (base := base) T G_check_whole
  have G__law_stream := ok__law_stream (P := l.prog) (w := w) (base := base) T
  have G__law_next := ok__law_next (P := l.prog) (w := w) (base := base) T
  have G__law_is_integer := ok__law_is_integer (P := l.prog) (w := w) (base := base) T
  have G_law := ok_law (P := l.prog) (w := w) (base := base) T G_is_between G__law_next G_is_whole G_wrapped G__law_is_integer G_floor_root G__law_stream
  exact G_law
end Law
open PySem PySem.W PyProof.Rows
set_option maxHeartbeats 0 in
theorem PySem.Challenge.cw_alikeplay_k02_roots_and_wraps_holds : PySem.Challenge.rw_alikeplay_k02_roots_and_wraps.Holds := by
  w_on; o_law; k_head; (case hw => w_witness2)
  k_fill
  refine L2.walk_ofB (l := PySem.Challenge.rw_alikeplay_k02_roots_and_wraps) (n := 63) (k := 4) (x := "_law_script") (CX := fun _ => L2.CX0) (sp := fun w => Q.sp1 (Law.P_law _)) rfl (by decide) rfl ⟨rfl, by decide, by decide⟩ (fun w h Y => PySem.W.kIn_of Y) ?F (fun _ _ a ns hl hb _ hS => ⟨a, ns, rfl, hS, hl, hb, fun _ => rfl⟩) (fun _ _ _ _ _ h => h)
  case F =>
    intro w mg fa h KX G hmg
    refine' Law.all_mk KX G hmg ?a_is_whole ?l_is_whole ?c_is_whole ?k_is_whole ?a_is_between ?l_is_between ?c_is_between ?k_is_between ?a_check_whole ?l_check_whole ?c_check_whole ?k_check_whole ?a_floor_root ?l_floor_root ?c_floor_root ?k_floor_root ?a_wrapped ?l_wrapped ?c_wrapped ?k_wrapped ?a__law_stream ?l__law_stream ?c__law_stream ?k__law_stream ?a__law_next ?l__law_next ?c__law_next ?k__law_next ?a__law_is_integer ?l__law_is_integer ?c__law_is_integer ?k__law_is_integer ?a_law ?l_law ?c_law ?k_law ?z_abs ?z_bool ?z_int ?z_isinstance ?z_len ?z_list ?v_LOWEST ?r_LOWEST ?v_WRAP ?r_WRAP ?i_isqrt
    (case a_is_whole => k_is)
    (case l_is_whole => k_is)
    (case c_is_whole => k_is)
    (case k_is_whole => k_is)
    (case a_is_between => k_is)
    (case l_is_between => k_is)
    (case c_is_between => k_is)
    (case k_is_between => k_is)
    (case a_check_whole => k_is)
    (case l_check_whole => k_is)
    (case c_check_whole => k_is)
    (case k_check_whole => k_is)
    (case a_floor_root => k_is)
    (case l_floor_root => k_is)
    (case c_floor_root => k_is)
    (case k_floor_root => k_is)
    (case a_wrapped => k_is)
    (case l_wrapped => k_is)
    (case c_wrapped => k_is)
    (case k_wrapped => k_is)
    (case a__law_stream => k_is)
    (case l__law_stream => k_is)
    (case c__law_stream => k_is)
    (case k__law_stream => k_is)
    (case a__law_next => k_is)
    (case l__law_next => k_is)
    (case c__law_next => k_is)
    (case k__law_next => k_is)
    (case a__law_is_integer => k_is)
    (case l__law_is_integer => k_is)
    (case c__law_is_integer => k_is)
    (case k__law_is_integer => k_is)
    (case a_law => k_is)
    (case l_law => k_is)
    (case c_law => k_is)
    (case k_law => k_is)
    (case z_abs => k_is)
    (case z_bool => k_is)
    (case z_int => k_is)
    (case z_isinstance => k_is)
    (case z_len => k_is)
    (case z_list => k_is)
    (case v_LOWEST => k_is)
    (case r_LOWEST => exact ⟨_, rfl⟩)
    (case v_WRAP => k_is)
    (case r_WRAP => exact ⟨_, rfl⟩)
    (case i_isqrt => k_is)
