import PyProof.Rows.All
import Wide.All
import OpenK.AllK
import Wide.FinOn
import HandS.ForMost
import HandS.Exc
import HandS.ExcInit
import HandS.IsInst
import HandS.Style
import HandS.Wide
import HandS.Gcd
import HandS.Deep
import HandS.EndBits
import HandS.Flow
import KE.KMathG
import Flt.RightSqrt
import HandS.ForExc
import HandS.WideBits
import PySem.Challenge.RW_alikeplay_k06_shuffles
set_option Elab.async false
set_option linter.all false
set_option maxRecDepth 100000
/-! QL: readings that compute. Every rule here has a reading that weak head reduction unfolds up to a branch, a quantifier or a conjunction. -/
namespace Q
open PySem PySem.Spec PyProof.Rows L2

/-- two ways -/
structure Br (c A B : Prop) : Prop where
  t : c → A
  f : ¬ c → B
theorem Br.tt {c A B : Prop} (h : c) (a : A) : Br c A B := ⟨fun _ => a, fun n => absurd h n⟩
theorem Br.ff {c A B : Prop} (h : ¬ c) (b : B) : Br c A B := ⟨fun x => absurd x h, fun _ => b⟩

/-! ### a heap with one object more, with one object changed -/
structure New (H H' : Hp) (p : Addr) (o : HO) : Prop where
  nw : H p = none
  at_ : H' p = some o
  oth : ∀ q, q ≠ p → H' q = H q
theorem New.mk' {H : Hp} {p : Addr} {o : HO} (h : H p = none) : New H (upd H p o) p o := ⟨h, upd_same, fun _ hq => upd_ne hq⟩
theorem New.eq {H H' : Hp} {p : Addr} {o : HO} (n : New H H' p o) : H' = upd H p o := by
  funext q
  by_cases e : q = p
  · subst e
    rw [n.at_, upd_same]
  · rw [n.oth q e, upd_ne e]
theorem New.same {H H' : Hp} {p : Addr} {o : HO} (n : New H H' p o) : Same H H' := fun b u e => by
  rw [n.oth b (ne_of_none e n.nw)]
  exact e
theorem New.keep {H H' : Hp} {p q : Addr} {o x : HO} (n : New H H' p o) (h : H q = some x) : H' q = some x := n.same _ _ h
structure Wr (H H' : Hp) (p : Addr) (o : HO) : Prop where
  at_ : H' p = some o
  oth : ∀ q, q ≠ p → H' q = H q
theorem Wr.mk' {H : Hp} {p : Addr} {o : HO} : Wr H (upd H p o) p o := ⟨upd_same, fun _ hq => upd_ne hq⟩
theorem Wr.eq {H H' : Hp} {p : Addr} {o : HO} (n : Wr H H' p o) : H' = upd H p o := by
  funext q
  by_cases e : q = p
  · subst e
    rw [n.at_, upd_same]
  · rw [n.oth q e, upd_ne e]
theorem new_iff {H : Hp} {o : HO} {R : Addr → Hp → Prop} : (∀ p, H p = none → R p (upd H p o)) ↔ ∀ p H', New H H' p o → R p H' :=
  ⟨fun h p H' n => by rw [n.eq]; exact h p n.nw, fun h p hp => h p _ (New.mk' hp)⟩
theorem Same.New {H H' : Hp} (s : Same H H') {l : Addr} (h : H' l = Option.none) : H l = Option.none := s.free h

theorem b_yes {b : Bool} {p G : Prop} (hb : b = true ↔ p) (hp : p) (k : b = true → G) : G := k (hb.mpr hp)
theorem b_no {b : Bool} {p G : Prop} (hb : b = true ↔ p) (hp : ¬ p) (k : b = false → G) : G := k (Bool.eq_false_iff.mpr fun e => hp (hb.mp e))

/-! ### slots -/
def nth : L2.St → Nat → Option V
  | [], _ => none
  | x :: _, 0 => x
  | _ :: σ, n + 1 => nth σ n
theorem nth_eq : ∀ (σ : L2.St) (i : Nat) (v : V), nth σ i = some v → σ[i]? = some (some v)
  | [], _, _, h => by cases h
  | x :: _, 0, v, h => by
    have e : x = some v := h
    subst e
    rfl
  | _ :: σ, n + 1, v, h => by
    have := nth_eq σ n v h
    simpa using this
def rVar (i : Nat) : TE := fun σ H Q => match nth σ i with
  | some v => Q v H
  | none => False
def setK : L2.St → Nat → V → (L2.St → Prop) → Prop
  | [], _, _, k => k []
  | _ :: σ, 0, v, k => k (some v :: σ)
  | x :: σ, n + 1, v, k => setK σ n v fun σ' => k (x :: σ')
theorem setK_eq : ∀ (σ : L2.St) (i : Nat) (v : V) (k : L2.St → Prop), setK σ i v k → k (σ.set i (some v))
  | [], _, _, _, h => h
  | _ :: σ, 0, _, _, h => h
  | x :: σ, n + 1, v, k, h => setK_eq σ n v (fun σ' => k (x :: σ')) h
def gSet (i : Nat) : TG := fun v σ H Q => setK σ i v fun σ' => Q σ' H
/-- the slots at the start -/
def noneK : Nat → (L2.St → Prop) → Prop
  | 0, k => k []
  | n + 1, k => noneK n fun σ => k (none :: σ)
def stK : Nat → List V → (L2.St → Prop) → Prop
  | n, [], k => noneK n k
  | 0, v :: vs, k => stK 0 vs fun σ => k (some v :: σ)
  | n + 1, v :: vs, k => stK n vs fun σ => k (some v :: σ)
theorem noneK_eq : ∀ (n : Nat) (k : L2.St → Prop), noneK n k → k (List.replicate n none)
  | 0, _, h => h
  | n + 1, k, h => noneK_eq n (fun σ => k (none :: σ)) h
theorem stK_eq : ∀ (n : Nat) (vs : List V) (k : L2.St → Prop), stK n vs k → k (vs.map some ++ List.replicate (n - vs.length) none)
  | n, [], k, h => by simpa using noneK_eq n k (by cases n <;> exact h)
  | 0, v :: vs, k, h => by simpa using stK_eq 0 vs (fun σ => k (some v :: σ)) h
  | n + 1, v :: vs, k, h => by simpa using stK_eq n vs (fun σ => k (some v :: σ)) h

section
variable {X : Cx}
theorem PE.imp {e : Expr} {t t' : TE} (h : PE X e t) (i : ∀ σ H Q, t' σ H Q → t σ H Q) : PE X e t' := ⟨fun pins s σ H Q I q => h.run pins s σ H Q I (i _ _ _ q)⟩
theorem PS.imp {e : Stmt} {t t' : TS} (h : PS X e t) (i : ∀ D σ H, t' D σ H → t D σ H) : PS X e t' := ⟨fun pins s σ H D I q => h.run pins s σ H D I (i _ _ _ q)⟩
theorem qv (i : Nat) {x : Str} {pos : Pos} (hN : X.N[i]? = some x := by rfl) (hv : Vis X.env.scope x := by first | exact Or.inl rfl | exact Or.inr (Or.inl rfl) | exact Or.inr (Or.inr rfl)) (hd : (x == ("__debug__" : Str)) = false := by decide)
    (hcd : (x == ("__classdict__" : Str)) = false := by decide) : PE X (.Name x pos) (rVar i) :=
  PE.imp (pe_var hN hv hd hcd) fun σ H Q h => by
    unfold rVar at h
    split at h
    · rename_i v e
      exact ⟨v, nth_eq _ _ _ e, h⟩
    · exact h.elim
theorem qgn {i : Nat} {x : Str} {pos : Pos} (hN : X.N.Nodup) (hi : X.N[i]? = some x) (hx : Loc X.env.scope x) (hf : X.fn x = true ∨ X.env.scope.names.lookup x = some .local := by first | exact .inl rfl | exact .inr rfl | assumption) : PG X (.Name x pos) (gSet i) :=
  ⟨fun pins s σ H v u Q I r h => (pg_name hN hi hx hf).run pins s σ H v u Q I r (setK_eq _ _ _ _ h)⟩
/-- name = e -/
def sSet (te : TE) (i : Nat) : TS := fun D σ H => te σ H fun x H1 => setK σ i x fun σ' => D.nx σ' H1
theorem qset {i : Nat} {x : Str} {e : Expr} {te : TE} {pos pos' : Pos} (hN : X.N.Nodup) (hi : X.N[i]? = some x) (hx : Loc X.env.scope x) (he : PE X e te) (hs : swapsWith e (some (.Name x pos')) pos.line X.env = pure false := by rfl) (hf : X.fn x = true ∨ X.env.scope.names.lookup x = some .local := by first | exact .inl rfl | exact .inr rfl | assumption) :
    PS X (.Assign [.Name x pos'] e pos) (sSet te i) := by
  refine ⟨fun pins s σ H D I h => ?_⟩
  refine wpAny_Assign_Name (thn (he.run pins s σ H _ I h) fun v s1 ⟨y, H1, I1, r1, q1⟩ => ?_) hs
  exact store_ok I1 hN hi hx r1 (fun s2 I2 => ⟨_, H1, I2, setK_eq _ _ _ _ q1⟩) hf

/-! ### operators -/
theorem OpR.imp {f : Value → Value → Sem Value} {r r' : R2} (h : OpR X f r) (i : ∀ x y H Q, r' x y H Q → r x y H Q) : OpR X f r' := fun pins s σ H x y v u Q I rx ry q => h pins s σ H x y v u Q I rx ry (i _ _ _ _ q)
theorem CallR.imp {f : Value} {r r' : List V → Hp → VK → Prop} (h : CallR X f r) (i : ∀ xs H Q, r' xs H Q → r xs H Q) : CallR X f r' := fun pins s σ H xs us Q I rx q => h pins s σ H xs us Q I rx (i _ _ _ q)
/-- ints in, a value out -/
def mI (C : Int → Int → Prop) (g : Int → Int → V) : R2 := fun x y H Q => match x, y with
  | .int i, .int j => C i j ∧ Q (g i j) H
  | _, _ => False
def mI0 (g : Int → Int → V) : R2 := fun x y H Q => match x, y with
  | .int i, .int j => Q (g i j) H
  | _, _ => False
theorem mI_imp {C : Int → Int → Prop} {g : Int → Int → V} (x y : V) (H : Hp) (Q : VK) (h : mI C g x y H Q) : rI C g x y H Q := by
  cases x <;> cases y <;> first | exact h.elim | exact ⟨_, _, rfl, rfl, h.1, h.2⟩
theorem mI0_imp {g : Int → Int → V} (x y : V) (H : Hp) (Q : VK) (h : mI0 g x y H Q) : rI0 g x y H Q := by
  cases x <;> cases y <;> first | exact h.elim | exact ⟨_, _, rfl, rfl, h⟩
/-- + : ints, texts, lists, tuples -/
def mAdd (K : PySem.W.Frag) : R2 := fun x y H Q => match x, y with
  | .int i, .int j => Q (.int (i + j)) H
  | .str a, .str b => a.length + b.length ≤ sizeLine ∧ Q (.str (a ++ b)) H
  | .int i, .bl k => Q (.int (i + b2i k)) H
  | .ref l, .ref b => (∃ xs, H l = some (.lst xs) ∧ ∃ zs, H b = some (.lst zs) ∧ xs.length + zs.length ≤ sizeLine ∧ ∀ p H', New H H' p (.lst (xs ++ zs)) → Q (.ref p) H') ∨ (∃ xs, SqT K H l xs ∧ ∃ zs, SqT K H b zs ∧ (xs ≠ [] ∧ zs ≠ []) ∧ xs.length + zs.length ≤ sizeLine ∧ ∀ p H', New H H' p (.tup (xs ++ zs)) → Q (.ref p) H')
  | _, _ => False
theorem op_addM : OpR X (binaryOp .Add) (mAdd X.K) := by
  intro pins s σ H x y v u Q I rx ry h
  cases x <;> cases y <;> first
    | exact h.elim
    | exact op_add pins s σ H _ _ v u Q I rx ry ⟨_, _, rfl, rfl, h⟩
    | exact op_add_str pins s σ H _ _ v u Q I rx ry ⟨_, _, rfl, rfl, h.1, h.2⟩
    | exact op_add_ib pins s σ H _ _ v u Q I rx ry ⟨_, _, rfl, rfl, h⟩
    | (rcases h with ⟨xs, h1, zs, h2, h3, h4⟩ | ⟨xs, h1, zs, h2, ⟨h3, h5⟩, h6, h4⟩
       · exact op_cat pins s σ H _ _ v u Q I rx ry ⟨_, _, _, _, rfl, rfl, h1, h2, h3, new_iff.mpr h4⟩
       · exact op_catT pins s σ H _ _ v u Q I rx ry ⟨_, _, _, _, rfl, rfl, h1, h2, h3, h6, fun e => absurd e h5, fun _ => new_iff.mpr h4⟩)
def mSub : R2 := fun x y H Q => match x, y with
  | .int i, .int j => Q (.int (i - j)) H
  | _, _ => False
theorem op_subM : OpR X (binaryOp .Sub) mSub := OpR.imp op_sub fun x y H Q h => by
  cases x <;> cases y <;> first | exact h.elim | exact ⟨_, _, rfl, rfl, h⟩
def CMulA (i j : Int) : Prop := CMul i j ∨ CMulW i j
/-- * : ints, a list or a tuple many times -/
def mMul (K : PySem.W.Frag) : R2 := fun x y H Q => match x, y with
  | .int i, .int j => CMulA i j ∧ Q (.int (i * j)) H
  | .ref l, .int k => rRep (.ref l) (.int k) H Q
  | _, _ => False
theorem op_mulM : OpR X (binaryOp .Mult) (mMul X.K) := by
  intro pins s σ H x y v u Q I rx ry h
  cases x <;> cases y <;> first
    | exact h.elim
    | exact op_rep pins s σ H _ _ v u Q I rx ry h
    | (obtain ⟨c, q⟩ := h
       rcases c with c | c
       · exact op_mul pins s σ H _ _ v u Q I rx ry ⟨_, _, rfl, rfl, c, q⟩
       · exact op_mulW pins s σ H _ _ v u Q I rx ry ⟨_, _, rfl, rfl, c, q⟩)
/-- // : the divisor is not 0 and has less than 9000 bits -/
def CDivA (_ j : Int) : Prop := j ≠ 0 ∧ j.natAbs.log2 < 9000
theorem op_fdivA : OpR X (binaryOp .FloorDiv) (rI CDivA fun i j => .int (i.fdiv j)) := opI fun i j _ _ _ _ _ hc q => floordiv_int hc.1 q (.inl (PyProof.noPylong_of_log2 hc.2))
def mFdiv : R2 := fun x y H Q => match x, y with
  | .int i, .int j => (j ≠ 0 ∧ j.natAbs.log2 < 9000) ∧ Q (.int (i.fdiv j)) H
  | _, _ => False
theorem op_fdivM : OpR X (binaryOp .FloorDiv) mFdiv := OpR.imp op_fdivA fun x y H Q h => by
  cases x <;> cases y <;> first | exact h.elim | exact ⟨_, _, rfl, rfl, h.1, h.2⟩
def mMod : R2 := fun x y H Q => match x, y with
  | .int i, .int j => j ≠ 0 ∧ Q (.int (i.fmod j)) H
  | _, _ => False
theorem op_modM : OpR X (binaryOp .Mod) mMod := OpR.imp op_modN fun x y H Q h => by
  cases x <;> cases y <;> first | exact h.elim | exact ⟨_, _, rfl, rfl, h.1, h.2⟩
def mPow : R2 := fun x y H Q => match x, y with
  | .int i, .int j => (0 ≤ j ∧ j ≤ 1000000 ∧ i.natAbs < 2 ^ 64) ∧ Q (.int (i ^ j.toNat)) H
  | _, _ => False
theorem op_powM : OpR X (binaryOp .Pow) mPow := OpR.imp op_pow fun x y H Q h => by
  cases x <;> cases y <;> first | exact h.elim | exact ⟨_, _, rfl, rfl, h.1, h.2⟩
/-- a written power of written numbers -/
theorem qpowc {i j v : Int} {k1 k2 : Nat} {p1 p2 pos : Pos} (h : 0 ≤ j ∧ j ≤ 1000000 ∧ i.natAbs < 2 ^ 64 ∧ i ^ j.toNat = v) : PE X (.BinOp (.Constant (.int i) k1 p1) .Pow (.Constant (.int j) k2 p2) pos) (tC (.int v)) :=
  PE.imp (pe_op op_pow pe_int pe_int) fun σ H Q q => ⟨_, _, rfl, rfl, ⟨h.1, h.2.1, h.2.2.1⟩, by show Q (.int (i ^ j.toNat)) H; rw [h.2.2.2]; exact q⟩
def mAnd : R2 := fun x y H Q => match x, y with
  | .int i, .int j => Q (.int (Builtin.bitAnd i j)) H
  | _, _ => False
theorem op_andM' : OpR X (binaryOp .BitAnd) mAnd := OpR.imp op_and fun x y H Q h => by
  cases x <;> cases y <;> first | exact h.elim | exact ⟨_, _, rfl, rfl, h⟩
def mShr : R2 := fun x y H Q => match x, y with
  | .int i, .int j => 0 ≤ j ∧ Q (.int (i / 2 ^ j.toNat)) H
  | _, _ => False
theorem op_shrM : OpR X (binaryOp .RShift) mShr := OpR.imp op_shr fun x y H Q h => by
  cases x <;> cases y <;> first | exact h.elim | exact ⟨_, _, rfl, rfl, h.1, h.2⟩
def mNeg : V → Hp → VK → Prop := fun x H Q => match x with
  | .int i => Q (.int (-i)) H
  | _ => False
theorem un_negM : UnR X (unaryOp .USub) mNeg := fun pins s σ H x v Q I rx h => by
  cases x <;> first | exact h.elim | exact un_neg pins s σ H _ v Q I rx ⟨_, rfl, h⟩

/-! ### built-ins -/
def mAbs : List V → Hp → VK → Prop := fun xs H Q => match xs with
  | [.int i] => Q (.int (i.natAbs : Nat)) H
  | _ => False
theorem abs_if (n : Int) : (if n < 0 then -n else n) = (n.natAbs : Int) := by split <;> omega
theorem c_abs : CallR X (.builtin "abs") mAbs := CallR.imp call_abs fun xs H Q h => by
  unfold mAbs at h
  split at h
  · exact ⟨_, rfl, by rw [abs_if]; exact h⟩
  · exact h.elim
def mInt : List V → Hp → VK → Prop := fun xs H Q => match xs with
  | [.int i] => Q (.int i) H
  | [.bl k] => Q (.int (if k then 1 else 0)) H
  | _ => False
theorem c_int : CallR X (.type "int") mInt := CallR.imp call_int1 fun xs H Q h => by
  unfold mInt at h
  split at h
  · exact .inl ⟨_, rfl, h⟩
  · exact .inr ⟨_, rfl, h⟩
  · exact h.elim
/-- what is a list or a tuple of xs -/
def Sq (K : PySem.W.Frag) (H : Hp) (p : Addr) (xs : List V) : Prop := SqL K H p xs ∨ SqT K H p xs
def mLen (K : PySem.W.Frag) : List V → Hp → VK → Prop := fun xs H Q => match xs with
  | [.ref p] => (∃ ys, Sq K H p ys ∧ Q (.int ys.length) H)
  | [.str z] => z.length ≤ sizeLine ∧ Q (.int z.length) H
  | _ => False
theorem c_len : CallR X (.builtin "len") (mLen X.K) := CallR.imp (call_len_seq.or call_len_str) fun xs H Q h => by
  unfold mLen at h
  split at h
  · obtain ⟨ys, a, q⟩ := h
    exact .inl ⟨_, ys, rfl, a, q⟩
  · exact .inr ⟨_, rfl, h.1, h.2⟩
  · exact h.elim
def mMax : List V → Hp → VK → Prop := fun xs H Q => match xs with
  | [.int i, .int j] => Q (.int (if j > i then j else i)) H
  | _ => False
theorem c_max (hc : X.calm = true) : CallR X (.builtin "max") mMax := CallR.imp (call_max2 hc) fun xs H Q h => by
  unfold mMax at h
  split at h
  · exact ⟨_, _, rfl, h⟩
  · exact h.elim
def mMin : List V → Hp → VK → Prop := fun xs H Q => match xs with
  | [.int i, .int j] => Q (.int (if j < i then j else i)) H
  | _ => False
theorem c_min (hc : X.calm = true) : CallR X (.builtin "min") mMin := CallR.imp (call_min2 hc) fun xs H Q h => by
  unfold mMin at h
  split at h
  · exact ⟨_, _, rfl, h⟩
  · exact h.elim
def mGcd : List V → Hp → VK → Prop := fun xs H Q => match xs with
  | [.int a, .int b] => Q (.int ((Nat.gcd a.natAbs b.natAbs : Nat) : Int)) H
  | _ => False
theorem c_gcd : CallR X (.builtin "math.gcd") mGcd := CallR.imp cr_gcd fun xs H Q h => by
  unfold mGcd at h
  split at h
  · exact ⟨_, _, rfl, h⟩
  · exact h.elim
def mIsqrt : List V → Hp → VK → Prop := fun xs H Q => match xs with
  | [.int n] => (0 ≤ n ∧ n < 2 ^ 200) ∧ ∀ r : Int, (0 ≤ r ∧ r * r ≤ n ∧ n < (r + 1) * (r + 1)) → Q (.int r) H
  | _ => False
theorem c_isqrt : CallR X (.builtin "math.isqrt") mIsqrt := by
  intro pins s σ H xs us Q I r h
  unfold mIsqrt at h
  split at h
  · rename_i n
    obtain ⟨⟨h0, h1⟩, q⟩ := h
    obtain ⟨u, rfl, t, rfl⟩ := vals1 r
    have hl : n.toNat.log2 ≤ 200 := PySem.W.mg_log (show n.toNat < 2 ^ (200 + 1) by omega)
    refine call_function_meets PySem.W.MGF.kind_isqrt PySem.W.MGF.plain_isqrt PySem.W.MGF.entry_isqrt (PySem.W.MGF.args_isqrt _) (PySem.W.mg_run_isqrt n t (by omega) (by omega) (by omega)).meets ⟨.int _, H, I.tok _, ⟨_, rfl⟩, q _ ?_⟩
    obtain ⟨a, b⟩ := Float64.isqrt_spec n.toNat
    generalize Float64.isqrt n.toNat = z at *
    have a' : ((z * z : Nat) : Int) ≤ (n.toNat : Int) := by omega
    have b' : (n.toNat : Int) < (((z + 1) * (z + 1) : Nat) : Int) := by omega
    have e : ((z + 1 : Nat) : Int) = (z : Int) + 1 := by omega
    rw [Int.natCast_mul] at a' b'
    rw [e] at b'
    refine ⟨by omega, ?_, ?_⟩ <;> omega
  · exact h.elim
/-- list(x): a new list -/
def mList (K : PySem.W.Frag) : List V → Hp → VK → Prop := fun xs H Q => match xs with
  | [.ref p] => ∃ ys, Sq K H p ys ∧ ∀ l H', New H H' l (.lst ys) → Q (.ref l) H'
  | _ => False
theorem c_list : CallR X (.type "list") (mList X.K) := CallR.imp call_list_of fun xs H Q h => by
  unfold mList at h
  split at h
  · obtain ⟨ys, a, q⟩ := h
    exact ⟨_, ys, rfl, a, new_iff.mpr q⟩
  · exact h.elim
/-- tuple(x) -/
def mTuple (K : PySem.W.Frag) : List V → Hp → VK → Prop := fun xs H Q => match xs with
  | [.ref p] => ∃ ys, (SqL K H p ys ∧ ∀ l H', New H H' l (.tup ys) → Q (.ref l) H') ∨ (SqT K H p ys ∧ Q (.ref p) H)
  | _ => False
theorem c_tuple : CallR X (.type "tuple") (mTuple X.K) := CallR.imp call_tuple_of fun xs H Q h => by
  unfold mTuple at h
  split at h
  · obtain ⟨ys, q⟩ := h
    exact ⟨_, ys, rfl, q.imp (fun z => ⟨z.1, new_iff.mpr z.2⟩) id⟩
  · exact h.elim

/-! ### subscripts -/
def mIx (K : PySem.W.Frag) : R2 := fun x y H Q => match x, y with
  | .ref p, .int i => ∃ xs, Sq K H p xs ∧ ∃ v, atI xs i = some v ∧ Q v H
  | .str z, .int i => z.length ≤ sizeLine ∧ ∃ c, atI z.cps.toList i = some c ∧ Q (.str ⟨#[c]⟩) H
  | _, _ => False
theorem ix_M : IxR X (mIx X.K) := by
  intro e1 e2 pins s σ H x y v u Q I rx ry h hp
  cases x <;> cases y <;> first
    | exact h.elim
    | (obtain ⟨z, c, e, q⟩ := h
       exact ix_str e1 e2 pins s σ H _ _ v u Q I rx ry ⟨_, _, _, rfl, rfl, z, e, q⟩ hp)
    | (obtain ⟨xs, a, w, e, q⟩ := h
       rcases a with a | a
       · exact ix_list e1 e2 pins s σ H _ _ v u Q I rx ry ⟨_, _, _, _, rfl, rfl, a, e, q⟩ hp
       · exact ix_tup e1 e2 pins s σ H _ _ v u Q I rx ry ⟨_, _, _, _, rfl, rfl, a, e, q⟩ hp)
/-- xs[i] = v -/
def mSetIx : TSet := fun o i v H Q => match o, i with
  | .ref p, .int k => ∃ xs, H p = some (.lst xs) ∧ ∃ j, ixN xs.length k = some j ∧ ∀ H', Wr H H' p (.lst (xs.set j v)) → Q H'
  | _, _ => False
theorem set_M : PSet X mSetIx := by
  intro pins s σ H o i v ov iv u Q I ro ri rv h
  cases o <;> cases i <;> first
    | exact h.elim
    | (obtain ⟨xs, a, j, e, q⟩ := h
       exact set_list pins s σ H _ _ _ ov iv u Q I ro ri rv ⟨_, _, _, _, rfl, rfl, a, e, q _ Wr.mk'⟩)

/-! ### tests, as propositions -/
abbrev PK := Prop → Hp → Prop
abbrev TP := L2.St → Hp → PK → Prop
def PPost (X : Cx) (pins : List (Addr × Obj)) (σ : L2.St) (Q : PK) (b : Bool) (s' : Shared) : Prop := ∃ p H', (b = true ↔ p) ∧ Inv X pins σ H' s' ∧ Q p H'
structure PP (X : Cx) (e : Expr) (t : TP) : Prop where
  run : ∀ (pins : List (Addr × Obj)) (s : Shared) (σ : L2.St) (H : Hp) (Q : PK), Inv X pins σ H s → t σ H Q → wpAny (model X.prog X.w) X.A (isTrue e X.env (eval e X.env)) (PPost X pins σ Q) X.xe s
structure PPW (X : Cx) (e : Expr) (t : TP) : Prop where
  run : ∀ (whole : Sem Value) (pins : List (Addr × Obj)) (s : Shared) (σ : L2.St) (H : Hp) (Q : PK), Inv X pins σ H s → t σ H Q → wpAny (model X.prog X.w) X.A (isTrue e X.env whole) (PPost X pins σ Q) X.xe s
theorem PPW.pp {e : Expr} {t : TP} (h : PPW X e t) : PP X e t := ⟨h.run _⟩
theorem PP.of {e : Expr} {t : TT} (h : PT X e t) : PP X e fun σ H Q => t σ H fun b H' => Q (b = true) H' :=
  ⟨fun pins s σ H Q I q => thn (h.run pins s σ H _ I q) fun b s' ⟨H', I', q'⟩ => ⟨_, H', Iff.rfl, I', q'⟩⟩
/-- .. and back: for the rules that ask a test by Bool -/
def bT (t : TP) : TT := fun σ H Q => t σ H fun p H' => Br p (Q true H') (Q false H')
theorem PP.pt {e : Expr} {t : TP} (h : PP X e t) : PT X e (bT t) :=
  ⟨fun pins s σ H Q I q => thn (h.run pins s σ H _ I q) fun b s' ⟨p, H', e, I', q'⟩ => ⟨H', I', by
    cases b with
    | true => exact q'.t (e.mp rfl)
    | false => exact q'.f fun z => by have := e.mpr z; cases this⟩⟩
/-- a comparison -/
abbrev RP := V → V → Hp → PK → Prop
def OpP (X : Cx) (f : Value → Value → Sem Value) (r : RP) : Prop :=
  ∀ (pins : List (Addr × Obj)) (s : Shared) (σ : L2.St) (H : Hp) (x y : V) (v u : Value) (Q : PK), Inv X pins σ H s → RelV x v → RelV y u → r x y H Q →
    wpAny (model X.prog X.w) X.A (f v u) (fun c s' => ∃ b p H', c = Value.bool b ∧ (b = true ↔ p) ∧ Inv X pins σ H' s' ∧ Q p H') X.xe s
theorem OpP.of {f : Value → Value → Sem Value} {r : R2} {rp : RP} (h : OpR X f r) (i : ∀ x y H (Q : PK), rp x y H Q → r x y H fun z H' => ∃ b p, z = .bl b ∧ (b = true ↔ p) ∧ Q p H') : OpP X f rp :=
  fun pins s σ H x y v u Q I rx ry q => thn (h pins s σ H x y v u _ I rx ry (i _ _ _ _ q)) fun c s' ⟨z, H', I', r', b, p, e, iff, q'⟩ => by
    subst e
    exact ⟨b, p, H', r', iff, I', q'⟩
variable {a b c : Expr} {ta tb tc : TE} {pos : Pos}
def tCmpP (r : RP) (ta tb : TE) : TP := fun σ H Q => ta σ H fun x H1 => tb σ H1 fun y H2 => r x y H2 Q
theorem pp_cmp {op : CmpOp} {r : RP} (ho : OpP X (compareOp op) r) (ha : PE X a ta) (hb : PE X b tb) (hm : behindInMarks op b = false) : PP X (.Compare a [op] [b] pos) (tCmpP r ta tb) := by
  refine ⟨fun pins s σ H Q I h => ?_⟩
  refine wpAny_isTrue_Compare1 (thn (ha.run pins s σ H _ I h) fun v s1 ⟨x, H1, I1, r1, q1⟩ => thn (hb.run pins s1 σ H1 _ I1 q1) fun u s2 ⟨y, H2, I2, r2, q2⟩ =>
    thn (ho pins s2 σ H2 x y v u _ I2 r1 r2 q2) fun c s3 ⟨b, p, H3, e, iff, I3, q3⟩ => ?_) hm
  subst e
  exact wpAny_truthy_bool ⟨p, H3, iff, I3, q3⟩
/-- the value of a comparison, a bool -/
def tCmpV (r : RP) (ta tb : TE) : TE := fun σ H Q => ta σ H fun x H1 => tb σ H1 fun y H2 => r x y H2 fun p H3 => ∀ b : Bool, (b = true ↔ p) → Q (.bl b) H3
theorem pe_cmpP {op : CmpOp} {r : RP} (ho : OpP X (compareOp op) r) (ha : PE X a ta) (hb : PE X b tb) (hm : behindInMarks op b = false) : PE X (.Compare a [op] [b] pos) (tCmpV r ta tb) := by
  refine ⟨fun pins s σ H Q I h => ?_⟩
  refine wpAny_Compare1 (thn (ha.run pins s σ H _ I h) fun v s1 ⟨x, H1, I1, r1, q1⟩ => thn (hb.run pins s1 σ H1 _ I1 q1) fun u s2 ⟨y, H2, I2, r2, q2⟩ =>
    thn (ho pins s2 σ H2 x y v u _ I2 r1 r2 q2) fun c s3 ⟨b, p, H3, e, iff, I3, q3⟩ => ?_) hm
  subst e
  exact ⟨.bl b, H3, I3, rfl, q3 b iff⟩
def pLt : RP := fun x y H Q => match x, y with
  | .int i, .int j => Q (i < j) H
  | .str i, .str j => Q (i.cps.toList < j.cps.toList) H
  | _, _ => False
theorem o_lt : OpP X (compareOp .Lt) pLt := OpP.of (op_lt.or op_lt_str) fun x y H Q h => by
  cases x <;> cases y <;> first
    | exact h.elim
    | exact .inl ⟨_, _, rfl, rfl, _, _, rfl, decide_eq_true_iff, h⟩
    | exact .inr ⟨_, _, rfl, rfl, _, _, rfl, decide_eq_true_iff, h⟩
def pLe : RP := fun x y H Q => match x, y with
  | .int i, .int j => Q (i ≤ j) H
  | _, _ => False
theorem o_le : OpP X (compareOp .LtE) pLe := OpP.of op_le fun x y H Q h => by
  cases x <;> cases y <;> first
    | exact h.elim
    | exact ⟨_, _, rfl, rfl, _, _, rfl, decide_eq_true_iff, h⟩
def pGt : RP := fun x y H Q => match x, y with
  | .int i, .int j => Q (i > j) H
  | _, _ => False
theorem o_gt : OpP X (compareOp .Gt) pGt := OpP.of op_gt fun x y H Q h => by
  cases x <;> cases y <;> first
    | exact h.elim
    | exact ⟨_, _, rfl, rfl, _, _, rfl, decide_eq_true_iff, h⟩
def pGe : RP := fun x y H Q => match x, y with
  | .int i, .int j => Q (i ≥ j) H
  | _, _ => False
theorem o_ge : OpP X (compareOp .GtE) pGe := OpP.of op_ge fun x y H Q h => by
  cases x <;> cases y <;> first
    | exact h.elim
    | exact ⟨_, _, rfl, rfl, _, _, rfl, decide_eq_true_iff, h⟩
/-- ==: scalars by themselves; what holds an object by its data -/
def pEq (K : PySem.W.Frag) : RP := fun x y H Q => match x, y with
  | .int i, .int j => Q (i = j) H
  | .bl i, .bl j => Q (i = j) H
  | .str i, .str j => Q (i = j) H
  | .non, .non => Q True H
  | .non, .int _ => Q False H
  | .int _, .non => Q False H
  | .non, .str _ => Q False H
  | .str _, .non => Q False H
  | .non, .bl _ => Q False H
  | .bl _, .non => Q False H
  | .int _, .str _ => Q False H
  | .str _, .int _ => Q False H
  | .bl _, .str _ => Q False H
  | .str _, .bl _ => Q False H
  | x, y => ∃ d e, Dp K H x d ∧ Dp K H y e ∧ SeqAt.shaped d = true ∧ SeqAt.shaped e = true ∧ Q (PyData.eqv d e = true) H
def pNe (K : PySem.W.Frag) : RP := fun x y H Q => match x, y with
  | .int i, .int j => Q (¬ (i = j)) H
  | .bl i, .bl j => Q (¬ (i = j)) H
  | .str i, .str j => Q (¬ (i = j)) H
  | .non, .non => Q False H
  | .non, .int _ => Q True H
  | .int _, .non => Q True H
  | .non, .str _ => Q True H
  | .str _, .non => Q True H
  | .non, .bl _ => Q True H
  | .bl _, .non => Q True H
  | .int _, .str _ => Q True H
  | .str _, .int _ => Q True H
  | .bl _, .str _ => Q True H
  | .str _, .bl _ => Q True H
  | x, y => ∃ d e, Dp K H x d ∧ Dp K H y e ∧ SeqAt.shaped d = true ∧ SeqAt.shaped e = true ∧ Q (¬ PyData.eqv d e = true) H
theorem o_eq (hu : X.A.units + 64 < cLine) : OpP X (compareOp .Eq) (pEq X.K) := OpP.of (op_eq.or (op_eqD hu)) fun x y H Q h => by
  cases x <;> cases y <;> first
    | exact .inl ⟨rfl, _, _, rfl, by simp, h⟩
    | (obtain ⟨d, e, hd, he, sd, se, q⟩ := h
       exact .inr ⟨d, e, hd, he, sd, se, _, _, rfl, Iff.rfl, q⟩)
theorem o_ne (hu : X.A.units + 64 < cLine) : OpP X (compareOp .NotEq) (pNe X.K) := OpP.of (op_ne.or (op_neD hu)) fun x y H Q h => by
  cases x <;> cases y <;> first
    | exact .inl ⟨rfl, _, _, rfl, by simp, h⟩
    | (obtain ⟨d, e, hd, he, sd, se, q⟩ := h
       exact .inr ⟨d, e, hd, he, sd, se, _, _, rfl, by simp, q⟩)
def pIs : RP := fun x y H Q => match x, y with
  | x, .non => Q (x = .non) H
  | .bl i, .bl j => Q (i = j) H
  | _, _ => False
def pIsN : RP := fun x y H Q => match x, y with
  | x, .non => Q (¬ x = .non) H
  | .bl i, .bl j => Q (¬ i = j) H
  | _, _ => False
theorem o_is : OpP X (compareOp .Is) pIs := OpP.of (op_isN.or op_isBl) fun x y H Q h => by
  cases y <;> first
    | (cases x <;> exact .inl ⟨rfl, _, _, rfl, by simp, h⟩)
    | (cases x <;> first
        | exact h.elim
        | exact .inr ⟨_, _, rfl, rfl, _, _, rfl, by simp, h⟩)
theorem o_isnot : OpP X (compareOp .IsNot) pIsN := OpP.of (op_notN.or op_notBl) fun x y H Q h => by
  cases y <;> first
    | (cases x <;> exact .inl ⟨rfl, _, _, rfl, by simp, h⟩)
    | (cases x <;> first
        | exact h.elim
        | exact .inr ⟨_, _, rfl, rfl, _, _, rfl, by simp, h⟩)

/-! ### truth, and, or, not -/
def TruM (K : PySem.W.Frag) (x : V) (H : Hp) (Q : PK) : Prop := match x with
  | .non => Q False H
  | .bl b => Q (b = true) H
  | .int i => Q (i ≠ 0) H
  | .str y => y.length ≤ sizeLine ∧ Q (y.length ≠ 0) H
  | .ref p => (∃ xs, Sq K H p xs ∧ Q (xs ≠ []) H) ∨ ∃ kvs, H p = some (.dK kvs) ∧ Q (kvs ≠ []) H
  | _ => False
theorem not_isEmpty {α : Type} (xs : List α) : (!xs.isEmpty) = true ↔ xs ≠ [] := by cases xs <;> simp
theorem pp_truth {t : TE} (h : PE X a t) (he : ∀ whole, isTrue a X.env whole = (do let v ← whole; standAt a.pos; holding [v] (truthy v)) := by intro _; rfl) :
    PP X a (fun σ H Q => t σ H fun x H' => TruM X.K x H' Q) := by
  refine ⟨fun pins s σ H Q I hw => ?_⟩
  refine isTrue_plain (thn (h.run pins s σ H _ I hw) fun v s1 ⟨x, H1, I1, r1, q1⟩ => ?_) (he _)
  have go : ∀ (k : Bool) (p : Prop), TruV X.K x H1 k → (k = true ↔ p) → Q p H1 → wpAny (model X.prog X.w) X.A (truthy v) (PPost X pins σ Q) X.xe s1 := fun k p tv iff q =>
    thn (tru_ok pins s1 σ H1 x v (fun b H' => b = k ∧ H' = H1) I1 r1 ⟨k, tv, rfl, rfl⟩) fun b s2 ⟨H2, I2, e1, e2⟩ => by
      subst e1 e2
      exact ⟨p, _, iff, I2, q⟩
  cases x with
  | non => exact go false _ rfl (by simp) q1
  | bl b => exact go b _ rfl Iff.rfl q1
  | int i => exact go (i != 0) _ rfl (by simp) q1
  | str y => exact go _ _ ⟨q1.1, rfl⟩ (by simp) q1.2
  | ref p =>
    have q2 : (∃ xs, Sq X.K H1 p xs ∧ Q (xs ≠ []) H1) ∨ ∃ kvs, H1 p = some (.dK kvs) ∧ Q (kvs ≠ []) H1 := q1
    rcases q2 with ⟨xs, hx | hx, q⟩ | ⟨kvs, hx, q⟩
    · exact go _ _ (.inl ⟨xs, hx, rfl⟩) (not_isEmpty xs) q
    · exact go _ _ (.inr (.inl ⟨xs, hx, rfl⟩)) (not_isEmpty xs) q
    · exact go _ _ (.inr (.inr ⟨kvs, hx, rfl⟩)) (not_isEmpty kvs) q
  | _ => exact (show False from q1).elim
variable {tA tB : TP} {rest : List Expr}
/-- and: by two ways -/
def tAndP (t u : TP) : TP := fun σ H Q => t σ H fun p H1 => Br p (u σ H1 Q) (Q False H1)
def tOrP (t u : TP) : TP := fun σ H Q => t σ H fun p H1 => Br p (Q True H1) (u σ H1 Q)
def tNotP (t : TP) : TP := fun σ H Q => t σ H fun p H1 => Q (¬ p) H1
theorem b_true {p : Prop} (h : p) : ((true : Bool) = true ↔ True) := by simp
theorem PPost.fls {pins : List (Addr × Obj)} {σ : L2.St} {Q : PK} {s : Shared} {H1 : Hp} (I : Inv X pins σ H1 s) (q : Q False H1) : PPost X pins σ Q false s := ⟨False, H1, by simp, I, q⟩
theorem PPost.tru {pins : List (Addr × Obj)} {σ : L2.St} {Q : PK} {s : Shared} {H1 : Hp} (I : Inv X pins σ H1 s) (q : Q True H1) : PPost X pins σ Q true s := ⟨True, H1, by simp, I, q⟩
theorem nb {p : Prop} (e : (false : Bool) = true ↔ p) : ¬ p := fun z => by have := e.mpr z; cases this
theorem qw_and1 (ha : PP X a tA) : PPW X (.BoolOp .And [a] pos) tA := by
  refine ⟨fun wh pins s σ H Q I h => ?_⟩
  refine isTrue_and (thn (ha.run pins s σ H Q I h) fun c s1 e => ?_)
  cases c with
  | true => exact isTrue_and_nil e
  | false => exact e
theorem qw_or1 (ha : PP X a tA) : PPW X (.BoolOp .Or [a] pos) tA := by
  refine ⟨fun wh pins s σ H Q I h => ?_⟩
  refine isTrue_or (thn (ha.run pins s σ H Q I h) fun c s1 e => ?_)
  cases c with
  | false => exact isTrue_or_nil e
  | true => exact e
theorem qw_and (ha : PP X a tA) (hb : PPW X (.BoolOp .And (b :: rest) pos) tB) : PPW X (.BoolOp .And (a :: b :: rest) pos) (tAndP tA tB) := by
  refine ⟨fun wh pins s σ H Q I h => ?_⟩
  refine isTrue_and (thn (ha.run pins s σ H _ I h) fun c s1 ⟨p, H1, e, I1, q1⟩ => ?_)
  cases c with
  | true => exact hb.run wh pins s1 σ H1 Q I1 (q1.t (e.mp rfl))
  | false => exact PPost.fls I1 (q1.f (nb e))
theorem qw_or (ha : PP X a tA) (hb : PPW X (.BoolOp .Or (b :: rest) pos) tB) : PPW X (.BoolOp .Or (a :: b :: rest) pos) (tOrP tA tB) := by
  refine ⟨fun wh pins s σ H Q I h => ?_⟩
  refine isTrue_or (thn (ha.run pins s σ H _ I h) fun c s1 ⟨p, H1, e, I1, q1⟩ => ?_)
  cases c with
  | true => exact PPost.tru I1 (q1.t (e.mp rfl))
  | false => exact hb.run wh pins s1 σ H1 Q I1 (q1.f (nb e))
theorem qp_not (ha : PP X a tA) : PP X (.UnaryOp .Not a pos) (tNotP tA) := by
  refine ⟨fun pins s σ H Q I h => ?_⟩
  refine isTrue_not (thn (ha.run pins s σ H (fun p H1 => Q (¬ p) H1) I h) fun b s1 ⟨p, H1, e, I1, q⟩ => ⟨_, H1, ?_, I1, q⟩)
  cases b with
  | true => simp [e.mp rfl]
  | false => simp [nb e]
/-- and, or of two, three .. tests without a fork: the tests may be made one after another, the heap as it is -/
def tAndJ (t u : TP) : TP := fun σ H Q => t σ H fun p H1 => ∃ r : Prop, (p → u σ H1 fun q H2 => H2 = H1 ∧ r = q) ∧ Q (p ∧ r) H1
def tOrJ (t u : TP) : TP := fun σ H Q => t σ H fun p H1 => ∃ r : Prop, (¬ p → u σ H1 fun q H2 => H2 = H1 ∧ r = q) ∧ Q (p ∨ r) H1
theorem qw_andJ (ha : PP X a tA) (hb : PPW X (.BoolOp .And (b :: rest) pos) tB) : PPW X (.BoolOp .And (a :: b :: rest) pos) (tAndJ tA tB) := by
  refine ⟨fun wh pins s σ H Q I h => ?_⟩
  refine isTrue_and (thn (ha.run pins s σ H _ I h) fun c s1 ⟨p, H1, e, I1, r, q1, q2⟩ => ?_)
  cases c with
  | true =>
    refine thn (hb.run wh pins s1 σ H1 _ I1 (q1 (e.mp rfl))) fun c s2 ⟨p2, H2, e2, I2, eh, er⟩ => ?_
    subst eh er
    exact ⟨_, _, by simp [e.mp rfl, e2], I2, q2⟩
  | false => exact ⟨_, H1, by simp [nb e], I1, q2⟩
theorem qw_orJ (ha : PP X a tA) (hb : PPW X (.BoolOp .Or (b :: rest) pos) tB) : PPW X (.BoolOp .Or (a :: b :: rest) pos) (tOrJ tA tB) := by
  refine ⟨fun wh pins s σ H Q I h => ?_⟩
  refine isTrue_or (thn (ha.run pins s σ H _ I h) fun c s1 ⟨p, H1, e, I1, r, q1, q2⟩ => ?_)
  cases c with
  | true => exact ⟨_, H1, by simp [e.mp rfl], I1, q2⟩
  | false =>
    refine thn (hb.run wh pins s1 σ H1 _ I1 (q1 (nb e))) fun c s2 ⟨p2, H2, e2, I2, eh, er⟩ => ?_
    subst eh er
    exact ⟨_, _, by simp [nb e, e2], I2, q2⟩
/-! as values: the operands are bools -/
def tBoolV (t : TE) (k : Bool → Hp → Prop) : L2.St → Hp → Prop := fun σ H => t σ H fun x H1 => match x with
  | .bl b => k b H1
  | _ => False
def tAndV' (ta tb : TE) : TE := fun σ H Q => ta σ H fun x H1 => match x with
  | .bl b => Br (b = true) (tb σ H1 Q) (Q (.bl false) H1)
  | _ => False
def tOrV' (ta tb : TE) : TE := fun σ H Q => ta σ H fun x H1 => match x with
  | .bl b => Br (b = true) (Q (.bl true) H1) (tb σ H1 Q)
  | _ => False
def tNotV' (ta : TE) : TE := fun σ H Q => ta σ H fun x H1 => match x with
  | .bl b => Q (.bl (!b)) H1
  | _ => False
theorem qe_and (ha : PE X a ta) (hb : PE X (.BoolOp .And (b :: rest) pos) tb) : PE X (.BoolOp .And (a :: b :: rest) pos) (tAndV' ta tb) := by
  refine ⟨fun pins s σ H Q I h => ?_⟩
  refine BoolOp_and (thn (ha.run pins s σ H _ I h) fun v s1 ⟨x, H1, I1, r1, q1⟩ => ?_)
  cases x with
  | bl c =>
    cases r1
    refine wpAny_truthy_bool ?_
    cases c with
    | true => exact hb.run pins s1 σ H1 Q I1 (q1.t rfl)
    | false => exact ⟨.bl false, H1, I1, rfl, q1.f (by simp)⟩
  | _ => exact (show False from q1).elim
theorem qe_or (ha : PE X a ta) (hb : PE X (.BoolOp .Or (b :: rest) pos) tb) : PE X (.BoolOp .Or (a :: b :: rest) pos) (tOrV' ta tb) := by
  refine ⟨fun pins s σ H Q I h => ?_⟩
  refine BoolOp_or (thn (ha.run pins s σ H _ I h) fun v s1 ⟨x, H1, I1, r1, q1⟩ => ?_)
  cases x with
  | bl c =>
    cases r1
    refine wpAny_truthy_bool ?_
    cases c with
    | false => exact hb.run pins s1 σ H1 Q I1 (q1.f (by simp))
    | true => exact ⟨.bl true, H1, I1, rfl, q1.t rfl⟩
  | _ => exact (show False from q1).elim
theorem qe_not (ha : PE X a ta) : PE X (.UnaryOp .Not a pos) (tNotV' ta) := by
  refine ⟨fun pins s σ H Q I h => ?_⟩
  refine UnaryOp_ (thn (ha.run pins s σ H _ I h) fun v s1 ⟨x, H1, I1, r1, q1⟩ => ?_)
  cases x with
  | bl c =>
    cases r1
    exact not_of (wpAny_truthy_bool ⟨.bl (!c), H1, I1, rfl, q1⟩)
  | _ => exact (show False from q1).elim
/-- a if t else b -/
def tIfP (t : TP) (ta tb : TE) : TE := fun σ H Q => t σ H fun p H1 => Br p (ta σ H1 Q) (tb σ H1 Q)
theorem qe_if (hc : PP X c tA) (ha : PE X a ta) (hb : PE X b tb) : PE X (.IfExp c a b pos) (tIfP tA ta tb) := by
  refine ⟨fun pins s σ H Q I h => ?_⟩
  refine wpAny_IfExp (thn (hc.run pins s σ H _ I h) fun d s1 ⟨p, H1, e, I1, q1⟩ => ?_)
  cases d with
  | true => exact ha.run pins s1 σ H1 Q I1 (q1.t (e.mp rfl))
  | false => exact hb.run pins s1 σ H1 Q I1 (q1.f (nb e))
/-- x op1 y op2 z as a test -/
def tChainP (r r' : RP) (ta tb tc : TE) : TP := fun σ H Q => ta σ H fun x H1 => tb σ H1 fun y H2 => r x y H2 fun p H3 => ∃ q : Prop, (p → tc σ H3 fun z H4 => r' y z H4 fun q' H5 => H5 = H3 ∧ q = q') ∧ Q (p ∧ q) H3
theorem qp_chain {op op' : CmpOp} {r r' : RP} (ho : OpP X (compareOp op) r) (ho' : OpP X (compareOp op') r') (ha : PE X a ta) (hb : PE X b tb) (hc : PE X c tc)
    (hm : lastMarks [op, op'] [b, c] = false := by with_unfolding_all rfl) : PP X (.Compare a [op, op'] [b, c] pos) (tChainP r r' ta tb tc) := by
  refine ⟨fun pins s σ H Q I h => ?_⟩
  refine isTrue_chain (thn (ha.run pins s σ H _ I h) fun v s1 ⟨x, H1, I1, r1, q1⟩ => test_link (thn (hb.run pins s1 σ H1 _ I1 q1) fun u s2 ⟨y, H2, I2, r2, q2⟩ =>
    thn (ho pins s2 σ H2 x y v u _ I2 r1 r2 q2) fun d s3 ⟨k, p, H3, e, iff, I3, q, q3, q4⟩ => ?_)) hm
  subst e
  refine wpAny_truthy_bool ?_
  cases k with
  | false => exact ite_ff ⟨_, H3, by simp [nb iff], I3, q4⟩
  | true =>
    refine ite_tt (test_last (thn (hc.run pins s3 σ H3 _ I3 (q3 (iff.mp rfl))) fun w' s4 ⟨z', H4, I4, r4, q4'⟩ => thn (ho' pins s4 σ H4 y z' u w' _ I4 r2 r4 q4') fun d' s5 ⟨k2, p2, H5, e2, iff2, I5, eh, er⟩ => ?_))
    subst e2 eh er
    exact wpAny_truthy_bool ⟨_, _, by simp [iff.mp rfl, iff2], I5, q4⟩
def tChainV (r r' : RP) (ta tb tc : TE) : TE := fun σ H Q => ta σ H fun x H1 => tb σ H1 fun y H2 => r x y H2 fun p H3 => ∃ q : Prop, (p → tc σ H3 fun z H4 => r' y z H4 fun q' H5 => H5 = H3 ∧ q = q') ∧ ∀ b : Bool, (b = true ↔ p ∧ q) → Q (.bl b) H3
theorem qe_chain {op op' : CmpOp} {r r' : RP} (ho : OpP X (compareOp op) r) (ho' : OpP X (compareOp op') r') (ha : PE X a ta) (hb : PE X b tb) (hc : PE X c tc)
    (hm : lastMarks [op, op'] [b, c] = false := by with_unfolding_all rfl) : PE X (.Compare a [op, op'] [b, c] pos) (tChainV r r' ta tb tc) := by
  refine ⟨fun pins s σ H Q I h => ?_⟩
  refine Compare_chain (thn (ha.run pins s σ H _ I h) fun v s1 ⟨x, H1, I1, r1, q1⟩ => chain_link (thn (hb.run pins s1 σ H1 _ I1 q1) fun u s2 ⟨y, H2, I2, r2, q2⟩ =>
    thn (ho pins s2 σ H2 x y v u _ I2 r1 r2 q2) fun d s3 ⟨k, p, H3, e, iff, I3, q, q3, q4⟩ => ?_)) hm
  subst e
  refine wpAny_truthy_bool ?_
  cases k with
  | false => exact ite_ff ⟨.bl false, H3, I3, rfl, q4 false (by simp [nb iff])⟩
  | true =>
    refine ite_tt (chain_last (thn (hc.run pins s3 σ H3 _ I3 (q3 (iff.mp rfl))) fun w' s4 ⟨z', H4, I4, r4, q4'⟩ => thn (ho' pins s4 σ H4 y z' u w' _ I4 r2 r4 q4') fun d' s5 ⟨k2, p2, H5, e2, iff2, I5, eh, er⟩ => ?_))
    subst e2 eh er
    exact ⟨.bl k2, _, I5, rfl, q4 k2 (by simp [iff.mp rfl, iff2])⟩

/-! ### expressions whose value is a bool -/
structure PB (X : Cx) (e : Expr) (t : TP) : Prop where
  run : ∀ (pins : List (Addr × Obj)) (s : Shared) (σ : L2.St) (H : Hp) (Q : PK), Inv X pins σ H s → t σ H Q →
    wpAny (model X.prog X.w) X.A (eval e X.env) (fun c s' => ∃ b p H', c = Value.bool b ∧ (b = true ↔ p) ∧ Inv X pins σ H' s' ∧ Q p H') X.xe s
def tOfB (t : TP) : TE := fun σ H Q => t σ H fun p H1 => ∀ b : Bool, (b = true ↔ p) → Q (.bl b) H1
theorem qe_B (h : PB X a tA) : PE X a (tOfB tA) := ⟨fun pins s σ H Q I q => thn (h.run pins s σ H _ I q) fun c s' ⟨b, p, H', e, iff, I', q'⟩ => by
  subst e
  exact ⟨.bl b, H', I', rfl, q' b iff⟩⟩
def tBof (t : TE) : TP := fun σ H Q => t σ H fun x H1 => match x with
  | .bl b => Q (b = true) H1
  | _ => False
theorem qb_val (h : PE X a ta) : PB X a (tBof ta) := ⟨fun pins s σ H Q I q => thn (h.run pins s σ H _ I q) fun c s' ⟨x, H', I', r, q'⟩ => by
  cases x with
  | bl b =>
    cases r
    exact ⟨b, _, H', rfl, Iff.rfl, I', q'⟩
  | _ => exact (show False from q').elim⟩
theorem qb_cmp {op : CmpOp} {r : RP} (ho : OpP X (compareOp op) r) (ha : PE X a ta) (hb : PE X b tb) (hm : behindInMarks op b = false) : PB X (.Compare a [op] [b] pos) (tCmpP r ta tb) := by
  refine ⟨fun pins s σ H Q I h => ?_⟩
  exact wpAny_Compare1 (thn (ha.run pins s σ H _ I h) fun v s1 ⟨x, H1, I1, r1, q1⟩ => thn (hb.run pins s1 σ H1 _ I1 q1) fun u s2 ⟨y, H2, I2, r2, q2⟩ =>
    thn (ho pins s2 σ H2 x y v u _ I2 r1 r2 q2) fun c s3 h3 => h3) hm
def tIffP (t u : TP) : TP := fun σ H Q => t σ H fun p H1 => u σ H1 fun q H2 => Q (p ↔ q) H2
def tNifP (t u : TP) : TP := fun σ H Q => t σ H fun p H1 => u σ H1 fun q H2 => Q (¬ (p ↔ q)) H2
theorem qb_iff (ha : PB X a tA) (hb : PB X b tB) : PB X (.Compare a [.Eq] [b] pos) (tIffP tA tB) := by
  refine ⟨fun pins s σ H Q I h => ?_⟩
  refine wpAny_Compare1 (thn (ha.run pins s σ H _ I h) fun v s1 ⟨x, p, H1, e1, iff1, I1, q1⟩ => thn (hb.run pins s1 σ H1 _ I1 q1) fun u s2 ⟨y, q, H2, e2, iff2, I2, q2⟩ => ?_) (nomark _)
  subst e1 e2
  refine eq_bool ⟨_, _, H2, rfl, ?_, I2, q2⟩
  rw [← iff1, ← iff2]
  cases x <;> cases y <;> simp
theorem qb_nif (ha : PB X a tA) (hb : PB X b tB) : PB X (.Compare a [.NotEq] [b] pos) (tNifP tA tB) := by
  refine ⟨fun pins s σ H Q I h => ?_⟩
  refine wpAny_Compare1 (thn (ha.run pins s σ H _ I h) fun v s1 ⟨x, p, H1, e1, iff1, I1, q1⟩ => thn (hb.run pins s1 σ H1 _ I1 q1) fun u s2 ⟨y, q, H2, e2, iff2, I2, q2⟩ => ?_) (nomark _)
  subst e1 e2
  refine ne_bool ⟨_, _, H2, rfl, ?_, I2, q2⟩
  rw [← iff1, ← iff2]
  cases x <;> cases y <;> simp
theorem qb_and1 (ha : PB X a tA) : PB X (.BoolOp op [a] pos) tA := ⟨fun pins s σ H Q I hw => BoolOp_one (ha.run pins s σ H Q I hw)⟩
theorem qb_and (ha : PB X a tA) (hb : PB X (.BoolOp .And (b :: rest) pos) tB) : PB X (.BoolOp .And (a :: b :: rest) pos) (tAndP tA tB) := by
  refine ⟨fun pins s σ H Q I h => ?_⟩
  refine BoolOp_and (thn (ha.run pins s σ H _ I h) fun v s1 ⟨x, p, H1, e, iff, I1, q1⟩ => ?_)
  subst e
  refine wpAny_truthy_bool ?_
  cases x with
  | true => exact hb.run pins s1 σ H1 Q I1 (q1.t (iff.mp rfl))
  | false => exact ⟨false, False, H1, rfl, by simp, I1, q1.f (nb iff)⟩
theorem qb_or (ha : PB X a tA) (hb : PB X (.BoolOp .Or (b :: rest) pos) tB) : PB X (.BoolOp .Or (a :: b :: rest) pos) (tOrP tA tB) := by
  refine ⟨fun pins s σ H Q I h => ?_⟩
  refine BoolOp_or (thn (ha.run pins s σ H _ I h) fun v s1 ⟨x, p, H1, e, iff, I1, q1⟩ => ?_)
  subst e
  refine wpAny_truthy_bool ?_
  cases x with
  | true => exact ⟨true, True, H1, rfl, by simp, I1, q1.t (iff.mp rfl)⟩
  | false => exact hb.run pins s1 σ H1 Q I1 (q1.f (nb iff))
theorem qb_chain {op op' : CmpOp} {r r' : RP} (ho : OpP X (compareOp op) r) (ho' : OpP X (compareOp op') r') (ha : PE X a ta) (hb : PE X b tb) (hc : PE X c tc)
    (hm : lastMarks [op, op'] [b, c] = false := by with_unfolding_all rfl) : PB X (.Compare a [op, op'] [b, c] pos) (tChainP r r' ta tb tc) := by
  refine ⟨fun pins s σ H Q I h => ?_⟩
  refine Compare_chain (thn (ha.run pins s σ H _ I h) fun v s1 ⟨x, H1, I1, r1, q1⟩ => chain_link (thn (hb.run pins s1 σ H1 _ I1 q1) fun u s2 ⟨y, H2, I2, r2, q2⟩ =>
    thn (ho pins s2 σ H2 x y v u _ I2 r1 r2 q2) fun d s3 ⟨k, p, H3, e, iff, I3, q, q3, q4⟩ => ?_)) hm
  subst e
  refine wpAny_truthy_bool ?_
  cases k with
  | false => exact ite_ff ⟨false, _, H3, rfl, by simp [nb iff], I3, q4⟩
  | true =>
    refine ite_tt (chain_last (thn (hc.run pins s3 σ H3 _ I3 (q3 (iff.mp rfl))) fun w' s4 ⟨z', H4, I4, r4, q4'⟩ => thn (ho' pins s4 σ H4 y z' u w' _ I4 r2 r4 q4') fun d' s5 ⟨k2, p2, H5, e2, iff2, I5, eh, er⟩ => ?_))
    subst e2 eh er
    exact ⟨k2, _, _, rfl, by simp [iff.mp rfl, iff2], I5, q4⟩
/-- a bool's test -/
theorem pp_B (h : PB X a tA) (he : ∀ whole, isTrue a X.env whole = (do let v ← whole; standAt a.pos; holding [v] (truthy v)) := by intro _; rfl) : PP X a tA := by
  refine ⟨fun pins s σ H Q I hw => ?_⟩
  refine isTrue_plain (thn (h.run pins s σ H _ I hw) fun v s1 ⟨x, p, H1, e, iff, I1, q1⟩ => ?_) (he _)
  subst e
  exact wpAny_truthy_bool ⟨p, H1, iff, I1, q1⟩
theorem qp_iff (ha : PB X a tA) (hb : PB X b tB) : PP X (.Compare a [.Eq] [b] pos) (tIffP tA tB) := by
  refine ⟨fun pins s σ H Q I h => ?_⟩
  refine wpAny_isTrue_Compare1 (thn (ha.run pins s σ H _ I h) fun v s1 ⟨x, p, H1, e1, iff1, I1, q1⟩ => thn (hb.run pins s1 σ H1 _ I1 q1) fun u s2 ⟨y, q, H2, e2, iff2, I2, q2⟩ => ?_) (nomark _)
  subst e1 e2
  refine eq_bool (wpAny_truthy_bool ⟨_, H2, ?_, I2, q2⟩)
  rw [← iff1, ← iff2]
  cases x <;> cases y <;> simp
theorem qp_nif (ha : PB X a tA) (hb : PB X b tB) : PP X (.Compare a [.NotEq] [b] pos) (tNifP tA tB) := by
  refine ⟨fun pins s σ H Q I h => ?_⟩
  refine wpAny_isTrue_Compare1 (thn (ha.run pins s σ H _ I h) fun v s1 ⟨x, p, H1, e1, iff1, I1, q1⟩ => thn (hb.run pins s1 σ H1 _ I1 q1) fun u s2 ⟨y, q, H2, e2, iff2, I2, q2⟩ => ?_) (nomark _)
  subst e1 e2
  refine ne_bool (wpAny_truthy_bool ⟨_, H2, ?_, I2, q2⟩)
  rw [← iff1, ← iff2]
  cases x <;> cases y <;> simp
/-- a test told by one proposition, whatever the ways through it; the heap as it is -/
def tSpec (t : TP) : TP := fun σ H Q => ∃ r : Prop, (t σ H fun p H1 => H1 = H ∧ (p ↔ r)) ∧ Q r H
theorem pp_spec (h : PP X a tA) : PP X a (tSpec tA) := ⟨fun pins s σ H Q I ⟨r, h1, h2⟩ => thn (h.run pins s σ H _ I h1) fun b s1 ⟨p, H1, iff, I1, e, iff2⟩ => by
  subst e
  exact ⟨r, H1, iff.trans iff2, I1, h2⟩⟩
theorem pb_spec (h : PB X a tA) : PB X a (tSpec tA) := ⟨fun pins s σ H Q I ⟨r, h1, h2⟩ => thn (h.run pins s σ H _ I h1) fun c s1 ⟨b, p, H1, ec, iff, I1, e, iff2⟩ => by
  subst e
  exact ⟨b, r, H1, ec, iff.trans iff2, I1, h2⟩⟩

/-! ### statements -/
variable {t u : TS} {body : List Stmt}
def sIf (c : TP) (t u : TS) : TS := fun D σ H => c σ H fun p H1 => Br p (t D σ H1) (u D σ H1)
theorem qif {x y : List Stmt} (hc : PP X c tA) (hx : PSs X x t) (hy : PSs X y u) : PS X (.If c x y pos) (sIf tA t u) := by
  refine ⟨fun pins s σ H D I h => ?_⟩
  refine wpAny_If (thn (hc.run pins s σ H _ I h) fun d s1 ⟨p, H1, e, I1, q1⟩ => ?_)
  cases d with
  | true => exact hx.run pins s1 σ H1 D I1 (q1.t (e.mp rfl))
  | false => exact hy.run pins s1 σ H1 D I1 (q1.f (nb e))
/-- the ways meet again behind a statement: R -/
def sJoin (t : TS) : TS := fun D σ H => ∃ R : L2.St → Hp → Prop, t { D with nx := R } σ H ∧ ∀ σ' H', R σ' H' → D.nx σ' H'
theorem qjoin {st : Stmt} (h : PS X st t) : PS X st (sJoin t) := by
  refine ⟨fun pins s σ H D I ⟨R, h1, h2⟩ => ?_⟩
  refine thn (h.run pins s σ H _ I h1) fun f s' q => ?_
  cases f with
  | next =>
    obtain ⟨σ', H', I', q⟩ := q
    exact ⟨σ', H', I', h2 _ _ q⟩
  | brk => exact q
  | cont => exact q
  | ret v => exact q
/-- while: the word W with a measure -/
def sWhile (c : TP) (tb : TS) : TS := fun D σ H => ∃ W : Nat → L2.St → Hp → Prop, (∃ m, W m σ H) ∧ ∀ m σ H, W m σ H →
  c σ H fun p H1 => Br p (tb { D with nx := fun σ' H' => ∃ m', m' < m ∧ W m' σ' H', ct := fun σ' H' => ∃ m', m' < m ∧ W m' σ' H', bk := D.nx } σ H1) (D.nx σ H1)
theorem qwhile (hp : PassesOwn (model X.prog X.w) X.A X.env X.xe) (hc : PP X c tA) (hb : PSs X body u) : PS X (.While c body [] pos) (sWhile tA u) := by
  refine ⟨fun pins s σ H D I h => ?_⟩
  obtain ⟨W, ⟨m0, w0⟩, turn⟩ := h
  refine wpAny_While (codeAny_whileLoop (fun n s' => ∃ σ' H', Inv X pins σ' H' s' ∧ W n σ' H') ?_ m0 ⟨σ, H, I, w0⟩)
  rintro n s1 ⟨σ1, H1, I1, w1⟩
  refine wpAny_passesOwn hp (thn (hc.run pins s1 σ1 H1 _ I1 (turn n σ1 H1 w1)) fun b s2 ⟨p, H2, e, I2, q2⟩ => ?_)
  cases b with
  | true =>
    rw [if_pos rfl]
    refine wpAny_passesOwn hp (thn (hb.run pins s2 σ1 H2 _ I2 (q2.t (e.mp rfl))) fun f s3 q3 => ?_)
    cases f with
    | next =>
      obtain ⟨σ3, H3, I3, m', hm, w3⟩ := q3
      exact ⟨m', hm, σ3, H3, I3, w3⟩
    | cont =>
      obtain ⟨σ3, H3, I3, m', hm, w3⟩ := q3
      exact ⟨m', hm, σ3, H3, I3, w3⟩
    | brk => exact q3
    | ret v => exact q3
  | false =>
    rw [if_neg Bool.false_ne_true]
    exact wpAny_execs_nil ⟨σ1, H2, I2, q2.f (nb e)⟩

/-! ### ranges -/
def qRng1 (ta : TA) : TI := fun σ H R => ta σ H fun vs H1 => match vs with
  | [.int j] => (-(2 ^ 62) ≤ j ∧ j < 2 ^ 62) ∧ R (Itr 0 j.toNat) H1
  | _ => False
theorem qRng1_eq (ta : TA) : iRng1 ta = qRng1 ta := by
  funext σ H R
  unfold iRng1 qRng1
  congr 1
  funext vs H1
  apply propext
  constructor
  · rintro ⟨j, rfl, a, b, q⟩
    exact ⟨⟨a, b⟩, q⟩
  · intro h
    split at h
    · exact ⟨_, rfl, h.1.1, h.1.2, h.2⟩
    · exact h.elim
theorem qi_range1 {tg : Expr} {ta : TA} {p : Pos} (hg : Gl X "range") (hm : X.mg "range" = none) (ha : PA X [a] ta) (hs : starEach [a] X.env = [(false, eval a X.env)] := by rfl) : PI X tg (.Call (.Name "range" p) [a] [] pos) (qRng1 ta) := by
  rw [← qRng1_eq]
  exact pi_range1 hg hm ha hs
def qRng2 (ta : TA) : TI := fun σ H R => ta σ H fun vs H1 => match vs with
  | [.int i, .int j] => (-(2 ^ 62) ≤ i ∧ i < 2 ^ 62 ∧ -(2 ^ 62) ≤ j ∧ j < 2 ^ 62) ∧ R (Itr i (j - i).toNat) H1
  | _ => False
theorem qRng2_eq (ta : TA) : iRng2 ta = qRng2 ta := by
  funext σ H R
  unfold iRng2 qRng2
  congr 1
  funext vs H1
  apply propext
  constructor
  · rintro ⟨i, j, rfl, a, q⟩
    exact ⟨a, q⟩
  · intro h
    split at h
    · exact ⟨_, _, rfl, h.1, h.2⟩
    · exact h.elim
theorem qi_range2 {tg : Expr} {ta : TA} {p : Pos} (hg : Gl X "range") (hm : X.mg "range" = none) (ha : PA X [a, b] ta) (hs : starEach [a, b] X.env = [(false, eval a X.env), (false, eval b X.env)] := by rfl) (hs2 : starEach [b] X.env = [(false, eval b X.env)] := by rfl) :
    PI X tg (.Call (.Name "range" p) [a, b] [] pos) (qRng2 ta) := by
  rw [← qRng2_eq]
  exact pi_range2 hg hm ha hs hs2

/-! ### isinstance of the built-in classes -/
inductive Ty where
  | int | bool | str | tuple | list | dict
def Ty.nm : Ty → String
  | .int => "int" | .bool => "bool" | .str => "str" | .tuple => "tuple" | .list => "list" | .dict => "dict"
/-- what an object is: a list, a tuple, a dict -/
def IsSeq (K : PySem.W.Frag) (H : Hp) (p : Addr) (T : Ty) : Prop := match T with
  | .list => ∃ xs, SqL K H p xs
  | .tuple => ∃ xs, SqT K H p xs
  | .dict => ∃ kvs, H p = some (.dK kvs)
  | _ => False
theorem isSeq_l {K : PySem.W.Frag} {H : Hp} {p : Addr} {xs : List V} (h : SqL K H p xs) : IsSeq K H p .list := ⟨xs, h⟩
theorem isSeq_t {K : PySem.W.Frag} {H : Hp} {p : Addr} {xs : List V} (h : SqT K H p xs) : IsSeq K H p .tuple := ⟨xs, h⟩
def tyEq : Ty → Ty → Bool
  | .list, .list => true | .tuple, .tuple => true | .dict, .dict => true | _, _ => false
def isiP (K : PySem.W.Frag) (T : Ty) (x : V) (H : Hp) (Q : Bool → Prop) : Prop := match x with
  | .int _ => Q (match T with | .int => true | _ => false)
  | .bl _ => Q (match T with | .int => true | .bool => true | _ => false)
  | .str _ => Q (match T with | .str => true | _ => false)
  | .non => Q false
  | .ref p => ∃ U, IsSeq K H p U ∧ Q (tyEq U T)
  | _ => False
theorem tyX_seq {K : PySem.W.Frag} {H : Hp} {p : Addr} {U : Ty} (h : IsSeq K H p U) : TyX K H (.ref p) (.type U.nm) := by
  cases U with
  | list =>
    obtain ⟨xs, h⟩ := h
    rcases h with (h | ⟨o, h⟩) | ⟨o, its, n, hk, hc, _⟩
    · exact .base (.lst h)
    · exact .base (.frz h)
    · exact .kList hk hc
  | tuple =>
    obtain ⟨xs, h⟩ := h
    rcases h with (h | ⟨o, h⟩) | ⟨o, its, n, hk, hc, _⟩
    · exact .base (.tup h)
    · exact .fTuple h
    · exact .kTuple hk hc
  | dict =>
    obtain ⟨xs, h⟩ := h
    exact .base (.dK h)
  | _ => exact h.elim
theorem isi_ok (T : Ty) (x : V) (H : Hp) (Q : VK) (h : isiP X.K T x H fun b => Q (.bl b) H) : rIsi X.K [x, .ty T.nm] H Q := by
  cases x with
  | int i => exact ⟨_, _, .type "int", _, _, rfl, .ty _, .base (.int i), kit_ty (by cases T <;> decide +kernel), h⟩
  | bl i => exact ⟨_, _, .type "bool", _, _, rfl, .ty _, .base (.bl i), kit_ty (by cases T <;> decide +kernel), h⟩
  | str i => exact ⟨_, _, .type "str", _, _, rfl, .ty _, .base (.str i), kit_ty (by cases T <;> decide +kernel), h⟩
  | non => exact ⟨_, _, .type "NoneType", _, _, rfl, .ty _, .base .non, kit_ty (by cases T <;> decide +kernel), h⟩
  | ref p =>
    obtain ⟨U, hU, q⟩ := h
    exact ⟨_, _, _, _, _, rfl, .ty _, tyX_seq hU, kit_ty (by cases U <;> first | exact hU.elim | (cases T <;> decide +kernel)), q⟩
  | _ => exact (show False from h).elim
def tIsi (K : PySem.W.Frag) (T : Ty) (ta : TE) : TE := fun σ H Q => ta σ H fun x H1 => isiP K T x H1 fun b => Q (.bl b) H1
theorem qisi (T : Ty) {n : Str} {p p2 : Pos} (hg : Gl X "isinstance") (hm : X.mg "isinstance" = none) (hgT : Gl X n) (hmT : X.mg n = none) (ha : PE X a ta) (hv : bootBuiltins n = some (.type T.nm) := by decide +kernel) (hn : n ≠ "__name__" := by decide) (hd : (n == ("__debug__" : Str)) = false := by decide)
    (he : starEach [a, .Name n p2] X.env = (false, eval a X.env) :: starEach [.Name n p2] X.env := by rfl) (hpl : (backTo pos (starEach [.Name n p2] X.env)).any (·.1) = false := by rfl) :
    PE X (.Call (.Name "isinstance" p) [a, .Name n p2] [] pos) (tIsi X.K T ta) := by
  refine ⟨fun pins s σ H Q I h => ?_⟩
  have e : (fun (x : V) (H1 : Hp) => isiP X.K T x H1 fun b => Q (.bl b) H1) = fun x H1 => ∃ z, [x, V.ty T.nm] = [z, V.ty T.nm] ∧ isiP X.K T z H1 fun b => Q (.bl b) H1 := by
    funext x H1
    refine propext ⟨fun q => ⟨x, rfl, q⟩, fun ⟨z, e, q⟩ => ?_⟩
    cases e
    exact q
  have h : ta σ H fun (x : V) (H1 : Hp) => isiP X.K T x H1 fun b => Q (.bl b) H1 := h
  rw [e] at h
  refine wpAny_Call_Name_kw (ld_blt I hg hm (by decide +kernel : bootBuiltins "isinstance" = some (.builtin "isinstance")) ?_)
  exact PyProof.Rows.callWith_builtin1 (thn ((pa_cons ha (pa_cons (pe_bltn (v := .ty T.nm) hgT hmT hv rfl hn hd) pa_nil) he).run pos pins s σ H (fun vs H1 => ∃ z, vs = [z, V.ty T.nm] ∧ isiP X.K T z H1 fun b => Q (.bl b) H1) I h) fun us s1 ⟨vs, H1, I1, r1, z, e1, q1⟩ => by
    subst e1
    exact call_isi pins s1 σ H1 _ us Q I1 r1 (isi_ok T z H1 Q q1)) he hpl

/-! ### more operators, more statements -/
theorem tru_at {x : V} {v : Value} {pins : List (Addr × Obj)} {σ : L2.St} {H1 : Hp} {s1 : Shared} {Q : PK} (I1 : Inv X pins σ H1 s1) (r1 : RelV x v) (q1 : TruM X.K x H1 Q) : wpAny (model X.prog X.w) X.A (truthy v) (PPost X pins σ Q) X.xe s1 := by
  have go : ∀ (k : Bool) (p : Prop), TruV X.K x H1 k → (k = true ↔ p) → Q p H1 → wpAny (model X.prog X.w) X.A (truthy v) (PPost X pins σ Q) X.xe s1 := fun k p tv iff q =>
    thn (tru_ok pins s1 σ H1 x v (fun b H' => b = k ∧ H' = H1) I1 r1 ⟨k, tv, rfl, rfl⟩) fun b s2 ⟨H2, I2, e1, e2⟩ => by
      subst e1 e2
      exact ⟨p, _, iff, I2, q⟩
  cases x with
  | non => exact go false _ rfl (by simp) q1
  | bl b => exact go b _ rfl Iff.rfl q1
  | int i => exact go (i != 0) _ rfl (by simp) q1
  | str y => exact go _ _ ⟨q1.1, rfl⟩ (by simp) q1.2
  | ref p =>
    have q2 : (∃ xs, Sq X.K H1 p xs ∧ Q (xs ≠ []) H1) ∨ ∃ kvs, H1 p = some (.dK kvs) ∧ Q (kvs ≠ []) H1 := q1
    rcases q2 with ⟨xs, hx | hx, q⟩ | ⟨kvs, hx, q⟩
    · exact go _ _ (.inl ⟨xs, hx, rfl⟩) (not_isEmpty xs) q
    · exact go _ _ (.inr (.inl ⟨xs, hx, rfl⟩)) (not_isEmpty xs) q
    · exact go _ _ (.inr (.inr ⟨kvs, hx, rfl⟩)) (not_isEmpty kvs) q
  | _ => exact (show False from q1).elim
/-- not x, x of any kind -/
def tNotV (K : PySem.W.Frag) (ta : TE) : TE := fun σ H Q => ta σ H fun x H1 => TruM K x H1 fun p H2 => ∀ b : Bool, (b = true ↔ ¬ p) → Q (.bl b) H2
theorem qe_notV (ha : PE X a ta) : PE X (.UnaryOp .Not a pos) (tNotV X.K ta) := by
  refine ⟨fun pins s σ H Q I h => ?_⟩
  refine UnaryOp_ (thn (ha.run pins s σ H _ I h) fun v s1 ⟨x, H1, I1, r1, q1⟩ => ?_)
  refine not_of (thn (tru_at I1 r1 q1) fun k s2 ⟨p, H2, iff, I2, q2⟩ => ⟨.bl (!k), H2, I2, rfl, q2 (!k) ?_⟩)
  cases k with
  | true => simp [iff.mp rfl]
  | false => simp [nb iff]
theorem qb_not (ha : PE X a ta) : PB X (.UnaryOp .Not a pos) (fun σ H Q => ta σ H fun x H1 => TruM X.K x H1 fun p H2 => Q (¬ p) H2) := by
  refine ⟨fun pins s σ H Q I h => ?_⟩
  refine UnaryOp_ (thn (ha.run pins s σ H _ I h) fun v s1 ⟨x, H1, I1, r1, q1⟩ => ?_)
  refine not_of (thn (tru_at I1 r1 q1) fun k s2 ⟨p, H2, iff, I2, q2⟩ => ⟨!k, ¬ p, H2, rfl, ?_, I2, q2⟩)
  cases k with
  | true => simp [iff.mp rfl]
  | false => simp [nb iff]
theorem qb_notB (ha : PB X a tA) : PB X (.UnaryOp .Not a pos) (tNotP tA) := by
  refine ⟨fun pins s σ H Q I h => ?_⟩
  refine UnaryOp_ (thn (ha.run pins s σ H _ I h) fun v s1 ⟨x, p, H1, e, iff, I1, q1⟩ => ?_)
  subst e
  refine not_of (wpAny_truthy_bool ⟨!x, ¬ p, H1, rfl, ?_, I1, q1⟩)
  cases x with
  | true => simp [iff.mp rfl]
  | false => simp [nb iff]
theorem setK_iff : ∀ (σ : L2.St) (i : Nat) (v : V) (k : L2.St → Prop), setK σ i v k ↔ k (σ.set i (some v))
  | [], _, _, _ => Iff.rfl
  | _ :: σ, 0, _, _ => Iff.rfl
  | x :: σ, n + 1, v, k => setK_iff σ n v (fun σ' => k (x :: σ'))
def sPar (i j : Nat) (ta : TA) : TS := fun D σ H => ta σ H fun vs H1 => match vs with
  | [v, w] => setK σ i v fun σ1 => setK σ1 j w fun σ2 => D.nx σ2 H1
  | _ => False
theorem sPar_eq (i j : Nat) (ta : TA) : tPar i j ta = sPar i j ta := by
  funext D σ H
  unfold tPar sPar
  congr 1
  funext vs H1
  apply propext
  constructor
  · rintro ⟨v, w, rfl, q⟩
    exact (setK_iff _ _ _ _).mpr ((setK_iff _ _ _ _).mpr q)
  · intro h
    split at h
    · exact ⟨_, _, rfl, (setK_iff _ _ _ _).mp ((setK_iff _ _ _ _).mp h)⟩
    · exact h.elim
theorem qpar {i j : Nat} {x y : Str} {ta : TA} {px py pt : Pos} {kt k2 pt2} (hc : X.calm = true) (hN : X.N.Nodup) (hi : X.N[i]? = some x) (hj : X.N[j]? = some y) (hij : i ≠ j)
    (hx : X.env.scope.names.lookup x = some .local) (hy : X.env.scope.names.lookup y = some .local) (ha : PA X [a, b] ta)
    (hw : swappedStores [.Tuple [.Name x px, .Name y py] kt pt] (.Tuple [a, b] k2 pt2) X.env = pure (some [x, y]))
    (hs : swapsWithSole [.Tuple [.Name x px, .Name y py] kt pt] (.Tuple [a, b] k2 pt2) pos.line X.env = pure false := by rfl) :
    PS X (.Assign [.Tuple [.Name x px, .Name y py] kt pt] (.Tuple [a, b] k2 pt2) pos) (sPar i j ta) := by
  rw [← sPar_eq]
  exact ps_par hc hN hi hj hij hx hy ha hw hs
def sAug (i : Nat) (te : TE) (ti : TIp) : TS := fun D σ H => match nth σ i with
  | some x => te σ H fun y H1 => ti x y H1 fun z H2 => setK σ i z fun σ' => D.nx σ' H2
  | none => False
theorem qaug {i : Nat} {x : Str} {e : Expr} {te : TE} {op : Operator} {ti : TIp} {pos' : Pos} (hN : X.N.Nodup) (hi : X.N[i]? = some x) (hx : Loc X.env.scope x) (he : PE X e te) (ho : PIp X op ti) (hf : X.fn x = true ∨ X.env.scope.names.lookup x = some .local := by first | exact .inl rfl | exact .inr rfl | assumption) :
    PS X (.AugAssign (.Name x pos') op e pos) (sAug i te ti) := PS.imp (ps_aug hN hi hx he ho hf) fun D σ H h => by
  unfold sAug at h
  split at h
  · rename_i v ev
    refine ⟨v, nth_eq _ _ _ ev, ?_⟩
    have e : (fun (y : V) (H1 : Hp) => ti v y H1 fun z H2 => D.nx (σ.set i (some z)) H2) = fun y H1 => ti v y H1 fun z H2 => setK σ i z fun σ' => D.nx σ' H2 := by
      funext y H1
      congr 1
      funext z H2
      exact (propext (setK_iff σ i z fun σ' => D.nx σ' H2)).symm
    rw [e]
    exact h
  · exact h.elim
theorem ip_addM : PIp X .Add (fun x y H Q => match x, y with
    | .int i, .int j => Q (.int (i + j)) H
    | .str a, .str b => a.length + b.length ≤ sizeLine ∧ Q (.str (a ++ b)) H
    | _, _ => False) := by
  intro pins s σ H x y v u Q I rx ry h
  cases x <;> cases y <;> first
    | exact h.elim
    | exact iop_add pins s σ H _ _ v u Q I rx ry ⟨_, _, rfl, rfl, h⟩
    | exact iop_add_str pins s σ H _ _ v u Q I rx ry ⟨_, _, rfl, rfl, h.1, h.2⟩
theorem ip_subM : PIp X .Sub mSub := by
  intro pins s σ H x y v u Q I rx ry h
  cases x <;> cases y <;> first | exact h.elim | exact iop_sub pins s σ H _ _ v u Q I rx ry ⟨_, _, rfl, rfl, h⟩
theorem ip_mulM : PIp X .Mult (fun x y H Q => match x, y with
    | .int i, .int j => CMul i j ∧ Q (.int (i * j)) H
    | _, _ => False) := by
  intro pins s σ H x y v u Q I rx ry h
  cases x <;> cases y <;> first | exact h.elim | exact iop_mul pins s σ H _ _ v u Q I rx ry ⟨_, _, rfl, rfl, h.1, h.2⟩
/-- slices of lists, tuples -/
def mSl (K : PySem.W.Frag) : V → Option Int → Option Int → Hp → VK → Prop := fun x lo hi H Q => match x with
  | .ref p => (∃ xs, SqL K H p xs ∧ ∀ r H', New H H' r (.lst (cutV xs lo hi)) → Q (.ref r) H') ∨ rSlT K (.ref p) lo hi H Q
  | _ => False
theorem sl_M : SlR X (mSl X.K) := by
  have h := sl_list.or (sl_tup (X := X))
  intro pins s σ H x v vl vu lo hi sl Q I rx hs pl pu q
  cases x with
  | ref p => exact h pins s σ H _ v vl vu lo hi sl Q I rx hs pl pu (q.imp (fun ⟨xs, a, b⟩ => ⟨_, xs, rfl, a, new_iff.mpr b⟩) id)
  | _ => exact (show False from q).elim
def mAppend : V → List V → Hp → VK → Prop := fun x vs H Q => match x, vs with
  | .ref l, [y] => ∃ xs, H l = some (.lst xs) ∧ xs.length < sizeLine ∧ ∀ H', Wr H H' l (.lst (xs ++ [y])) → Q .non H'
  | _, _ => False
theorem m_append : MtR X "list.append" mAppend := by
  intro pins s σ H x xs v us Q I rx rr h
  refine mt_append pins s σ H x xs v us Q I rx rr ?_
  unfold mAppend at h
  split at h
  · obtain ⟨ys, a, b, q⟩ := h
    exact ⟨_, ys, _, rfl, rfl, a, b, q _ Wr.mk'⟩
  · exact h.elim
/-- for over a list or a tuple -/
def iSeq (K : PySem.W.Frag) (tl : TE) : TI := fun σ H R => tl σ H fun x H1 => match x with
  | .ref a => (∃ xs, SqL K H1 a xs) ∧ R (Itl K a) H1 ∨ (∃ xs, SqT K H1 a xs) ∧ R (Itt K a) H1
  | _ => False
theorem qi_seq {tg l : Expr} {tl : TE} (hl : PE X l tl) : PI X tg l (iSeq X.K tl) := by
  refine ⟨fun pins s σ H R I h => ?_⟩
  refine thn (hl.run pins s σ H _ I h) fun v s1 ⟨x, H1, I1, r1, q1⟩ => ?_
  cases x with
  | ref a =>
    have q2 : (∃ xs, SqL X.K H1 a xs) ∧ R (Itl X.K a) H1 ∨ (∃ xs, SqT X.K H1 a xs) ∧ R (Itt X.K a) H1 := q1
    cases r1
    rcases q2 with ⟨⟨xs, hq⟩, q⟩ | ⟨⟨xs, hq⟩, q⟩
    · obtain ⟨its, rv, p, hz⟩ := I1.list hq
      refine wpAny_pyIter_list p.isList ?_
      refine ⟨s1.heap.objs.size, [s1.heap.objs.size], _, _, H1, rfl, I1.kept (t' := s1.toks) fun b o e => Heap.get?_push_of_some _ e, turn_list a _, ⟨_, Heap.get?_push_size _ rfl, rfl, rfl⟩, fun b hb => ?_, q⟩
      have e : b = s1.heap.objs.size := by simpa using hb
      subst e
      exact I1.fpOk (Nat.le_refl _) (I1.hok.fresh (Nat.le_refl _))
    · obtain ⟨its, rv, p, hz⟩ := I1.tuple hq
      refine wpAny_pyIter_tuple (show s1.heap.IsTuple a its.toArray from p) ?_
      refine ⟨s1.heap.objs.size, [s1.heap.objs.size], _, _, H1, rfl, I1.kept (t' := s1.toks) fun b o e => Heap.get?_push_of_some _ e, turn_tuple a _, ⟨_, Heap.get?_push_size _ rfl, rfl, rfl⟩, fun b hb => ?_, q⟩
      have e : b = s1.heap.objs.size := by simpa using hb
      subst e
      exact I1.fpOk (Nat.le_refl _) (I1.hok.fresh (Nat.le_refl _))
  | _ => exact (show False from q1).elim
/-! displays -/
def nTup (t : TA) : TE := fun σ H Q => t σ H fun xs H1 => xs.length ≤ sizeLine ∧ ∀ p H2, New H1 H2 p (.tup xs) → Q (.ref p) H2
def nLst (t : TA) : TE := fun σ H Q => t σ H fun xs H1 => xs.length ≤ sizeLine ∧ ∀ p H2, New H1 H2 p (.lst xs) → Q (.ref p) H2
theorem nTup_eq (t : TA) : tTup t = nTup t := by
  funext σ H Q
  unfold tTup nTup
  congr 1
  funext xs H1
  exact propext (and_congr Iff.rfl (new_iff (R := fun p H2 => Q (.ref p) H2)))
theorem nLst_eq (t : TA) : tLst t = nLst t := by
  funext σ H Q
  unfold tLst nLst
  congr 1
  funext xs H1
  exact propext (and_congr Iff.rfl (new_iff (R := fun p H2 => Q (.ref p) H2)))
theorem q_tup {es : List Expr} {t : TA} {x1} (h : PA X es t) : PE X (.Tuple es x1 pos) (nTup t) := by
  rw [← nTup_eq]
  exact pe_tup h
theorem q_lst {es : List Expr} {t : TA} (h : PA X es t) : PE X (.List es pos) (nLst t) := by
  rw [← nLst_eq]
  exact pe_lst h
/-! a module's constant -/
def GlV (K : PySem.W.Frag) (mg : Str → Option Value) (x : Str) (v : V) : Prop := ∃ u, mg x = some u ∧ RelV v u
theorem pe_glE {x : Str} {v : V} (hg : Gl X x) (h : GlV X.K X.mg x v) (hd : (x == ("__debug__" : Str)) = false := by decide) : PE X (.Name x pos) (tC v) := by
  obtain ⟨u, h1, h2⟩ := h
  exact pe_glob hg h1 h2 hd
/-! comprehensions, the test a proposition -/
theorem qts_nil : PTs X [] tYes := pts_nil
theorem qts_one {c : Expr} {t : TP} (h : PP X c t) : PTs X [c] (bT t) := pts_one h.pt
theorem hu65_of {A : Around} {k : Nat} (hr : Room k A) : A.units + 65 < cLine := by
  have := hr.un
  omega
end

theorem atI_ge {xs : List V} {k : Int} {v : V} (h0 : 0 ≤ k) (h : xs[k.toNat]? = some v) : atI xs k = some v := by
  have e : k = ((k.toNat : Nat) : Int) := by omega
  rw [e]
  exact atI_nat h
theorem map_at {ns : List Int} {i : Nat} (h : i < ns.length) : (ns.map V.int)[i]? = some (.int ns[i]) := by
  rw [List.getElem?_map, List.getElem?_eq_getElem h]
  rfl
theorem atI_mem {xs : List V} {k : Int} (h0 : 0 ≤ k) (h : k < (xs.length : Nat)) : ∃ v, atI xs k = some v ∧ v ∈ xs := by
  have hk : k.toNat < xs.length := by omega
  exact ⟨xs[k.toNat], atI_ge h0 (List.getElem?_eq_getElem hk), List.getElem_mem hk⟩
theorem get_old {H : Hp} {p q : Addr} {o x : HO} (h : H q = some x) (hp : H p = none) : upd H p o q = some x := by
  rw [upd_ne (ne_of_none h hp)]
  exact h
theorem get_oth {H : Hp} {p q : Addr} {o x : HO} (h : H q = some x) (hp : q ≠ p) : upd H p o q = some x := by
  rw [upd_ne hp]
  exact h
/-! ### promises, by the number of arguments -/
def sp0 (P : Hp → VK → XK → Prop) : Sp := fun vs H Q E => match vs with | [] => P H Q E | _ => False
def sp1 (P : V → Hp → VK → XK → Prop) : Sp := fun vs H Q E => match vs with | [a] => P a H Q E | _ => False
def sp2 (P : V → V → Hp → VK → XK → Prop) : Sp := fun vs H Q E => match vs with | [a, b] => P a b H Q E | _ => False
def sp3 (P : V → V → V → Hp → VK → XK → Prop) : Sp := fun vs H Q E => match vs with | [a, b, c] => P a b c H Q E | _ => False
def sp4 (P : V → V → V → V → Hp → VK → XK → Prop) : Sp := fun vs H Q E => match vs with | [a, b, c, d] => P a b c d H Q E | _ => False
def sp5 (P : V → V → V → V → V → Hp → VK → XK → Prop) : Sp := fun vs H Q E => match vs with | [a, b, c, d, e] => P a b c d e H Q E | _ => False
def sp6 (P : V → V → V → V → V → V → Hp → VK → XK → Prop) : Sp := fun vs H Q E => match vs with | [a, b, c, d, e, f] => P a b c d e f H Q E | _ => False
def sp7 (P : V → V → V → V → V → V → V → Hp → VK → XK → Prop) : Sp := fun vs H Q E => match vs with | [a, b, c, d, e, f, g] => P a b c d e f g H Q E | _ => False
section
variable {P : Program} {w : World} {K : PySem.W.Frag} {mg : Str → Option Value} {base : Heap}
theorem okL {x qual : Str} {st : Stmt} {f : Addr} {fd : FuncData} {N ps : List Str} {k : Nat} {sp : Sp} (F : Fun K x qual st f fd) (S : FnScope N ps (defScope st)) (len : ∀ vs H Q E, sp vs H Q E → vs.length = ps.length)
    (hbody : ∀ (cdv : Value) (A : Around) (outer : List Env) (s : Shared) (H : Hp) (vs : List V) (Q : VK) (E : XK), Room k (A.deeper (envOfC qual (defScope st) s.heap.objs.size f cdv)) → sp vs H Q E →
      ∃ t, PSs (cxOf CX0 P w K mg base N qual (defScope st) f cdv A outer s H E).nox (defBody st) t ∧ stK N.length vs fun σ => t { nx := fun _ H' => Q .non H', rt := Q } σ H) : FnOk P w K mg base CX0 (k + 1) f fd ps sp :=
  F.ok S len fun cdv A outer s H vs Q E hr h => by
    obtain ⟨t, p, q⟩ := hbody cdv A outer s H vs Q E hr h
    exact ⟨t, p, stK_eq _ _ _ q⟩
theorem okLX {x qual : Str} {st : Stmt} {f : Addr} {fd : FuncData} {N ps : List Str} {k : Nat} {sp : Sp} (F : Fun K x qual st f fd) (S : FnScope N ps (defScope st)) (len : ∀ vs H Q E, sp vs H Q E → vs.length = ps.length)
    (hbody : ∀ (cdv : Value) (A : Around) (outer : List Env) (s : Shared) (H : Hp) (vs : List V) (Q : VK) (E : XK), Room k (A.deeper (envOfC qual (defScope st) s.heap.objs.size f cdv)) → sp vs H Q E →
      ∃ t, PSs (cxOf (L2.CX P w) P w K mg base N qual (defScope st) f cdv A outer s H E) (defBody st) t ∧ stK N.length vs fun σ => t { nx := fun _ H' => Q .non H', rt := Q } σ H) : FnOk P w K mg base (L2.CX P w) (k + 1) f fd ps sp :=
  F.okX S len fun cdv A outer s H vs Q E hr h => by
    obtain ⟨t, p, q⟩ := hbody cdv A outer s H vs Q E hr h
    exact ⟨t, p, stK_eq _ _ _ q⟩
theorem ok0 {x qual : Str} {st : Stmt} {f : Addr} {fd : FuncData} {N ps : List Str} {k : Nat} {R : Hp → VK → XK → Prop} (F : Fun K x qual st f fd) (S : FnScope N ps (defScope st))
    (hbody : ∀ (cdv : Value) (A : Around) (outer : List Env) (s : Shared) (H : Hp) (Q : VK) (E : XK), Room k (A.deeper (envOfC qual (defScope st) s.heap.objs.size f cdv)) → R H Q E →
      ∃ t, PSs (cxOf CX0 P w K mg base N qual (defScope st) f cdv A outer s H E).nox (defBody st) t ∧ stK N.length [] fun σ => t { nx := fun _ H' => Q .non H', rt := Q } σ H) (hl : ps.length = 0 := by rfl) : FnOk P w K mg base CX0 (k + 1) f fd ps (sp0 R) := by
  refine okL F S (fun vs H Q E h => ?_) fun cdv A outer s H vs Q E hr h => ?_
  · unfold sp0 at h
    split at h
    · rw [hl]
      rfl
    · exact h.elim
  · unfold sp0 at h
    split at h
    · exact hbody cdv A outer s H Q E hr h
    · exact h.elim
theorem ok1 {x qual : Str} {st : Stmt} {f : Addr} {fd : FuncData} {N ps : List Str} {k : Nat} {R : V → Hp → VK → XK → Prop} (F : Fun K x qual st f fd) (S : FnScope N ps (defScope st))
    (hbody : ∀ (cdv : Value) (A : Around) (outer : List Env) (s : Shared) (H : Hp) (ya : V) (Q : VK) (E : XK), Room k (A.deeper (envOfC qual (defScope st) s.heap.objs.size f cdv)) → R ya H Q E →
      ∃ t, PSs (cxOf CX0 P w K mg base N qual (defScope st) f cdv A outer s H E).nox (defBody st) t ∧ stK N.length [ya] fun σ => t { nx := fun _ H' => Q .non H', rt := Q } σ H) (hl : ps.length = 1 := by rfl) : FnOk P w K mg base CX0 (k + 1) f fd ps (sp1 R) := by
  refine okL F S (fun vs H Q E h => ?_) fun cdv A outer s H vs Q E hr h => ?_
  · unfold sp1 at h
    split at h
    · rw [hl]
      rfl
    · exact h.elim
  · unfold sp1 at h
    split at h
    · exact hbody cdv A outer s H _ Q E hr h
    · exact h.elim
theorem ok2 {x qual : Str} {st : Stmt} {f : Addr} {fd : FuncData} {N ps : List Str} {k : Nat} {R : V → V → Hp → VK → XK → Prop} (F : Fun K x qual st f fd) (S : FnScope N ps (defScope st))
    (hbody : ∀ (cdv : Value) (A : Around) (outer : List Env) (s : Shared) (H : Hp) (ya yb : V) (Q : VK) (E : XK), Room k (A.deeper (envOfC qual (defScope st) s.heap.objs.size f cdv)) → R ya yb H Q E →
      ∃ t, PSs (cxOf CX0 P w K mg base N qual (defScope st) f cdv A outer s H E).nox (defBody st) t ∧ stK N.length [ya, yb] fun σ => t { nx := fun _ H' => Q .non H', rt := Q } σ H) (hl : ps.length = 2 := by rfl) : FnOk P w K mg base CX0 (k + 1) f fd ps (sp2 R) := by
  refine okL F S (fun vs H Q E h => ?_) fun cdv A outer s H vs Q E hr h => ?_
  · unfold sp2 at h
    split at h
    · rw [hl]
      rfl
    · exact h.elim
  · unfold sp2 at h
    split at h
    · exact hbody cdv A outer s H _ _ Q E hr h
    · exact h.elim
theorem ok3 {x qual : Str} {st : Stmt} {f : Addr} {fd : FuncData} {N ps : List Str} {k : Nat} {R : V → V → V → Hp → VK → XK → Prop} (F : Fun K x qual st f fd) (S : FnScope N ps (defScope st))
    (hbody : ∀ (cdv : Value) (A : Around) (outer : List Env) (s : Shared) (H : Hp) (ya yb yc : V) (Q : VK) (E : XK), Room k (A.deeper (envOfC qual (defScope st) s.heap.objs.size f cdv)) → R ya yb yc H Q E →
      ∃ t, PSs (cxOf CX0 P w K mg base N qual (defScope st) f cdv A outer s H E).nox (defBody st) t ∧ stK N.length [ya, yb, yc] fun σ => t { nx := fun _ H' => Q .non H', rt := Q } σ H) (hl : ps.length = 3 := by rfl) : FnOk P w K mg base CX0 (k + 1) f fd ps (sp3 R) := by
  refine okL F S (fun vs H Q E h => ?_) fun cdv A outer s H vs Q E hr h => ?_
  · unfold sp3 at h
    split at h
    · rw [hl]
      rfl
    · exact h.elim
  · unfold sp3 at h
    split at h
    · exact hbody cdv A outer s H _ _ _ Q E hr h
    · exact h.elim
theorem ok4 {x qual : Str} {st : Stmt} {f : Addr} {fd : FuncData} {N ps : List Str} {k : Nat} {R : V → V → V → V → Hp → VK → XK → Prop} (F : Fun K x qual st f fd) (S : FnScope N ps (defScope st))
    (hbody : ∀ (cdv : Value) (A : Around) (outer : List Env) (s : Shared) (H : Hp) (ya yb yc yd : V) (Q : VK) (E : XK), Room k (A.deeper (envOfC qual (defScope st) s.heap.objs.size f cdv)) → R ya yb yc yd H Q E →
      ∃ t, PSs (cxOf CX0 P w K mg base N qual (defScope st) f cdv A outer s H E).nox (defBody st) t ∧ stK N.length [ya, yb, yc, yd] fun σ => t { nx := fun _ H' => Q .non H', rt := Q } σ H) (hl : ps.length = 4 := by rfl) : FnOk P w K mg base CX0 (k + 1) f fd ps (sp4 R) := by
  refine okL F S (fun vs H Q E h => ?_) fun cdv A outer s H vs Q E hr h => ?_
  · unfold sp4 at h
    split at h
    · rw [hl]
      rfl
    · exact h.elim
  · unfold sp4 at h
    split at h
    · exact hbody cdv A outer s H _ _ _ _ Q E hr h
    · exact h.elim
theorem ok5 {x qual : Str} {st : Stmt} {f : Addr} {fd : FuncData} {N ps : List Str} {k : Nat} {R : V → V → V → V → V → Hp → VK → XK → Prop} (F : Fun K x qual st f fd) (S : FnScope N ps (defScope st))
    (hbody : ∀ (cdv : Value) (A : Around) (outer : List Env) (s : Shared) (H : Hp) (ya yb yc yd ye : V) (Q : VK) (E : XK), Room k (A.deeper (envOfC qual (defScope st) s.heap.objs.size f cdv)) → R ya yb yc yd ye H Q E →
      ∃ t, PSs (cxOf CX0 P w K mg base N qual (defScope st) f cdv A outer s H E).nox (defBody st) t ∧ stK N.length [ya, yb, yc, yd, ye] fun σ => t { nx := fun _ H' => Q .non H', rt := Q } σ H) (hl : ps.length = 5 := by rfl) : FnOk P w K mg base CX0 (k + 1) f fd ps (sp5 R) := by
  refine okL F S (fun vs H Q E h => ?_) fun cdv A outer s H vs Q E hr h => ?_
  · unfold sp5 at h
    split at h
    · rw [hl]
      rfl
    · exact h.elim
  · unfold sp5 at h
    split at h
    · exact hbody cdv A outer s H _ _ _ _ _ Q E hr h
    · exact h.elim
theorem ok6 {x qual : Str} {st : Stmt} {f : Addr} {fd : FuncData} {N ps : List Str} {k : Nat} {R : V → V → V → V → V → V → Hp → VK → XK → Prop} (F : Fun K x qual st f fd) (S : FnScope N ps (defScope st))
    (hbody : ∀ (cdv : Value) (A : Around) (outer : List Env) (s : Shared) (H : Hp) (ya yb yc yd ye yf : V) (Q : VK) (E : XK), Room k (A.deeper (envOfC qual (defScope st) s.heap.objs.size f cdv)) → R ya yb yc yd ye yf H Q E →
      ∃ t, PSs (cxOf CX0 P w K mg base N qual (defScope st) f cdv A outer s H E).nox (defBody st) t ∧ stK N.length [ya, yb, yc, yd, ye, yf] fun σ => t { nx := fun _ H' => Q .non H', rt := Q } σ H) (hl : ps.length = 6 := by rfl) : FnOk P w K mg base CX0 (k + 1) f fd ps (sp6 R) := by
  refine okL F S (fun vs H Q E h => ?_) fun cdv A outer s H vs Q E hr h => ?_
  · unfold sp6 at h
    split at h
    · rw [hl]
      rfl
    · exact h.elim
  · unfold sp6 at h
    split at h
    · exact hbody cdv A outer s H _ _ _ _ _ _ Q E hr h
    · exact h.elim
theorem ok7 {x qual : Str} {st : Stmt} {f : Addr} {fd : FuncData} {N ps : List Str} {k : Nat} {R : V → V → V → V → V → V → V → Hp → VK → XK → Prop} (F : Fun K x qual st f fd) (S : FnScope N ps (defScope st))
    (hbody : ∀ (cdv : Value) (A : Around) (outer : List Env) (s : Shared) (H : Hp) (ya yb yc yd ye yf yg : V) (Q : VK) (E : XK), Room k (A.deeper (envOfC qual (defScope st) s.heap.objs.size f cdv)) → R ya yb yc yd ye yf yg H Q E →
      ∃ t, PSs (cxOf CX0 P w K mg base N qual (defScope st) f cdv A outer s H E).nox (defBody st) t ∧ stK N.length [ya, yb, yc, yd, ye, yf, yg] fun σ => t { nx := fun _ H' => Q .non H', rt := Q } σ H) (hl : ps.length = 7 := by rfl) : FnOk P w K mg base CX0 (k + 1) f fd ps (sp7 R) := by
  refine okL F S (fun vs H Q E h => ?_) fun cdv A outer s H vs Q E hr h => ?_
  · unfold sp7 at h
    split at h
    · rw [hl]
      rfl
    · exact h.elim
  · unfold sp7 at h
    split at h
    · exact hbody cdv A outer s H _ _ _ _ _ _ _ Q E hr h
    · exact h.elim
theorem okX0 {x qual : Str} {st : Stmt} {f : Addr} {fd : FuncData} {N ps : List Str} {k : Nat} {R : Hp → VK → XK → Prop} (F : Fun K x qual st f fd) (S : FnScope N ps (defScope st))
    (hbody : ∀ (cdv : Value) (A : Around) (outer : List Env) (s : Shared) (H : Hp) (Q : VK) (E : XK), Room k (A.deeper (envOfC qual (defScope st) s.heap.objs.size f cdv)) → R H Q E →
      ∃ t, PSs (cxOf (L2.CX P w) P w K mg base N qual (defScope st) f cdv A outer s H E) (defBody st) t ∧ stK N.length [] fun σ => t { nx := fun _ H' => Q .non H', rt := Q } σ H) (hl : ps.length = 0 := by rfl) : FnOk P w K mg base (L2.CX P w) (k + 1) f fd ps (sp0 R) := by
  refine okLX F S (fun vs H Q E h => ?_) fun cdv A outer s H vs Q E hr h => ?_
  · unfold sp0 at h
    split at h
    · rw [hl]
      rfl
    · exact h.elim
  · unfold sp0 at h
    split at h
    · exact hbody cdv A outer s H Q E hr h
    · exact h.elim
theorem okX1 {x qual : Str} {st : Stmt} {f : Addr} {fd : FuncData} {N ps : List Str} {k : Nat} {R : V → Hp → VK → XK → Prop} (F : Fun K x qual st f fd) (S : FnScope N ps (defScope st))
    (hbody : ∀ (cdv : Value) (A : Around) (outer : List Env) (s : Shared) (H : Hp) (ya : V) (Q : VK) (E : XK), Room k (A.deeper (envOfC qual (defScope st) s.heap.objs.size f cdv)) → R ya H Q E →
      ∃ t, PSs (cxOf (L2.CX P w) P w K mg base N qual (defScope st) f cdv A outer s H E) (defBody st) t ∧ stK N.length [ya] fun σ => t { nx := fun _ H' => Q .non H', rt := Q } σ H) (hl : ps.length = 1 := by rfl) : FnOk P w K mg base (L2.CX P w) (k + 1) f fd ps (sp1 R) := by
  refine okLX F S (fun vs H Q E h => ?_) fun cdv A outer s H vs Q E hr h => ?_
  · unfold sp1 at h
    split at h
    · rw [hl]
      rfl
    · exact h.elim
  · unfold sp1 at h
    split at h
    · exact hbody cdv A outer s H _ Q E hr h
    · exact h.elim
theorem okX2 {x qual : Str} {st : Stmt} {f : Addr} {fd : FuncData} {N ps : List Str} {k : Nat} {R : V → V → Hp → VK → XK → Prop} (F : Fun K x qual st f fd) (S : FnScope N ps (defScope st))
    (hbody : ∀ (cdv : Value) (A : Around) (outer : List Env) (s : Shared) (H : Hp) (ya yb : V) (Q : VK) (E : XK), Room k (A.deeper (envOfC qual (defScope st) s.heap.objs.size f cdv)) → R ya yb H Q E →
      ∃ t, PSs (cxOf (L2.CX P w) P w K mg base N qual (defScope st) f cdv A outer s H E) (defBody st) t ∧ stK N.length [ya, yb] fun σ => t { nx := fun _ H' => Q .non H', rt := Q } σ H) (hl : ps.length = 2 := by rfl) : FnOk P w K mg base (L2.CX P w) (k + 1) f fd ps (sp2 R) := by
  refine okLX F S (fun vs H Q E h => ?_) fun cdv A outer s H vs Q E hr h => ?_
  · unfold sp2 at h
    split at h
    · rw [hl]
      rfl
    · exact h.elim
  · unfold sp2 at h
    split at h
    · exact hbody cdv A outer s H _ _ Q E hr h
    · exact h.elim
theorem okX3 {x qual : Str} {st : Stmt} {f : Addr} {fd : FuncData} {N ps : List Str} {k : Nat} {R : V → V → V → Hp → VK → XK → Prop} (F : Fun K x qual st f fd) (S : FnScope N ps (defScope st))
    (hbody : ∀ (cdv : Value) (A : Around) (outer : List Env) (s : Shared) (H : Hp) (ya yb yc : V) (Q : VK) (E : XK), Room k (A.deeper (envOfC qual (defScope st) s.heap.objs.size f cdv)) → R ya yb yc H Q E →
      ∃ t, PSs (cxOf (L2.CX P w) P w K mg base N qual (defScope st) f cdv A outer s H E) (defBody st) t ∧ stK N.length [ya, yb, yc] fun σ => t { nx := fun _ H' => Q .non H', rt := Q } σ H) (hl : ps.length = 3 := by rfl) : FnOk P w K mg base (L2.CX P w) (k + 1) f fd ps (sp3 R) := by
  refine okLX F S (fun vs H Q E h => ?_) fun cdv A outer s H vs Q E hr h => ?_
  · unfold sp3 at h
    split at h
    · rw [hl]
      rfl
    · exact h.elim
  · unfold sp3 at h
    split at h
    · exact hbody cdv A outer s H _ _ _ Q E hr h
    · exact h.elim
theorem okX4 {x qual : Str} {st : Stmt} {f : Addr} {fd : FuncData} {N ps : List Str} {k : Nat} {R : V → V → V → V → Hp → VK → XK → Prop} (F : Fun K x qual st f fd) (S : FnScope N ps (defScope st))
    (hbody : ∀ (cdv : Value) (A : Around) (outer : List Env) (s : Shared) (H : Hp) (ya yb yc yd : V) (Q : VK) (E : XK), Room k (A.deeper (envOfC qual (defScope st) s.heap.objs.size f cdv)) → R ya yb yc yd H Q E →
      ∃ t, PSs (cxOf (L2.CX P w) P w K mg base N qual (defScope st) f cdv A outer s H E) (defBody st) t ∧ stK N.length [ya, yb, yc, yd] fun σ => t { nx := fun _ H' => Q .non H', rt := Q } σ H) (hl : ps.length = 4 := by rfl) : FnOk P w K mg base (L2.CX P w) (k + 1) f fd ps (sp4 R) := by
  refine okLX F S (fun vs H Q E h => ?_) fun cdv A outer s H vs Q E hr h => ?_
  · unfold sp4 at h
    split at h
    · rw [hl]
      rfl
    · exact h.elim
  · unfold sp4 at h
    split at h
    · exact hbody cdv A outer s H _ _ _ _ Q E hr h
    · exact h.elim
theorem okX5 {x qual : Str} {st : Stmt} {f : Addr} {fd : FuncData} {N ps : List Str} {k : Nat} {R : V → V → V → V → V → Hp → VK → XK → Prop} (F : Fun K x qual st f fd) (S : FnScope N ps (defScope st))
    (hbody : ∀ (cdv : Value) (A : Around) (outer : List Env) (s : Shared) (H : Hp) (ya yb yc yd ye : V) (Q : VK) (E : XK), Room k (A.deeper (envOfC qual (defScope st) s.heap.objs.size f cdv)) → R ya yb yc yd ye H Q E →
      ∃ t, PSs (cxOf (L2.CX P w) P w K mg base N qual (defScope st) f cdv A outer s H E) (defBody st) t ∧ stK N.length [ya, yb, yc, yd, ye] fun σ => t { nx := fun _ H' => Q .non H', rt := Q } σ H) (hl : ps.length = 5 := by rfl) : FnOk P w K mg base (L2.CX P w) (k + 1) f fd ps (sp5 R) := by
  refine okLX F S (fun vs H Q E h => ?_) fun cdv A outer s H vs Q E hr h => ?_
  · unfold sp5 at h
    split at h
    · rw [hl]
      rfl
    · exact h.elim
  · unfold sp5 at h
    split at h
    · exact hbody cdv A outer s H _ _ _ _ _ Q E hr h
    · exact h.elim
theorem okX6 {x qual : Str} {st : Stmt} {f : Addr} {fd : FuncData} {N ps : List Str} {k : Nat} {R : V → V → V → V → V → V → Hp → VK → XK → Prop} (F : Fun K x qual st f fd) (S : FnScope N ps (defScope st))
    (hbody : ∀ (cdv : Value) (A : Around) (outer : List Env) (s : Shared) (H : Hp) (ya yb yc yd ye yf : V) (Q : VK) (E : XK), Room k (A.deeper (envOfC qual (defScope st) s.heap.objs.size f cdv)) → R ya yb yc yd ye yf H Q E →
      ∃ t, PSs (cxOf (L2.CX P w) P w K mg base N qual (defScope st) f cdv A outer s H E) (defBody st) t ∧ stK N.length [ya, yb, yc, yd, ye, yf] fun σ => t { nx := fun _ H' => Q .non H', rt := Q } σ H) (hl : ps.length = 6 := by rfl) : FnOk P w K mg base (L2.CX P w) (k + 1) f fd ps (sp6 R) := by
  refine okLX F S (fun vs H Q E h => ?_) fun cdv A outer s H vs Q E hr h => ?_
  · unfold sp6 at h
    split at h
    · rw [hl]
      rfl
    · exact h.elim
  · unfold sp6 at h
    split at h
    · exact hbody cdv A outer s H _ _ _ _ _ _ Q E hr h
    · exact h.elim
theorem okX7 {x qual : Str} {st : Stmt} {f : Addr} {fd : FuncData} {N ps : List Str} {k : Nat} {R : V → V → V → V → V → V → V → Hp → VK → XK → Prop} (F : Fun K x qual st f fd) (S : FnScope N ps (defScope st))
    (hbody : ∀ (cdv : Value) (A : Around) (outer : List Env) (s : Shared) (H : Hp) (ya yb yc yd ye yf yg : V) (Q : VK) (E : XK), Room k (A.deeper (envOfC qual (defScope st) s.heap.objs.size f cdv)) → R ya yb yc yd ye yf yg H Q E →
      ∃ t, PSs (cxOf (L2.CX P w) P w K mg base N qual (defScope st) f cdv A outer s H E) (defBody st) t ∧ stK N.length [ya, yb, yc, yd, ye, yf, yg] fun σ => t { nx := fun _ H' => Q .non H', rt := Q } σ H) (hl : ps.length = 7 := by rfl) : FnOk P w K mg base (L2.CX P w) (k + 1) f fd ps (sp7 R) := by
  refine okLX F S (fun vs H Q E h => ?_) fun cdv A outer s H vs Q E hr h => ?_
  · unfold sp7 at h
    split at h
    · rw [hl]
      rfl
    · exact h.elim
  · unfold sp7 at h
    split at h
    · exact hbody cdv A outer s H _ _ _ _ _ _ _ Q E hr h
    · exact h.elim
end
/-! ### what a pure def leaves: a heap as it was. New objects that nobody holds are forgotten -/
def noT : HO → Prop
  | .dT _ => False
  | .frz _ u => noT u
  | _ => True
/-- no dict with tuples as its keys is about -/
def NoT (H : Hp) : Prop := ∀ a o, H a = some o → noT o
theorem NoT.upd {H : Hp} {a : Addr} {o : HO} (h : NoT H) (ho : noT o) : NoT (upd H a o) := fun b u e => by
  unfold L2.upd at e
  split at e
  · cases e
    exact ho
  · exact h b u e
theorem NoT.only {H : Hp} (h : Only H) : NoT H := fun a o e => by
  rcases h a with z | ⟨ob, xs, z⟩
  · rw [e] at z
    cases z
  · rw [e] at z
    cases z
    trivial
section
variable {P : Program} {w : World} {K : PySem.W.Frag} {mg : Str → Option Value} {base : Heap}
theorem obj_forget {H H' : Hp} {h h' : Heap} {a : Addr} : ∀ (o : HO), noT o → ObjOk P w H h a o → ObjOk P w H' h' a o → ObjOk P w H h' a o := by
  intro o
  induction o with
  | dT kvs => intro z; exact z.elim
  | frz ob u ih =>
    intro z x y
    exact ⟨y.1, ih z x.2 y.2⟩
  | ins C dx fs =>
    intro _ x y
    obtain ⟨d, _, _, e, _⟩ := x
    obtain ⟨d2, z, ne, e2, r⟩ := y
    exact ⟨d, z, ne, e2, r⟩
  | lst xs => intro _ _ y; exact y
  | tup xs => intro _ _ y; exact y
  | dK kvs => intro _ _ y; exact y
  | set S n => intro _ _ y; exact y
  | own x => intro _ _ y; exact y
  | xd fs => intro _ _ y; exact y
  | met f x => intro _ _ y; exact y
  | rng lo hi => intro _ _ y; exact y
  | tbl ps => intro _ _ y; exact y
  | ext φ => intro _ _ y; exact y
theorem forget {CX : CXT} {k : Nat} {f : Addr} {fd : FuncData} {ps : List Str} {sp sp' : Sp} (F : FnOk P w K mg base CX k f fd ps sp)
    (h : ∀ vs H Q E, sp' vs H Q E → NoT H ∧ sp vs H (fun v H' => Same H H' ∧ Q v H) E) : FnOk P w K mg base CX k f fd ps sp' := by
  refine ⟨fun vs H Q E q => F.len vs H _ E (h _ _ _ _ q).2, fun A outer s H args us vs Q E hr e0 hb hv hs => ?_⟩
  obtain ⟨nt, q⟩ := h _ _ _ _ hs
  refine codeAny_mono (F.run A outer s H args us vs _ E hr e0 hb hv q) fun r s' hq => ?_
  cases r with
  | error e => exact hq
  | ok fl =>
    cases fl with
    | ret u =>
      obtain ⟨v, H', eo, eb, un, ok, rv, sm, hQ⟩ := hq
      refine ⟨v, H, eo, eb, ⟨un.keep, un.slot, fun _ _ _ n _ => n, un.there, fun _ _ e => e, fun _ _ _ e => e, fun _ ps e => ⟨#[], by rw [e]; simp⟩⟩, fun a o e => ?_, rv, hQ⟩
      have z1 : H' a = some o := sm a o e
      exact obj_forget (h := s.heap) o (nt a o e) (e0.hok a o e) (ok a o z1)
    | next => exact hq
    | brk => exact hq
    | cont => exact hq
end

/-! ### the stream of a law's digits -/
def StrAt (H : Hp) (st : Addr) : Prop := ∃ (L : Addr) (ns : List Int) (c k : Int), (H st = some (.lst [.ref L, .int c, .int k]) ∧ H L = some (.lst (ns.map V.int)) ∧ 0 ≤ k) ∧ NoT H
theorem st_ne_L {H : Hp} {st L : Addr} {ns : List Int} {c k : V} (h1 : H st = some (.lst [.ref L, c, k])) (h2 : H L = some (.lst (ns.map V.int))) : L ≠ st := fun e => by
  rw [e, h1] at h2
  cases ns with
  | nil => cases h2
  | cons n r => cases h2
theorem StrAt.new {H : Hp} {st p : Addr} {o : HO} (hp : H p = none) (h : StrAt H st) (ho : noT o := by trivial) : StrAt (upd H p o) st := by
  obtain ⟨L, ns, c, k, ⟨h1, h2, h3⟩, nt⟩ := h
  exact ⟨L, ns, c, k, ⟨get_old h1 hp, get_old h2 hp, h3⟩, nt.upd ho⟩
theorem StrAt.nw {H H' : Hp} {st p : Addr} {o : HO} (n : New H H' p o) (h : StrAt H st) (ho : noT o) : StrAt H' st := by
  rw [n.eq]
  exact h.new n.nw ho
theorem StrAt.newL {H H' : Hp} {st p : Addr} {xs : List V} (n : New H H' p (.lst xs)) (h : StrAt H st) : StrAt H' st := h.nw n trivial
theorem StrAt.newT {H H' : Hp} {st p : Addr} {xs : List V} (n : New H H' p (.tup xs)) (h : StrAt H st) : StrAt H' st := h.nw n trivial
theorem StrAt.newK {H H' : Hp} {st p : Addr} {xs : List (Key × V)} (n : New H H' p (.dK xs)) (h : StrAt H st) : StrAt H' st := h.nw n trivial
theorem NoT.newL {H H' : Hp} {p : Addr} {xs : List V} (n : New H H' p (.lst xs)) (h : NoT H) : NoT H' := by
  rw [n.eq]
  exact h.upd trivial
theorem NoT.newT {H H' : Hp} {p : Addr} {xs : List V} (n : New H H' p (.tup xs)) (h : NoT H) : NoT H' := by
  rw [n.eq]
  exact h.upd trivial
theorem NoT.wrL {H H' : Hp} {p : Addr} {xs : List V} (n : Wr H H' p (.lst xs)) (h : NoT H) : NoT H' := by
  rw [n.eq]
  exact h.upd trivial
/-- an object of ours: neither the stream nor its numbers -/
structure Mine (st : Addr) (H : Hp) (p : Addr) : Prop where
  ne : p ≠ st
  neL : ∀ L c k, H st = some (.lst [.ref L, c, k]) → p ≠ L
/-- the stream alone has gone on -/
structure StFr (st : Addr) (H H' : Hp) : Prop where
  oth : ∀ q o, q ≠ st → H q = some o → H' q = some o
  keepL : ∀ L c k, H' st = some (.lst [.ref L, c, k]) → ∃ c k, H st = some (.lst [.ref L, c, k])
theorem StFr.trans {st : Addr} {H H1 H2 : Hp} (f : StFr st H H1) (g : StFr st H1 H2) : StFr st H H2 := ⟨fun q o hq e => g.oth q o hq (f.oth q o hq e), fun L c k e => by
  obtain ⟨c', k', e'⟩ := g.keepL L c k e
  exact f.keepL L c' k' e'⟩
theorem StFr.get {st q : Addr} {H H' : Hp} {o : HO} (f : StFr st H H') (hq : q ≠ st) (h : H q = some o) : H' q = some o := f.oth q o hq h
theorem StrAt.neN {H H' : Hp} {st p : Addr} {o : HO} (n : New H H' p o) (h : StrAt H st) : p ≠ st := fun e => by
  obtain ⟨L, ms, c, k, ⟨e2, _⟩, _⟩ := h
  have := n.nw
  rw [e, e2] at this
  cases this
theorem StrAt.nt {H : Hp} {st : Addr} (h : StrAt H st) : NoT H := by
  obtain ⟨L, ns, c, k, _, nt⟩ := h
  exact nt
theorem StrAt.ne {H : Hp} {st p : Addr} (h : StrAt H st) (hp : H p = none) : p ≠ st := fun e => by
  obtain ⟨L, ms, c, k, ⟨e2, _⟩, _⟩ := h
  rw [e, e2] at hp
  cases hp
theorem StFr.new {H H' : Hp} {st p : Addr} {o : HO} (n : New H H' p o) (h : StrAt H st) : StFr st H H' := ⟨fun q o _ e => n.keep e, fun L c k e => by
  rw [n.oth st (h.neN n).symm] at e
  exact ⟨_, _, e⟩⟩
theorem Mine.new {H H' : Hp} {st p : Addr} {o : HO} (n : New H H' p o) (h : StrAt H st) : Mine st H' p := by
  have hne := h.neN n
  refine ⟨hne, fun L c k e => ?_⟩
  obtain ⟨L', ns, c', k', ⟨h1, h2, h3⟩, nt⟩ := h
  rw [n.oth st hne.symm, h1] at e
  cases e
  exact fun z => by
    rw [z] at n
    have := n.nw
    rw [h2] at this
    cases this
theorem Mine.fr {H H' : Hp} {st p : Addr} (f : StFr st H H') (m : Mine st H p) : Mine st H' p := ⟨m.ne, fun L c k e => by
  obtain ⟨c', k', e'⟩ := f.keepL L c k e
  exact m.neL L c' k' e'⟩
theorem Mine.nw {H H' : Hp} {st p q : Addr} {o : HO} (n : New H H' q o) (h : StrAt H st) (m : Mine st H p) : Mine st H' p := ⟨m.ne, fun L c k e => by
  rw [n.oth st (h.neN n).symm] at e
  exact m.neL L c k e⟩
theorem Mine.wr {H H' : Hp} {st p q : Addr} {o : HO} (n : Wr H H' q o) (hq : Mine st H q) (m : Mine st H p) : Mine st H' p := ⟨m.ne, fun L c k e => by
  rw [n.oth st hq.ne.symm] at e
  exact m.neL L c k e⟩
theorem StrAt.wrL {H H' : Hp} {st p : Addr} {xs : List V} (n : Wr H H' p (.lst xs)) (m : Mine st H p) (h : StrAt H st) : StrAt H' st := by
  obtain ⟨L, ns, c, k, ⟨h1, h2, h3⟩, nt⟩ := h
  rw [n.eq]
  exact ⟨L, ns, c, k, ⟨get_oth h1 m.ne.symm, get_oth h2 (m.neL _ _ _ h1).symm, h3⟩, nt.upd trivial⟩
theorem Wr.keep {H H' : Hp} {p q : Addr} {o x : HO} (n : Wr H H' p o) (hq : q ≠ p) (h : H q = some x) : H' q = some x := by
  rw [n.oth q hq]
  exact h
theorem upd_self {H : Hp} {a : Addr} {o : HO} (h : H a = some o) : upd H a o = H := by
  funext b
  unfold upd
  split
  · rename_i e
    rw [e, h]
  · rfl
theorem log2_small {m : Int} (h0 : 0 < m) (h : m < 10 ^ 100) : m.natAbs.log2 < 9000 := by
  have h1 : m.natAbs ≠ 0 := by omega
  refine (Nat.log2_lt h1).mpr ?_
  have h2 : m.natAbs < 10 ^ 100 := by omega
  exact Nat.lt_trans h2 (by decide +kernel)

/-! ### data -/
/-- a value that is no integer, of a kind that is told -/
def NotInt (K : PySem.W.Frag) (H : Hp) (v : V) : Prop := match v with
  | .bl _ => True
  | .str _ => True
  | .non => True
  | .ref p => ∃ U, IsSeq K H p U
  | _ => False

theorem sqT_mono {K : PySem.W.Frag} {H H' : Hp} (s : Same H H') {a : Addr} {xs : List V} (h : SqT K H a xs) : SqT K H' a xs := by
  rcases h with (h1 | ⟨o, h1⟩) | h1
  · exact .inl (.inl (s _ _ h1))
  · exact .inl (.inr ⟨o, s _ _ h1⟩)
  · exact .inr h1
mutual
theorem dp_mono {K : PySem.W.Frag} {H H' : Hp} (s : Same H H') : ∀ (d : PyData) (v : V), Dp K H v d → Dp K H' v d
  | .none, _, h => by cases h; exact .non
  | .bool b, _, h => by cases h; exact .bl b
  | .int i, _, h => by cases h; exact .int i
  | .str x, _, h => by cases h; exact .str x
  | .list ds, _, h => by
    cases h with
    | lst h1 h2 => exact .lst (s.seq h1) (dps_mono s ds _ h2)
  | .tuple ds, _, h => by
    cases h with
    | tup h1 h2 => exact .tup (sqT_mono s h1) (dps_mono s ds _ h2)
  | .dict _, _, h => by cases h
theorem dps_mono {K : PySem.W.Frag} {H H' : Hp} (s : Same H H') : ∀ (ds : List PyData) (vs : List V), DpAll K H vs ds → DpAll K H' vs ds
  | [], _, h => by cases h; exact .nil
  | d :: ds, _, h => by
    cases h with
    | cons h1 h2 => exact .cons (dp_mono s d _ h1) (dps_mono s ds _ h2)
end
theorem dps_len {K : PySem.W.Frag} {H : Hp} : ∀ {vs : List V} {ds : List PyData}, DpAll K H vs ds → vs.length = ds.length
  | _, _, .nil => rfl
  | _, _, .cons _ t => by rw [List.length_cons, List.length_cons, dps_len t]
theorem dps_at {K : PySem.W.Frag} {H : Hp} : ∀ {vs : List V} {ds : List PyData} {i : Nat} {v : V}, DpAll K H vs ds → vs[i]? = some v → ∃ d, ds[i]? = some d ∧ Dp K H v d
  | _, _, _, _, .nil, h => by simp at h
  | _, _, 0, _, .cons a _, h => by
    simp at h
    subst h
    exact ⟨_, rfl, a⟩
  | _, _, i + 1, _, .cons _ t, h => by
    simp at h
    obtain ⟨d, e, r⟩ := dps_at t h
    exact ⟨d, by simpa using e, r⟩
theorem dps_at' {K : PySem.W.Frag} {H : Hp} : ∀ {vs : List V} {ds : List PyData} {i : Nat} {d : PyData}, DpAll K H vs ds → ds[i]? = some d → ∃ v, vs[i]? = some v ∧ Dp K H v d
  | _, _, _, _, .nil, h => by simp at h
  | _, _, 0, _, .cons a _, h => by
    simp at h
    subst h
    exact ⟨_, rfl, a⟩
  | _, _, i + 1, _, .cons _ t, h => by
    simp at h
    obtain ⟨d, e, r⟩ := dps_at' t h
    exact ⟨d, by simpa using e, r⟩
theorem dps_two {K : PySem.W.Frag} {H : Hp} {xs : List V} {ds : List PyData} (h : DpAll K H xs ds) (h2 : xs.length = 2) : ∃ v0 v1 d0 d1, xs = [v0, v1] ∧ ds = [d0, d1] ∧ Dp K H v0 d0 ∧ Dp K H v1 d1 := by
  cases h with
  | nil => cases h2
  | cons p0 t =>
    cases t with
    | nil => cases h2
    | cons p1 t =>
      cases t with
      | nil => exact ⟨_, _, _, _, rfl, rfl, p0, p1⟩
      | cons _ _ =>
        simp at h2
/-- what is neither an integer nor unknown -/
theorem dp_notInt {K : PySem.W.Frag} {H : Hp} {v : V} {d : PyData} (h : Dp K H v d) : (∃ i, v = .int i ∧ d = .int i) ∨ (NotInt K H v ∧ ∀ i, d ≠ .int i) := by
  cases h with
  | int i => exact .inl ⟨i, rfl, rfl⟩
  | non => exact .inr ⟨trivial, fun _ e => by cases e⟩
  | bl b => exact .inr ⟨trivial, fun _ e => by cases e⟩
  | str x => exact .inr ⟨trivial, fun _ e => by cases e⟩
  | lst h1 _ => exact .inr ⟨⟨.list, _, h1⟩, fun _ e => by cases e⟩
  | tup h1 _ => exact .inr ⟨⟨.tuple, _, h1⟩, fun _ e => by cases e⟩
/-- data without dicts, at most n deep -/
def depthOk : Nat → PyData → Prop
  | 0, d => match d with
    | .list _ => False
    | .tuple _ => False
    | .dict _ => False
    | _ => True
  | n + 1, d => match d with
    | .list ds => ds.length ≤ 100000 ∧ ∀ x ∈ ds, depthOk n x
    | .tuple ds => ds.length ≤ 100000 ∧ ∀ x ∈ ds, depthOk n x
    | .dict _ => False
    | _ => True
def mAll (K : PySem.W.Frag) : List V → Hp → VK → Prop := fun xs H Q => match xs with
  | [.ref p] => ∃ bs : List Bool, SqL K H p (bs.map V.bl) ∧ ∀ b : Bool, (b = true ↔ ∀ x ∈ bs, x = true) → Q (.bl b) H
  | _ => False
theorem c_all {X : Cx} (hc : X.calm = true) : CallR X (.builtin "all") (mAll X.K) := CallR.imp (cr_all hc) fun xs H Q h => by
  unfold mAll at h
  split at h
  · obtain ⟨bs, a, q⟩ := h
    exact ⟨_, bs, rfl, a, q _ (by simp)⟩
  · exact h.elim
def mAny (K : PySem.W.Frag) : List V → Hp → VK → Prop := fun xs H Q => match xs with
  | [.ref p] => ∃ bs : List Bool, SqL K H p (bs.map V.bl) ∧ ∀ b : Bool, (b = true ↔ ∃ x ∈ bs, x = true) → Q (.bl b) H
  | _ => False
theorem c_any {X : Cx} (hc : X.calm = true) : CallR X (.builtin "any") (mAny X.K) := CallR.imp (cr_any hc) fun xs H Q h => by
  unfold mAny at h
  split at h
  · obtain ⟨bs, a, q⟩ := h
    exact ⟨_, bs, rfl, a, q _ (by simp)⟩
  · exact h.elim
def mStr : List V → Hp → VK → Prop := fun xs H Q => match xs with
  | [.int i] => i.natAbs.log2 < 1920 ∧ Q (.str (toString i)) H
  | _ => False
theorem c_str {X : Cx} : CallR X (.type "str") mStr := CallR.imp call_str_int fun xs H Q h => by
  unfold mStr at h
  split at h
  · exact ⟨_, rfl, h.1, h.2⟩
  · exact h.elim
theorem ok_false {P : Program} {w : World} {K : PySem.W.Frag} {mg : Str → Option Value} {base : Heap} {CX : CXT} {k : Nat} {f : Addr} {fd : FuncData} {ps : List Str} {sp : Sp} (h : ∀ vs H Q E, ¬ sp vs H Q E) : FnOk P w K mg base CX k f fd ps sp :=
  ⟨fun vs H Q E q => (h _ _ _ _ q).elim, fun _ _ _ _ _ _ _ _ _ _ _ _ _ q => (h _ _ _ _ q).elim⟩
theorem same_new {H : Hp} {p : Addr} {o : HO} (hp : H p = none) : Same H (upd H p o) := fun b u e => get_old e hp
theorem notInt_bl {K : PySem.W.Frag} {H : Hp} {b : Bool} : NotInt K H (.bl b) := trivial
theorem notInt_str {K : PySem.W.Frag} {H : Hp} {b : Str} : NotInt K H (.str b) := trivial
theorem notInt_non {K : PySem.W.Frag} {H : Hp} : NotInt K H .non := trivial
theorem notInt_l {K : PySem.W.Frag} {H : Hp} {p : Addr} {xs : List V} (h : SqL K H p xs) : NotInt K H (.ref p) := ⟨.list, xs, h⟩
theorem notInt_t {K : PySem.W.Frag} {H : Hp} {p : Addr} {xs : List V} (h : SqT K H p xs) : NotInt K H (.ref p) := ⟨.tuple, xs, h⟩
theorem sq_l {K : PySem.W.Frag} {H : Hp} {p : Addr} {xs : List V} (h : SqL K H p xs) : Sq K H p xs := .inl h
theorem sq_t {K : PySem.W.Frag} {H : Hp} {p : Addr} {xs : List V} (h : SqT K H p xs) : Sq K H p xs := .inr h
theorem ex_at {xs : List V} {i : Int} {v : V} {R : V → Prop} (h : atI xs i = some v) (r : R v) : ∃ v, atI xs i = some v ∧ R v := ⟨v, h, r⟩
theorem ex_ix {n : Nat} {k : Int} {j : Nat} {R : Nat → Prop} (h : ixN n k = some j) (r : R j) : ∃ j, ixN n k = some j ∧ R j := ⟨j, h, r⟩
theorem ex_sq {K : PySem.W.Frag} {H : Hp} {p : Addr} {xs : List V} {R : List V → Prop} (h : Sq K H p xs) (r : R xs) : ∃ xs, Sq K H p xs ∧ R xs := ⟨xs, h, r⟩
theorem ex_lst {H : Hp} {p : Addr} {xs : List V} {R : List V → Prop} (h : H p = some (.lst xs)) (r : R xs) : ∃ xs, H p = some (.lst xs) ∧ R xs := ⟨xs, h, r⟩
theorem no_br {c A B : Prop} (a : c → A) (b : ¬ c → B) : Br c A B := ⟨a, b⟩
/-! ### the rules with the written part by its name -/
section
variable {X : Cx} {K : PySem.W.Frag} {a : Expr} {ta : TE} {tA : TP} {pos : Pos}
theorem k_addM (h : X.K = K) : OpR X (binaryOp .Add) (mAdd K) := by subst h; exact op_addM
theorem k_mulM (h : X.K = K) : OpR X (binaryOp .Mult) (mMul K) := by subst h; exact op_mulM
theorem k_len (h : X.K = K) : CallR X (.builtin "len") (mLen K) := by subst h; exact c_len
theorem k_list (h : X.K = K) : CallR X (.type "list") (mList K) := by subst h; exact c_list
theorem k_tuple (h : X.K = K) : CallR X (.type "tuple") (mTuple K) := by subst h; exact c_tuple
theorem k_all (h : X.K = K) (hc : X.calm = true) : CallR X (.builtin "all") (mAll K) := by subst h; exact c_all hc
theorem k_any (h : X.K = K) (hc : X.calm = true) : CallR X (.builtin "any") (mAny K) := by subst h; exact c_any hc
theorem k_ix (h : X.K = K) : IxR X (mIx K) := by subst h; exact ix_M
theorem k_sl (h : X.K = K) : SlR X (mSl K) := by subst h; exact sl_M
theorem k_eq (h : X.K = K) (hu : X.A.units + 64 < cLine) : OpP X (compareOp .Eq) (pEq K) := by subst h; exact o_eq hu
theorem k_ne (h : X.K = K) (hu : X.A.units + 64 < cLine) : OpP X (compareOp .NotEq) (pNe K) := by subst h; exact o_ne hu
theorem k_seq (h : X.K = K) {tg l : Expr} {tl : TE} (hl : PE X l tl) : PI X tg l (iSeq K tl) := by subst h; exact qi_seq hl
theorem k_isi (h : X.K = K) (T : Ty) {n : Str} {p p2 : Pos} (hg : Gl X "isinstance") (hm : X.mg "isinstance" = none) (hgT : Gl X n) (hmT : X.mg n = none) (ha : PE X a ta) (hv : bootBuiltins n = some (.type T.nm) := by decide +kernel) (hn : n ≠ "__name__" := by decide) (hd : (n == ("__debug__" : Str)) = false := by decide)
    (he : starEach [a, .Name n p2] X.env = (false, eval a X.env) :: starEach [.Name n p2] X.env := by rfl) (hpl : (backTo pos (starEach [.Name n p2] X.env)).any (·.1) = false := by rfl) :
    PE X (.Call (.Name "isinstance" p) [a, .Name n p2] [] pos) (tIsi K T ta) := by
  subst h
  exact qisi T hg hm hgT hmT ha hv hn hd he hpl
def tTru (K : PySem.W.Frag) (t : TE) : TP := fun σ H Q => t σ H fun x H' => TruM K x H' Q
theorem k_truth (hK : X.K = K) (h : PE X a ta) (he : ∀ whole, isTrue a X.env whole = (do let v ← whole; standAt a.pos; holding [v] (truthy v)) := by intro _; rfl) : PP X a (tTru K ta) := by
  subst hK
  exact pp_truth h he
def tNotT (K : PySem.W.Frag) (t : TE) : TP := fun σ H Q => t σ H fun x H1 => TruM K x H1 fun p H2 => Q (¬ p) H2
theorem k_not (hK : X.K = K) (ha : PE X a ta) : PB X (.UnaryOp .Not a pos) (tNotT K ta) := by
  subst hK
  exact qb_not ha
end
end Q

set_option maxHeartbeats 4000000
set_option pp.deepTerms false
set_option pp.deepTerms.threshold 6
set_option exponentiation.threshold 500
namespace Law
open PySem PySem.Spec PyProof.Rows L2 Q
/-! the walk's words -/
local macro_rules | `(tactic| walk_at "ne") => `(tactic| first
  | assumption
  | (exact Ne.symm (by assumption))
  | exact Mine.ne (by assumption)
  | exact StrAt.neN (by assumption) (by assumption)
  | exact ne_of_none (by walk_at "hp") (New.nw (by assumption))
  | exact (ne_of_none (by walk_at "hp") (New.nw (by assumption))).symm)
local macro_rules | `(tactic| walk_at "hp") => `(tactic| first
  | assumption
  | with_reducible exact upd_same
  | with_reducible exact New.at_ (by assumption)
  | with_reducible exact Wr.at_ (by assumption)
  | ((with_reducible refine New.keep (by assumption) ?_); walk_at "hp")
  | ((with_reducible refine' StFr.get (by assumption) ?_ ?h); (case h => walk_at "hp"); walk_at "stne")
  | ((with_reducible refine' Wr.keep (by assumption) ?_ ?h); (case h => walk_at "hp"); walk_at "ne")
  | ((with_reducible refine get_old ?_ (by assumption)); walk_at "hp")
  | ((with_reducible refine get_oth ?_ (by first | assumption | (exact Ne.symm (by assumption)))); walk_at "hp"))
local macro_rules | `(tactic| walk_at "stne") => `(tactic| first
  | assumption
  | exact Mine.ne (by assumption)
  | ((refine' StrAt.neN ?a ?b); (case a => assumption); (case b => walk_at "stat")))
local macro_rules | `(tactic| walk_at "stat") => `(tactic| first
  | assumption
  | ((with_reducible refine StrAt.newL (by assumption) ?_); walk_at "stat")
  | ((with_reducible refine StrAt.newT (by assumption) ?_); walk_at "stat")
  | ((with_reducible refine StrAt.newK (by assumption) ?_); walk_at "stat")
  | ((with_reducible refine StrAt.wrL (by assumption) ?c ?_); (case c => walk_at "mine"); walk_at "stat"))
local macro_rules | `(tactic| walk_at "mine") => `(tactic| first
  | assumption
  | exact Mine.new (by assumption) (by walk_at "stat")
  | ((with_reducible refine Mine.fr (by assumption) ?_); walk_at "mine")
  | ((with_reducible refine' Mine.nw (by assumption) ?c ?d); (case c => walk_at "stat"); (case d => walk_at "mine")))
local macro_rules | `(tactic| walk_at "not") => `(tactic| first
  | assumption
  | exact StrAt.nt (by walk_at "stat")
  | ((with_reducible refine NoT.newL (by assumption) ?_); walk_at "not")
  | ((with_reducible refine NoT.newT (by assumption) ?_); walk_at "not")
  | ((with_reducible refine NoT.wrL (by assumption) ?_); walk_at "not"))
local macro_rules | `(tactic| walk_at "same") => `(tactic| first
  | assumption
  | exact Same.refl _
  | ((with_reducible refine Same.trans ?_ (New.same (by assumption))); walk_at "same"))
local macro_rules | `(tactic| walk_at "sqL") => `(tactic| first
  | assumption
  | exact SqL.of (by walk_at "hp")
  | ((with_reducible refine Same.seq (New.same (by assumption)) ?_); walk_at "sqL"))
local macro_rules | `(tactic| walk_at "sqT") => `(tactic| first
  | assumption
  | exact SqT.of (by walk_at "hp")
  | ((with_reducible refine sqT_mono (New.same (by assumption)) ?_); walk_at "sqT"))
local macro_rules | `(tactic| walk_at "dp") => `(tactic| first
  | assumption
  | exact Dp.int _
  | exact Dp.bl _
  | exact Dp.str _
  | exact Dp.non
  | ((refine' Dp.tup ?a ?b); (case a => walk_at "sqT"); (case b => walk_at "dps"))
  | ((refine' Dp.lst ?a ?b); (case a => walk_at "sqL"); (case b => walk_at "dps"))
  | ((with_reducible refine dp_mono (New.same (by assumption)) _ _ ?_); walk_at "dp"))
local macro_rules | `(tactic| walk_at "dps") => `(tactic| first
  | assumption
  | exact DpAll.nil
  | ((refine' DpAll.cons ?a ?b); (case a => walk_at "dp"); (case b => walk_at "dps")))
local macro_rules | `(tactic| walk_at "sq") => `(tactic| first
  | assumption
  | exact sq_l (by walk_at "sqL")
  | exact sq_t (by walk_at "sqT"))
/-- a side condition -/
local macro_rules | `(tactic| walk_at "side") => `(tactic| first
  | with_reducible assumption
  | omega
  | exact True.intro
  | with_reducible rfl
  | (exact ⟨by omega, by omega⟩)
  | (exact ⟨by first | omega | assumption, by first | omega | assumption⟩)
  | (exact Or.inl (Or.inl ⟨by omega, by omega⟩))
  | (exact Or.inl (Or.inr ⟨by omega, by omega⟩))
  | (exact Or.inr (wide_mul (a := 250) (b := 250) (by omega) (by omega) (by omega) (by omega) (by omega)))
  | (exact Nat.zero_le _)
  | (exact Nat.le_of_lt (small1000 (by simp; done)))
  | assumption
  | walk_at "stat"
  | walk_at "not")
local macro_rules | `(tactic| walk_at "w") => `(tactic| (conv => whnf))
local macro_rules | `(tactic| walk_at "yes") => `(tactic| first | with_reducible rfl | (show (_ : Bool) = true; rfl) | exact True.intro | omega | assumption | (intro h; cases h; done) | (simp; done))
local macro_rules | `(tactic| walk_at "no") => `(tactic| first | omega | (exact fun h => h rfl) | assumption | (intro h; cases h; done) | (simp; done))
local macro_rules | `(tactic| walk_at "notint") => `(tactic| first | assumption | exact notInt_bl | exact notInt_str | exact notInt_non | exact notInt_l (by walk_at "sqL") | exact notInt_t (by walk_at "sqT"))
/-- one step of the walk -/
local macro_rules | `(tactic| walk_at "g1") => `(tactic| focus ((try (conv => whnf)); first
  | done
  | with_reducible assumption
  | ((with_reducible refine Br.tt ?c ?_); (case c => walk_at "yes"))
  | ((with_reducible refine Br.ff ?c ?_); (case c => walk_at "no"))
  | ((with_reducible refine And.intro ?c ?_); (case c => walk_at "side"))
  | (with_reducible refine Exists.intro Ty.list (And.intro (isSeq_l (by walk_at "sqL")) ?_))
  | (with_reducible refine Exists.intro Ty.tuple (And.intro (isSeq_t (by walk_at "sqT")) ?_))
  | ((with_reducible refine Or.inl (And.intro (show NotInt _ _ _ from ?c) ?_)); (case c => walk_at "notint"))
  | ((with_reducible refine' ex_sq ?c ?_); (case c => walk_at "sq"))
  | ((with_reducible refine' ex_lst ?c ?_); (case c => walk_at "hp"))
  | ((with_reducible refine' ex_ix ?c ?_); (case c => first | assumption | rfl))
  | ((with_reducible refine' ex_at ?c ?_); (case c => first | assumption | rfl))
  | (with_reducible refine Or.inr (Exists.intro _ (And.intro rfl ?_)))
  | (with_reducible refine Or.inl (And.intro (by assumption) ?_))
  | (with_reducible refine Exists.intro _ (Exists.intro _ (And.intro rfl (And.intro rfl ?_))))
  | ((with_reducible apply Exists.intro (α := Prop)); (refine And.intro (fun _ => ?a) ?b); (case a => ((conv => whnf); exact ⟨rfl, rfl⟩)))
  | (show _ ↔ _; first | exact Iff.rfl | omega | (simp; done) | (simp; omega) | (simp_all; done))
  | (refine fun (b : Bool) (hb : b = true ↔ _) => ?_; (first
      | ((refine b_yes hb ?hp fun hb2 => ?_); (case hp => first | exact True.intro | assumption | omega); clear hb; subst hb2)
      | ((refine b_no hb ?hp fun hb2 => ?_); (case hp => first | omega | (exact fun h => h) | (intro h; cases h; done)); clear hb; subst hb2)
      | (simp at hb; subst hb)
      | skip))))
local macro_rules | `(tactic| walk_at "g") => `(tactic| repeat walk_at "g1")
/-- both ways of each branch -/
local macro_rules | `(tactic| walk_at "gs") => `(tactic| ((repeat walk_at "g1"); (try ((conv => whnf); (with_reducible refine Br.mk (fun hc => ?_) (fun hc => ?_)) <;> walk_at "gs"))))
/-- a call of the law's equality: the data are read off the heap -/
local macro_rules | `(tactic| walk_at "eq") => `(tactic| ((conv => whnf); (refine' Exists.intro _ (Exists.intro _ (And.intro ?a (And.intro ?b (And.intro ?c (And.intro ?d ?e)))))); (case a => walk_at "dp"); (case b => walk_at "dp"); (case c => simp [depthOk]); (case d => walk_at "not")))

def topS (i : Nat) : Stmt := PySem.Challenge.pw_alikeplay_k06_shuffles.main.body.getD i (.Pass ⟨0, 0, 0, 0⟩)
abbrev s_is_whole : Stmt := topS 4
theorem sc_is_whole : FnScope ["value"] ["value"] (defScope s_is_whole) := ⟨rfl, rfl, rfl, by decide +kernel, rfl, by decide +kernel, by decide +kernel⟩
abbrev s_is_between : Stmt := topS 5
theorem sc_is_between : FnScope ["value", "low", "high"] ["value", "low", "high"] (defScope s_is_between) := ⟨rfl, rfl, rfl, by decide +kernel, rfl, by decide +kernel, by decide +kernel⟩
abbrev s_is_dice : Stmt := topS 11
theorem sc_is_dice : FnScope ["value"] ["value"] (defScope s_is_dice) := ⟨rfl, rfl, rfl, by decide +kernel, rfl, by decide +kernel, by decide +kernel⟩
abbrev s_check_dice : Stmt := topS 12
theorem sc_check_dice : FnScope ["value"] ["value"] (defScope s_check_dice) := ⟨rfl, rfl, rfl, by decide +kernel, rfl, by decide +kernel, by decide +kernel⟩
abbrev s_following : Stmt := topS 13
theorem sc_following : FnScope ["dice"] ["dice"] (defScope s_following) := ⟨rfl, rfl, rfl, by decide +kernel, rfl, by decide +kernel, by decide +kernel⟩
abbrev s_roll : Stmt := topS 14
theorem sc_roll : FnScope ["dice", "n", "limit", "_"] ["dice", "n"] (defScope s_roll) := ⟨rfl, rfl, rfl, by decide +kernel, rfl, by decide +kernel, by decide +kernel⟩
abbrev s_shuffled : Stmt := topS 15
theorem sc_shuffled : FnScope ["dice", "items", "found", "at", "other"] ["dice", "items"] (defScope s_shuffled) := ⟨rfl, rfl, rfl, by decide +kernel, rfl, by decide +kernel, by decide +kernel⟩
abbrev s__law_stream : Stmt := topS 17
theorem sc__law_stream : FnScope ["_law_script"] ["_law_script"] (defScope s__law_stream) := ⟨rfl, rfl, rfl, by decide +kernel, rfl, by decide +kernel, by decide +kernel⟩
abbrev s__law_next : Stmt := topS 18
theorem sc__law_next : FnScope ["_law_stream_here", "_law_many", "_law_k", "_law_cell", "_law_digit"] ["_law_stream_here", "_law_many"] (defScope s__law_next) := ⟨rfl, rfl, rfl, by decide +kernel, rfl, by decide +kernel, by decide +kernel⟩
abbrev s__law_is_integer : Stmt := topS 19
theorem sc__law_is_integer : FnScope ["_law_actual"] ["_law_actual"] (defScope s__law_is_integer) := ⟨rfl, rfl, rfl, by decide +kernel, rfl, by decide +kernel, by decide +kernel⟩
abbrev s__law_equal : Stmt := topS 26
theorem sc__law_equal : FnScope ["_law_actual", "_law_due", "_law_at"] ["_law_actual", "_law_due"] (defScope s__law_equal) := ⟨rfl, rfl, rfl, by decide +kernel, rfl, by decide +kernel, by decide +kernel⟩
abbrev s__law_dice : Stmt := topS 27
theorem sc__law_dice : FnScope ["_law_stream_here", "_law_pick"] ["_law_stream_here"] (defScope s__law_dice) := ⟨rfl, rfl, rfl, by decide +kernel, rfl, by decide +kernel, by decide +kernel⟩
abbrev s__law_roll : Stmt := topS 29
theorem sc__law_roll : FnScope ["_law_dice_here", "_law_n", "_law_limit", "_law_turn"] ["_law_dice_here", "_law_n"] (defScope s__law_roll) := ⟨rfl, rfl, rfl, by decide +kernel, rfl, by decide +kernel, by decide +kernel⟩
abbrev s_law : Stmt := topS 30
theorem sc_law : FnScope ["_law_script", "_law_stream_here", "_law_dice_here", "_law_many", "_law_k", "_law_items", "_law_found", "_law_here", "_law_at", "_law_other", "_law_kept"] ["_law_script"] (defScope s_law) := ⟨rfl, rfl, rfl, by decide +kernel, rfl, by decide +kernel, by decide +kernel⟩
structure Ad where
  a_is_whole : Addr
  d_is_whole : FuncData
  a_is_between : Addr
  d_is_between : FuncData
  a_is_dice : Addr
  d_is_dice : FuncData
  a_check_dice : Addr
  d_check_dice : FuncData
  a_following : Addr
  d_following : FuncData
  a_roll : Addr
  d_roll : FuncData
  a_shuffled : Addr
  d_shuffled : FuncData
  a__law_stream : Addr
  d__law_stream : FuncData
  a__law_next : Addr
  d__law_next : FuncData
  a__law_is_integer : Addr
  d__law_is_integer : FuncData
  a__law_equal : Addr
  d__law_equal : FuncData
  a__law_dice : Addr
  d__law_dice : FuncData
  a__law_roll : Addr
  d__law_roll : FuncData
  a_law : Addr
  d_law : FuncData
structure Tx (K : PySem.W.Frag) (mg : Str → Option Value) (A : Ad) : Prop where
  f_is_whole : Fun K "is_whole" "is_whole" s_is_whole A.a_is_whole A.d_is_whole
  g_is_whole : mg "is_whole" = some (.ref A.a_is_whole)
  b_is_whole : Binds K A.d_is_whole ["value"] []
  f_is_between : Fun K "is_between" "is_between" s_is_between A.a_is_between A.d_is_between
  g_is_between : mg "is_between" = some (.ref A.a_is_between)
  b_is_between : Binds K A.d_is_between ["value", "low", "high"] []
  f_is_dice : Fun K "is_dice" "is_dice" s_is_dice A.a_is_dice A.d_is_dice
  g_is_dice : mg "is_dice" = some (.ref A.a_is_dice)
  b_is_dice : Binds K A.d_is_dice ["value"] []
  f_check_dice : Fun K "check_dice" "check_dice" s_check_dice A.a_check_dice A.d_check_dice
  g_check_dice : mg "check_dice" = some (.ref A.a_check_dice)
  b_check_dice : Binds K A.d_check_dice ["value"] []
  f_following : Fun K "following" "following" s_following A.a_following A.d_following
  g_following : mg "following" = some (.ref A.a_following)
  b_following : Binds K A.d_following ["dice"] []
  f_roll : Fun K "roll" "roll" s_roll A.a_roll A.d_roll
  g_roll : mg "roll" = some (.ref A.a_roll)
  b_roll : Binds K A.d_roll ["dice", "n"] []
  f_shuffled : Fun K "shuffled" "shuffled" s_shuffled A.a_shuffled A.d_shuffled
  g_shuffled : mg "shuffled" = some (.ref A.a_shuffled)
  b_shuffled : Binds K A.d_shuffled ["dice", "items"] []
  f__law_stream : Fun K "_law_stream" "_law_stream" s__law_stream A.a__law_stream A.d__law_stream
  g__law_stream : mg "_law_stream" = some (.ref A.a__law_stream)
  b__law_stream : Binds K A.d__law_stream ["_law_script"] []
  f__law_next : Fun K "_law_next" "_law_next" s__law_next A.a__law_next A.d__law_next
  g__law_next : mg "_law_next" = some (.ref A.a__law_next)
  b__law_next : Binds K A.d__law_next ["_law_stream_here", "_law_many"] []
  f__law_is_integer : Fun K "_law_is_integer" "_law_is_integer" s__law_is_integer A.a__law_is_integer A.d__law_is_integer
  g__law_is_integer : mg "_law_is_integer" = some (.ref A.a__law_is_integer)
  b__law_is_integer : Binds K A.d__law_is_integer ["_law_actual"] []
  f__law_equal : Fun K "_law_equal" "_law_equal" s__law_equal A.a__law_equal A.d__law_equal
  g__law_equal : mg "_law_equal" = some (.ref A.a__law_equal)
  b__law_equal : Binds K A.d__law_equal ["_law_actual", "_law_due"] []
  f__law_dice : Fun K "_law_dice" "_law_dice" s__law_dice A.a__law_dice A.d__law_dice
  g__law_dice : mg "_law_dice" = some (.ref A.a__law_dice)
  b__law_dice : Binds K A.d__law_dice ["_law_stream_here"] []
  f__law_roll : Fun K "_law_roll" "_law_roll" s__law_roll A.a__law_roll A.d__law_roll
  g__law_roll : mg "_law_roll" = some (.ref A.a__law_roll)
  b__law_roll : Binds K A.d__law_roll ["_law_dice_here", "_law_n"] []
  f_law : Fun K "law" "law" s_law A.a_law A.d_law
  g_law : mg "law" = some (.ref A.a_law)
  b_law : Binds K A.d_law ["_law_script"] []
  m_abs : mg "abs" = none
  m_all : mg "all" = none
  m_bool : mg "bool" = none
  m_int : mg "int" = none
  m_isinstance : mg "isinstance" = none
  m_len : mg "len" = none
  m_list : mg "list" = none
  m_range : mg "range" = none
  m_str : mg "str" = none
  m_tuple : mg "tuple" = none
  c_FACTOR : GlV K mg "FACTOR" (V.int (40014))
  c_MOST_DRAWS : GlV K mg "MOST_DRAWS" (V.int (8))
  c_MOST_ITEMS : GlV K mg "MOST_ITEMS" (V.int (64))
  c_PRIME : GlV K mg "PRIME" (V.int (2147483563))
section
variable {P : Program} {w : World} {K : PySem.W.Frag} {mg : Str → Option Value} {base : Heap} {A : Ad}
/-! ### whole numbers -/
def P_is_whole (K : PySem.W.Frag) : V → Hp → VK → XK → Prop := fun x H Q E => (NotInt K H x ∧ Q (.bl false) H) ∨ ∃ i : Int, x = .int i ∧ Q (.bl true) H
theorem ok_is_whole (T : Tx K mg A) : FnOk P w K mg base CX0 1 A.a_is_whole A.d_is_whole ["value"] (sp1 (P_is_whole K)) := by
  refine ok1 T.f_is_whole sc_is_whole (fun cdv A' outer s H x0 Q E hr h => ⟨_, (pss_one (ps_ret (qe_B (qb_and (qb_val (k_isi (K := K) rfl Ty.int (by rfl) T.m_isinstance (by rfl) T.m_int (qv 0))) (qb_and1 (qb_notB (qb_val (k_isi (K := K) rfl Ty.bool (by rfl) T.m_isinstance (by rfl) T.m_bool (qv 0))))))))), ?_⟩)
  try dsimp only [L2.cxOf]
  rcases h with ⟨n, h⟩ | ⟨i, rfl, h⟩
  · cases x0 with
    | ref p =>
      obtain ⟨U, hU⟩ := n
      walk_at "w"
      refine ⟨U, hU, ?_⟩
      cases U <;> first | exact hU.elim | walk_at "g"
    | int i => exact n.elim
    | bl i => walk_at "g"
    | str i => walk_at "g"
    | non => walk_at "g"
    | _ => exact n.elim
  · walk_at "g"
/-- only ints come -/
def P_check_whole (K : PySem.W.Frag) : V → V → Hp → VK → XK → Prop := fun x _ H Q E => match x with
  | .int _ => Q .non H
  | _ => False
def P_is_between (K : PySem.W.Frag) : V → V → V → Hp → VK → XK → Prop := fun x lo hi H Q E => ∃ a b : Int, lo = .int a ∧ hi = .int b ∧ ((NotInt K H x ∧ Q (.bl false) H) ∨ ∃ i : Int, x = .int i ∧ ∀ r : Bool, (r = true ↔ a ≤ i ∧ i ≤ b) → Q (.bl r) H)
theorem ok_is_between (T : Tx K mg A) (G_is_whole : FnOk P w K mg base CX0 1 A.a_is_whole A.d_is_whole ["value"] (sp1 (P_is_whole K))) : FnOk P w K mg base CX0 2 A.a_is_between A.d_is_between ["value", "low", "high"] (sp3 (P_is_between K)) := by
  refine ok3 T.f_is_between sc_is_between (fun cdv A' outer s H x0 x1 x2 Q E hr h => ⟨_, (pss_one (ps_ret (qe_B (qb_and (qb_val (pe_call G_is_whole (hr.mono (by omega)) (by rfl) T.g_is_whole T.f_is_whole.kp T.b_is_whole .nil pass0 (pa_cons (qv 0) pa_nil))) (qb_and1 (qb_chain o_le o_le (qv 1) (qv 0) (qv 2))))))), ?_⟩)
  try dsimp only [L2.cxOf]
  obtain ⟨a, b, rfl, rfl, ⟨n, h⟩ | ⟨i, rfl, h⟩⟩ := h
  · walk_at "g"
  · walk_at "g"

/-! ### the mathematics of the dice -/
/-- powers of 40014 in the rest by 2147483563, by halving -/
def lp : Nat → Nat → Nat → Nat → Nat
  | 0, a, _, _ => a
  | f + 1, a, b, n => if n = 0 then a else lp f (if n % 2 = 1 then a * b % 2147483563 else a) (b * b % 2147483563) (n / 2)
theorem lp_ok : ∀ (f a b n : Nat), n < 2 ^ f → lp f a b n % 2147483563 = a * b ^ n % 2147483563 := by
  intro f
  induction f with
  | zero =>
    intro a b n hn
    have e : n = 0 := by omega
    subst e
    simp [lp]
  | succ f ih =>
    intro a b n hn
    unfold lp
    by_cases h0 : n = 0
    · subst h0
      simp
    · rw [if_neg h0, ih _ _ _ (by rw [Nat.pow_succ] at hn; omega)]
      have hb : (b * b % 2147483563) ^ (n / 2) % 2147483563 = b ^ (2 * (n / 2)) % 2147483563 := by
        rw [← Nat.pow_mod, Nat.pow_mul, Nat.pow_two]
      by_cases h1 : n % 2 = 1
      · rw [if_pos h1, Nat.mul_mod, hb, ← Nat.mul_mod, Nat.mul_mod, Nat.mod_mod, ← Nat.mul_mod]
        have e : n = 2 * (n / 2) + 1 := by omega
        conv => rhs; rw [e, Nat.pow_succ]
        congr 1
        rw [Nat.mul_assoc, Nat.mul_comm b]
      · rw [if_neg h1, Nat.mul_mod, hb, ← Nat.mul_mod]
        have e : n = 2 * (n / 2) := by omega
        conv => rhs; rw [e]
theorem pow_period : 40014 ^ 2147483562 % 2147483563 = 1 := by
  have h := lp_ok 32 1 40014 2147483562 (by decide)
  rw [Nat.one_mul] at h
  rw [← h]
  decide +kernel

/-- the dice after k draws -/
def lz (d k : Nat) : Nat := d * 40014 ^ k % 2147483563
theorem lz_zero {d : Nat} (h : d < 2147483563) : lz d 0 = d := by
  unfold lz
  rw [Nat.pow_zero, Nat.mul_one, Nat.mod_eq_of_lt h]
theorem lz_add (d j k : Nat) : lz (lz d j) k = lz d (j + k) := by
  unfold lz
  rw [Nat.mul_mod, Nat.mod_mod, ← Nat.mul_mod, Nat.mul_assoc, ← Nat.pow_add]
theorem lz_period (d j : Nat) : lz d (j + 2147483562) = lz d j := by
  unfold lz
  rw [Nat.pow_add, ← Nat.mul_assoc, Nat.mul_mod, pow_period, Nat.mul_one, Nat.mod_mod]
theorem lz_periods (d j c : Nat) : lz d (j + c * 2147483562) = lz d j := by
  induction c with
  | zero => simp
  | succ c ih => rw [Nat.succ_mul, ← Nat.add_assoc, lz_period, ih]
theorem lz_mod (d j : Nat) : lz d (j % 2147483562) = lz d j := by
  have h := lz_periods d (j % 2147483562) (j / 2147483562)
  rw [show j % 2147483562 + j / 2147483562 * 2147483562 = j by omega] at h
  exact h.symm
theorem lz_lt (d k : Nat) : lz d k < 2147483563 := Nat.mod_lt _ (by decide)
theorem lz_back {d : Nat} (h : d < 2147483563) (k : Nat) : lz (lz d k) (k * 2147483561) = d := by
  rw [lz_add, show k + k * 2147483561 = 0 + k * 2147483562 by omega, lz_periods, lz_zero h]
theorem lz_pos {d : Nat} (h0 : 0 < d) (h : d < 2147483563) (k : Nat) : 0 < lz d k := by
  refine Nat.pos_of_ne_zero fun e => ?_
  have hb := lz_back h k
  rw [e] at hb
  unfold lz at hb
  rw [Nat.zero_mul] at hb
  omega
theorem lz_one (d : Nat) : ((lz d 1 : Nat) : Int) = ((d : Int) * 40014).fmod 2147483563 := by
  unfold lz
  rw [Int.fmod_eq_emod_of_nonneg _ (by decide), Nat.pow_one]
  rfl
/-! the defs -/
def IsDice (d : Nat) : Prop := 1 ≤ d ∧ d ≤ 2147483562
theorem lz_mul (d j m : Nat) : ((lz d j : Nat) * (lz 1 m : Nat) : Int).fmod 2147483563 = ((lz d (j + m) : Nat) : Int) := by
  rw [Int.fmod_eq_emod_of_nonneg _ (by decide)]
  have e : lz d j * lz 1 m % 2147483563 = lz d (j + m) := by
    unfold lz
    rw [← Nat.mul_mod, Nat.one_mul, Nat.mul_assoc, ← Nat.pow_add]
  rw [← e]
  rfl
theorem IsDice.lz {d : Nat} (h : IsDice d) (k : Nat) : IsDice (lz d k) := by
  have h1 := lz_pos (d := d) (by have := h.1; omega) (by have := h.2; omega) k
  have h2 := lz_lt d k
  exact ⟨by omega, by omega⟩
theorem IsDice.lt {d : Nat} (h : IsDice d) : d < 2147483563 := by
  have := h.2
  omega
theorem lz_addi (d : Nat) (m n : Int) : lz (lz d (m % 2147483562).toNat) (n % 2147483562).toNat = lz d ((m + n) % 2147483562).toNat := by
  rw [lz_add, ← lz_mod]
  congr 1
  omega
theorem lz_cast (d M : Nat) : lz d ((M : Int) % 2147483562).toNat = lz d M := by
  rw [← lz_mod d M]
  congr 1
theorem lz_neg {d : Nat} (h : d < 2147483563) (M : Nat) : lz (lz d M) ((0 - (M : Int)) % 2147483562).toNat = d := by
  rw [← lz_cast d M, lz_addi, show ((M : Int) + (0 - M)) % 2147483562 = 0 by omega]
  exact lz_zero h
def P_is_dice (K : PySem.W.Frag) : V → Hp → VK → XK → Prop := fun x H Q E => (NotInt K H x ∧ Q (.bl false) H) ∨ ∃ i : Int, x = .int i ∧ ∀ r : Bool, (r = true ↔ 1 ≤ i ∧ i ≤ 2147483562) → Q (.bl r) H
theorem ok_is_dice (T : Tx K mg A) (G_is_between : FnOk P w K mg base CX0 2 A.a_is_between A.d_is_between ["value", "low", "high"] (sp3 (P_is_between K))) : FnOk P w K mg base CX0 3 A.a_is_dice A.d_is_dice ["value"] (sp1 (P_is_dice K)) := by
  refine ok1 T.f_is_dice sc_is_dice (fun cdv A' outer s H x0 Q E hr h => ⟨_, (pss_one (ps_ret (pe_call G_is_between (hr.mono (by omega)) (by rfl) T.g_is_between T.f_is_between.kp T.b_is_between .nil pass0 (pa_cons (qv 0) (pa_cons pe_int (pa_cons (pe_op op_subM (pe_glE (by rfl) T.c_PRIME) pe_int) pa_nil)))))), ?_⟩)
  try dsimp only [L2.cxOf]
  rcases h with ⟨n, h⟩ | ⟨i, rfl, h⟩
  · walk_at "g"
  · walk_at "g"
    rename_i r hr
    exact h r (by rw [hr]; omega)
def P_check_dice (K : PySem.W.Frag) : V → Hp → VK → XK → Prop := fun x H Q E => ∃ d : Nat, x = .int d ∧ IsDice d ∧ Q .non H
theorem ok_check_dice (T : Tx K mg A) (G_is_dice : FnOk P w K mg base CX0 3 A.a_is_dice A.d_is_dice ["value"] (sp1 (P_is_dice K))) : FnOk P w K mg base CX0 4 A.a_check_dice A.d_check_dice ["value"] (sp1 (P_check_dice K)) := by
  refine ok1 T.f_check_dice sc_check_dice (fun cdv A' outer s H x0 Q E hr h => ⟨_, (pss_one (qif (qp_not (pp_B (qb_val (pe_call G_is_dice (hr.mono (by omega)) (by rfl) T.g_is_dice T.f_is_dice.kp T.b_is_dice .nil pass0 (pa_cons (qv 0) pa_nil))))) (pss_one ps_never) pss_nil)), ?_⟩)
  try dsimp only [L2.cxOf]
  obtain ⟨d, rfl, ⟨h1, h2⟩, h⟩ := h
  walk_at "g"
def P_following (K : PySem.W.Frag) : V → Hp → VK → XK → Prop := fun x H Q E => ∃ d : Nat, x = .int d ∧ Q (.int (lz d 1 : Nat)) H
theorem ok_following (T : Tx K mg A) : FnOk P w K mg base CX0 1 A.a_following A.d_following ["dice"] (sp1 (P_following K)) := by
  refine ok1 T.f_following sc_following (fun cdv A' outer s H x0 Q E hr h => ⟨_, (pss_one (ps_ret (pe_op op_modM (pe_op (k_mulM (K := K) rfl) (qv 0) (pe_glE (by rfl) T.c_FACTOR)) (pe_glE (by rfl) T.c_PRIME)))), ?_⟩)
  try dsimp only [L2.cxOf]
  obtain ⟨d, rfl, h⟩ := h
  rw [lz_one] at h
  walk_at "g"

/-! rolls -/
def rlD : Nat → Nat → Nat → Nat
  | 0, d, _ => d
  | k + 1, d, L => if lz d 1 ≤ L then lz d 1 else rlD k (lz d 1) L
theorem rlD_dice {L : Nat} : ∀ (k : Nat) {d : Nat}, IsDice d → IsDice (rlD k d L)
  | 0, d, h => h
  | k + 1, d, h => by
    unfold rlD
    split
    · exact h.lz 1
    · exact rlD_dice k (h.lz 1)
def rl (d n : Nat) : Nat := rlD 8 d (n * (2147483562 / n))
theorem rl_dice {d n : Nat} (h : IsDice d) : IsDice (rl d n) := rlD_dice 8 h
def P_roll (K : PySem.W.Frag) : V → V → Hp → VK → XK → Prop := fun x y H Q E => ∃ d n : Nat, x = .int d ∧ y = .int n ∧ IsDice d ∧ 1 ≤ n ∧ n ≤ 100000 ∧
  ∀ p H', New H H' p (.tup [.int ((((rl d n : Nat) : Int) - 1).fmod n), .int (rl d n : Nat)]) → Q (.ref p) H'
theorem ok_roll (T : Tx K mg A) (G_following : FnOk P w K mg base CX0 1 A.a_following A.d_following ["dice"] (sp1 (P_following K))) : FnOk P w K mg base CX0 2 A.a_roll A.d_roll ["dice", "n"] (sp2 (P_roll K)) := by
  refine ok2 T.f_roll sc_roll (fun cdv A' outer s H x0 x1 Q E hr h => ⟨_, (pss_cons (qset (i := 2) sc_roll.nd rfl (Or.inl rfl) (pe_op (k_mulM (K := K) rfl) (qv 1) (pe_op op_fdivM (pe_op op_subM (pe_glE (by rfl) T.c_PRIME) pe_int) (qv 1))))
      (pss_cons (ps_for PassesOwn.never rfl (qi_range1 (by rfl) T.m_range (pa_cons (pe_glE (by rfl) T.c_MOST_DRAWS) pa_nil)) (qgn (i := 3) sc_roll.nd rfl (Or.inl rfl)) (pss_cons (qset (i := 0) sc_roll.nd rfl (Or.inl rfl) (pe_call G_following (hr.mono (by omega)) (by rfl) T.g_following T.f_following.kp T.b_following .nil pass0 (pa_cons (qv 0) pa_nil)))
      (pss_one (qif (pp_cmp o_le (qv 0) (qv 2) (nomark _)) (pss_one ps_break) pss_nil))))
      (pss_one (ps_ret (q_tup (pa_cons (pe_op op_modM (pe_callTy c_int (by rfl) T.m_int (by decide +kernel) (pa_cons (pe_op op_subM (qv 0) pe_int) pa_nil)) (qv 1)) (pa_cons (qv 0) pa_nil))))))), ?_⟩)
  try dsimp only [L2.cxOf]
  obtain ⟨d, n, rfl, rfl, hd, hn1, hn2, h⟩ := h
  have hlog := log2_small (m := n) (by omega) (by omega)
  have e : ((2147483563 : Int) - 1).fdiv n = ((2147483562 / n : Nat) : Int) := by
    rw [Int.fdiv_eq_ediv_of_nonneg _ (by omega)]
    rfl
  have hq : 2147483562 / n ≤ 2147483562 := Nat.div_le_self _ _
  unfold rl at h
  walk_at "g"
  rw [e]
  generalize 2147483562 / n = q at *
  walk_at "g"
  walk_at "w"
  generalize hR : rlD 8 d (n * q) = R at h
  refine for_range (lo := 0) (n := 8) (fun i σ' H' => H = H' ∧ ∃ (c : Nat) (k : Option V), σ' = [some (.int c), some (.int n), some (.int (n * q : Nat)), k] ∧ rlD (8 - i) c (n * q) = R) ⟨rfl, d, none, rfl, hR⟩ ?_ ?_
  · rintro i σ' H' hi ⟨rfl, c, k, rfl, e⟩
    obtain ⟨f, hf⟩ : ∃ f, 8 - i = f + 1 := ⟨7 - i, by omega⟩
    rw [hf] at e
    unfold rlD at e
    have hc := lz_lt c 1
    walk_at "w"
    refine ⟨c, rfl, ?_⟩
    walk_at "w"
    refine ⟨fun hcc => ?_, fun hcc => ?_⟩
    · rw [if_pos (by omega)] at e
      subst e
      walk_at "g"
    · rw [if_neg (by omega)] at e
      walk_at "g"
      refine ⟨_, _, rfl, ?_⟩
      rw [show 8 - (i + 1) = f by omega]
      exact e
  · rintro σ' H' ⟨rfl, c, k, rfl, e⟩
    rw [Nat.sub_self] at e
    unfold rlD at e
    subst e
    walk_at "g"

/-! ### the stream of digits: what is drawn is any number below the one that is asked -/
def P__law_stream (K : PySem.W.Frag) : V → Hp → VK → XK → Prop := fun x H Q E => ∃ (a : Addr) (ns : List Int), x = .ref a ∧ SqL K H a (ns.map V.int) ∧ NoT H ∧ ∀ (st : Addr) (H' : Hp), H st = none → Same H H' → StrAt H' st → Q (.ref st) H'
theorem ok__law_stream (T : Tx K mg A) : FnOk P w K mg base CX0 1 A.a__law_stream A.d__law_stream ["_law_script"] (sp1 (P__law_stream K)) := by
  refine ok1 T.f__law_stream sc__law_stream (fun cdv A' outer s H x0 Q E hr h => ⟨_, (pss_one (ps_ret (q_lst (pa_cons (pe_callTy (k_list (K := K) rfl) (by rfl) T.m_list (by decide +kernel) (pa_cons (qv 0) pa_nil)) (pa_cons pe_int (pa_cons pe_int pa_nil)))))), ?_⟩)
  try dsimp only [L2.cxOf]
  obtain ⟨a, ns, rfl, hS, hN, h⟩ := h
  walk_at "g"
  refine fun l H1 n1 => ?_
  walk_at "g"
  refine fun p H2 n2 => ?_
  refine h p _ (n1.same.free n2.nw) (fun b u e => n2.same _ _ (n1.same _ _ e)) ⟨l, ns, 0, 0, ⟨n2.at_, n2.same _ _ n1.at_, by omega⟩, (hN.newL n1).newL n2⟩
/-- the next digit below many -/
def P__law_next (K : PySem.W.Frag) : V → V → Hp → VK → XK → Prop := fun x y H Q E => ∃ (st : Addr) (many : Int), x = .ref st ∧ y = .int many ∧ StrAt H st ∧ 0 < many ∧ many < 10 ^ 100 ∧
  ∀ (d : Int) (H' : Hp), 0 ≤ d → d < many → StrAt H' st → StFr st H H' → Q (.int d) H'
theorem ok__law_next (T : Tx K mg A) : FnOk P w K mg base CX0 1 A.a__law_next A.d__law_next ["_law_stream_here", "_law_many"] (sp2 (P__law_next K)) := by
  refine ok2 T.f__law_next sc__law_next (fun cdv A' outer s H x0 x1 Q E hr h => ⟨_, (pss_cons (qjoin (qif (pp_cmp (k_eq (K := K) rfl hr.units) (pe_ix (k_ix (K := K) rfl) (qv 0) pe_int (fun _ _ => rfl)) pe_int (nomark _)) (pss_cons (qset (i := 2) sc__law_next.nd rfl (Or.inl rfl) (pe_ix (k_ix (K := K) rfl) (qv 0) pe_int (fun _ _ => rfl)))
      (pss_cons (qset (i := 3) sc__law_next.nd rfl (Or.inl rfl) (pe_op (k_addM (K := K) rfl) pe_int (qv 2)))
      (pss_cons (qjoin (qif (pp_cmp o_lt (qv 2) (pe_callB (k_len (K := K) rfl) (by rfl) T.m_len (by decide +kernel) (pa_cons (pe_ix (k_ix (K := K) rfl) (qv 0) pe_int (fun _ _ => rfl)) pa_nil)) (nomark _)) (pss_one (qset (i := 3) sc__law_next.nd rfl (Or.inl rfl) (pe_callB c_abs (by rfl) T.m_abs (by decide +kernel) (pa_cons (pe_ix (k_ix (K := K) rfl) (pe_ix (k_ix (K := K) rfl) (qv 0) pe_int (fun _ _ => rfl)) (qv 2) (fun _ _ => rfl)) pa_nil)))) pss_nil))
      (pss_cons (qjoin (qif (pp_cmp o_lt (qv 3) (qpowc (v := 1000000000000000000) (by decide +kernel)) (nomark _)) (pss_cons (qset (i := 3) sc__law_next.nd rfl (Or.inl rfl) (pe_op op_modM (pe_callTy c_int (by rfl) T.m_int (by decide +kernel) (pa_cons (pe_op (k_addM (K := K) rfl) (pe_op (k_addM (K := K) rfl) (pe_op (k_mulM (K := K) rfl) (qv 3) pe_int) (pe_op (k_mulM (K := K) rfl) (qv 2) pe_int)) pe_int) pa_nil)) pe_int))
      (pss_one (qset (i := 3) sc__law_next.nd rfl (Or.inl rfl) (pe_op (k_addM (K := K) rfl) (pe_op (k_mulM (K := K) rfl) (pe_op op_modM (pe_callTy c_int (by rfl) T.m_int (by decide +kernel) (pa_cons (pe_op (k_addM (K := K) rfl) (pe_op (k_mulM (K := K) rfl) (qv 3) pe_int) pe_int) pa_nil)) pe_int) pe_int) (qv 3))))) pss_nil))
      (pss_cons (ps_asg (qv 3) (pg_sub (qv 0) pe_int set_M))
      (pss_one (ps_asg (pe_op (k_addM (K := K) rfl) (qv 2) pe_int) (pg_sub (qv 0) pe_int set_M)))))))) pss_nil))
      (pss_cons (qset (i := 4) sc__law_next.nd rfl (Or.inl rfl) (pe_op op_modM (pe_callTy c_int (by rfl) T.m_int (by decide +kernel) (pa_cons (pe_ix (k_ix (K := K) rfl) (qv 0) pe_int (fun _ _ => rfl)) pa_nil)) (qv 1)))
      (pss_cons (ps_asg (pe_op op_fdivM (pe_ix (k_ix (K := K) rfl) (qv 0) pe_int (fun _ _ => rfl)) (qv 1)) (pg_sub (qv 0) pe_int set_M))
      (pss_one (ps_ret (qv 4)))))), ?_⟩)
  try dsimp only [L2.cxOf]
  obtain ⟨st, many, rfl, rfl, ⟨L, ns, c, k, ⟨hst, hL, hk⟩, hN⟩, hm, hl, h⟩ := h
  have hLs := st_ne_L hst hL
  have hsL := SqL.of (K := K) hL
  walk_at "w"
  -- behind the first if
  refine ⟨fun σ' H' => ∃ a b c' k', σ' = [some (.ref st), some (.int many), a, b, none] ∧ (0 : Int) ≤ k' ∧ H' = upd H st (.lst [.ref L, .int c', .int k']), ?_, ?_⟩
  · walk_at "g"
    walk_at "w"
    refine ⟨fun _ => ?_, fun _ => ⟨none, none, c, k, rfl, hk, (upd_self hst).symm⟩⟩
    walk_at "g"
    walk_at "w"
    -- if k < len: cell = abs(script[k])
    refine ⟨fun σ' H' => ∃ c' : Int, σ' = [some (.ref st), some (.int many), some (.int k), some (.int c'), none] ∧ H = H', ?_, ?_⟩
    · walk_at "g"
      walk_at "w"
      refine ⟨fun hc => ?_, fun hc => ⟨_, rfl, rfl⟩⟩
      have hc : k < ((ns.map V.int).length : Nat) := hc
      rw [List.length_map] at hc
      have e := atI_ge hk (map_at (ns := ns) (i := k.toNat) (by omega))
      walk_at "g"
      exact ⟨_, rfl, rfl⟩
    · rintro σ' H' ⟨c', rfl, rfl⟩
      walk_at "w"
      -- if cell < 10 ** 18
      refine ⟨fun σ' H'' => ∃ c' : Int, σ' = [some (.ref st), some (.int many), some (.int k), some (.int c'), none] ∧ H = H'', ?_, ?_⟩
      · walk_at "g"
        walk_at "w"
        refine ⟨fun _ => ?_, fun _ => ⟨_, rfl, rfl⟩⟩
        walk_at "g"
        exact ⟨_, rfl, rfl⟩
      · rintro σ'' H'' ⟨c2, rfl, rfl⟩
        walk_at "g"
        refine fun H1 w1 => ?_
        walk_at "g"
        refine fun H2 w2 => ?_
        refine ⟨some (.int k), some (.int c2), c2, k + 1, rfl, by omega, ?_⟩
        rw [w2.eq, w1.eq, upd_upd]
        rfl
  · rintro σ' H' ⟨a, b, c', k', rfl, hk', rfl⟩
    have hlog := log2_small hm hl
    walk_at "g"
    refine fun H2 w2 => ?_
    walk_at "w"
    have e : (c' : Int).fmod many = c' % many := Int.fmod_eq_emod_of_nonneg _ (by omega)
    refine h (c'.fmod many) _ (by rw [e]; exact Int.emod_nonneg _ (by omega)) (by rw [e]; exact Int.emod_lt_of_pos _ hm) ⟨L, ns, _, k', ⟨w2.at_, ?_, hk'⟩, (hN.upd (by trivial)).wrL w2⟩ ⟨fun q o hq e => ?_, fun L' c2 k2 e2 => ?_⟩
    · rw [w2.oth L hLs, upd_ne hLs]
      exact hL
    · rw [w2.oth q hq, upd_ne hq]
      exact e
    · rw [w2.at_] at e2
      cases e2
      exact ⟨_, _, hst⟩
def P__law_is_integer (K : PySem.W.Frag) : V → Hp → VK → XK → Prop := P_is_whole K
theorem ok__law_is_integer (T : Tx K mg A) : FnOk P w K mg base CX0 1 A.a__law_is_integer A.d__law_is_integer ["_law_actual"] (sp1 (P__law_is_integer K)) := by
  refine ok1 T.f__law_is_integer sc__law_is_integer (fun cdv A' outer s H x0 Q E hr h => ⟨_, (pss_one (ps_ret (qe_B (qb_and (qb_val (k_isi (K := K) rfl Ty.int (by rfl) T.m_isinstance (by rfl) T.m_int (qv 0))) (qb_and1 (qb_notB (qb_val (k_isi (K := K) rfl Ty.bool (by rfl) T.m_isinstance (by rfl) T.m_bool (qv 0))))))))), ?_⟩)
  try dsimp only [L2.cxOf]
  rcases h with ⟨n, h⟩ | ⟨i, rfl, h⟩
  · cases x0 with
    | ref p =>
      obtain ⟨U, hU⟩ := n
      walk_at "w"
      refine ⟨U, hU, ?_⟩
      cases U <;> first | exact hU.elim | walk_at "g"
    | int i => exact n.elim
    | bl i => walk_at "g"
    | str i => walk_at "g"
    | non => walk_at "g"
    | _ => exact n.elim
  · walk_at "g"

def P__law_dice (K : PySem.W.Frag) : V → Hp → VK → XK → Prop := fun x H Q E => ∃ st : Addr, x = .ref st ∧ StrAt H st ∧ ∀ (d : Nat) H', IsDice d → StrAt H' st → StFr st H H' → Q (.int d) H'
theorem ok__law_dice (T : Tx K mg A) (G__law_next : FnOk P w K mg base CX0 1 A.a__law_next A.d__law_next ["_law_stream_here", "_law_many"] (sp2 (P__law_next K))) : FnOk P w K mg base CX0 2 A.a__law_dice A.d__law_dice ["_law_stream_here"] (sp1 (P__law_dice K)) := by
  refine ok1 T.f__law_dice sc__law_dice (fun cdv A' outer s H x0 Q E hr h => ⟨_, (pss_cons (qset (i := 1) sc__law_dice.nd rfl (Or.inl rfl) (pe_call G__law_next (hr.mono (by omega)) (by rfl) T.g__law_next T.f__law_next.kp T.b__law_next .nil pass0 (pa_cons (qv 0) (pa_cons pe_int pa_nil))))
      (pss_cons (qif (pp_cmp o_lt (qv 1) pe_int (nomark _)) (pss_one (ps_ret (pe_ix (k_ix (K := K) rfl) (q_lst (pa_cons pe_int (pa_cons pe_int pa_nil))) (qv 1) (fun _ _ => rfl)))) pss_nil)
      (pss_one (ps_ret (pe_op (k_addM (K := K) rfl) pe_int (pe_call G__law_next (hr.mono (by omega)) (by rfl) T.g__law_next T.f__law_next.kp T.b__law_next .nil pass0 (pa_cons (qv 0) (pa_cons pe_int pa_nil)))))))), ?_⟩)
  try dsimp only [L2.cxOf]
  obtain ⟨st, rfl, S, h⟩ := h
  walk_at "g"
  refine fun e H1 e0 e1 S1 f1 => ?_
  walk_at "gs"
  · refine fun p H2 n2 => ?_
    have n2a := n2.at_
    rcases (by omega : e = 0 ∨ e = 1) with rfl | rfl
    · walk_at "g"
      exact h 1 H2 ⟨by decide, by decide⟩ (by walk_at "stat") (f1.trans (StFr.new n2 S1))
    · walk_at "g"
      exact h 2147483562 H2 ⟨by decide, by decide⟩ (by walk_at "stat") (f1.trans (StFr.new n2 S1))
  · refine fun d H2 d0 d1 S2 f2 => ?_
    have h3 := h (1 + d).toNat H2 ⟨by omega, by omega⟩ S2 (f1.trans f2)
    rw [Int.toNat_of_nonneg (by omega)] at h3
    walk_at "g"

/-! shuffles -/
/-- exchange of the places i and j -/
def swp (xs : List V) (i j : Nat) : List V := (xs.set i (xs.getD j .non)).set j (xs.getD i .non)
/-- k turns of the shuffle, from the place k downwards -/
def shu : Nat → Nat → List V → List V × Nat
  | 0, d, xs => (xs, d)
  | k + 1, d, xs => shu k (rl d (k + 2)) (swp xs (k + 1) ((rl d (k + 2) - 1) % (k + 2)))
def P_shuffled (K : PySem.W.Frag) : V → V → Hp → VK → XK → Prop := fun x y H Q E => ∃ (d : Nat) (p : Addr) (xs : List V), x = .int d ∧ y = .ref p ∧ IsDice d ∧ SqT K H p xs ∧ xs.length ≤ 64 ∧ NoT H ∧
  ∀ t r H', Same H H' → NoT H' → SqT K H' t (shu (xs.length - 1) d xs).1 → SqT K H' r [.ref t, .int ((shu (xs.length - 1) d xs).2 : Nat)] → Q (.ref r) H'
theorem ok_shuffled (T : Tx K mg A) (G_roll : FnOk P w K mg base CX0 2 A.a_roll A.d_roll ["dice", "n"] (sp2 (P_roll K))) (G_check_dice : FnOk P w K mg base CX0 4 A.a_check_dice A.d_check_dice ["value"] (sp1 (P_check_dice K))) : FnOk P w K mg base CX0 5 A.a_shuffled A.d_shuffled ["dice", "items"] (sp2 (P_shuffled K)) := by
  refine ok2 T.f_shuffled sc_shuffled (fun cdv A' outer s H x0 x1 Q E hr h => ⟨_, (pss_cons (ps_expr (pe_call G_check_dice (hr.mono (by omega)) (by rfl) T.g_check_dice T.f_check_dice.kp T.b_check_dice .nil pass0 (pa_cons (qv 0) pa_nil)))
      (pss_cons (qif (PPW.pp (qw_or (qp_not (pp_B (qb_val (k_isi (K := K) rfl Ty.tuple (by rfl) T.m_isinstance (by rfl) T.m_tuple (qv 1))))) (qw_or1 (pp_cmp o_gt (pe_callB (k_len (K := K) rfl) (by rfl) T.m_len (by decide +kernel) (pa_cons (qv 1) pa_nil)) (pe_glE (by rfl) T.c_MOST_ITEMS) (nomark _))))) (pss_one ps_never) pss_nil)
      (pss_cons (qset (i := 2) sc_shuffled.nd rfl (Or.inl rfl) (pe_callTy (k_list (K := K) rfl) (by rfl) T.m_list (by decide +kernel) (pa_cons (qv 1) pa_nil)))
      (pss_cons (ps_for PassesOwn.never rfl (pi_range3 (by rfl) T.m_range (pa_cons (pe_op op_subM (pe_callB (k_len (K := K) rfl) (by rfl) T.m_len (by decide +kernel) (pa_cons (qv 2) pa_nil)) pe_int) (pa_cons pe_int (pa_cons (pe_un un_negM pe_int) pa_nil)))) (qgn (i := 3) sc_shuffled.nd rfl (Or.inl rfl)) (pss_cons (ps_asg (pe_call G_roll (hr.mono (by omega)) (by rfl) T.g_roll T.f_roll.kp T.b_roll .nil pass0 (pa_cons (qv 0) (pa_cons (pe_op (k_addM (K := K) rfl) (qv 3) pe_int) pa_nil))) (pg_tup rfl (pgs_cons (qgn (i := 4) sc_shuffled.nd rfl (Or.inl rfl)) (pgs_cons (qgn (i := 0) sc_shuffled.nd rfl (Or.inl rfl)) pgs_nil))))
      (pss_one (ps_asg (q_tup (pa_cons (pe_ix (k_ix (K := K) rfl) (qv 2) (qv 4) (fun _ _ => rfl)) (pa_cons (pe_ix (k_ix (K := K) rfl) (qv 2) (qv 3) (fun _ _ => rfl)) pa_nil))) (pg_tup rfl (pgs_cons (pg_sub (qv 2) (qv 3) set_M) (pgs_cons (pg_sub (qv 2) (qv 4) set_M) pgs_nil)))))))
      (pss_one (ps_ret (q_tup (pa_cons (pe_callTy (k_tuple (K := K) rfl) (by rfl) T.m_tuple (by decide +kernel) (pa_cons (qv 2) pa_nil)) (pa_cons (qv 0) pa_nil))))))))), ?_⟩)
  try dsimp only [L2.cxOf]
  obtain ⟨d, p, xs, rfl, rfl, hd, hp, hl, hN, h⟩ := h
  walk_at "w"
  refine ⟨d, rfl, hd, ?_⟩
  walk_at "gs"
  refine fun L H1 n1 => ?_
  walk_at "g"
  walk_at "w"
  obtain ⟨n, hn⟩ : ∃ n, n = xs.length - 1 := ⟨_, rfl⟩
  have hrg : RgC ((xs.length : Int) - 1) 0 (-1) n := by
    have e := RgC.neg (i := (xs.length : Int) - 1) (j := 0) (by omega) (by omega) (by omega) (by omega)
    rw [show ((xs.length : Int) - 1 - 0).toNat = n by omega] at e
    exact e
  rw [← hn] at h
  refine ⟨_, _, _, n, rfl, hrg, ?_⟩
  generalize hR : shu n d xs = R at h
  refine for_rangeC (lo := (xs.length : Int) - 1) (c := -1) (n := n) (fun i σ' H' => ∃ (c : Nat) (ys : List V) (b1 b2 : Option V), σ' = [some (.int c), some (.ref p), some (.ref L), b1, b2] ∧ IsDice c ∧ ys.length = xs.length ∧ H' L = some (.lst ys) ∧ Same H H' ∧ NoT H' ∧ shu (n - i) c ys = R) ⟨d, xs, _, _, rfl, hd, rfl, n1.at_, n1.same, by walk_at "not", hR⟩ ?_ ?_
  · rintro i σ' H2 hi ⟨c, ys, b1, b2, rfl, hc, hy, hL, hS, hN2, e⟩
    obtain ⟨k, hk⟩ : ∃ k, n - i = k + 1 := ⟨n - i - 1, by omega⟩
    have hat : ((xs.length : Int) - 1 + (i : Nat) * (-1)) = ((k + 1 : Nat) : Int) := by omega
    rw [hat]
    rw [hk] at e
    unfold shu at e
    walk_at "w"
    refine ⟨c, k + 2, rfl, rfl, hc, by omega, by omega, fun r H3 n3 => ?_⟩
    have hR := rl_dice (n := k + 2) hc
    have ef : ((rl c (k + 2) : Nat) - 1 : Int).fmod ((k + 2 : Nat) : Int) = (((rl c (k + 2) - 1) % (k + 2) : Nat) : Int) := by
      have := hR.1
      rw [Int.fmod_eq_emod_of_nonneg _ (by omega), show ((rl c (k + 2) : Nat) - 1 : Int) = ((rl c (k + 2) - 1 : Nat) : Int) by omega]
      rfl
    rw [ef] at n3
    have ho : (rl c (k + 2) - 1) % (k + 2) < k + 2 := Nat.mod_lt _ (by omega)
    generalize (rl c (k + 2) - 1) % (k + 2) = o at *
    have hr3 := SqT.of (K := K) n3.at_
    have hL3 := n3.keep hL
    walk_at "w"
    refine ⟨_, _, rfl, hr3, rfl, ?_⟩
    walk_at "w"
    refine ⟨_, _, rfl, ?_⟩
    walk_at "w"
    refine ⟨_, _, rfl, ?_⟩
    walk_at "w"
    refine ⟨rfl, ?_⟩
    have ho1 : o < ys.length := by omega
    have hk1 : k + 1 < ys.length := by omega
    have a1 := atI_ge (xs := ys) (k := (o : Int)) (by omega) (List.getElem?_eq_getElem ho1)
    have a2 := atI_ge (xs := ys) (k := ((k + 1 : Nat) : Int)) (by omega) (List.getElem?_eq_getElem hk1)
    walk_at "g"
    refine fun t H4 n4 => ?_
    have t4 := SqT.of (K := K) n4.at_
    have hL4 := n4.keep hL3
    have i2 : ixN ys.length ((k + 1 : Nat) : Int) = some (k + 1) := by
      unfold ixN
      rw [if_pos (by omega), if_pos (by omega)]
      rfl
    have i1 : ixN (ys.set (k + 1) ys[o]).length (o : Int) = some o := by
      unfold ixN
      rw [List.length_set, if_pos (by omega), if_pos (by omega)]
      rfl
    have hsw : swp ys (k + 1) o = (ys.set (k + 1) ys[o]).set o ys[k + 1] := by
      unfold swp
      rw [List.getD_eq_getElem?_getD, List.getD_eq_getElem?_getD, List.getElem?_eq_getElem ho1, List.getElem?_eq_getElem hk1, Option.getD_some, Option.getD_some]
    rw [hsw] at e
    walk_at "w"
    refine ⟨_, _, rfl, t4, rfl, ?_⟩
    walk_at "w"
    refine ⟨_, _, rfl, ?_⟩
    walk_at "w"
    refine ⟨_, hL4, _, i2, fun H5 w5 => ?_⟩
    have hL5 := w5.at_
    walk_at "w"
    refine ⟨_, _, rfl, ?_⟩
    walk_at "w"
    refine ⟨_, hL5, _, i1, fun H6 w6 => ?_⟩
    have hL6 := w6.at_
    walk_at "w"
    refine ⟨rfl, rl c (k + 2), _, _, _, rfl, hR, ?_, hL6, ?_, ?_, ?_⟩
    · rw [List.length_set, List.length_set]
      exact hy
    · refine fun b u eb => ?_
      have hne : b ≠ L := ne_of_none eb n1.nw
      rw [w6.oth b hne, w5.oth b hne]
      exact n4.keep (n3.keep (hS b u eb))
    · exact ((hN2.newT n3).newT n4 |>.wrL w5).wrL w6
    · rw [show n - (i + 1) = k by omega]
      exact e
  · rintro σ' H2 ⟨c, ys, b1, b2, rfl, hc, hy, hL, hS, hN2, e⟩
    rw [Nat.sub_self] at e
    unfold shu at e
    subst e
    walk_at "g"
    walk_at "w"
    refine ⟨ys, .inl ⟨SqL.of hL, fun t H3 n3 => ?_⟩⟩
    walk_at "g"
    refine fun r H4 n4 => ?_
    exact h t r H4 (fun b u e => n4.keep (n3.keep (hS b u e))) ((hN2.newT n3).newT n4) (SqT.of (n4.keep n3.at_)) (SqT.of n4.at_)

def P__law_roll (K : PySem.W.Frag) : V → V → Hp → VK → XK → Prop := P_roll K
theorem ok__law_roll (T : Tx K mg A) : FnOk P w K mg base CX0 1 A.a__law_roll A.d__law_roll ["_law_dice_here", "_law_n"] (sp2 (P__law_roll K)) := by
  refine ok2 T.f__law_roll sc__law_roll (fun cdv A' outer s H x0 x1 Q E hr h => ⟨_, (pss_cons (qset (i := 2) sc__law_roll.nd rfl (Or.inl rfl) (pe_op (k_mulM (K := K) rfl) (qv 1) (pe_op op_fdivM pe_int (qv 1))))
      (pss_cons (ps_for PassesOwn.never rfl (qi_range1 (by rfl) T.m_range (pa_cons pe_int pa_nil)) (qgn (i := 3) sc__law_roll.nd rfl (Or.inl rfl)) (pss_cons (qset (i := 0) sc__law_roll.nd rfl (Or.inl rfl) (pe_op op_modM (pe_callTy c_int (by rfl) T.m_int (by decide +kernel) (pa_cons (pe_op (k_mulM (K := K) rfl) (qv 0) pe_int) pa_nil)) pe_int))
      (pss_one (qif (pp_cmp o_le (qv 0) (qv 2) (nomark _)) (pss_one ps_break) pss_nil))))
      (pss_one (ps_ret (q_tup (pa_cons (pe_op op_modM (pe_callTy c_int (by rfl) T.m_int (by decide +kernel) (pa_cons (pe_op op_subM (qv 0) pe_int) pa_nil)) (qv 1)) (pa_cons (qv 0) pa_nil))))))), ?_⟩)
  try dsimp only [L2.cxOf]
  obtain ⟨d, n, rfl, rfl, hd, hn1, hn2, h⟩ := h
  have hlog := log2_small (m := n) (by omega) (by omega)
  have e : (2147483562 : Int).fdiv n = ((2147483562 / n : Nat) : Int) := by
    rw [Int.fdiv_eq_ediv_of_nonneg _ (by omega)]
    rfl
  have hq : 2147483562 / n ≤ 2147483562 := Nat.div_le_self _ _
  unfold rl at h
  walk_at "g"
  rw [e]
  generalize 2147483562 / n = q at *
  walk_at "g"
  walk_at "w"
  generalize hR : rlD 8 d (n * q) = R at h
  refine for_range (lo := 0) (n := 8) (fun i σ' H' => H = H' ∧ ∃ (c : Nat) (k : Option V), σ' = [some (.int c), some (.int n), some (.int (n * q : Nat)), k] ∧ c < 2147483563 ∧ rlD (8 - i) c (n * q) = R) ⟨rfl, d, none, rfl, hd.lt, hR⟩ ?_ ?_
  · rintro i σ' H' hi ⟨rfl, c, k, rfl, hc0, e⟩
    obtain ⟨f, hf⟩ : ∃ f, 8 - i = f + 1 := ⟨7 - i, by omega⟩
    rw [hf] at e
    unfold rlD at e
    have hc := lz_lt c 1
    walk_at "g"
    rw [← lz_one]
    walk_at "w"
    refine ⟨fun hcc => ?_, fun hcc => ?_⟩
    · rw [if_pos (by omega)] at e
      subst e
      walk_at "g"
    · rw [if_neg (by omega)] at e
      walk_at "g"
      refine ⟨_, _, rfl, hc, ?_⟩
      rw [show 8 - (i + 1) = f by omega]
      exact e
  · rintro σ' H' ⟨rfl, c, k, rfl, hc0, e⟩
    rw [Nat.sub_self] at e
    unfold rlD at e
    subst e
    walk_at "g"
def P__law_before (K : PySem.W.Frag) : V → Hp → VK → XK → Prop := fun x H Q E => ∃ d : Nat, x = .int d ∧ IsDice d ∧ ∀ d' : Nat, IsDice d' → Q (.int d') H
def P_rolled (K : PySem.W.Frag) : V → V → Hp → VK → XK → Prop := fun x y H Q E => ∃ d n : Nat, x = .int d ∧ y = .int n ∧ IsDice d ∧ 1 ≤ n ∧ n ≤ 65536 ∧
  ∀ p H', New H H' p (.tup [.int ((((rl d n : Nat) : Int) - 1).fmod n), .int (rl d n : Nat)]) → Q (.ref p) H'
def P_eqn (K : PySem.W.Frag) : Nat → V → V → Hp → VK → XK → Prop
  | 0 => fun _ _ _ _ _ => False
  | n + 1 => fun x y H Q E => ∃ da dd, Dp K H x da ∧ Dp K H y dd ∧ depthOk n dd ∧ NoT H ∧ ∀ b : Bool, (b = true ↔ da = dd) → Q (.bl b) H
def P_eqS (K : PySem.W.Frag) (n : Nat) : V → V → Hp → VK → XK → Prop := fun x y H Q E => ∃ da dd, Dp K H x da ∧ Dp K H y dd ∧ depthOk n dd ∧ NoT H ∧ ∀ (b : Bool) (H' : Hp), Same H H' → (b = true ↔ da = dd) → Q (.bl b) H'
open Classical in
theorem eqS (T : Tx K mg A) (G__law_is_integer : FnOk P w K mg base CX0 1 A.a__law_is_integer A.d__law_is_integer ["_law_actual"] (sp1 (P__law_is_integer K))) (n : Nat)
    (G__law_equal : FnOk P w K mg base CX0 (1 + n) A.a__law_equal A.d__law_equal ["_law_actual", "_law_due"] (sp2 (P_eqn K n))) :
    FnOk P w K mg base CX0 (1 + n + 1) A.a__law_equal A.d__law_equal ["_law_actual", "_law_due"] (sp2 (P_eqS K n)) := by
  refine ok2 T.f__law_equal sc__law_equal (fun cdv A' outer s H x0 x1 Q E hr h => ⟨_, (pss_cons (qif (pp_cmp o_is (qv 1) pe_non (nomark _)) (pss_one (ps_ret (qe_B (qb_cmp o_is (qv 0) pe_non (nomark _))))) pss_nil)
      (pss_cons (qif (pp_B (qb_val (k_isi (K := K) rfl Ty.bool (by rfl) T.m_isinstance (by rfl) T.m_bool (qv 1)))) (pss_one (ps_ret (qe_B (qb_and (qb_val (k_isi (K := K) rfl Ty.bool (by rfl) T.m_isinstance (by rfl) T.m_bool (qv 0))) (qb_and1 (qb_cmp (k_eq (K := K) rfl hr.units) (qv 0) (qv 1) (nomark _))))))) pss_nil)
      (pss_cons (qif (pp_B (qb_val (k_isi (K := K) rfl Ty.int (by rfl) T.m_isinstance (by rfl) T.m_int (qv 1)))) (pss_one (ps_ret (qe_B (qb_and (qb_val (pe_call G__law_is_integer (hr.mono (by omega)) (by rfl) T.g__law_is_integer T.f__law_is_integer.kp T.b__law_is_integer .nil pass0 (pa_cons (qv 0) pa_nil))) (qb_and1 (qb_cmp (k_eq (K := K) rfl hr.units) (qv 0) (qv 1) (nomark _))))))) pss_nil)
      (pss_cons (qif (pp_B (qb_val (k_isi (K := K) rfl Ty.str (by rfl) T.m_isinstance (by rfl) T.m_str (qv 1)))) (pss_one (ps_ret (qe_B (qb_and (qb_val (k_isi (K := K) rfl Ty.str (by rfl) T.m_isinstance (by rfl) T.m_str (qv 0))) (qb_and1 (qb_cmp (k_eq (K := K) rfl hr.units) (qv 0) (qv 1) (nomark _))))))) pss_nil)
      (pss_cons (qif (PPW.pp (qw_and (pp_B (qb_val (k_isi (K := K) rfl Ty.tuple (by rfl) T.m_isinstance (by rfl) T.m_tuple (qv 1)))) (qw_and1 (qp_not (pp_B (qb_val (k_isi (K := K) rfl Ty.tuple (by rfl) T.m_isinstance (by rfl) T.m_tuple (qv 0)))))))) (pss_one (ps_ret pe_bl)) pss_nil)
      (pss_cons (qif (PPW.pp (qw_and (pp_B (qb_val (k_isi (K := K) rfl Ty.list (by rfl) T.m_isinstance (by rfl) T.m_list (qv 1)))) (qw_and1 (qp_not (pp_B (qb_val (k_isi (K := K) rfl Ty.list (by rfl) T.m_isinstance (by rfl) T.m_list (qv 0)))))))) (pss_one (ps_ret pe_bl)) pss_nil)
      (pss_cons (qif (pp_cmp (k_ne (K := K) rfl hr.units) (pe_callB (k_len (K := K) rfl) (by rfl) T.m_len (by decide +kernel) (pa_cons (qv 0) pa_nil)) (pe_callB (k_len (K := K) rfl) (by rfl) T.m_len (by decide +kernel) (pa_cons (qv 1) pa_nil)) (nomark _)) (pss_one (ps_ret pe_bl)) pss_nil)
      (pss_one (ps_ret (pe_callB (k_all (K := K) rfl rfl) (by rfl) T.m_all (by decide +kernel) (pa_cons (pe_lc (own := [("_law_at", 2)]) rfl sc__law_equal.nd (qi_range1 (by rfl) T.m_range (pa_cons (pe_callB (k_len (K := K) rfl) (by rfl) T.m_len (by decide +kernel) (pa_cons (qv 1) pa_nil)) pa_nil)) (blkOk_by (N := ["_law_actual", "_law_due", "_law_at"]) (sc := defScope s__law_equal) (by decide +kernel)) (fun _ _ _ _ _ => (qgn (i := 2) sc__law_equal.nd rfl (Or.inl rfl))) (fun _ _ _ _ _ => qts_nil) (fun _ _ _ _ _ => (pe_call G__law_equal (hr.mono (by omega)) (by rfl) T.g__law_equal T.f__law_equal.kp T.b__law_equal .nil pass0 (pa_cons (pe_ix (k_ix (K := K) rfl) (qv 0) (qv 2) (fun _ _ => rfl)) (pa_cons (pe_ix (k_ix (K := K) rfl) (qv 1) (qv 2) (fun _ _ => rfl)) pa_nil))))) pa_nil))))))))))), ?_⟩)
  try dsimp only [L2.cxOf]
  obtain ⟨da, dd, hx, hy, hdep, hN, h⟩ := h
  cases hy <;> cases hx
  all_goals try (walk_at "gs"; exact h _ _ (Same.refl _) (by simp_all; done); done)
  · rename_i a1 xs1 ds1 hs1 hd1 a2 xs2 ds2 hs2 hd2
    have l1 := dps_len hd1
    have l2 := dps_len hd2
    walk_at "g"
    walk_at "w"
    have hdep2 : ds1.length ≤ 100000 ∧ ∀ x ∈ ds1, ∃ n', n = n' + 1 ∧ depthOk n' x := by
      cases n with
      | zero => exact hdep.elim
      | succ n' => exact ⟨hdep.1, fun x hx => ⟨n', rfl, hdep.2 x hx⟩⟩
    refine ⟨fun hc => ?_, fun hc => ?_⟩
    · walk_at "g"
      refine h _ _ (Same.refl _) ⟨fun e => (by cases e), fun e => ?_⟩
      cases e
      exact absurd (by omega) hc
    · have hlen : ds2.length = ds1.length := by omega
      walk_at "g"
      refine fun D hD => lc_range (lo := 0) (n := xs1.length) (fun i H' => H' = upd H D (.lst (((List.range i).map fun j => decide (ds2[j]? = ds1[j]?)).map V.bl))) rfl ?_ ?_
      · rintro i H' hi rfl
        have hs1' : SqL K (upd H D (.lst (((List.range i).map fun j => decide (ds2[j]? = ds1[j]?)).map V.bl))) a1 xs1 := Same.seq (same_new hD) hs1
        have hs2' : SqL K (upd H D (.lst (((List.range i).map fun j => decide (ds2[j]? = ds1[j]?)).map V.bl))) a2 xs2 := Same.seq (same_new hD) hs2
        have e1 : atI xs1 (0 + (i : Int)) = some xs1[i] := by
          rw [Int.zero_add]
          exact atI_nat (List.getElem?_eq_getElem hi)
        have e2 : atI xs2 (0 + (i : Int)) = some (xs2[i]'(by omega)) := by
          rw [Int.zero_add]
          exact atI_nat (List.getElem?_eq_getElem (by omega))
        obtain ⟨d1, f1, p1⟩ := dps_at hd1 (List.getElem?_eq_getElem hi)
        obtain ⟨d2, f2, p2⟩ := dps_at hd2 (List.getElem?_eq_getElem (show i < xs2.length by omega))
        obtain ⟨n', rfl, hdn⟩ := hdep2.2 d1 (List.mem_of_getElem? f1)
        walk_at "w"
        refine ⟨rfl, ?_⟩
        walk_at "g"
        walk_at "w"
        refine ⟨d2, d1, dp_mono (same_new hD) _ _ p2, dp_mono (same_new hD) _ _ p1, hdn, hN.upd (by trivial), fun b hb => ?_⟩
        refine ⟨_, upd_same, ?_, ?_⟩
        · simp only [List.length_map, List.length_range]
          exact Nat.lt_of_lt_of_le hi (by rw [sizeLine_eq]; omega)
        · have eb : b = decide (ds2[i]? = ds1[i]?) := by
            rw [Bool.eq_iff_iff, hb, f1, f2]
            simp
          rw [upd_upd, List.range_succ, List.map_append, List.map_append, eb]
          rfl
      · rintro H' rfl
        refine ⟨_, SqL.of upd_same, fun b hb => ?_⟩
        refine h b _ (same_new hD) ?_
        rw [hb]
        constructor
        · intro hall
          congr 1
          refine List.ext_getElem? fun j => ?_
          by_cases hj : j < xs1.length
          · have := hall (decide (ds2[j]? = ds1[j]?)) (List.mem_map.mpr ⟨j, List.mem_range.mpr hj, rfl⟩)
            exact of_decide_eq_true this
          · rw [List.getElem?_eq_none (by omega), List.getElem?_eq_none (by omega)]
        · intro e x hx
          obtain ⟨j, _, rfl⟩ := List.mem_map.mp hx
          cases e
          exact decide_eq_true rfl
  · rename_i a1 xs1 ds1 hs1 hd1 a2 xs2 ds2 hs2 hd2
    have l1 := dps_len hd1
    have l2 := dps_len hd2
    walk_at "g"
    walk_at "w"
    have hdep2 : ds1.length ≤ 100000 ∧ ∀ x ∈ ds1, ∃ n', n = n' + 1 ∧ depthOk n' x := by
      cases n with
      | zero => exact hdep.elim
      | succ n' => exact ⟨hdep.1, fun x hx => ⟨n', rfl, hdep.2 x hx⟩⟩
    refine ⟨fun hc => ?_, fun hc => ?_⟩
    · walk_at "g"
      refine h _ _ (Same.refl _) ⟨fun e => (by cases e), fun e => ?_⟩
      cases e
      exact absurd (by omega) hc
    · have hlen : ds2.length = ds1.length := by omega
      walk_at "g"
      refine fun D hD => lc_range (lo := 0) (n := xs1.length) (fun i H' => H' = upd H D (.lst (((List.range i).map fun j => decide (ds2[j]? = ds1[j]?)).map V.bl))) rfl ?_ ?_
      · rintro i H' hi rfl
        have hs1' : SqT K (upd H D (.lst (((List.range i).map fun j => decide (ds2[j]? = ds1[j]?)).map V.bl))) a1 xs1 := sqT_mono (same_new hD) hs1
        have hs2' : SqT K (upd H D (.lst (((List.range i).map fun j => decide (ds2[j]? = ds1[j]?)).map V.bl))) a2 xs2 := sqT_mono (same_new hD) hs2
        have e1 : atI xs1 (0 + (i : Int)) = some xs1[i] := by
          rw [Int.zero_add]
          exact atI_nat (List.getElem?_eq_getElem hi)
        have e2 : atI xs2 (0 + (i : Int)) = some (xs2[i]'(by omega)) := by
          rw [Int.zero_add]
          exact atI_nat (List.getElem?_eq_getElem (by omega))
        obtain ⟨d1, f1, p1⟩ := dps_at hd1 (List.getElem?_eq_getElem hi)
        obtain ⟨d2, f2, p2⟩ := dps_at hd2 (List.getElem?_eq_getElem (show i < xs2.length by omega))
        obtain ⟨n', rfl, hdn⟩ := hdep2.2 d1 (List.mem_of_getElem? f1)
        walk_at "w"
        refine ⟨rfl, ?_⟩
        walk_at "g"
        walk_at "w"
        refine ⟨d2, d1, dp_mono (same_new hD) _ _ p2, dp_mono (same_new hD) _ _ p1, hdn, hN.upd (by trivial), fun b hb => ?_⟩
        refine ⟨_, upd_same, ?_, ?_⟩
        · simp only [List.length_map, List.length_range]
          exact Nat.lt_of_lt_of_le hi (by rw [sizeLine_eq]; omega)
        · have eb : b = decide (ds2[i]? = ds1[i]?) := by
            rw [Bool.eq_iff_iff, hb, f1, f2]
            simp
          rw [upd_upd, List.range_succ, List.map_append, List.map_append, eb]
          rfl
      · rintro H' rfl
        refine ⟨_, SqL.of upd_same, fun b hb => ?_⟩
        refine h b _ (same_new hD) ?_
        rw [hb]
        constructor
        · intro hall
          congr 1
          refine List.ext_getElem? fun j => ?_
          by_cases hj : j < xs1.length
          · have := hall (decide (ds2[j]? = ds1[j]?)) (List.mem_map.mpr ⟨j, List.mem_range.mpr hj, rfl⟩)
            exact of_decide_eq_true this
          · rw [List.getElem?_eq_none (by omega), List.getElem?_eq_none (by omega)]
        · intro e x hx
          obtain ⟨j, _, rfl⟩ := List.mem_map.mp hx
          cases e
          exact decide_eq_true rfl
theorem ok_eqn (T : Tx K mg A) (G__law_is_integer : FnOk P w K mg base CX0 1 A.a__law_is_integer A.d__law_is_integer ["_law_actual"] (sp1 (P__law_is_integer K))) : ∀ n : Nat, FnOk P w K mg base CX0 (1 + n) A.a__law_equal A.d__law_equal ["_law_actual", "_law_due"] (sp2 (P_eqn K n))
  | 0 => ok_false fun vs H Q E h => by
    unfold sp2 at h
    split at h
    · exact h
    · exact h
  | n + 1 => by
    refine forget (eqS T G__law_is_integer n (ok_eqn T G__law_is_integer n)) fun vs H Q E h => ?_
    unfold sp2 at h ⊢
    split at h
    · obtain ⟨da, dd, h1, h2, h3, h4, h5⟩ := h
      exact ⟨h4, da, dd, h1, h2, h3, h4, fun b H' sm hb => ⟨sm, h5 b hb⟩⟩
    · exact h.elim
abbrev P__law_equal (K : PySem.W.Frag) : V → V → Hp → VK → XK → Prop := P_eqn K 12
theorem ok__law_equal (T : Tx K mg A) (G__law_is_integer : FnOk P w K mg base CX0 1 A.a__law_is_integer A.d__law_is_integer ["_law_actual"] (sp1 (P__law_is_integer K))) : FnOk P w K mg base CX0 13 A.a__law_equal A.d__law_equal ["_law_actual", "_law_due"] (sp2 (P__law_equal K)) := ok_eqn T G__law_is_integer 12

def P_law (K : PySem.W.Frag) : V → Hp → VK → XK → Prop := fun x H Q E => ∃ (a : Addr) (ns : List Int), x = .ref a ∧ SqL K H a (ns.map V.int) ∧ ns.length ≤ 63 ∧ (∀ z ∈ ns, Builtin.Int.intBits z ≤ 1048576) ∧ NoT H ∧ ∀ H', Q (.bl true) H'

/-- what the law shuffles: numbers, texts, the pair (1, 2) -/
def Itm (H : Hp) (x : V) : Prop := (∃ i, x = .int i) ∨ (∃ s, x = .str s) ∨ ∃ q, x = .ref q ∧ H q = some (.tup [.int 1, .int 2])
theorem Itm.same {H H' : Hp} {x : V} (s : ∀ q xs, H q = some (.tup xs) → H' q = some (.tup xs)) (h : Itm H x) : Itm H' x := by
  rcases h with h | h | ⟨q, rfl, e⟩
  · exact .inl h
  · exact .inr (.inl h)
  · exact .inr (.inr ⟨q, rfl, s _ _ e⟩)
theorem itms {K : PySem.W.Frag} {H : Hp} : ∀ {ys : List V}, (∀ x ∈ ys, Itm H x) → ∃ ds, DpAll K H ys ds ∧ ∀ d ∈ ds, ∀ m, depthOk (m + 1) d
  | [], _ => ⟨[], DpAll.nil, fun d hd => by cases hd⟩
  | y :: ys, h => by
    obtain ⟨ds, h1, h2⟩ := itms (K := K) (fun x hx => h x (List.mem_cons_of_mem _ hx))
    have e : ∃ d, Dp K H y d ∧ ∀ m, depthOk (m + 1) d := by
      rcases h y (List.mem_cons_self ..) with ⟨i, rfl⟩ | ⟨s, rfl⟩ | ⟨q, rfl, e⟩
      · exact ⟨_, Dp.int _, fun m => trivial⟩
      · exact ⟨_, Dp.str _, fun m => trivial⟩
      · refine ⟨_, Dp.tup (SqT.of e) (DpAll.cons (Dp.int _) (DpAll.cons (Dp.int _) DpAll.nil)), fun m => ⟨by simp, fun x hx => ?_⟩⟩
        simp only [List.mem_cons, List.not_mem_nil, or_false] at hx
        rcases hx with rfl | rfl <;> cases m <;> trivial
    obtain ⟨d, hd, he⟩ := e
    refine ⟨d :: ds, DpAll.cons hd h1, fun x hx => ?_⟩
    rcases List.mem_cons.mp hx with rfl | hx
    · exact he
    · exact h2 x hx
theorem tup_new {H H' : Hp} {p : Addr} {o : HO} (n : New H H' p o) : ∀ q xs, H q = some (.tup xs) → H' q = some (.tup xs) := fun _ _ e => n.keep e
theorem tup_wr {H H' : Hp} {p : Addr} {o : HO} {ys : List V} (w : Wr H H' p o) (hp : H p = some (.lst ys)) : ∀ q xs, H q = some (.tup xs) → H' q = some (.tup xs) := fun q xs e => by
  rw [w.oth q fun c => by rw [c, hp] at e; cases e]
  exact e
theorem tup_fr {H H' : Hp} {st : Addr} (f : StFr st H H') (S : StrAt H st) : ∀ q xs, H q = some (.tup xs) → H' q = some (.tup xs) := fun q xs e => by
  obtain ⟨L, ns, c, k, ⟨h1, _⟩, _⟩ := S
  exact f.get (fun c => by rw [c, h1] at e; cases e) e
theorem ok_law (T : Tx K mg A) (G__law_equal : FnOk P w K mg base CX0 13 A.a__law_equal A.d__law_equal ["_law_actual", "_law_due"] (sp2 (P__law_equal K))) (G_shuffled : FnOk P w K mg base CX0 5 A.a_shuffled A.d_shuffled ["dice", "items"] (sp2 (P_shuffled K))) (G__law_roll : FnOk P w K mg base CX0 1 A.a__law_roll A.d__law_roll ["_law_dice_here", "_law_n"] (sp2 (P__law_roll K))) (G__law_next : FnOk P w K mg base CX0 1 A.a__law_next A.d__law_next ["_law_stream_here", "_law_many"] (sp2 (P__law_next K))) (G__law_dice : FnOk P w K mg base CX0 2 A.a__law_dice A.d__law_dice ["_law_stream_here"] (sp1 (P__law_dice K))) (G__law_stream : FnOk P w K mg base CX0 1 A.a__law_stream A.d__law_stream ["_law_script"] (sp1 (P__law_stream K))) : FnOk P w K mg base CX0 14 A.a_law A.d_law ["_law_script"] (sp1 (P_law K)) := by
  refine ok1 T.f_law sc_law (fun cdv A' outer s H x0 Q E hr h => ⟨_, (pss_cons (qset (i := 1) sc_law.nd rfl (Or.inr rfl) (pe_call G__law_stream (hr.mono (by omega)) (by rfl) T.g__law_stream T.f__law_stream.kp T.b__law_stream .nil pass0 (pa_cons (qv 0) pa_nil)))
      (pss_cons (qset (i := 2) sc_law.nd rfl (Or.inl rfl) (pe_call G__law_dice (hr.mono (by omega)) (by rfl) T.g__law_dice T.f__law_dice.kp T.b__law_dice .nil pass0 (pa_cons (qv 1) pa_nil)))
      (pss_cons (qset (i := 3) sc_law.nd rfl (Or.inl rfl) (pe_ix (k_ix (K := K) rfl) (q_lst (pa_cons (pe_call G__law_next (hr.mono (by omega)) (by rfl) T.g__law_next T.f__law_next.kp T.b__law_next .nil pass0 (pa_cons (qv 1) (pa_cons pe_int pa_nil))) (pa_cons pe_int pa_nil))) (pe_callTy c_int (by rfl) T.m_int (by decide +kernel) (pa_cons (qe_B (qb_cmp (k_eq (K := K) rfl hr.units) (pe_call G__law_next (hr.mono (by omega)) (by rfl) T.g__law_next T.f__law_next.kp T.b__law_next .nil pass0 (pa_cons (qv 1) (pa_cons pe_int pa_nil))) pe_int (nomark _))) pa_nil)) (fun _ _ => rfl)))
      (pss_cons (ps_setLc (i := 5) (own := [("_law_k", 4)]) rfl sc_law.nd rfl rfl (sw_true rfl rfl rfl (by decide +kernel)) (qi_range1 (by rfl) T.m_range (pa_cons (qv 3) pa_nil)) (blkOk_by (N := ["_law_script", "_law_stream_here", "_law_dice_here", "_law_many", "_law_k", "_law_items", "_law_found", "_law_here", "_law_at", "_law_other", "_law_kept"]) (sc := defScope s_law) (by decide +kernel)) (fun _ _ _ _ _ => (qgn (i := 4) sc_law.nd rfl (Or.inl rfl))) (fun _ _ _ _ _ => qts_nil) (fun _ _ _ _ _ => (pe_ix (k_ix (K := K) rfl) (q_lst (pa_cons (pe_call G__law_next (hr.mono (by omega)) (by rfl) T.g__law_next T.f__law_next.kp T.b__law_next .nil pass0 (pa_cons (qv 1) (pa_cons pe_int pa_nil))) (pa_cons (pe_op (k_addM (K := K) rfl) pe_str (pe_callTy c_str (by rfl) T.m_str (by decide +kernel) (pa_cons (pe_call G__law_next (hr.mono (by omega)) (by rfl) T.g__law_next T.f__law_next.kp T.b__law_next .nil pass0 (pa_cons (qv 1) (pa_cons pe_int pa_nil))) pa_nil))) (pa_cons (q_tup (pa_cons pe_int (pa_cons pe_int pa_nil))) pa_nil)))) (pe_call G__law_next (hr.mono (by omega)) (by rfl) T.g__law_next T.f__law_next.kp T.b__law_next .nil pass0 (pa_cons (qv 1) (pa_cons pe_int pa_nil))) (fun _ _ => rfl))))
      (pss_cons (qset (i := 6) sc_law.nd rfl (Or.inl rfl) (pe_callTy (k_list (K := K) rfl) (by rfl) T.m_list (by decide +kernel) (pa_cons (qv 5) pa_nil)))
      (pss_cons (qset (i := 7) sc_law.nd rfl (Or.inl rfl) (qv 2))
      (pss_cons (ps_for PassesOwn.never rfl (qi_range1 (by rfl) T.m_range (pa_cons (pe_op op_subM (qv 3) pe_int) pa_nil)) (qgn (i := 4) sc_law.nd rfl (Or.inl rfl)) (pss_cons (qset (i := 8) sc_law.nd rfl (Or.inl rfl) (pe_op op_subM (pe_op op_subM (qv 3) pe_int) (qv 4)))
      (pss_cons (ps_asg (pe_call G__law_roll (hr.mono (by omega)) (by rfl) T.g__law_roll T.f__law_roll.kp T.b__law_roll .nil pass0 (pa_cons (qv 7) (pa_cons (pe_op (k_addM (K := K) rfl) (qv 8) pe_int) pa_nil))) (pg_tup rfl (pgs_cons (qgn (i := 9) sc_law.nd rfl (Or.inl rfl)) (pgs_cons (qgn (i := 7) sc_law.nd rfl (Or.inl rfl)) pgs_nil))))
      (pss_cons (qset (i := 10) sc_law.nd rfl (Or.inl rfl) (pe_ix (k_ix (K := K) rfl) (qv 6) (qv 8) (fun _ _ => rfl)))
      (pss_cons (ps_asg (pe_ix (k_ix (K := K) rfl) (qv 6) (qv 9) (fun _ _ => rfl)) (pg_sub (qv 6) (qv 8) set_M))
      (pss_one (ps_asg (qv 10) (pg_sub (qv 6) (qv 9) set_M))))))))
      (pss_one (ps_ret (pe_call G__law_equal (hr.mono (by omega)) (by rfl) T.g__law_equal T.f__law_equal.kp T.b__law_equal .nil pass0 (pa_cons (pe_call G_shuffled (hr.mono (by omega)) (by rfl) T.g_shuffled T.f_shuffled.kp T.b_shuffled .nil pass0 (pa_cons (qv 2) (pa_cons (pe_callTy (k_tuple (K := K) rfl) (by rfl) T.m_tuple (by decide +kernel) (pa_cons (qv 5) pa_nil)) pa_nil))) (pa_cons (q_tup (pa_cons (pe_callTy (k_tuple (K := K) rfl) (by rfl) T.m_tuple (by decide +kernel) (pa_cons (qv 6) pa_nil)) (pa_cons (qv 7) pa_nil))) pa_nil)))))))))))), ?_⟩)
  try dsimp only [L2.cxOf]
  obtain ⟨a, ns, rfl, hS, hlen, hbits, hN, h⟩ := h
  walk_at "w"
  refine ⟨a, ns, rfl, hS, hN, fun st H1 n1 s1 S1 => ?_⟩
  walk_at "w"
  refine ⟨st, rfl, S1, fun d H2 hd S2 _ => ?_⟩
  walk_at "g"
  refine fun e1 H3 e10 e11 S3 f3 => ?_
  walk_at "g"
  refine fun p H4 n4 => ?_
  have n4a := n4.at_
  have S4 := StrAt.newL n4 S3
  walk_at "g"
  refine fun e2 H5 e20 e21 S5 f5 => ?_
  have n5a := f5.get (Mine.new n4 S3).ne n4a
  walk_at "g"
  rename_i b hb
  obtain ⟨v, ev, hv⟩ := atI_mem (xs := [V.int e1, V.int 64]) (k := if b = true then 1 else 0) (by split <;> simp) (by split <;> simp)
  obtain ⟨M, rfl, hM⟩ : ∃ M : Nat, v = .int M ∧ M ≤ 64 := by
    simp only [List.mem_cons, List.not_mem_nil, or_false] at hv
    rcases hv with rfl | rfl
    · exact ⟨e1.toNat, by rw [Int.toNat_of_nonneg (by omega)], by omega⟩
    · exact ⟨64, rfl, by omega⟩
  refine ⟨_, ev, ?_⟩
  clear ev hv hb n5a n4a f3 f5 S1 S2 S3 S4 n4
  walk_at "g"
  refine fun D hD => lc_range (lo := 0) (n := M) (fun i H' => StrAt H' st ∧ Mine st H' D ∧ ∃ acc, acc.length = i ∧ H' D = some (.lst acc) ∧ ∀ x ∈ acc, Itm H' x) ?_ ?_ ?_
  · have nD := New.mk' (o := .lst []) hD
    exact ⟨StrAt.newL nD S5, Mine.new nD S5, [], rfl, nD.at_, fun x hx => by cases hx⟩
  · rintro i H6 hi ⟨S6, m6, acc, hacc, hD6, hit⟩
    walk_at "w"
    refine ⟨rfl, ?_⟩
    walk_at "g"
    refine fun d1 H7 d10 d11 S7 f7 => ?_
    walk_at "g"
    refine fun d2 H8 d20 d21 S8 f8 => ?_
    have hs : (Str.ofString "a").length + (Str.ofString (toString d2)).length ≤ 1000 := by
      rcases (by omega : d2 = 0 ∨ d2 = 1 ∨ d2 = 2 ∨ d2 = 3 ∨ d2 = 4 ∨ d2 = 5 ∨ d2 = 6 ∨ d2 = 7 ∨ d2 = 8) with rfl | rfl | rfl | rfl | rfl | rfl | rfl | rfl | rfl <;> decide
    walk_at "w"
    refine ⟨by have := Nat.log2_le_self d2.natAbs; omega, ?_⟩
    walk_at "w"
    refine ⟨Nat.le_of_lt (small1000 hs), ?_⟩
    walk_at "g"
    refine fun p1 H9 n9 => ?_
    walk_at "g"
    refine fun p2 H10 n10 => ?_
    have S9 := StrAt.newT n9 S8
    have S10 := StrAt.newL n10 S9
    have hp1 := n10.keep n9.at_
    have m8 := (m6.fr f7).fr f8
    have m10 := Mine.nw n10 S9 (Mine.nw n9 S8 m8)
    have hD10 := n10.keep (n9.keep (f8.get (m6.fr f7).ne (f7.get m6.ne hD6)))
    walk_at "g"
    refine fun d3 H11 d30 d31 S11 f11 => ?_
    have hp2 := f11.get (Mine.new n10 S9).ne n10.at_
    obtain ⟨v, ev, hv⟩ := atI_mem (xs := [V.int d1, V.str (Str.append (Str.ofString "a") (Str.ofString (toString d2))), V.ref p1]) d30 d31
    have hiv : Itm H11 v := by
      simp only [List.mem_cons, List.not_mem_nil, or_false] at hv
      rcases hv with rfl | rfl | rfl
      · exact .inl ⟨_, rfl⟩
      · exact .inr (.inl ⟨_, rfl⟩)
      · exact .inr (.inr ⟨_, rfl, tup_fr f11 S10 _ _ hp1⟩)
    walk_at "w"
    refine ⟨_, .inl (SqL.of hp2), v, ev, ?_⟩
    walk_at "w"
    refine ⟨acc, f11.get m10.ne hD10, small1000 (by omega), ?_⟩
    have hD11 := f11.get m10.ne hD10
    have m11 := m10.fr f11
    have w12 : Wr H11 (upd H11 D (.lst (acc ++ [v]))) D (.lst (acc ++ [v])) := Wr.mk'
    refine ⟨S11.wrL w12 m11, m11.wr w12 m11, _, by rw [List.length_append, hacc]; rfl, w12.at_, fun x hx => ?_⟩
    have ht : Itm H11 x := by
      rcases List.mem_append.mp hx with hx | hx
      · exact (((((hit x hx).same (tup_fr f7 S6)).same (tup_fr f8 S7)).same (tup_new n9)).same (tup_new n10)).same (tup_fr f11 S10)
      · rw [List.mem_singleton.mp hx]
        exact hiv
    exact ht.same (tup_wr w12 hD11)
  · rintro H6 ⟨S6, m6, acc, hacc, hD6, hit⟩
    walk_at "g"
    refine fun L H7 n7 => ?_
    have hL7 := n7.at_
    have hit7 : ∀ x ∈ acc, Itm H7 x := fun x hx => (hit x hx).same (tup_new n7)
    have hD7 := n7.keep hD6
    have hN7 := (StrAt.newL n7 S6).nt
    have hDL : D ≠ L := ne_of_none hD6 n7.nw
    walk_at "g"
    walk_at "w"
    obtain ⟨n, hn⟩ : ∃ n, n = M - 1 := ⟨_, rfl⟩
    rw [show ((M : Int) - 1).toNat = n by omega]
    obtain ⟨R, hR⟩ : ∃ R, R = shu n d acc := ⟨_, rfl⟩
    refine for_range (lo := 0) (n := n) (fun i σ' H' => ∃ (c : Nat) (ys : List V) (b4 b8 b9 b10 : Option V), σ' = [some (.ref a), some (.ref st), some (.int d), some (.int M), b4, some (.ref D), some (.ref L), some (.int c), b8, b9, b10] ∧ IsDice c ∧ ys.length = M ∧ H' L = some (.lst ys) ∧ H' D = some (.lst acc) ∧ NoT H' ∧ (∀ x ∈ acc, Itm H' x) ∧ (∀ x ∈ ys, Itm H' x) ∧ shu (n - i) c ys = R) ⟨d, acc, _, _, _, _, rfl, hd, hacc, hL7, hD7, hN7, hit7, hit7, hR.symm⟩ ?_ ?_
    · rintro i σ' H2 hi ⟨c, ys, b4, b8, b9, b10, rfl, hc, hy, hL, hD2, hN2, hia, hiy, e⟩
      obtain ⟨k, hk⟩ : ∃ k, n - i = k + 1 := ⟨n - i - 1, by omega⟩
      have hat : ((M : Int) - 1 - (0 + (i : Nat))) = ((k + 1 : Nat) : Int) := by omega
      rw [hk] at e
      unfold shu at e
      walk_at "w"
      rw [hat]
      walk_at "w"
      refine ⟨c, k + 2, rfl, rfl, hc, by omega, by omega, fun r H3 n3 => ?_⟩
      have hR := rl_dice (n := k + 2) hc
      have ef : ((rl c (k + 2) : Nat) - 1 : Int).fmod ((k + 2 : Nat) : Int) = (((rl c (k + 2) - 1) % (k + 2) : Nat) : Int) := by
        have := hR.1
        rw [Int.fmod_eq_emod_of_nonneg _ (by omega), show ((rl c (k + 2) : Nat) - 1 : Int) = ((rl c (k + 2) - 1 : Nat) : Int) by omega]
        rfl
      rw [ef] at n3
      have ho : (rl c (k + 2) - 1) % (k + 2) < k + 2 := Nat.mod_lt _ (by omega)
      generalize (rl c (k + 2) - 1) % (k + 2) = o at *
      have hr3 := SqT.of (K := K) n3.at_
      have hL3 := n3.keep hL
      have ho1 : o < ys.length := by omega
      have hk1 : k + 1 < ys.length := by omega
      have a1 := atI_ge (xs := ys) (k := (o : Int)) (by omega) (List.getElem?_eq_getElem ho1)
      have a2 := atI_ge (xs := ys) (k := ((k + 1 : Nat) : Int)) (by omega) (List.getElem?_eq_getElem hk1)
      have i2 : ixN ys.length ((k + 1 : Nat) : Int) = some (k + 1) := by
        unfold ixN
        rw [if_pos (by omega), if_pos (by omega)]
        rfl
      have i1 : ixN (ys.set (k + 1) ys[o]).length (o : Int) = some o := by
        unfold ixN
        rw [List.length_set, if_pos (by omega), if_pos (by omega)]
        rfl
      have hsw : swp ys (k + 1) o = (ys.set (k + 1) ys[o]).set o ys[k + 1] := by
        unfold swp
        rw [List.getD_eq_getElem?_getD, List.getD_eq_getElem?_getD, List.getElem?_eq_getElem ho1, List.getElem?_eq_getElem hk1, Option.getD_some, Option.getD_some]
      rw [hsw] at e
      walk_at "w"
      refine ⟨_, _, rfl, hr3, rfl, ?_⟩
      walk_at "w"
      refine ⟨_, _, rfl, ?_⟩
      walk_at "w"
      refine ⟨_, _, rfl, ?_⟩
      walk_at "w"
      refine ⟨rfl, ?_⟩
      walk_at "g"
      refine fun H5 w5 => ?_
      have hL5 := w5.at_
      walk_at "w"
      refine ⟨_, hL5, _, i1, fun H6 w6 => ?_⟩
      have hL6 := w6.at_
      have hI : ∀ x, Itm H2 x → Itm H6 x := fun x hx => ((hx.same (tup_new n3)).same (tup_wr w5 hL3)).same (tup_wr w6 hL5)
      walk_at "w"
      refine ⟨rl c (k + 2), _, _, _, _, _, rfl, hR, ?_, hL6, ?_, ?_, fun x hx => hI x (hia x hx), fun x hx => hI x ?_, ?_⟩
      · rw [List.length_set, List.length_set]
        exact hy
      · rw [w6.oth D hDL, w5.oth D hDL]
        exact n3.keep hD2
      · exact ((hN2.newT n3).wrL w5).wrL w6
      · rcases List.mem_or_eq_of_mem_set hx with hx | rfl
        · rcases List.mem_or_eq_of_mem_set hx with hx | rfl
          · exact hiy x hx
          · exact hiy _ (List.getElem_mem ho1)
        · exact hiy _ (List.getElem_mem hk1)
      · rw [show n - (i + 1) = k by omega]
        exact e
    · rintro σ' H2 ⟨c, ys, b4, b8, b9, b10, rfl, hc, hy, hL, hD2, hN2, hia, hiy, e⟩
      rw [Nat.sub_self] at e
      unfold shu at e
      walk_at "w"
      refine ⟨acc, .inl ⟨SqL.of hD2, fun t H3 n3 => ?_⟩⟩
      walk_at "w"
      refine ⟨d, t, acc, rfl, rfl, hd, SqT.of n3.at_, by omega, hN2.newT n3, fun t2 r H4 s4 N4 q4 u4 => ?_⟩
      rw [show acc.length - 1 = n by omega, ← hR, ← e] at q4 u4
      have hL4 := s4 _ _ (n3.keep hL)
      have hi4 : ∀ x ∈ ys, Itm H4 x := fun x hx => ((hiy x hx).same (tup_new n3)).same fun q xs e => s4 _ _ e
      walk_at "w"
      refine ⟨ys, .inl ⟨SqL.of hL4, fun t5 H5 n5 => ?_⟩⟩
      walk_at "g"
      refine fun r6 H6 n6 => ?_
      have hi6 : ∀ x ∈ ys, Itm H6 x := fun x hx => ((hi4 x hx).same (tup_new n5)).same (tup_new n6)
      have N6 := (N4.newT n5).newT n6
      have q6 := sqT_mono n6.same (sqT_mono n5.same q4)
      have u6 := sqT_mono n6.same (sqT_mono n5.same u4)
      have v6 : SqT K H6 t5 ys := SqT.of (n6.keep n5.at_)
      have z6 : SqT K H6 r6 [.ref t5, .int c] := SqT.of n6.at_
      obtain ⟨ds, ed, dd⟩ := itms (K := K) hi6
      have hdl := dps_len ed
      have D1 := Dp.tup u6 (DpAll.cons (Dp.tup q6 ed) (DpAll.cons (Dp.int _) DpAll.nil))
      have D2 := Dp.tup z6 (DpAll.cons (Dp.tup v6 ed) (DpAll.cons (Dp.int _) DpAll.nil))
      walk_at "w"
      refine ⟨_, _, D1, D2, ⟨by simp, fun x hx => ?_⟩, N6, fun b hb => ?_⟩
      · simp only [List.mem_cons, List.not_mem_nil, or_false] at hx
        rcases hx with rfl | rfl
        · exact ⟨by omega, fun x hx => dd x hx _⟩
        · trivial
      · have eb : b = true := hb.mpr rfl
        subst eb
        exact h _
end
theorem all_mk {l : PySem.W.OpenLaw} {w : World} {K : PySem.W.Frag} {h : Heap} {mg : Str → Option Value} {fa : Addr} (X : K.In h) (G : h.Ns mainGlobals mg) (hfa : mg "law" = some (.ref fa))
    {f_is_whole : Addr} {od_is_whole an_is_whole : Option Addr} {sl_is_whole : Array (Option Value)} {oc_is_whole kV_is_whole dc_is_whole pm_is_whole cd_is_whole ct_is_whole : Value}
    (a_is_whole : PySem.W.nsIn K mainGlobals "is_whole" = some (some (.ref f_is_whole))) (l_is_whole : K.lookup f_is_whole = some ⟨oc_is_whole, od_is_whole, .func (PySem.W.fnOf "is_whole" "is_whole" (defArgs s_is_whole) (defBody s_is_whole) (defScope s_is_whole) .none kV_is_whole dc_is_whole pm_is_whole an_is_whole cd_is_whole ct_is_whole), sl_is_whole⟩) (c_is_whole : PySem.W.codeIn K cd_is_whole "is_whole" = true) (k_is_whole : PySem.W.keepIn K (.ref f_is_whole) = true)
    {f_is_between : Addr} {od_is_between an_is_between : Option Addr} {sl_is_between : Array (Option Value)} {oc_is_between kV_is_between dc_is_between pm_is_between cd_is_between ct_is_between : Value}
    (a_is_between : PySem.W.nsIn K mainGlobals "is_between" = some (some (.ref f_is_between))) (l_is_between : K.lookup f_is_between = some ⟨oc_is_between, od_is_between, .func (PySem.W.fnOf "is_between" "is_between" (defArgs s_is_between) (defBody s_is_between) (defScope s_is_between) .none kV_is_between dc_is_between pm_is_between an_is_between cd_is_between ct_is_between), sl_is_between⟩) (c_is_between : PySem.W.codeIn K cd_is_between "is_between" = true) (k_is_between : PySem.W.keepIn K (.ref f_is_between) = true)
    {f_is_dice : Addr} {od_is_dice an_is_dice : Option Addr} {sl_is_dice : Array (Option Value)} {oc_is_dice kV_is_dice dc_is_dice pm_is_dice cd_is_dice ct_is_dice : Value}
    (a_is_dice : PySem.W.nsIn K mainGlobals "is_dice" = some (some (.ref f_is_dice))) (l_is_dice : K.lookup f_is_dice = some ⟨oc_is_dice, od_is_dice, .func (PySem.W.fnOf "is_dice" "is_dice" (defArgs s_is_dice) (defBody s_is_dice) (defScope s_is_dice) .none kV_is_dice dc_is_dice pm_is_dice an_is_dice cd_is_dice ct_is_dice), sl_is_dice⟩) (c_is_dice : PySem.W.codeIn K cd_is_dice "is_dice" = true) (k_is_dice : PySem.W.keepIn K (.ref f_is_dice) = true)
    {f_check_dice : Addr} {od_check_dice an_check_dice : Option Addr} {sl_check_dice : Array (Option Value)} {oc_check_dice kV_check_dice dc_check_dice pm_check_dice cd_check_dice ct_check_dice : Value}
    (a_check_dice : PySem.W.nsIn K mainGlobals "check_dice" = some (some (.ref f_check_dice))) (l_check_dice : K.lookup f_check_dice = some ⟨oc_check_dice, od_check_dice, .func (PySem.W.fnOf "check_dice" "check_dice" (defArgs s_check_dice) (defBody s_check_dice) (defScope s_check_dice) .none kV_check_dice dc_check_dice pm_check_dice an_check_dice cd_check_dice ct_check_dice), sl_check_dice⟩) (c_check_dice : PySem.W.codeIn K cd_check_dice "check_dice" = true) (k_check_dice : PySem.W.keepIn K (.ref f_check_dice) = true)
    {f_following : Addr} {od_following an_following : Option Addr} {sl_following : Array (Option Value)} {oc_following kV_following dc_following pm_following cd_following ct_following : Value}
    (a_following : PySem.W.nsIn K mainGlobals "following" = some (some (.ref f_following))) (l_following : K.lookup f_following = some ⟨oc_following, od_following, .func (PySem.W.fnOf "following" "following" (defArgs s_following) (defBody s_following) (defScope s_following) .none kV_following dc_following pm_following an_following cd_following ct_following), sl_following⟩) (c_following : PySem.W.codeIn K cd_following "following" = true) (k_following : PySem.W.keepIn K (.ref f_following) = true)
    {f_roll : Addr} {od_roll an_roll : Option Addr} {sl_roll : Array (Option Value)} {oc_roll kV_roll dc_roll pm_roll cd_roll ct_roll : Value}
    (a_roll : PySem.W.nsIn K mainGlobals "roll" = some (some (.ref f_roll))) (l_roll : K.lookup f_roll = some ⟨oc_roll, od_roll, .func (PySem.W.fnOf "roll" "roll" (defArgs s_roll) (defBody s_roll) (defScope s_roll) .none kV_roll dc_roll pm_roll an_roll cd_roll ct_roll), sl_roll⟩) (c_roll : PySem.W.codeIn K cd_roll "roll" = true) (k_roll : PySem.W.keepIn K (.ref f_roll) = true)
    {f_shuffled : Addr} {od_shuffled an_shuffled : Option Addr} {sl_shuffled : Array (Option Value)} {oc_shuffled kV_shuffled dc_shuffled pm_shuffled cd_shuffled ct_shuffled : Value}
    (a_shuffled : PySem.W.nsIn K mainGlobals "shuffled" = some (some (.ref f_shuffled))) (l_shuffled : K.lookup f_shuffled = some ⟨oc_shuffled, od_shuffled, .func (PySem.W.fnOf "shuffled" "shuffled" (defArgs s_shuffled) (defBody s_shuffled) (defScope s_shuffled) .none kV_shuffled dc_shuffled pm_shuffled an_shuffled cd_shuffled ct_shuffled), sl_shuffled⟩) (c_shuffled : PySem.W.codeIn K cd_shuffled "shuffled" = true) (k_shuffled : PySem.W.keepIn K (.ref f_shuffled) = true)
    {f__law_stream : Addr} {od__law_stream an__law_stream : Option Addr} {sl__law_stream : Array (Option Value)} {oc__law_stream kV__law_stream dc__law_stream pm__law_stream cd__law_stream ct__law_stream : Value}
    (a__law_stream : PySem.W.nsIn K mainGlobals "_law_stream" = some (some (.ref f__law_stream))) (l__law_stream : K.lookup f__law_stream = some ⟨oc__law_stream, od__law_stream, .func (PySem.W.fnOf "_law_stream" "_law_stream" (defArgs s__law_stream) (defBody s__law_stream) (defScope s__law_stream) .none kV__law_stream dc__law_stream pm__law_stream an__law_stream cd__law_stream ct__law_stream), sl__law_stream⟩) (c__law_stream : PySem.W.codeIn K cd__law_stream "_law_stream" = true) (k__law_stream : PySem.W.keepIn K (.ref f__law_stream) = true)
    {f__law_next : Addr} {od__law_next an__law_next : Option Addr} {sl__law_next : Array (Option Value)} {oc__law_next kV__law_next dc__law_next pm__law_next cd__law_next ct__law_next : Value}
    (a__law_next : PySem.W.nsIn K mainGlobals "_law_next" = some (some (.ref f__law_next))) (l__law_next : K.lookup f__law_next = some ⟨oc__law_next, od__law_next, .func (PySem.W.fnOf "_law_next" "_law_next" (defArgs s__law_next) (defBody s__law_next) (defScope s__law_next) .none kV__law_next dc__law_next pm__law_next an__law_next cd__law_next ct__law_next), sl__law_next⟩) (c__law_next : PySem.W.codeIn K cd__law_next "_law_next" = true) (k__law_next : PySem.W.keepIn K (.ref f__law_next) = true)
    {f__law_is_integer : Addr} {od__law_is_integer an__law_is_integer : Option Addr} {sl__law_is_integer : Array (Option Value)} {oc__law_is_integer kV__law_is_integer dc__law_is_integer pm__law_is_integer cd__law_is_integer ct__law_is_integer : Value}
    (a__law_is_integer : PySem.W.nsIn K mainGlobals "_law_is_integer" = some (some (.ref f__law_is_integer))) (l__law_is_integer : K.lookup f__law_is_integer = some ⟨oc__law_is_integer, od__law_is_integer, .func (PySem.W.fnOf "_law_is_integer" "_law_is_integer" (defArgs s__law_is_integer) (defBody s__law_is_integer) (defScope s__law_is_integer) .none kV__law_is_integer dc__law_is_integer pm__law_is_integer an__law_is_integer cd__law_is_integer ct__law_is_integer), sl__law_is_integer⟩) (c__law_is_integer : PySem.W.codeIn K cd__law_is_integer "_law_is_integer" = true) (k__law_is_integer : PySem.W.keepIn K (.ref f__law_is_integer) = true)
    {f__law_equal : Addr} {od__law_equal an__law_equal : Option Addr} {sl__law_equal : Array (Option Value)} {oc__law_equal kV__law_equal dc__law_equal pm__law_equal cd__law_equal ct__law_equal : Value}
    (a__law_equal : PySem.W.nsIn K mainGlobals "_law_equal" = some (some (.ref f__law_equal))) (l__law_equal : K.lookup f__law_equal = some ⟨oc__law_equal, od__law_equal, .func (PySem.W.fnOf "_law_equal" "_law_equal" (defArgs s__law_equal) (defBody s__law_equal) (defScope s__law_equal) .none kV__law_equal dc__law_equal pm__law_equal an__law_equal cd__law_equal ct__law_equal), sl__law_equal⟩) (c__law_equal : PySem.W.codeIn K cd__law_equal "_law_equal" = true) (k__law_equal : PySem.W.keepIn K (.ref f__law_equal) = true)
    {f__law_dice : Addr} {od__law_dice an__law_dice : Option Addr} {sl__law_dice : Array (Option Value)} {oc__law_dice kV__law_dice dc__law_dice pm__law_dice cd__law_dice ct__law_dice : Value}
    (a__law_dice : PySem.W.nsIn K mainGlobals "_law_dice" = some (some (.ref f__law_dice))) (l__law_dice : K.lookup f__law_dice = some ⟨oc__law_dice, od__law_dice, .func (PySem.W.fnOf "_law_dice" "_law_dice" (defArgs s__law_dice) (defBody s__law_dice) (defScope s__law_dice) .none kV__law_dice dc__law_dice pm__law_dice an__law_dice cd__law_dice ct__law_dice), sl__law_dice⟩) (c__law_dice : PySem.W.codeIn K cd__law_dice "_law_dice" = true) (k__law_dice : PySem.W.keepIn K (.ref f__law_dice) = true)
    {f__law_roll : Addr} {od__law_roll an__law_roll : Option Addr} {sl__law_roll : Array (Option Value)} {oc__law_roll kV__law_roll dc__law_roll pm__law_roll cd__law_roll ct__law_roll : Value}
    (a__law_roll : PySem.W.nsIn K mainGlobals "_law_roll" = some (some (.ref f__law_roll))) (l__law_roll : K.lookup f__law_roll = some ⟨oc__law_roll, od__law_roll, .func (PySem.W.fnOf "_law_roll" "_law_roll" (defArgs s__law_roll) (defBody s__law_roll) (defScope s__law_roll) .none kV__law_roll dc__law_roll pm__law_roll an__law_roll cd__law_roll ct__law_roll), sl__law_roll⟩) (c__law_roll : PySem.W.codeIn K cd__law_roll "_law_roll" = true) (k__law_roll : PySem.W.keepIn K (.ref f__law_roll) = true)
    {f_law : Addr} {od_law an_law : Option Addr} {sl_law : Array (Option Value)} {oc_law kV_law dc_law pm_law cd_law ct_law : Value}
    (a_law : PySem.W.nsIn K mainGlobals "law" = some (some (.ref f_law))) (l_law : K.lookup f_law = some ⟨oc_law, od_law, .func (PySem.W.fnOf "law" "law" (defArgs s_law) (defBody s_law) (defScope s_law) .none kV_law dc_law pm_law an_law cd_law ct_law), sl_law⟩) (c_law : PySem.W.codeIn K cd_law "law" = true) (k_law : PySem.W.keepIn K (.ref f_law) = true)
    (z_abs : PySem.W.nsIn K mainGlobals "abs" = some none)
    (z_all : PySem.W.nsIn K mainGlobals "all" = some none)
    (z_bool : PySem.W.nsIn K mainGlobals "bool" = some none)
    (z_int : PySem.W.nsIn K mainGlobals "int" = some none)
    (z_isinstance : PySem.W.nsIn K mainGlobals "isinstance" = some none)
    (z_len : PySem.W.nsIn K mainGlobals "len" = some none)
    (z_list : PySem.W.nsIn K mainGlobals "list" = some none)
    (z_range : PySem.W.nsIn K mainGlobals "range" = some none)
    (z_str : PySem.W.nsIn K mainGlobals "str" = some none)
    (z_tuple : PySem.W.nsIn K mainGlobals "tuple" = some none)
    {u_FACTOR : Value} (v_FACTOR : PySem.W.nsIn K mainGlobals "FACTOR" = some (some u_FACTOR)) (r_FACTOR : RelV (V.int (40014)) u_FACTOR)
    {u_MOST_DRAWS : Value} (v_MOST_DRAWS : PySem.W.nsIn K mainGlobals "MOST_DRAWS" = some (some u_MOST_DRAWS)) (r_MOST_DRAWS : RelV (V.int (8)) u_MOST_DRAWS)
    {u_MOST_ITEMS : Value} (v_MOST_ITEMS : PySem.W.nsIn K mainGlobals "MOST_ITEMS" = some (some u_MOST_ITEMS)) (r_MOST_ITEMS : RelV (V.int (64)) u_MOST_ITEMS)
    {u_PRIME : Value} (v_PRIME : PySem.W.nsIn K mainGlobals "PRIME" = some (some u_PRIME)) (r_PRIME : RelV (V.int (2147483563)) u_PRIME)
    : ∃ fd : FuncData, (∀ (s : Shared) (v : Value), BindsTo s fd ⟨[v], []⟩ [("_law_script", v)]) ∧ ∀ base : Heap, K.In base → base.Ns mainGlobals mg → FnOk l.prog w K mg base CX0 14 fa fd ["_law_script"] (sp1 (P_law K)) := by
  have e := hfa.symm.trans (PySem.W.mg_of X G a_law)
  cases e
  have F_is_whole := fun_mk (st := s_is_whole) l_is_whole c_is_whole k_is_whole
  have F_is_between := fun_mk (st := s_is_between) l_is_between c_is_between k_is_between
  have F_is_dice := fun_mk (st := s_is_dice) l_is_dice c_is_dice k_is_dice
  have F_check_dice := fun_mk (st := s_check_dice) l_check_dice c_check_dice k_check_dice
  have F_following := fun_mk (st := s_following) l_following c_following k_following
  have F_roll := fun_mk (st := s_roll) l_roll c_roll k_roll
  have F_shuffled := fun_mk (st := s_shuffled) l_shuffled c_shuffled k_shuffled
  have F__law_stream := fun_mk (st := s__law_stream) l__law_stream c__law_stream k__law_stream
  have F__law_next := fun_mk (st := s__law_next) l__law_next c__law_next k__law_next
  have F__law_is_integer := fun_mk (st := s__law_is_integer) l__law_is_integer c__law_is_integer k__law_is_integer
  have F__law_equal := fun_mk (st := s__law_equal) l__law_equal c__law_equal k__law_equal
  have F__law_dice := fun_mk (st := s__law_dice) l__law_dice c__law_dice k__law_dice
  have F__law_roll := fun_mk (st := s__law_roll) l__law_roll c__law_roll k__law_roll
  have F_law := fun_mk (st := s_law) l_law c_law k_law
  have b_is_whole := F_is_whole.binds (ps := ["value"]) fun _ _ _ _ _ _ us hl => match us, hl with | [_], _ => rfl
  have b_is_between := F_is_between.binds (ps := ["value", "low", "high"]) fun _ _ _ _ _ _ us hl => match us, hl with | [_, _, _], _ => rfl
  have b_is_dice := F_is_dice.binds (ps := ["value"]) fun _ _ _ _ _ _ us hl => match us, hl with | [_], _ => rfl
  have b_check_dice := F_check_dice.binds (ps := ["value"]) fun _ _ _ _ _ _ us hl => match us, hl with | [_], _ => rfl
  have b_following := F_following.binds (ps := ["dice"]) fun _ _ _ _ _ _ us hl => match us, hl with | [_], _ => rfl
  have b_roll := F_roll.binds (ps := ["dice", "n"]) fun _ _ _ _ _ _ us hl => match us, hl with | [_, _], _ => rfl
  have b_shuffled := F_shuffled.binds (ps := ["dice", "items"]) fun _ _ _ _ _ _ us hl => match us, hl with | [_, _], _ => rfl
  have b__law_stream := F__law_stream.binds (ps := ["_law_script"]) fun _ _ _ _ _ _ us hl => match us, hl with | [_], _ => rfl
  have b__law_next := F__law_next.binds (ps := ["_law_stream_here", "_law_many"]) fun _ _ _ _ _ _ us hl => match us, hl with | [_, _], _ => rfl
  have b__law_is_integer := F__law_is_integer.binds (ps := ["_law_actual"]) fun _ _ _ _ _ _ us hl => match us, hl with | [_], _ => rfl
  have b__law_equal := F__law_equal.binds (ps := ["_law_actual", "_law_due"]) fun _ _ _ _ _ _ us hl => match us, hl with | [_, _], _ => rfl
  have b__law_dice := F__law_dice.binds (ps := ["_law_stream_here"]) fun _ _ _ _ _ _ us hl => match us, hl with | [_], _ => rfl
  have b__law_roll := F__law_roll.binds (ps := ["_law_dice_here", "_law_n"]) fun _ _ _ _ _ _ us hl => match us, hl with | [_, _], _ => rfl
  have b_law := F_law.binds (ps := ["_law_script"]) fun _ _ _ _ _ _ us hl => match us, hl with | [_], _ => rfl
  let A : Ad := { a_is_whole := f_is_whole, d_is_whole := PySem.W.fnOf "is_whole" "is_whole" (defArgs s_is_whole) (defBody s_is_whole) (defScope s_is_whole) .none kV_is_whole dc_is_whole pm_is_whole an_is_whole cd_is_whole ct_is_whole, a_is_between := f_is_between, d_is_between := PySem.W.fnOf "is_between" "is_between" (defArgs s_is_between) (defBody s_is_between) (defScope s_is_between) .none kV_is_between dc_is_between pm_is_between an_is_between cd_is_between ct_is_between, a_is_dice := f_is_dice, d_is_dice := PySem.W.fnOf "is_dice" "is_dice" (defArgs s_is_dice) (defBody s_is_dice) (defScope s_is_dice) .none kV_is_dice dc_is_dice pm_is_dice an_is_dice cd_is_dice ct_is_dice, a_check_dice := f_check_dice, d_check_dice := PySem.W.fnOf "check_dice" "check_dice" (defArgs s_check_dice) (defBody s_check_dice) (defScope s_check_dice) .none kV_check_dice dc_check_dice pm_check_dice an_check_dice cd_check_dice ct_check_dice, a_following := f_following, d_following := PySem.W.fnOf "following" "following" (defArgs s_following) (defBody s_following) (defScope s_following) .none kV_following dc_following pm_following an_following cd_following ct_following, a_roll := f_roll, d_roll := PySem.W.fnOf "roll" "roll" (defArgs s_roll) (defBody s_roll) (defScope s_roll) .none kV_roll dc_roll pm_roll an_roll cd_roll ct_roll, a_shuffled := f_shuffled, d_shuffled := PySem.W.fnOf "shuffled" "shuffled" (defArgs s_shuffled) (defBody s_shuffled) (defScope s_shuffled) .none kV_shuffled dc_shuffled pm_shuffled an_shuffled cd_shuffled ct_shuffled, a__law_stream := f__law_stream, d__law_stream := PySem.W.fnOf "_law_stream" "_law_stream" (defArgs s__law_stream) (defBody s__law_stream) (defScope s__law_stream) .none kV__law_stream dc__law_stream pm__law_stream an__law_stream cd__law_stream ct__law_stream, a__law_next := f__law_next, d__law_next := PySem.W.fnOf "_law_next" "_law_next" (defArgs s__law_next) (defBody s__law_next) (defScope s__law_next) .none kV__law_next dc__law_next pm__law_next an__law_next cd__law_next ct__law_next, a__law_is_integer := f__law_is_integer, d__law_is_integer := PySem.W.fnOf "_law_is_integer" "_law_is_integer" (defArgs s__law_is_integer) (defBody s__law_is_integer) (defScope s__law_is_integer) .none kV__law_is_integer dc__law_is_integer pm__law_is_integer an__law_is_integer cd__law_is_integer ct__law_is_integer, a__law_equal := f__law_equal, d__law_equal := PySem.W.fnOf "_law_equal" "_law_equal" (defArgs s__law_equal) (defBody s__law_equal) (defScope s__law_equal) .none kV__law_equal dc__law_equal pm__law_equal an__law_equal cd__law_equal ct__law_equal, a__law_dice := f__law_dice, d__law_dice := PySem.W.fnOf "_law_dice" "_law_dice" (defArgs s__law_dice) (defBody s__law_dice) (defScope s__law_dice) .none kV__law_dice dc__law_dice pm__law_dice an__law_dice cd__law_dice ct__law_dice, a__law_roll := f__law_roll, d__law_roll := PySem.W.fnOf "_law_roll" "_law_roll" (defArgs s__law_roll) (defBody s__law_roll) (defScope s__law_roll) .none kV__law_roll dc__law_roll pm__law_roll an__law_roll cd__law_roll ct__law_roll, a_law := fa, d_law := PySem.W.fnOf "law" "law" (defArgs s_law) (defBody s_law) (defScope s_law) .none kV_law dc_law pm_law an_law cd_law ct_law }
  have T : Tx K mg A := { f_is_whole := F_is_whole, g_is_whole := PySem.W.mg_of X G a_is_whole, b_is_whole := b_is_whole, f_is_between := F_is_between, g_is_between := PySem.W.mg_of X G a_is_between, b_is_between := b_is_between, f_is_dice := F_is_dice, g_is_dice := PySem.W.mg_of X G a_is_dice, b_is_dice := b_is_dice, f_check_dice := F_check_dice, g_check_dice := PySem.W.mg_of X G a_check_dice, b_check_dice := b_check_dice, f_following := F_following, g_following := PySem.W.mg_of X G a_following, b_following := b_following, f_roll := F_roll, g_roll := PySem.W.mg_of X G a_roll, b_roll := b_roll, f_shuffled := F_shuffled, g_shuffled := PySem.W.mg_of X G a_shuffled, b_shuffled := b_shuffled, f__law_stream := F__law_stream, g__law_stream := PySem.W.mg_of X G a__law_stream, b__law_stream := b__law_stream, f__law_next := F__law_next, g__law_next := PySem.W.mg_of X G a__law_next, b__law_next := b__law_next, f__law_is_integer := F__law_is_integer, g__law_is_integer := PySem.W.mg_of X G a__law_is_integer, b__law_is_integer := b__law_is_integer, f__law_equal := F__law_equal, g__law_equal := PySem.W.mg_of X G a__law_equal, b__law_equal := b__law_equal, f__law_dice := F__law_dice, g__law_dice := PySem.W.mg_of X G a__law_dice, b__law_dice := b__law_dice, f__law_roll := F__law_roll, g__law_roll := PySem.W.mg_of X G a__law_roll, b__law_roll := b__law_roll, f_law := F_law, g_law := PySem.W.mg_of X G a_law, b_law := b_law, m_abs := PySem.W.mg_none_of X G z_abs, m_all := PySem.W.mg_none_of X G z_all, m_bool := PySem.W.mg_none_of X G z_bool, m_int := PySem.W.mg_none_of X G z_int, m_isinstance := PySem.W.mg_none_of X G z_isinstance, m_len := PySem.W.mg_none_of X G z_len, m_list := PySem.W.mg_none_of X G z_list, m_range := PySem.W.mg_none_of X G z_range, m_str := PySem.W.mg_none_of X G z_str, m_tuple := PySem.W.mg_none_of X G z_tuple, c_FACTOR := ⟨_, PySem.W.mg_of X G v_FACTOR, r_FACTOR⟩, c_MOST_DRAWS := ⟨_, PySem.W.mg_of X G v_MOST_DRAWS, r_MOST_DRAWS⟩, c_MOST_ITEMS := ⟨_, PySem.W.mg_of X G v_MOST_ITEMS, r_MOST_ITEMS⟩, c_PRIME := ⟨_, PySem.W.mg_of X G v_PRIME, r_PRIME⟩ }
  refine ⟨A.d_law, fun s v => .of_eq rfl, fun base _ _ => ?_⟩
  have G_is_whole := ok_is_whole (P := l.prog) (w := w) (base := base) T
  have G_is_between := ok_is_between (P := l.prog) (w := w) (base := base) T G_is_whole
  have G_is_dice := ok_is_dice (P := l.prog) (w := w) (base := base) T G_is_between
  have G_check_dice := ok_check_dice (P := l.prog) (w := w) (base := base) T G_is_dice
  have G_following := ok_following (P := l.prog) (w := w) (base := base) T
  have G_roll := ok_roll (P := l.prog) (w := w) (base := base) T G_following
  have G_shuffled := ok_shuffled (P := l.prog) (w := w) (base := base) T G_roll G_check_dice
  have G__law_stream := ok__law_stream (P := l.prog) (w := w) (base := base) T
  have G__law_next := ok__law_next (P := l.prog) (w := w) (base := base) T
  have G__law_is_integer := ok__law_is_integer (P := l.prog) (w := w) (base := base) T
  have G__law_equal := ok__law_equal (P := l.prog) (w := w) (base := base) T G__law_is_integer
  have G__law_dice := ok__law_dice (P := l.prog) (w := w) (base := base) T G__law_next
  have G__law_roll := ok__law_roll (P := l.prog) (w := w) (base := base) T
  have G_law := ok_law (P := l.prog) (w := w) (base := base) T G__law_equal G_shuffled G__law_roll G__law_next G__law_dice G__law_stream
  exact G_law
end Law
open PySem PySem.W PyProof.Rows
set_option maxHeartbeats 0 in
theorem PySem.Challenge.cw_alikeplay_k06_shuffles_holds : PySem.Challenge.rw_alikeplay_k06_shuffles.Holds := by
  w_on; o_law; k_head; (case hw => w_witness2)
  k_fill
  refine L2.walk_ofB (l := PySem.Challenge.rw_alikeplay_k06_shuffles) (n := 63) (k := 14) (x := "_law_script") (CX := fun _ => L2.CX0) (sp := fun w => Q.sp1 (Law.P_law _)) rfl (by decide) rfl ⟨rfl, by decide, by decide⟩ (fun w h Y => PySem.W.kIn_of Y) ?F (fun _ _ a ns hl hb hO hS => ⟨a, ns, rfl, hS, hl, hb, Q.NoT.only hO, fun _ => rfl⟩) (fun _ _ _ _ _ h => h)
  case F =>
    intro w mg fa h KX G hmg
    refine' Law.all_mk KX G hmg ?a_is_whole ?l_is_whole ?c_is_whole ?k_is_whole ?a_is_between ?l_is_between ?c_is_between ?k_is_between ?a_is_dice ?l_is_dice ?c_is_dice ?k_is_dice ?a_check_dice ?l_check_dice ?c_check_dice ?k_check_dice ?a_following ?l_following ?c_following ?k_following ?a_roll ?l_roll ?c_roll ?k_roll ?a_shuffled ?l_shuffled ?c_shuffled ?k_shuffled ?a__law_stream ?l__law_stream ?c__law_stream ?k__law_stream ?a__law_next ?l__law_next ?c__law_next ?k__law_next ?a__law_is_integer ?l__law_is_integer ?c__law_is_integer ?k__law_is_integer ?a__law_equal ?l__law_equal ?c__law_equal ?k__law_equal ?a__law_dice ?l__law_dice ?c__law_dice ?k__law_dice ?a__law_roll ?l__law_roll ?c__law_roll ?k__law_roll ?a_law ?l_law ?c_law ?k_law ?z_abs ?z_all ?z_bool ?z_int ?z_isinstance ?z_len ?z_list ?z_range ?z_str ?z_tuple ?v_FACTOR ?r_FACTOR ?v_MOST_DRAWS ?r_MOST_DRAWS ?v_MOST_ITEMS ?r_MOST_ITEMS ?v_PRIME ?r_PRIME
    (case a_is_whole => k_is)
    (case l_is_whole => k_is)
    (case c_is_whole => k_is)
    (case k_is_whole => k_is)
    (case a_is_between => k_is)
    (case l_is_between => k_is)
    (case c_is_between => k_is)
    (case k_is_between => k_is)
    (case a_is_dice => k_is)
    (case l_is_dice => k_is)
    (case c_is_dice => k_is)
    (case k_is_dice => k_is)
    (case a_check_dice => k_is)
    (case l_check_dice => k_is)
    (case c_check_dice => k_is)
    (case k_check_dice => k_is)
    (case a_following => k_is)
    (case l_following => k_is)
    (case c_following => k_is)
    (case k_following => k_is)
    (case a_roll => k_is)
    (case l_roll => k_is)
    (case c_roll => k_is)
    (case k_roll => k_is)
    (case a_shuffled => k_is)
    (case l_shuffled => k_is)
    (case c_shuffled => k_is)
    (case k_shuffled => k_is)
    (case a__law_stream => k_is)
    (case l__law_stream => k_is)
    (case c__law_stream => k_is)
    (case k__law_stream => k_is)
    (case a__law_next => k_is)
    (case l__law_next => k_is)
    (case c__law_next => k_is)
    (case k__law_next => k_is)
    (case a__law_is_integer => k_is)
    (case l__law_is_integer => k_is)
    (case c__law_is_integer => k_is)
    (case k__law_is_integer => k_is)
    (case a__law_equal => k_is)
    (case l__law_equal => k_is)
    (case c__law_equal => k_is)
    (case k__law_equal => k_is)
    (case a__law_dice => k_is)
    (case l__law_dice => k_is)
    (case c__law_dice => k_is)
    (case k__law_dice => k_is)
    (case a__law_roll => k_is)
    (case l__law_roll => k_is)
    (case c__law_roll => k_is)
    (case k__law_roll => k_is)
    (case a_law => k_is)
    (case l_law => k_is)
    (case c_law => k_is)
    (case k_law => k_is)
    (case z_abs => k_is)
    (case z_all => k_is)
    (case z_bool => k_is)
    (case z_int => k_is)
    (case z_isinstance => k_is)
    (case z_len => k_is)
    (case z_list => k_is)
    (case z_range => k_is)
    (case z_str => k_is)
    (case z_tuple => k_is)
    (case v_FACTOR => k_is)
    (case r_FACTOR => exact ⟨_, rfl⟩)
    (case v_MOST_DRAWS => k_is)
    (case r_MOST_DRAWS => exact ⟨_, rfl⟩)
    (case v_MOST_ITEMS => k_is)
    (case r_MOST_ITEMS => exact ⟨_, rfl⟩)
    (case v_PRIME => k_is)
    (case r_PRIME => exact ⟨_, rfl⟩)
