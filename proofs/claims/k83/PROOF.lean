import PyProof.Rows.All
import Wide.All
import OpenK.AllK
import Wide.FinOn
import HandS.ForMost
import HandS.IsInst
import HandS.WideBits
import HandS.Wide
import HandS.Evl
import HandS.Style
import HandS.OwnEq
import HandS.Small
import HandS.Flow
import HandS.TryOnly
import PySem.Challenge.RW_curveheads_k83_whole_slopes_over_all_pri
section
set_option autoImplicit false
namespace Cv
/-- the five primes -/
class Pr (p : Nat) : Prop where
  is : p = 3 ∨ p = 5 ∨ p = 7 ∨ p = 11 ∨ p = 13

/-! ### raw lists of coefficients -/
def cf : List Int → Nat → Int
  | [], _ => 0
  | x :: _, 0 => x
  | _ :: r, n + 1 => cf r n
def addL : List Int → List Int → List Int
  | [], b => b
  | x :: a, [] => x :: a
  | x :: a, y :: b => (x + y) :: addL a b
def smL (k : Int) : List Int → List Int
  | [] => []
  | x :: a => (k * x) :: smL k a
def mulL : List Int → List Int → List Int
  | [], _ => []
  | x :: a, b => addL (smL x b) (0 :: mulL a b)

@[simp] theorem cf_nil (n : Nat) : cf [] n = 0 := by cases n <;> rfl
@[simp] theorem cf_zero (x : Int) (r : List Int) : cf (x :: r) 0 = x := rfl
@[simp] theorem cf_succ (x : Int) (r : List Int) (n : Nat) : cf (x :: r) (n + 1) = cf r n := rfl
@[simp] theorem cf_add : ∀ (a b : List Int) (n : Nat), cf (addL a b) n = cf a n + cf b n
  | [], b, n => by simp [addL]
  | x :: a, [], n => by simp [addL]
  | x :: a, y :: b, 0 => rfl
  | x :: a, y :: b, n + 1 => by simp [addL, cf_add a b n]
@[simp] theorem cf_sm (k : Int) : ∀ (a : List Int) (n : Nat), cf (smL k a) n = k * cf a n
  | [], n => by simp [smL]
  | x :: a, 0 => rfl
  | x :: a, n + 1 => by simp [smL, cf_sm k a n]
theorem cf_get : ∀ (l : List Int) (n : Nat), cf l n = l[n]?.getD 0
  | [], n => by simp
  | x :: a, 0 => rfl
  | x :: a, n + 1 => by simp [cf_get a n]
theorem cf_ge {l : List Int} {n : Nat} (h : l.length ≤ n) : cf l n = 0 := by
  rw [cf_get, List.getElem?_eq_none h]; rfl
theorem cf_lt {l : List Int} {n : Nat} (h : n < l.length) : cf l n = l[n] := by
  rw [cf_get, List.getElem?_eq_getElem h]; rfl
theorem cf_mem {l : List Int} {n : Nat} (h : n < l.length) : cf l n ∈ l := by
  rw [cf_lt h]; exact List.getElem_mem h

theorem mul_nil : ∀ (a : List Int) (n : Nat), cf (mulL a []) n = 0
  | [], n => by simp [mulL]
  | x :: a, 0 => by simp [mulL, smL]
  | x :: a, n + 1 => by simp [mulL, smL, mul_nil a n]
theorem cf_mul_cons (x : Int) (a b : List Int) (n : Nat) : cf (mulL (x :: a) b) n = x * cf b n + cf (0 :: mulL a b) n := by simp [mulL]
theorem cf_mul_consR : ∀ (b a : List Int) (x : Int) (n : Nat), cf (mulL b (x :: a)) n = x * cf b n + cf (0 :: mulL b a) n
  | [], a, x, n => by cases n <;> simp [mulL]
  | y :: b, a, x, 0 => by simp [mulL, smL, Int.mul_comm]
  | y :: b, a, x, n + 1 => by
    rw [cf_mul_cons, cf_succ, cf_succ, cf_succ, cf_succ, cf_mul_consR b a x n]
    simp only [mulL, cf_add, cf_sm]
    omega
theorem mulL_comm : ∀ (a b : List Int) (n : Nat), cf (mulL a b) n = cf (mulL b a) n
  | [], b, n => by rw [mul_nil]; simp [mulL]
  | x :: a, b, n => by
    rw [cf_mul_cons, cf_mul_consR]
    cases n with
    | zero => rfl
    | succ n => simp [mulL_comm a b n]
theorem mulL_addL : ∀ (a b c : List Int) (n : Nat), cf (mulL (addL a b) c) n = cf (mulL a c) n + cf (mulL b c) n
  | [], b, c, n => by simp [mulL, addL]
  | x :: a, [], c, n => by simp [addL, mulL]
  | x :: a, y :: b, c, 0 => by simp [addL, mulL, Int.add_mul]
  | x :: a, y :: b, c, n + 1 => by
    simp only [addL, mulL, cf_add, cf_sm, cf_succ, mulL_addL a b c n, Int.add_mul]
    omega
theorem mulL_sm (k : Int) : ∀ (a b : List Int) (n : Nat), cf (mulL (smL k a) b) n = k * cf (mulL a b) n
  | [], b, n => by simp [mulL, smL]
  | x :: a, b, 0 => by simp [smL, mulL, Int.mul_assoc]
  | x :: a, b, n + 1 => by simp [smL, mulL, mulL_sm k a b n, Int.mul_assoc, Int.mul_add]
theorem mulL_shift (a b : List Int) (n : Nat) : cf (mulL (0 :: a) b) n = cf (0 :: mulL a b) n := by simp [mulL]
theorem mulL_congr : ∀ (a b b' : List Int), (∀ n, cf b n = cf b' n) → ∀ n, cf (mulL a b) n = cf (mulL a b') n
  | [], b, b', _, n => rfl
  | x :: a, b, b', h, 0 => by simp [mulL, h]
  | x :: a, b, b', h, n + 1 => by simp [mulL, h, mulL_congr a b b' h n]
theorem mulL_congrL (a a' b : List Int) (h : ∀ n, cf a n = cf a' n) (n : Nat) : cf (mulL a b) n = cf (mulL a' b) n := by
  rw [mulL_comm a b, mulL_comm a' b]; exact mulL_congr b a a' h n
theorem mulL_assoc : ∀ (a b c : List Int) (n : Nat), cf (mulL (mulL a b) c) n = cf (mulL a (mulL b c)) n
  | [], b, c, n => by simp [mulL]
  | x :: a, b, c, n => by
    rw [cf_mul_cons]
    have h1 : cf (mulL (mulL (x :: a) b) c) n = cf (mulL (smL x b) c) n + cf (mulL (0 :: mulL a b) c) n := mulL_addL _ _ _ _
    rw [h1, mulL_sm, mulL_shift]
    cases n with
    | zero => simp
    | succ n => simp [mulL_assoc a b c n]

/-! ### modulo p -/
theorem emod_add {a b c d : Int} {p : Int} (h : a % p = b % p) (k : c % p = d % p) : (a + c) % p = (b + d) % p := by
  rw [Int.add_emod, h, k, ← Int.add_emod]
theorem emod_mul {a b c d : Int} {p : Int} (h : a % p = b % p) (k : c % p = d % p) : (a * c) % p = (b * d) % p := by
  rw [Int.mul_emod, h, k, ← Int.mul_emod]
def Eqv (p : Nat) (a b : List Int) : Prop := ∀ n, cf a n % (p : Int) = cf b n % (p : Int)
theorem mulL_eqv {p : Nat} : ∀ (a b b' : List Int), Eqv p b b' → Eqv p (mulL a b) (mulL a b')
  | [], b, b', _ => fun n => rfl
  | x :: a, b, b', h => fun n => by
    rw [cf_mul_cons, cf_mul_cons]
    refine emod_add (emod_mul rfl (h n)) ?_
    cases n with
    | zero => rfl
    | succ n => exact mulL_eqv a b b' h n
theorem mulL_eqvL {p : Nat} (a a' b : List Int) (h : Eqv p a a') : Eqv p (mulL a b) (mulL a' b) := fun n => by
  rw [mulL_comm a b, mulL_comm a' b]; exact mulL_eqv b a a' h n
theorem addL_eqv {p : Nat} {a a' b b' : List Int} (h : Eqv p a a') (k : Eqv p b b') : Eqv p (addL a b) (addL a' b') := fun n => by
  rw [cf_add, cf_add]; exact emod_add (h n) (k n)
theorem smL_eqv {p : Nat} (k : Int) {a a' : List Int} (h : Eqv p a a') : Eqv p (smL k a) (smL k a') := fun n => by
  rw [cf_sm, cf_sm]; exact emod_mul rfl (h n)

/-- without the noughts at the end -/
def dtz : List Int → List Int
  | [] => []
  | x :: r => match dtz r with
    | [] => if x = 0 then [] else [x]
    | y :: s => x :: y :: s
theorem cf_dtz : ∀ (l : List Int) (n : Nat), cf (dtz l) n = cf l n
  | [], n => rfl
  | x :: r, n => by
    have ih := cf_dtz r
    unfold dtz
    cases e : dtz r with
    | nil =>
      rw [e] at ih
      have z : ∀ m, cf r m = 0 := fun m => by rw [← ih m]; simp
      by_cases hx : x = 0
      · rw [if_pos hx]
        cases n with
        | zero => simp [hx]
        | succ n => simp [z]
      · rw [if_neg hx]
        cases n with
        | zero => simp
        | succ n => simp [z]
    | cons y s =>
      rw [e] at ih
      cases n with
      | zero => rfl
      | succ n => simp only [cf_succ]; exact ih n
theorem dtz_top : ∀ (l : List Int), dtz l ≠ [] → cf (dtz l) ((dtz l).length - 1) ≠ 0
  | [], h => absurd rfl h
  | x :: r, h => by
    have ih := dtz_top r
    unfold dtz at h ⊢
    cases e : dtz r with
    | nil =>
      rw [e] at h
      by_cases hx : x = 0
      · simp [hx] at h
      · simp [hx]
    | cons y s =>
      rw [e] at ih
      have := ih (by simp)
      simpa using this
theorem dtz_mem : ∀ (l : List Int) (x : Int), x ∈ dtz l → x ∈ l
  | [], x, h => h
  | y :: r, x, h => by
    have ih := dtz_mem r
    unfold dtz at h
    cases e : dtz r with
    | nil =>
      rw [e] at h
      by_cases hx : y = 0
      · simp [hx] at h
      · simp [hx] at h; simp [h]
    | cons z s =>
      rw [e] at h ih
      rcases List.mem_cons.mp h with h | h
      · simp [h]
      · exact List.mem_cons_of_mem _ (ih x h)
theorem dtz_length : ∀ (l : List Int), (dtz l).length ≤ l.length
  | [] => Nat.le_refl _
  | x :: r => by
    have ih := dtz_length r
    unfold dtz
    cases e : dtz r with
    | nil => by_cases hx : x = 0 <;> simp [hx]
    | cons y s => rw [e] at ih; simp at ih ⊢; omega
theorem top_nil {l : List Int} (h : l ≠ [] → cf l (l.length - 1) ≠ 0) (z : ∀ n, cf l n = 0) : l = [] := by
  cases l with
  | nil => rfl
  | cons x r => exact absurd (z _) (h (by simp))
theorem top_tail {x : Int} {l : List Int} (h : x :: l ≠ [] → cf (x :: l) ((x :: l).length - 1) ≠ 0) : l ≠ [] → cf l (l.length - 1) ≠ 0 := fun e => by
  cases l with
  | nil => exact absurd rfl e
  | cons y r =>
    have := h (by simp)
    simpa using this
theorem top_ext : ∀ {a b : List Int}, (a ≠ [] → cf a (a.length - 1) ≠ 0) → (b ≠ [] → cf b (b.length - 1) ≠ 0) → (∀ n, cf a n = cf b n) → a = b
  | [], b, _, hb, h => (top_nil hb fun n => by rw [← h n]; simp).symm
  | x :: a, [], ha, _, h => top_nil ha fun n => by rw [h n]; simp
  | x :: a, y :: b, ha, hb, h => by
    have h0 := h 0
    simp at h0
    rw [h0, top_ext (top_tail ha) (top_tail hb) fun n => by simpa using h (n + 1)]

def modL (p : Nat) (l : List Int) : List Int := l.map (· % (p : Int))
theorem cf_modL (p : Nat) : ∀ (l : List Int) (n : Nat), cf (modL p l) n = cf l n % (p : Int)
  | [], n => by simp [modL]
  | x :: l, 0 => rfl
  | x :: l, n + 1 => cf_modL p l n
def trim (p : Nat) (l : List Int) : List Int := dtz (modL p l)
theorem cf_trim (p : Nat) (l : List Int) (n : Nat) : cf (trim p l) n = cf l n % (p : Int) := by
  unfold trim; rw [cf_dtz, cf_modL]

/-! ### polynomials -/
structure Pol (p : Nat) where
  l : List Int
  rng : ∀ x ∈ l, 0 ≤ x ∧ x < (p : Int)
  top : l ≠ [] → cf l (l.length - 1) ≠ 0

section
variable {p : Nat}
theorem Pr.pos (p : Nat) [Pr p] : 0 < p := by have := Pr.is (p := p); omega
theorem Pr.posI (p : Nat) [Pr p] : (0 : Int) < p := by have := Pr.is (p := p); omega
theorem Pr.le13 (p : Nat) [Pr p] : p ≤ 13 := by have := Pr.is (p := p); omega
theorem Pr.ge3 (p : Nat) [Pr p] : 3 ≤ p := by have := Pr.is (p := p); omega

theorem Pol.l_inj {A B : Pol p} (h : A.l = B.l) : A = B := by
  cases A; cases B; cases h; rfl
theorem Pol.ext {A B : Pol p} (h : ∀ n, cf A.l n = cf B.l n) : A = B := Pol.l_inj (top_ext A.top B.top h)
def Pol.len (A : Pol p) : Nat := A.l.length

variable [Pr p]
theorem Pol.cf_rng (A : Pol p) (n : Nat) : 0 ≤ cf A.l n ∧ cf A.l n < (p : Int) := by
  by_cases h : n < A.l.length
  · exact A.rng _ (cf_mem h)
  · rw [cf_ge (by omega)]
    have := Pr.posI p
    omega
theorem Pol.cf_mod (A : Pol p) (n : Nat) : cf A.l n % (p : Int) = cf A.l n := Int.emod_eq_of_lt (A.cf_rng n).1 (A.cf_rng n).2
/-- the polynomial of any list -/
def Pol.of (l : List Int) : Pol p := ⟨trim p l, fun x hx => by
  have h := dtz_mem _ _ hx
  obtain ⟨y, _, rfl⟩ := List.mem_map.mp h
  exact ⟨Int.emod_nonneg _ (by have := Pr.posI p; omega), Int.emod_lt_of_pos _ (Pr.posI p)⟩, dtz_top _⟩
theorem Pol.of_l (l : List Int) : (Pol.of l : Pol p).l = trim p l := rfl
theorem Pol.cf_of (l : List Int) (n : Nat) : cf (Pol.of l : Pol p).l n = cf l n % (p : Int) := cf_trim p l n
theorem Pol.of_eq {a b : List Int} (h : Eqv p a b) : (Pol.of a : Pol p) = Pol.of b := Pol.ext fun n => by rw [Pol.cf_of, Pol.cf_of, h n]
theorem Pol.eqv_of {a b : List Int} (h : (Pol.of a : Pol p) = Pol.of b) : Eqv p a b := fun n => by
  rw [← Pol.cf_of (p := p) a n, ← Pol.cf_of (p := p) b n, h]
theorem Pol.of_self (A : Pol p) : Pol.of A.l = A := Pol.ext fun n => by rw [Pol.cf_of, A.cf_mod]
theorem Pol.eqv_self (l : List Int) : Eqv p (Pol.of l : Pol p).l l := fun n => by
  rw [Pol.cf_of, Int.emod_emod_of_dvd _ (Int.dvd_refl _)]
theorem Pol.ind {P : Pol p → Prop} (h : ∀ l, P (Pol.of l)) (A : Pol p) : P A := by
  rw [← Pol.of_self A]; exact h _

def Pol.add (A B : Pol p) : Pol p := Pol.of (addL A.l B.l)
def Pol.mul (A B : Pol p) : Pol p := Pol.of (mulL A.l B.l)
def Pol.neg (A : Pol p) : Pol p := Pol.of (smL (-1) A.l)
def Pol.C (k : Int) : Pol p := Pol.of [k]
def Pol.pow (A : Pol p) : Nat → Pol p
  | 0 => Pol.C 1
  | n + 1 => (Pol.pow A n).mul A
theorem Pol.add_of (a b : List Int) : (Pol.of a : Pol p).add (Pol.of b) = Pol.of (addL a b) := Pol.of_eq (addL_eqv (Pol.eqv_self a) (Pol.eqv_self b))
theorem Pol.mul_of (a b : List Int) : (Pol.of a : Pol p).mul (Pol.of b) = Pol.of (mulL a b) :=
  (Pol.of_eq (mulL_eqvL _ _ _ (Pol.eqv_self a))).trans (Pol.of_eq (mulL_eqv _ _ _ (Pol.eqv_self b)))
theorem Pol.neg_of (a : List Int) : (Pol.of a : Pol p).neg = Pol.of (smL (-1) a) := Pol.of_eq (smL_eqv _ (Pol.eqv_self a))
theorem of_congr {a b : List Int} (h : ∀ n, cf a n = cf b n) : (Pol.of a : Pol p) = Pol.of b := Pol.of_eq fun n => by rw [h n]

instance : Add (Pol p) := ⟨Pol.add⟩
instance : Mul (Pol p) := ⟨Pol.mul⟩
instance : Neg (Pol p) := ⟨Pol.neg⟩
instance : Sub (Pol p) := ⟨fun A B => A.add B.neg⟩
instance : NatCast (Pol p) := ⟨fun n => Pol.C n⟩
instance : IntCast (Pol p) := ⟨fun n => Pol.C n⟩
instance (n : Nat) : OfNat (Pol p) n := ⟨Pol.C n⟩
instance : HPow (Pol p) Nat (Pol p) := ⟨Pol.pow⟩
instance : SMul Nat (Pol p) := ⟨fun n A => (Pol.C n).mul A⟩
instance : SMul Int (Pol p) := ⟨fun n A => (Pol.C n).mul A⟩
theorem of_add (a b : List Int) : (Pol.of a + Pol.of b : Pol p) = Pol.of (addL a b) := Pol.add_of a b
theorem of_mul (a b : List Int) : (Pol.of a * Pol.of b : Pol p) = Pol.of (mulL a b) := Pol.mul_of a b
theorem of_neg (a : List Int) : (- Pol.of a : Pol p) = Pol.of (smL (-1) a) := Pol.neg_of a
theorem of_nat (n : Nat) : (OfNat.ofNat n : Pol p) = Pol.of [(n : Int)] := rfl

theorem mul_one_raw (a : List Int) (n : Nat) : cf (mulL a [1]) n = cf a n := by
  rw [mulL_comm, cf_mul_cons]
  cases n <;> simp [mulL]
theorem mul_comm' (A B : Pol p) : A * B = B * A := by
  induction A using Pol.ind with | h a => ?_
  induction B using Pol.ind with | h b => ?_
  rw [of_mul, of_mul]; exact of_congr (mulL_comm a b)
instance : Lean.Grind.CommRing (Pol p) where
  add_zero A := by
    induction A using Pol.ind with | h a => ?_
    show Pol.of a + Pol.of [0] = _
    rw [of_add]; exact of_congr fun n => by cases n <;> simp
  add_comm A B := by
    induction A using Pol.ind with | h a => ?_
    induction B using Pol.ind with | h b => ?_
    rw [of_add, of_add]; exact of_congr fun n => by simp [Int.add_comm]
  add_assoc A B C := by
    induction A using Pol.ind with | h a => ?_
    induction B using Pol.ind with | h b => ?_
    induction C using Pol.ind with | h c => ?_
    simp only [of_add]; exact of_congr fun n => by simp [Int.add_assoc]
  mul_assoc A B C := by
    induction A using Pol.ind with | h a => ?_
    induction B using Pol.ind with | h b => ?_
    induction C using Pol.ind with | h c => ?_
    simp only [of_mul]; exact of_congr (mulL_assoc a b c)
  mul_comm := mul_comm'
  mul_one A := by
    induction A using Pol.ind with | h a => ?_
    show Pol.of a * Pol.of [1] = _
    rw [of_mul]; exact of_congr (mul_one_raw a)
  one_mul A := by
    rw [mul_comm']
    induction A using Pol.ind with | h a => ?_
    show Pol.of a * Pol.of [1] = _
    rw [of_mul]; exact of_congr (mul_one_raw a)
  left_distrib A B C := by
    rw [mul_comm' A, mul_comm' A, mul_comm' A]
    induction A using Pol.ind with | h a => ?_
    induction B using Pol.ind with | h b => ?_
    induction C using Pol.ind with | h c => ?_
    simp only [of_mul, of_add]; exact of_congr fun n => by simp [mulL_addL]
  right_distrib A B C := by
    induction A using Pol.ind with | h a => ?_
    induction B using Pol.ind with | h b => ?_
    induction C using Pol.ind with | h c => ?_
    simp only [of_mul, of_add]; exact of_congr fun n => by simp [mulL_addL]
  zero_mul A := by
    induction A using Pol.ind with | h a => ?_
    show Pol.of [0] * Pol.of a = Pol.of [0]
    rw [of_mul]; exact of_congr fun n => by cases n <;> simp [mulL]
  mul_zero A := by
    rw [mul_comm']
    induction A using Pol.ind with | h a => ?_
    show Pol.of [0] * Pol.of a = Pol.of [0]
    rw [of_mul]; exact of_congr fun n => by cases n <;> simp [mulL]
  pow_zero A := rfl
  pow_succ A n := rfl
  ofNat_succ n := by
    show Pol.of [((n + 1 : Nat) : Int)] = Pol.of [(n : Int)] + Pol.of [((1 : Nat) : Int)]
    rw [of_add]; exact of_congr fun n => by cases n <;> simp [addL]
  ofNat_eq_natCast n := rfl
  nsmul_eq_natCast_mul n A := rfl
  neg_add_cancel A := by
    induction A using Pol.ind with | h a => ?_
    show - Pol.of a + Pol.of a = Pol.of [0]
    rw [of_neg, of_add]; exact of_congr fun n => by
      rw [cf_add, cf_sm]
      cases n <;> simp <;> omega
  sub_eq_add_neg A B := rfl
  neg_zsmul i A := by
    show Pol.of [-i] * A = - (Pol.of [i] * A)
    induction A using Pol.ind with | h a => ?_
    rw [of_mul, of_mul, of_neg]
    refine of_congr fun n => ?_
    rw [cf_sm, cf_mul_cons, cf_mul_cons]
    cases n <;> simp [mulL, Int.neg_mul]
  zsmul_natCast_eq_nsmul n A := rfl
  intCast_ofNat n := rfl
  intCast_neg i := by
    show Pol.of [-i] = - Pol.of [i]
    rw [of_neg]; exact of_congr fun n => by cases n <;> simp [smL]
theorem C_eq {i j : Int} : (Pol.C i : Pol p) = Pol.C j ↔ i % (p : Int) = j % (p : Int) := by
  constructor
  · intro h
    simpa using Pol.eqv_of h 0
  · intro h
    exact Pol.of_eq fun n => by cases n <;> simp [h]
instance : Lean.Grind.IsCharP (Pol p) p where
  ofNat_ext_iff {x y} := by
    show (Pol.C (x : Int) : Pol p) = Pol.C (y : Int) ↔ _
    rw [C_eq]; omega
example (A B : Pol p) : (A + B) * (A - B) = A * A - B * B := by grind
end
end Cv
end
section
set_option autoImplicit false
namespace Cv
section
variable {p : Nat} [Pr p]
/-! ### lengths and leading numbers -/
theorem cf_addP (A B : Pol p) (n : Nat) : cf (A + B).l n = (cf A.l n + cf B.l n) % (p : Int) := by
  show cf (Pol.of (addL A.l B.l) : Pol p).l n = _
  rw [Pol.cf_of, cf_add]
theorem cf_mulP (A B : Pol p) (n : Nat) : cf (A * B).l n = cf (mulL A.l B.l) n % (p : Int) := by
  show cf (Pol.of (mulL A.l B.l) : Pol p).l n = _
  rw [Pol.cf_of]
theorem cf_negP (A : Pol p) (n : Nat) : cf (-A).l n = (- cf A.l n) % (p : Int) := by
  show cf (Pol.of (smL (-1) A.l) : Pol p).l n = _
  rw [Pol.cf_of, cf_sm, Int.neg_one_mul]
theorem cf_subP (A B : Pol p) (n : Nat) : cf (A - B).l n = (cf A.l n - cf B.l n) % (p : Int) := by
  show cf (A + -B).l n = _
  rw [cf_addP, cf_negP, Int.add_emod_emod, Int.sub_eq_add_neg]
theorem cf_C (k : Int) (A : Pol p) (n : Nat) : cf (Pol.C k * A).l n = (k * cf A.l n) % (p : Int) := by
  rw [← Pol.of_self A]
  show cf (Pol.of [k] * Pol.of A.l : Pol p).l n = _
  rw [of_mul, Pol.cf_of, cf_mul_cons, Pol.of_self]
  cases n <;> simp [mulL]
theorem zero_l : (0 : Pol p).l = [] := by
  show trim p [0] = []
  simp [trim, modL, dtz]
theorem one_l : (1 : Pol p).l = [1] := by
  show trim p [1] = [1]
  have h : (1 : Int) % (p : Int) = 1 := Int.emod_eq_of_lt (by omega) (by have := Pr.ge3 p; omega)
  simp [trim, modL, dtz, h]
theorem len_zero : (0 : Pol p).len = 0 := by unfold Pol.len; rw [zero_l]; rfl
theorem eq_zero_iff {A : Pol p} : A = 0 ↔ A.l = [] := ⟨fun h => by rw [h, zero_l], fun h => Pol.l_inj (by rw [h, zero_l])⟩
theorem eq_zero_len {A : Pol p} : A = 0 ↔ A.len = 0 := by
  rw [eq_zero_iff]; unfold Pol.len; rw [List.length_eq_zero_iff]
theorem len_pos {A : Pol p} (h : A ≠ 0) : 0 < A.len := Nat.pos_of_ne_zero fun e => h (eq_zero_len.mpr e)
def Pol.lead (A : Pol p) : Int := cf A.l (A.len - 1)
theorem lead_ne {A : Pol p} (h : A ≠ 0) : A.lead ≠ 0 := A.top fun e => h (eq_zero_iff.mpr e)
theorem lead_mod {A : Pol p} (h : A ≠ 0) : A.lead % (p : Int) ≠ 0 := by
  unfold Pol.lead; rw [A.cf_mod]; exact lead_ne h
theorem len_le {A : Pol p} {n : Nat} : A.len ≤ n ↔ ∀ m, n ≤ m → cf A.l m = 0 := by
  constructor
  · intro h m hm
    exact cf_ge (Nat.le_trans h hm)
  · intro h
    refine Nat.le_of_not_lt fun hlt => ?_
    have hne : A ≠ 0 := fun e => by rw [e, len_zero] at hlt; omega
    exact lead_ne hne (h _ (by omega))
theorem len_add (A B : Pol p) : (A + B).len ≤ max A.len B.len := len_le.mpr fun m hm => by
  rw [cf_addP, len_le.mp (Nat.le_refl A.len) m (by omega), len_le.mp (Nat.le_refl B.len) m (by omega)]; simp
theorem len_neg (A : Pol p) : (-A).len ≤ A.len := len_le.mpr fun m hm => by
  rw [cf_negP, len_le.mp (Nat.le_refl A.len) m hm]; simp
theorem len_sub (A B : Pol p) : (A - B).len ≤ max A.len B.len := len_le.mpr fun m hm => by
  rw [cf_subP, len_le.mp (Nat.le_refl A.len) m (by omega), len_le.mp (Nat.le_refl B.len) m (by omega)]; simp
theorem len_C (k : Int) (A : Pol p) : (Pol.C k * A).len ≤ A.len := len_le.mpr fun m hm => by
  rw [cf_C, len_le.mp (Nat.le_refl A.len) m hm]; simp
theorem len_of (l : List Int) : (Pol.of l : Pol p).len ≤ l.length := len_le.mpr fun m hm => by
  rw [Pol.cf_of, cf_ge hm]; simp
theorem mulL_len : ∀ (a b : List Int) (n : Nat), a.length + b.length ≤ n + 1 → cf (mulL a b) n = 0
  | [], b, n, _ => by simp [mulL]
  | x :: a, b, n, h => by
    rw [List.length_cons] at h
    rw [cf_mul_cons, cf_ge (l := b) (by omega)]
    cases n with
    | zero => simp
    | succ n => simp only [cf_succ]; rw [mulL_len a b n (by omega)]; simp
theorem mulL_top : ∀ (a b : List Int) (m k : Nat), a.length = m + 1 → b.length = k + 1 → cf (mulL a b) (m + k) = cf a m * cf b k
  | [], b, m, k, h, _ => by simp at h
  | x :: a, b, 0, k, h, hb => by
    have ha : a = [] := List.length_eq_zero_iff.mp (by simpa using h)
    subst ha
    rw [cf_mul_cons, Nat.zero_add]
    cases k <;> simp [mulL]
  | x :: a, b, m + 1, k, h, hb => by
    rw [List.length_cons] at h
    rw [cf_mul_cons, cf_ge (l := b) (by omega), show m + 1 + k = (m + k) + 1 by omega, cf_succ, cf_succ, mulL_top a b m k (by omega) hb]; simp
theorem len_mul_le (A B : Pol p) : (A * B).len ≤ A.len + B.len - 1 := len_le.mpr fun m hm => by
  rw [cf_mulP, mulL_len]
  · simp
  · unfold Pol.len at hm; omega
theorem len_mul_le' (A B : Pol p) : (A * B).len ≤ A.len + B.len := Nat.le_trans (len_mul_le A B) (by omega)

/-! ### the numbers modulo p are a field -/
theorem inv_nat (r : Nat) (h : r < p) (h0 : r ≠ 0) : ∃ y, y < p ∧ 0 < y ∧ y * r % p = 1 := by
  have key3 : ∀ r : Fin 3, r.val ≠ 0 → ∃ y : Fin 3, 0 < y.val ∧ y.val * r.val % 3 = 1 := by decide
  have key5 : ∀ r : Fin 5, r.val ≠ 0 → ∃ y : Fin 5, 0 < y.val ∧ y.val * r.val % 5 = 1 := by decide
  have key7 : ∀ r : Fin 7, r.val ≠ 0 → ∃ y : Fin 7, 0 < y.val ∧ y.val * r.val % 7 = 1 := by decide
  have key11 : ∀ r : Fin 11, r.val ≠ 0 → ∃ y : Fin 11, 0 < y.val ∧ y.val * r.val % 11 = 1 := by decide
  have key13 : ∀ r : Fin 13, r.val ≠ 0 → ∃ y : Fin 13, 0 < y.val ∧ y.val * r.val % 13 = 1 := by decide
  rcases Pr.is (p := p) with e | e | e | e | e
  · subst e; obtain ⟨y, h1, h2⟩ := key3 ⟨r, h⟩ h0; exact ⟨y.val, y.isLt, h1, h2⟩
  · subst e; obtain ⟨y, h1, h2⟩ := key5 ⟨r, h⟩ h0; exact ⟨y.val, y.isLt, h1, h2⟩
  · subst e; obtain ⟨y, h1, h2⟩ := key7 ⟨r, h⟩ h0; exact ⟨y.val, y.isLt, h1, h2⟩
  · subst e; obtain ⟨y, h1, h2⟩ := key11 ⟨r, h⟩ h0; exact ⟨y.val, y.isLt, h1, h2⟩
  · subst e; obtain ⟨y, h1, h2⟩ := key13 ⟨r, h⟩ h0; exact ⟨y.val, y.isLt, h1, h2⟩
theorem inv_ex (x : Int) (h : x % (p : Int) ≠ 0) : ∃ y : Int, 0 < y ∧ y < p ∧ y * x % (p : Int) = 1 := by
  have hp := Pr.posI p
  have h1 : 0 ≤ x % (p : Int) := Int.emod_nonneg _ (by omega)
  have h2 : x % (p : Int) < p := Int.emod_lt_of_pos _ hp
  obtain ⟨r, hr⟩ := Int.eq_ofNat_of_zero_le h1
  obtain ⟨y, y1, y2, y3⟩ := inv_nat (p := p) r (by omega) (by omega)
  refine ⟨y, by omega, by omega, ?_⟩
  have h3 : ((y * r % p : Nat) : Int) = 1 := by rw [y3]; rfl
  have h4 : (y : Int) * x % (p : Int) = (y : Int) * (x % (p : Int)) % (p : Int) := by
    rw [Int.mul_emod, Int.mul_emod (y : Int) (x % (p : Int)), Int.emod_emod_of_dvd _ (Int.dvd_refl _)]
  rw [h4, hr]
  simpa using h3
noncomputable def inv (p : Nat) [Pr p] (x : Int) : Int := open Classical in if h : x % (p : Int) ≠ 0 then Classical.choose (inv_ex x h) else 0
theorem inv_spec {x : Int} (h : x % (p : Int) ≠ 0) : 0 < inv p x ∧ inv p x < p ∧ inv p x * x % (p : Int) = 1 := by
  unfold inv; rw [dif_pos h]; exact Classical.choose_spec (inv_ex x h)
theorem mod_mul_ne {x y : Int} (hx : x % (p : Int) ≠ 0) (hy : y % (p : Int) ≠ 0) : x * y % (p : Int) ≠ 0 := fun e => by
  obtain ⟨_, _, h⟩ := inv_spec (p := p) hx
  apply hy
  have h1 : (inv p x * x) * y % (p : Int) = y % (p : Int) := by rw [Int.mul_emod, h, Int.one_mul, Int.emod_emod_of_dvd _ (Int.dvd_refl _)]
  rw [← h1, Int.mul_assoc, Int.mul_emod, e]; simp
theorem inv_unique {x y : Int} (hy0 : 0 ≤ y) (hyp : y < p) (h : y * x % (p : Int) = 1) : y = inv p x := by
  have hx : x % (p : Int) ≠ 0 := fun e => by
    rw [Int.mul_emod, e] at h; simp at h
  obtain ⟨a, b, c⟩ := inv_spec (p := p) hx
  have e1 : y * x * inv p x % (p : Int) = inv p x % (p : Int) := by rw [Int.mul_emod, h, Int.one_mul, Int.emod_emod_of_dvd _ (Int.dvd_refl _)]
  have e2 : y * x * inv p x % (p : Int) = y % (p : Int) := by
    rw [Int.mul_assoc, Int.mul_comm x, Int.mul_emod, c, Int.mul_one, Int.emod_emod_of_dvd _ (Int.dvd_refl _)]
  rw [e2, Int.emod_eq_of_lt hy0 hyp, Int.emod_eq_of_lt (by omega) b] at e1
  exact e1

/-! ### products of what is not nought -/
theorem lead_mul_aux {A B : Pol p} (hA : A ≠ 0) (hB : B ≠ 0) : cf (A * B).l (A.len - 1 + (B.len - 1)) = A.lead * B.lead % (p : Int) := by
  have h1 := len_pos hA
  have h2 := len_pos hB
  rw [cf_mulP, mulL_top _ _ (A.len - 1) (B.len - 1) (by unfold Pol.len at *; omega) (by unfold Pol.len at *; omega)]
  rfl
theorem lead_mul_ne {A B : Pol p} (hA : A ≠ 0) (hB : B ≠ 0) : cf (A * B).l (A.len - 1 + (B.len - 1)) ≠ 0 := by
  rw [lead_mul_aux hA hB]; exact mod_mul_ne (lead_mod hA) (lead_mod hB)
theorem mul_ne_zero {A B : Pol p} (hA : A ≠ 0) (hB : B ≠ 0) : A * B ≠ 0 := fun e => by
  apply lead_mul_ne hA hB
  rw [e, zero_l, cf_nil]
theorem len_mul {A B : Pol p} (hA : A ≠ 0) (hB : B ≠ 0) : (A * B).len = A.len + B.len - 1 := by
  refine Nat.le_antisymm (len_mul_le A B) (Nat.le_of_not_lt fun h => lead_mul_ne hA hB (len_le.mp (Nat.le_refl _) _ ?_))
  have h1 := len_pos hA
  have h2 := len_pos hB
  omega
theorem lead_mul {A B : Pol p} (hA : A ≠ 0) (hB : B ≠ 0) : (A * B).lead = A.lead * B.lead % (p : Int) := by
  rw [← lead_mul_aux hA hB]
  unfold Pol.lead
  rw [len_mul hA hB]
  have h1 := len_pos hA
  have h2 := len_pos hB
  congr 1; omega
theorem mul_eq_zero {A B : Pol p} (h : A * B = 0) : A = 0 ∨ B = 0 := by
  by_cases hA : A = 0
  · exact .inl hA
  · exact .inr (Classical.byContradiction fun hB => mul_ne_zero hA hB h)
theorem mul_cancel {A B D : Pol p} (hD : D ≠ 0) (h : D * A = D * B) : A = B := by
  have e : D * (A - B) = 0 := by grind
  rcases mul_eq_zero e with h | h
  · exact absurd h hD
  · grind
theorem pow_ne_zero {A : Pol p} (h : A ≠ 0) : ∀ n : Nat, A ^ n ≠ 0
  | 0 => fun e => by
    have e' : (1 : Pol p) = 0 := by grind
    have := eq_zero_iff.mp e'
    rw [one_l] at this; simp at this
  | n + 1 => fun e => by
    rcases mul_eq_zero (show A ^ n * A = 0 by grind) with e | e
    · exact pow_ne_zero h n e
    · exact h e
theorem one_ne_zero : (1 : Pol p) ≠ 0 := fun e => by
  have := eq_zero_iff.mp e
  rw [one_l] at this; simp at this

/-! ### numbers as polynomials -/
theorem C_mul (i j : Int) : (Pol.C i * Pol.C j : Pol p) = Pol.C (i * j) := by
  show (Pol.of [i] * Pol.of [j] : Pol p) = Pol.of [i * j]
  rw [of_mul]; exact of_congr fun n => by cases n <;> simp [mulL, smL, addL]
theorem C_add (i j : Int) : (Pol.C i + Pol.C j : Pol p) = Pol.C (i + j) := by
  show (Pol.of [i] + Pol.of [j] : Pol p) = Pol.of [i + j]
  rw [of_add]; exact of_congr fun n => by cases n <;> simp [addL]
theorem C_one : (Pol.C 1 : Pol p) = 1 := rfl
theorem C_zero : (Pol.C 0 : Pol p) = 0 := rfl
theorem C_mod {i j : Int} (h : i % (p : Int) = j % (p : Int)) : (Pol.C i : Pol p) = Pol.C j := C_eq.mpr h
theorem C_ne {k : Int} (h : k % (p : Int) ≠ 0) : (Pol.C k : Pol p) ≠ 0 := fun e => by
  rw [← C_zero, C_eq] at e
  exact h (by rw [e]; simp)
theorem C_inv {k : Int} (h : k % (p : Int) ≠ 0) : (Pol.C (inv p k) * Pol.C k : Pol p) = 1 := by
  rw [C_mul, ← C_one]
  refine C_mod ?_
  rw [(inv_spec h).2.2]
  exact (Int.emod_eq_of_lt (by omega) (by have := Pr.ge3 p; omega)).symm
def Pol.X : Pol p := Pol.of [0, 1]
theorem X_mul (A : Pol p) : Pol.X * A = Pol.of (0 :: A.l) := by
  rw [← Pol.of_self A]
  unfold Pol.X
  rw [of_mul, Pol.of_self]
  exact of_congr fun n => by
    rw [cf_mul_cons]
    cases n with
    | zero => simp
    | succ n => simp [mulL_comm [1], mul_one_raw]
theorem of_cons (x : Int) (l : List Int) : (Pol.of (x :: l) : Pol p) = Pol.C x + Pol.X * Pol.of l := by
  rw [X_mul]
  show _ = Pol.of [x] + Pol.of (0 :: (Pol.of l : Pol p).l)
  rw [of_add]
  refine Pol.of_eq fun n => ?_
  cases n with
  | zero => simp [addL]
  | succ n => simp [addL, Pol.cf_of]
theorem of_nil : (Pol.of [] : Pol p) = 0 := Pol.ext fun n => by rw [Pol.cf_of, zero_l]; simp
/-- induction from the lowest number upwards -/
theorem Pol.rec_X {P : Pol p → Prop} (h0 : P 0) (h : ∀ (x : Int) (A : Pol p), P A → P (Pol.C x + Pol.X * A)) (A : Pol p) : P A := by
  rw [← Pol.of_self A]
  have go : ∀ l : List Int, P (Pol.of l) := fun l => by
    induction l with
    | nil => rw [of_nil]; exact h0
    | cons x l ih => rw [of_cons]; exact h x _ ih
  exact go _
theorem cf_X (A : Pol p) (n : Nat) : cf (Pol.X * A).l (n + 1) = cf A.l n := by
  rw [X_mul, Pol.cf_of]; simp [A.cf_mod]
theorem cf_X0 (A : Pol p) : cf (Pol.X * A).l 0 = 0 := by
  rw [X_mul, Pol.cf_of]; simp
theorem cf_C1 (x : Int) (n : Nat) : cf (Pol.C x : Pol p).l (n + 1) = 0 := by
  show cf (Pol.of [x] : Pol p).l (n + 1) = 0
  rw [Pol.cf_of]; simp
theorem cf_C0 (x : Int) : cf (Pol.C x : Pol p).l 0 = x % (p : Int) := by
  show cf (Pol.of [x] : Pol p).l 0 = _
  rw [Pol.cf_of]; simp
theorem len_CX (x : Int) (A : Pol p) : (Pol.C x + Pol.X * A).len ≤ A.len + 1 := len_le.mpr fun m hm => by
  cases m with
  | zero => omega
  | succ m =>
    rw [cf_addP, cf_C1, cf_X, len_le.mp (Nat.le_refl A.len) m (by omega)]; simp
theorem len_Cx (x : Int) : (Pol.C x : Pol p).len ≤ 1 := len_le.mpr fun m hm => by
  cases m with
  | zero => omega
  | succ m => rw [cf_C1]
theorem len_one : (1 : Pol p).len = 1 := by unfold Pol.len; rw [one_l]; rfl

/-! ### division with a rest -/
theorem div_ex (A B : Pol p) (hB : B ≠ 0) : ∃ Q R : Pol p, A = Q * B + R ∧ R.len < B.len := by
  induction A using Pol.rec_X with
  | h0 => exact ⟨0, 0, by grind, by rw [len_zero]; exact len_pos hB⟩
  | h x A ih =>
    obtain ⟨Q, R, e, hR⟩ := ih
    let T : Pol p := Pol.C x + Pol.X * R
    have hT : T.len ≤ B.len := Nat.le_trans (len_CX x R) hR
    let c := cf T.l (B.len - 1) * inv p B.lead
    refine ⟨Pol.X * Q + Pol.C c, T - Pol.C c * B, by grind, ?_⟩
    have hb := len_pos hB
    have : (T - Pol.C c * B).len ≤ B.len - 1 := len_le.mpr fun m hm => by
      rw [cf_subP, cf_C]
      by_cases h : m = B.len - 1
      · subst h
        have h1 : c * cf B.l (B.len - 1) % (p : Int) = cf T.l (B.len - 1) % (p : Int) := by
          show cf T.l (B.len - 1) * inv p B.lead * B.lead % (p : Int) = _
          rw [Int.mul_assoc, Int.mul_emod, (inv_spec (lead_mod hB)).2.2, Int.mul_one, Int.emod_emod_of_dvd _ (Int.dvd_refl _)]
        rw [Int.sub_emod, h1]; simp
      · rw [len_le.mp hT m (by omega), len_le.mp (Nat.le_refl B.len) m (by omega)]; simp
    omega
theorem div_unique {B Q R Q' R' : Pol p} (hR : R.len < B.len) (hR' : R'.len < B.len) (h : Q * B + R = Q' * B + R') : Q = Q' ∧ R = R' := by
  have hB : B ≠ 0 := fun e => by rw [e, len_zero] at hR; omega
  have e : (Q - Q') * B = R' - R := by grind
  by_cases hq : Q - Q' = 0
  · have : Q = Q' := by grind
    exact ⟨this, by grind⟩
  · have h1 := len_mul hq hB
    rw [e] at h1
    have h2 := len_sub R' R
    have h3 := len_pos hq
    omega
open Classical in
noncomputable def quo (A B : Pol p) : Pol p := if h : B = 0 then 0 else Classical.choose (div_ex A B h)
open Classical in
noncomputable def rem (A B : Pol p) : Pol p := if h : B = 0 then A else Classical.choose (Classical.choose_spec (div_ex A B h))
theorem quo_rem (A B : Pol p) (h : B ≠ 0) : A = quo A B * B + rem A B ∧ (rem A B).len < B.len := by
  unfold quo rem
  rw [dif_neg h, dif_neg h]
  exact Classical.choose_spec (Classical.choose_spec (div_ex A B h))
theorem quo_rem_of {A B Q R : Pol p} (h : A = Q * B + R) (hR : R.len < B.len) : quo A B = Q ∧ rem A B = R := by
  have hB : B ≠ 0 := fun e => by rw [e, len_zero] at hR; omega
  obtain ⟨h1, h2⟩ := quo_rem A B hB
  exact div_unique h2 hR (by rw [← h1, ← h])
theorem quo_mul {B Q : Pol p} (h : B ≠ 0) : quo (Q * B) B = Q := (quo_rem_of (R := 0) (by grind) (by rw [len_zero]; exact len_pos h)).1
theorem quo_mul' {B Q : Pol p} (h : B ≠ 0) : quo (B * Q) B = Q := by rw [mul_comm']; exact quo_mul h
theorem len_quo (A B : Pol p) (h : B ≠ 0) : (quo A B).len ≤ A.len := by
  obtain ⟨h1, h2⟩ := quo_rem A B h
  by_cases hq : quo A B = 0
  · rw [hq, len_zero]; omega
  · have h3 := len_mul hq h
    have h4 := len_pos h
    have h5 : quo A B * B = A - rem A B := by grind
    rw [h5] at h3
    have h6 := len_sub A (rem A B)
    have h7 := len_pos hq
    omega

/-! ### divisors -/
instance : Dvd (Pol p) := ⟨fun D A => ∃ E, A = D * E⟩
theorem dvd_def {D A : Pol p} : D ∣ A ↔ ∃ E, A = D * E := Iff.rfl
theorem dvd_refl (A : Pol p) : A ∣ A := ⟨1, by grind⟩
theorem dvd_zero (A : Pol p) : A ∣ 0 := ⟨0, by grind⟩
theorem dvd_trans {A B D : Pol p} : A ∣ B → B ∣ D → A ∣ D := fun ⟨E, e⟩ ⟨F, f⟩ => ⟨E * F, by grind⟩
theorem dvd_add {D A B : Pol p} : D ∣ A → D ∣ B → D ∣ A + B := fun ⟨E, e⟩ ⟨F, f⟩ => ⟨E + F, by grind⟩
theorem dvd_sub {D A B : Pol p} : D ∣ A → D ∣ B → D ∣ A - B := fun ⟨E, e⟩ ⟨F, f⟩ => ⟨E - F, by grind⟩
theorem dvd_mulL {D A : Pol p} (B : Pol p) : D ∣ A → D ∣ B * A := fun ⟨E, e⟩ => ⟨B * E, by grind⟩
theorem dvd_mulR {D A : Pol p} (B : Pol p) : D ∣ A → D ∣ A * B := fun ⟨E, e⟩ => ⟨E * B, by grind⟩
theorem zero_dvd {A : Pol p} : (0 : Pol p) ∣ A → A = 0 := fun ⟨E, e⟩ => by grind
theorem dvd_ne {D A : Pol p} (h : D ∣ A) (hA : A ≠ 0) : D ≠ 0 := fun e => hA (zero_dvd (e ▸ h))
theorem quo_dvd {A B : Pol p} (h : B ∣ A) : A = quo A B * B := by
  by_cases hB : B = 0
  · subst hB; rw [zero_dvd h]; grind
  · obtain ⟨E, e⟩ := h
    rw [e, quo_mul' hB]; grind
theorem len_dvd {D A : Pol p} (h : D ∣ A) (hA : A ≠ 0) : D.len ≤ A.len := by
  obtain ⟨E, e⟩ := h
  have hD : D ≠ 0 := fun z => hA (by grind)
  have hE : E ≠ 0 := fun z => hA (by grind)
  have := len_mul hD hE
  have := len_pos hE
  rw [e]; omega
theorem rem_dvd {A B : Pol p} (hB : B ≠ 0) : rem A B = 0 ↔ B ∣ A := by
  obtain ⟨h1, h2⟩ := quo_rem A B hB
  constructor
  · intro h; exact ⟨quo A B, by grind⟩
  · intro ⟨E, e⟩
    exact (quo_rem_of (Q := E) (R := 0) (by grind) (by rw [len_zero]; exact len_pos hB)).2
def Monic (A : Pol p) : Prop := A ≠ 0 ∧ A.lead = 1
theorem monic_one : Monic (1 : Pol p) := ⟨one_ne_zero, by unfold Pol.lead Pol.len; rw [one_l]; rfl⟩
theorem lead_rng (A : Pol p) : 0 ≤ A.lead ∧ A.lead < p := A.cf_rng _
theorem one_mod : (1 : Int) % (p : Int) = 1 := Int.emod_eq_of_lt (by omega) (by have := Pr.ge3 p; omega)
theorem lead_mod_self (A : Pol p) : A.lead % (p : Int) = A.lead := A.cf_mod _
theorem monic_mul {A B : Pol p} (hA : Monic A) (hB : Monic B) : Monic (A * B) := ⟨mul_ne_zero hA.1 hB.1, by rw [lead_mul hA.1 hB.1, hA.2, hB.2]; exact one_mod⟩
theorem monic_pow {A : Pol p} (hA : Monic A) : ∀ n : Nat, Monic (A ^ n)
  | 0 => by rw [show A ^ 0 = (1 : Pol p) by grind]; exact monic_one
  | n + 1 => by rw [show A ^ (n + 1) = A ^ n * A by grind]; exact monic_mul (monic_pow hA n) hA
/-- a length of 1: a number -/
theorem len1 {A : Pol p} (h : A.len ≤ 1) : A = Pol.C (cf A.l 0) := Pol.ext fun n => by
  cases n with
  | zero => rw [cf_C0, A.cf_mod]
  | succ n => rw [cf_C1, len_le.mp h _ (by omega)]
theorem dvd_antisymm {A B : Pol p} (hA : Monic A) (hB : Monic B) (h : A ∣ B) (k : B ∣ A) : A = B := by
  obtain ⟨E, e⟩ := h
  have hE : E ≠ 0 := fun z => hB.1 (by grind)
  have l1 := len_mul hA.1 hE
  rw [← e] at l1
  have l2 := len_dvd k hA.1
  have l3 := len_pos hE
  have l4 := len_pos hA.1
  have hl : E.len ≤ 1 := by omega
  have h1 := lead_mul hA.1 hE
  rw [← e, hB.2, hA.2, Int.one_mul, lead_mod_self] at h1
  have h2 : cf E.l 0 = 1 := by
    unfold Pol.lead at h1
    rw [show E.len - 1 = 0 by omega] at h1
    exact h1.symm
  have h3 := len1 hl
  rw [h2, C_one] at h3
  rw [e, h3]; grind
noncomputable def monic (A : Pol p) : Pol p := Pol.C (inv p A.lead) * A
theorem lead_C {k : Int} {A : Pol p} (hk : k % (p : Int) ≠ 0) (hA : A ≠ 0) : (Pol.C k * A).lead = k * A.lead % (p : Int) := by
  have hC := C_ne (p := p) hk
  rw [lead_mul hC hA]
  have l1 := len_Cx (p := p) k
  have l2 := len_pos hC
  have : (Pol.C k : Pol p).lead = k % (p : Int) := by
    unfold Pol.lead
    rw [show (Pol.C k : Pol p).len - 1 = 0 by omega, cf_C0]
  rw [this, Int.mul_emod, Int.emod_emod_of_dvd _ (Int.dvd_refl _), ← Int.mul_emod]
theorem inv_mod {x : Int} (h : x % (p : Int) ≠ 0) : inv p x % (p : Int) ≠ 0 := by
  obtain ⟨a, b, c⟩ := inv_spec (p := p) h
  rw [Int.emod_eq_of_lt (by omega) b]; omega
theorem monic_monic {A : Pol p} (h : A ≠ 0) : Monic (monic A) := by
  have h1 := inv_mod (lead_mod h)
  refine ⟨mul_ne_zero (C_ne h1) h, ?_⟩
  unfold monic
  rw [lead_C h1 h, (inv_spec (lead_mod h)).2.2]
theorem monic_dvd (A : Pol p) : monic A ∣ A := by
  by_cases h : A = 0
  · subst h; exact dvd_zero _
  · exact ⟨Pol.C A.lead, by
      unfold monic
      have := C_inv (lead_mod h)
      grind⟩
theorem dvd_monic (A : Pol p) : A ∣ monic A := ⟨Pol.C (inv p A.lead), by unfold monic; grind⟩
theorem monic_of {A : Pol p} (h : Monic A) : monic A = A := dvd_antisymm (monic_monic h.1) h (monic_dvd A) (dvd_monic A)

/-! ### the common factor -/
theorem bez (n : Nat) : ∀ A B : Pol p, B.len ≤ n → ∃ G u v : Pol p, G ∣ A ∧ G ∣ B ∧ G = u * A + v * B := by
  induction n with
  | zero =>
    intro A B h
    have hB : B = 0 := eq_zero_len.mpr (by omega)
    exact ⟨A, 1, 0, dvd_refl A, by rw [hB]; exact dvd_zero A, by grind⟩
  | succ n ih =>
    intro A B h
    by_cases hB : B = 0
    · exact ⟨A, 1, 0, dvd_refl A, by rw [hB]; exact dvd_zero A, by grind⟩
    · obtain ⟨e, hR⟩ := quo_rem A B hB
      obtain ⟨G, u, v, h1, h2, h3⟩ := ih B (rem A B) (by omega)
      refine ⟨G, v, u - v * quo A B, ?_, h1, by grind⟩
      rw [e]; exact dvd_add (dvd_mulL _ h1) h2
structure IsGcd (A B G : Pol p) : Prop where
  mon : G = 0 ∨ Monic G
  left : G ∣ A
  right : G ∣ B
  bz : ∃ u v : Pol p, G = u * A + v * B
theorem gcd_ex (A B : Pol p) : ∃ G, IsGcd A B G := by
  obtain ⟨G, u, v, h1, h2, h3⟩ := bez B.len A B (Nat.le_refl _)
  by_cases hG : G = 0
  · exact ⟨G, .inl hG, h1, h2, u, v, h3⟩
  · exact ⟨monic G, .inr (monic_monic hG), dvd_trans (monic_dvd G) h1, dvd_trans (monic_dvd G) h2, Pol.C (inv p G.lead) * u, Pol.C (inv p G.lead) * v, by unfold monic; grind⟩
theorem IsGcd.dvd {A B G D : Pol p} (h : IsGcd A B G) (h1 : D ∣ A) (h2 : D ∣ B) : D ∣ G := by
  obtain ⟨u, v, e⟩ := h.bz
  rw [e]; exact dvd_add (dvd_mulL _ h1) (dvd_mulL _ h2)
theorem IsGcd.unique {A B G G' : Pol p} (h : IsGcd A B G) (k : IsGcd A B G') : G = G' := by
  have h1 : G ∣ G' := k.dvd h.left h.right
  have h2 : G' ∣ G := h.dvd k.left k.right
  rcases h.mon with e | e
  · rw [e] at h1 ⊢; exact (zero_dvd h1).symm
  · rcases k.mon with f | f
    · rw [f] at h2 ⊢; exact zero_dvd h2
    · exact dvd_antisymm e f h1 h2
noncomputable def gcd (A B : Pol p) : Pol p := Classical.choose (gcd_ex A B)
theorem gcd_is (A B : Pol p) : IsGcd A B (gcd A B) := Classical.choose_spec (gcd_ex A B)
theorem gcd_eq {A B G : Pol p} (h : IsGcd A B G) : gcd A B = G := (gcd_is A B).unique h
theorem gcd_ne {A B : Pol p} (h : A ≠ 0 ∨ B ≠ 0) : gcd A B ≠ 0 := fun e => by
  have g := gcd_is A B
  rw [e] at g
  rcases h with h | h
  · exact h (zero_dvd g.left)
  · exact h (zero_dvd g.right)
theorem gcd_monic {A B : Pol p} (h : A ≠ 0 ∨ B ≠ 0) : Monic (gcd A B) := (gcd_is A B).mon.resolve_left (gcd_ne h)
theorem gcd_zero_zero : gcd (0 : Pol p) 0 = 0 := zero_dvd (by
  obtain ⟨u, v, e⟩ := (gcd_is (0 : Pol p) 0).bz
  exact ⟨0, by rw [e]; grind⟩)
/-- Euclid's step does not change it -/
theorem gcd_step {A B Q R : Pol p} (h : A = Q * B + R) : gcd A B = gcd B R := gcd_eq <| by
  have g := gcd_is B R
  obtain ⟨u, v, e⟩ := g.bz
  refine ⟨g.mon, ?_, g.left, v, u - v * Q, by grind⟩
  rw [h]; exact dvd_add (dvd_mulL _ g.left) g.right
theorem gcd_zero (A : Pol p) : gcd A 0 = monic A := by
  by_cases h : A = 0
  · subst h; rw [gcd_zero_zero]; unfold monic; grind
  · exact gcd_eq ⟨.inr (monic_monic h), monic_dvd A, dvd_zero _, Pol.C (inv p A.lead), 0, by unfold monic; grind⟩
theorem len_gcdR {A B : Pol p} (h : B ≠ 0) : (gcd A B).len ≤ B.len := len_dvd (gcd_is A B).right h
theorem len_gcdL {A B : Pol p} (h : A ≠ 0) : (gcd A B).len ≤ A.len := len_dvd (gcd_is A B).left h
theorem len_gcd (A B : Pol p) : (gcd A B).len ≤ max A.len B.len := by
  by_cases hA : A = 0
  · by_cases hB : B = 0
    · subst hA hB; rw [gcd_zero_zero, len_zero]; omega
    · have := len_gcdR (A := A) hB; omega
  · have := len_gcdL (B := B) hA; omega

/-! ### least forms -/
abbrev Tri (p : Nat) := Pol p × Pol p × Pol p
noncomputable def gcd3 (t : Tri p) : Pol p := gcd (gcd t.1 t.2.1) t.2.2
noncomputable def least (t : Tri p) : Tri p :=
  let g := gcd3 t
  let k := Pol.C (inv p (quo t.2.2 g).lead)
  (k * quo t.1 g, k * quo t.2.1 g, k * quo t.2.2 g)
/-- a least form -/
structure Least (t : Tri p) : Prop where
  mon : Monic t.2.2
  bz : ∃ u v w : Pol p, 1 = u * t.1 + v * t.2.1 + w * t.2.2
def Same (s t : Tri p) : Prop := s.1 * t.2.2 = t.1 * s.2.2 ∧ s.2.1 * t.2.2 = t.2.1 * s.2.2
theorem gcd3_ne {t : Tri p} (h : t.2.2 ≠ 0) : gcd3 t ≠ 0 := gcd_ne (.inr h)
theorem gcd3_dvd (t : Tri p) : gcd3 t ∣ t.1 ∧ gcd3 t ∣ t.2.1 ∧ gcd3 t ∣ t.2.2 := by
  have g := gcd_is (gcd t.1 t.2.1) t.2.2
  have g' := gcd_is t.1 t.2.1
  exact ⟨dvd_trans g.left g'.left, dvd_trans g.left g'.right, g.right⟩
theorem gcd3_bz (t : Tri p) : ∃ u v w : Pol p, gcd3 t = u * t.1 + v * t.2.1 + w * t.2.2 := by
  obtain ⟨u, v, e⟩ := (gcd_is (gcd t.1 t.2.1) t.2.2).bz
  obtain ⟨u', v', e'⟩ := (gcd_is t.1 t.2.1).bz
  exact ⟨u * u', u * v', v, by unfold gcd3; rw [e]; rw [e']; grind⟩
theorem least_fac {t : Tri p} (h : t.2.2 ≠ 0) : ∃ K : Pol p, K ≠ 0 ∧ t.1 = K * (least t).1 ∧ t.2.1 = K * (least t).2.1 ∧ t.2.2 = K * (least t).2.2 := by
  have hg := gcd3_ne h
  obtain ⟨d1, d2, d3⟩ := gcd3_dvd t
  have e1 := quo_dvd d1
  have e2 := quo_dvd d2
  have e3 := quo_dvd d3
  have hq : quo t.2.2 (gcd3 t) ≠ 0 := fun z => h (by rw [e3, z]; grind)
  have hk := C_inv (lead_mod hq)
  refine ⟨Pol.C (quo t.2.2 (gcd3 t)).lead * gcd3 t, mul_ne_zero (C_ne (lead_mod hq)) hg, ?_, ?_, ?_⟩
  · show t.1 = _ * (_ * quo t.1 (gcd3 t)); grind
  · show t.2.1 = _ * (_ * quo t.2.1 (gcd3 t)); grind
  · show t.2.2 = _ * (_ * quo t.2.2 (gcd3 t)); grind
theorem least_least {t : Tri p} (h : t.2.2 ≠ 0) : Least (least t) := by
  have hg := gcd3_ne h
  obtain ⟨d1, d2, d3⟩ := gcd3_dvd t
  have e1 := quo_dvd d1
  have e2 := quo_dvd d2
  have e3 := quo_dvd d3
  have hq : quo t.2.2 (gcd3 t) ≠ 0 := fun z => h (by rw [e3, z]; grind)
  have hk := C_inv (lead_mod hq)
  refine ⟨monic_monic hq, ?_⟩
  obtain ⟨u, v, w, e⟩ := gcd3_bz t
  refine ⟨Pol.C (quo t.2.2 (gcd3 t)).lead * u, Pol.C (quo t.2.2 (gcd3 t)).lead * v, Pol.C (quo t.2.2 (gcd3 t)).lead * w, mul_cancel hg ?_⟩
  show _ = gcd3 t * (Pol.C (quo t.2.2 (gcd3 t)).lead * u * (Pol.C (inv p (quo t.2.2 (gcd3 t)).lead) * quo t.1 (gcd3 t)) + Pol.C (quo t.2.2 (gcd3 t)).lead * v * (Pol.C (inv p (quo t.2.2 (gcd3 t)).lead) * quo t.2.1 (gcd3 t)) + Pol.C (quo t.2.2 (gcd3 t)).lead * w * (Pol.C (inv p (quo t.2.2 (gcd3 t)).lead) * quo t.2.2 (gcd3 t)))
  grind
theorem Least.unique {s t : Tri p} (hs : Least s) (ht : Least t) (h : Same s t) : s = t := by
  obtain ⟨a, b, c⟩ := s
  obtain ⟨x, y, z⟩ := t
  obtain ⟨h1, h2⟩ := h
  obtain ⟨m1, u, v, w, e1⟩ := hs
  obtain ⟨m2, u', v', w', e2⟩ := ht
  simp only at *
  have d1 : c ∣ z := ⟨u * x + v * y + w * z, by grind⟩
  have d2 : z ∣ c := ⟨u' * a + v' * b + w' * c, by grind⟩
  have hc := dvd_antisymm m1 m2 d1 d2
  subst hc
  have ha : a = x := mul_cancel m1.1 (by grind)
  have hb : b = y := mul_cancel m1.1 (by grind)
  rw [ha, hb]
theorem least_eq {s t : Tri p} (hs : s.2.2 ≠ 0) (ht : t.2.2 ≠ 0) (h : Same s t) : least s = least t := by
  obtain ⟨K, hK, a1, a2, a3⟩ := least_fac hs
  obtain ⟨L, hL, b1, b2, b3⟩ := least_fac ht
  refine (least_least hs).unique (least_least ht) ?_
  obtain ⟨h1, h2⟩ := h
  have hKL := mul_ne_zero hK hL
  constructor
  · refine mul_cancel hKL ?_; grind
  · refine mul_cancel hKL ?_; grind
theorem least_self {t : Tri p} (h : Least t) : least t = t := by
  have hz := h.mon.1
  obtain ⟨K, hK, a1, a2, a3⟩ := least_fac hz
  refine (least_least hz).unique h ⟨?_, ?_⟩ <;> grind
theorem least_same {t : Tri p} (h : t.2.2 ≠ 0) : Same (least t) t := by
  obtain ⟨K, hK, a1, a2, a3⟩ := least_fac h
  constructor <;> grind
theorem least_ne {t : Tri p} (h : t.2.2 ≠ 0) : (least t).2.2 ≠ 0 := (least_least h).mon.1
theorem least_len {t : Tri p} (h : t.2.2 ≠ 0) : (least t).1.len ≤ t.1.len ∧ (least t).2.1.len ≤ t.2.1.len ∧ (least t).2.2.len ≤ t.2.2.len := by
  obtain ⟨K, hK, a1, a2, a3⟩ := least_fac h
  have hl := len_pos hK
  have go : ∀ A B : Pol p, A = K * B → B.len ≤ A.len := fun A B e => by
    by_cases hB : B = 0
    · rw [hB, len_zero]; omega
    · have := len_mul hK hB; rw [e]; omega
  exact ⟨go _ _ a1, go _ _ a2, go _ _ a3⟩
end
end Cv
end
section
set_option autoImplicit false
namespace Cv
/-! ### what the loops compute -/
theorem cf_getD (l : List Int) (n : Nat) : l.getD n 0 = cf l n := by rw [cf_get]; rfl
theorem cf_append (a b : List Int) (n : Nat) : cf (a ++ b) n = if n < a.length then cf a n else cf b (n - a.length) := by
  rw [cf_get]
  by_cases h : n < a.length
  · rw [if_pos h, List.getElem?_append_left h, cf_get]
  · rw [if_neg h, List.getElem?_append_right (by omega), cf_get]
theorem cf_rep0 (k n : Nat) : cf (List.replicate k 0) n = 0 := by
  rw [cf_get, List.getElem?_replicate]
  split <;> rfl
theorem cf_pad (a : List Int) (k n : Nat) : cf (a ++ List.replicate k 0) n = cf a n := by
  rw [cf_append]
  by_cases h : n < a.length
  · rw [if_pos h]
  · rw [if_neg h, cf_rep0, cf_ge (by omega)]
theorem cf_range (g : Nat → Int) (k n : Nat) : cf ((List.range k).map g) n = if n < k then g n else 0 := by
  rw [cf_get, List.getElem?_map]
  by_cases h : n < k
  · rw [if_pos h, List.getElem?_range h]; rfl
  · rw [if_neg h, List.getElem?_eq_none (by simpa using h)]; rfl
theorem cf_map (g : Int → Int) (h0 : g 0 = 0) (l : List Int) (n : Nat) : cf (l.map g) n = g (cf l n) := by
  rw [cf_get, cf_get, List.getElem?_map]
  cases l[n]? with
  | none => exact h0.symm
  | some x => rfl
theorem cf_set (l : List Int) (i n : Nat) (v : Int) (h : i < l.length) : cf (l.set i v) n = if n = i then v else cf l n := by
  rw [cf_get, cf_get]
  by_cases e : n = i
  · subst e; rw [if_pos rfl, List.getElem?_set_self h]; rfl
  · rw [if_neg e, List.getElem?_set_ne (Ne.symm e)]
theorem cf_drop (l : List Int) (k n : Nat) : cf (l.drop k) n = cf l (k + n) := by
  rw [cf_get, cf_get, List.getElem?_drop]
/-- one more row of the product -/
theorem cf_row : ∀ (a b : List Int) (i n : Nat), cf (mulL (a.take (i + 1)) b) n = cf (mulL (a.take i) b) n + (if i ≤ n then cf a i * cf b (n - i) else 0)
  | [], b, i, n => by simp [mulL]
  | x :: r, b, 0, n => by
    rw [List.take_succ_cons, List.take_zero, List.take_zero, cf_mul_cons, if_pos (Nat.zero_le n)]
    cases n <;> simp [mulL]
  | x :: r, b, i + 1, 0 => by
    rw [List.take_succ_cons, List.take_succ_cons, cf_mul_cons, cf_mul_cons, if_neg (by omega)]
    simp
  | x :: r, b, i + 1, n + 1 => by
    rw [List.take_succ_cons, List.take_succ_cons, cf_mul_cons, cf_mul_cons, cf_succ, cf_succ, cf_row r b i n, cf_succ, Nat.add_sub_add_right]
    by_cases h : i ≤ n
    · rw [if_pos h, if_pos (by omega)]; omega
    · rw [if_neg h, if_neg (by omega)]; omega
section
variable {p : Nat} [Pr p]
theorem of_mulRows (A B : Pol p) (ms : List Int) (h : ∀ n, cf ms n = cf (mulL (A.l.take A.l.length) B.l) n) : (Pol.of ms : Pol p) = A * B := by
  rw [List.take_length] at h
  have : A * B = Pol.of (mulL A.l B.l) := rfl
  rw [this]
  exact of_congr h
theorem of_pad (A B : Pol p) (s : Nat) (hs : s = max A.l.length B.l.length) : (Pol.of ((List.range s).map fun i => (A.l ++ List.replicate (s - A.l.length) 0).getD i 0 + (B.l ++ List.replicate (s - B.l.length) 0).getD i 0) : Pol p) = A + B := by
  have : A + B = Pol.of (addL A.l B.l) := rfl
  rw [this]
  refine of_congr fun n => ?_
  rw [cf_range, cf_add]
  by_cases h : n < s
  · rw [if_pos h, cf_getD, cf_getD, cf_pad, cf_pad]
  · rw [if_neg h, cf_ge (l := A.l) (by omega), cf_ge (l := B.l) (by omega)]; rfl
theorem of_neg0 (A : Pol p) : (Pol.of (A.l.map fun x => 0 - x) : Pol p) = -A := by
  have : -A = Pol.of (smL (-1) A.l) := rfl
  rw [this]
  refine of_congr fun n => ?_
  rw [cf_map _ (by rfl), cf_sm]; omega
theorem of_scale (A : Pol p) (k : Int) : (Pol.of (A.l.map fun x => x * k) : Pol p) = Pol.C k * A := Pol.ext fun n => by
  rw [Pol.cf_of, cf_C, cf_map _ (by omega), Int.mul_comm]
/-- the factor at x^n -/
theorem cf_Xn (A : Pol p) : ∀ (k n : Nat), cf ((Pol.X : Pol p) ^ k * A).l n = if k ≤ n then cf A.l (n - k) else 0
  | 0, n => by
    have : (Pol.X : Pol p) ^ 0 * A = A := by grind
    rw [this]; simp
  | k + 1, 0 => by
    have : (Pol.X : Pol p) ^ (k + 1) * A = Pol.X * ((Pol.X : Pol p) ^ k * A) := by grind
    rw [this, cf_X0]; simp
  | k + 1, n + 1 => by
    have : (Pol.X : Pol p) ^ (k + 1) * A = Pol.X * ((Pol.X : Pol p) ^ k * A) := by grind
    rw [this, cf_X, cf_Xn A k n, Nat.add_sub_add_right]
    by_cases h : k ≤ n
    · rw [if_pos h, if_pos (by omega)]
    · rw [if_neg h, if_neg (by omega)]
theorem of_noughts (A : Pol p) (k : Nat) : (Pol.of (List.replicate k 0 ++ A.l) : Pol p) = (Pol.X : Pol p) ^ k * A := Pol.ext fun n => by
  rw [Pol.cf_of, cf_Xn, cf_append, List.length_replicate]
  by_cases h : n < k
  · rw [if_pos h, if_neg (by omega), cf_rep0]; rfl
  · rw [if_neg h, if_pos (by omega), A.cf_mod]
theorem len_Xn (A : Pol p) (k : Nat) : ((Pol.X : Pol p) ^ k * A).len ≤ k + A.len := len_le.mpr fun m hm => by
  rw [cf_Xn, if_pos (by omega), cf_ge (by unfold Pol.len at hm; omega)]
/-- the schoolbook division: what holds when the numbers at m and above are done -/
structure Part (A B : Pol p) (m : Nat) (q r : List Int) : Prop where
  lq : q.length = A.l.length + 1 - B.l.length
  lr : r.length = A.l.length
  eq : A = Pol.of q * B + Pol.of r
  top : ∀ n, m ≤ n → cf r n % (p : Int) = 0
theorem Part.start (A B : Pol p) : Part A B A.l.length (List.replicate (A.l.length + 1 - B.l.length) 0) A.l :=
  ⟨by simp, rfl, by
    have : (Pol.of (List.replicate (A.l.length + 1 - B.l.length) 0) : Pol p) = 0 := Pol.ext fun n => by rw [Pol.cf_of, cf_rep0, zero_l]; simp
    rw [this, Pol.of_self]; grind, fun n h => by rw [cf_ge h]; rfl⟩
theorem Part.step {A B : Pol p} {at' : Nat} {q r r' : List Int} {k : Int} (P : Part A B (at' + B.l.length) q r) (hB : B ≠ 0) (ha : at' + B.l.length ≤ A.l.length) (hq : cf q at' % (p : Int) = 0)
    (hk : k = cf r (at' + B.l.length - 1) * inv p B.lead % (p : Int)) (hl : r'.length = r.length) (h : ∀ n, cf r' n % (p : Int) = (cf r n - (if at' ≤ n then k * cf B.l (n - at') else 0)) % (p : Int)) : Part A B (at' + B.l.length - 1) (q.set at' k) r' := by
  have hb : 0 < B.l.length := len_pos hB
  have hlt : at' < q.length := by rw [P.lq]; omega
  have e1 : (Pol.of (q.set at' k) : Pol p) = Pol.of q + (Pol.X : Pol p) ^ at' * Pol.C k := Pol.ext fun n => by
    rw [Pol.cf_of, cf_addP, cf_Xn, Pol.cf_of, cf_set _ _ _ _ hlt]
    by_cases e : n = at'
    · subst e
      rw [if_pos rfl, if_pos (Nat.le_refl n), Nat.sub_self, cf_C0, hq]; simp
    · rw [if_neg e]
      by_cases g : at' ≤ n
      · obtain ⟨z, hz⟩ : ∃ z, n - at' = z + 1 := ⟨n - at' - 1, by omega⟩
        rw [if_pos g, hz, cf_C1]; simp
      · rw [if_neg g]; simp
  have e2 : (Pol.of r' : Pol p) = Pol.of r - (Pol.X : Pol p) ^ at' * (Pol.C k * B) := Pol.ext fun n => by
    rw [Pol.cf_of, cf_subP, cf_Xn, Pol.cf_of, h n]
    by_cases g : at' ≤ n
    · rw [if_pos g, if_pos g, cf_C]
      exact (Int.sub_emod _ _ _)
    · rw [if_neg g, if_neg g]; simp
  refine ⟨by simp [P.lq], by rw [hl, P.lr], ?_, fun n hn => ?_⟩
  · rw [e1, e2]
    have := P.eq
    grind
  · rw [h n]
    by_cases e : n = at' + B.l.length - 1
    · have e3 : n - at' = B.len - 1 := by unfold Pol.len; omega
      rw [if_pos (by omega), e3]
      show (cf r n - k * B.lead) % (p : Int) = 0
      obtain ⟨_, _, i3⟩ := inv_spec (lead_mod hB)
      rw [hk, ← e]
      generalize cf r n = x at *
      have : (x * inv p B.lead % (p : Int) * B.lead) % (p : Int) = x % (p : Int) := by
        rw [Int.mul_emod, Int.emod_emod, ← Int.mul_emod, Int.mul_assoc, Int.mul_emod, i3]
        simp
      rw [Int.sub_emod, this, Int.sub_self]; rfl
    · have g : B.l.length ≤ n - at' := by omega
      rw [if_pos (by omega), cf_ge g]
      have := P.top n (by omega)
      simpa using this
theorem Part.done {A B : Pol p} {m : Nat} {q r : List Int} (P : Part A B m q r) (hB : B ≠ 0) (hm : m < B.l.length) : quo A B = Pol.of q ∧ rem A B = Pol.of r :=
  quo_rem_of P.eq (Nat.lt_of_le_of_lt (len_le.mpr fun n hn => by rw [Pol.cf_of]; exact P.top n hn) hm)
theorem last_lead {A : Pol p} (h : A.l ≠ []) : A.l.getLast h = A.lead := by
  unfold Pol.lead Pol.len
  rw [cf_lt (by have := List.length_pos_iff.mpr h; omega), List.getLast_eq_getElem]
theorem lead_range {A : Pol p} : 0 ≤ A.lead ∧ A.lead < 16 := by
  have := lead_rng A
  have := Pr.le13 p
  omega
end
end Cv
end
section
set_option Elab.async false
set_option linter.all false
set_option maxRecDepth 100000
set_option maxHeartbeats 4000000
namespace Cv
open PySem L2 Evl

/-! ### data -/
inductive D where
  | non | bl (b : Bool) | int (i : Int) | str (s : Str) | lst (ds : List D) | tup (ds : List D) | obj (C : Addr) (fs : List (Str × D)) | opq (a : Addr) (S : Hp → Prop)

mutual
inductive Rep (F : Hp) : V → D → Prop
  | non : Rep F .non .non
  | bl (b : Bool) : Rep F (.bl b) (.bl b)
  | int (i : Int) : Rep F (.int i) (.int i)
  | str (s : Str) : Rep F (.str s) (.str s)
  | lst {a : Addr} {xs : List V} {ds : List D} : F a = some (.lst xs) → Reps F xs ds → Rep F (.ref a) (.lst ds)
  | tup {a : Addr} {xs : List V} {ds : List D} : F a = some (.tup xs) → Reps F xs ds → Rep F (.ref a) (.tup ds)
  | obj {a C dx : Addr} {fs : List (Str × V)} {ds : List (Str × D)} : F a = some (.ins C dx fs) → RepF F fs ds → Rep F (.ref a) (.obj C ds)
  | opq {a : Addr} {S : Hp → Prop} : (∀ F1 F2, Ex F1 F2 → S F1 → S F2) → S F → Rep F (.ref a) (.opq a S)
inductive Reps (F : Hp) : List V → List D → Prop
  | nil : Reps F [] []
  | cons {v : V} {d : D} {vs : List V} {ds : List D} : Rep F v d → Reps F vs ds → Reps F (v :: vs) (d :: ds)
inductive RepF (F : Hp) : List (Str × V) → List (Str × D) → Prop
  | nil : RepF F [] []
  | cons {x : Str} {v : V} {d : D} {vs : List (Str × V)} {ds : List (Str × D)} : Rep F v d → RepF F vs ds → RepF F ((x, v) :: vs) ((x, d) :: ds)
end

section
variable {F F' : Hp}
mutual
theorem Rep.mono (e : Ex F F') : ∀ {v : V} {d : D}, Rep F v d → Rep F' v d
  | _, _, .non => .non
  | _, _, .bl b => .bl b
  | _, _, .int i => .int i
  | _, _, .str s => .str s
  | _, _, .lst h r => .lst (e _ _ h) (Reps.mono e r)
  | _, _, .tup h r => .tup (e _ _ h) (Reps.mono e r)
  | _, _, .obj h r => .obj (e _ _ h) (RepF.mono e r)
  | _, _, .opq m h => .opq m (m _ _ e h)
theorem Reps.mono (e : Ex F F') : ∀ {vs : List V} {ds : List D}, Reps F vs ds → Reps F' vs ds
  | _, _, .nil => .nil
  | _, _, .cons h r => .cons (Rep.mono e h) (Reps.mono e r)
theorem RepF.mono (e : Ex F F') : ∀ {vs : List (Str × V)} {ds : List (Str × D)}, RepF F vs ds → RepF F' vs ds
  | _, _, .nil => .nil
  | _, _, .cons h r => .cons (Rep.mono e h) (RepF.mono e r)
end
theorem Reps.length : ∀ {vs : List V} {ds : List D}, Reps F vs ds → vs.length = ds.length
  | _, _, .nil => rfl
  | _, _, .cons _ r => by rw [List.length_cons, List.length_cons, Reps.length r]
theorem Reps.get : ∀ {vs : List V} {ds : List D}, Reps F vs ds → ∀ {i : Nat} {d : D}, ds[i]? = some d → ∃ v, vs[i]? = some v ∧ Rep F v d
  | _, _, .nil, i, d, h => by simp at h
  | _, _, .cons q r, 0, d, h => by
    simp at h; subst h
    exact ⟨_, rfl, q⟩
  | _, _, .cons q r, i + 1, d, h => by
    obtain ⟨v, h1, h2⟩ := Reps.get r (i := i) (d := d) (by simpa using h)
    exact ⟨v, by simpa using h1, h2⟩
theorem Reps.getV : ∀ {vs : List V} {ds : List D}, Reps F vs ds → ∀ {i : Nat} {v : V}, vs[i]? = some v → ∃ d, ds[i]? = some d ∧ Rep F v d
  | _, _, .nil, i, v, h => by simp at h
  | _, _, .cons q r, 0, v, h => by
    simp at h; subst h
    exact ⟨_, rfl, q⟩
  | _, _, .cons q r, i + 1, v, h => by
    obtain ⟨d, h1, h2⟩ := Reps.getV r (i := i) (v := v) (by simpa using h)
    exact ⟨d, by simpa using h1, h2⟩
theorem Reps.append : ∀ {vs ws : List V} {ds es : List D}, Reps F vs ds → Reps F ws es → Reps F (vs ++ ws) (ds ++ es)
  | _, _, _, _, .nil, s => s
  | _, _, _, _, .cons q r, s => .cons q (Reps.append r s)
theorem Reps.set : ∀ {vs : List V} {ds : List D}, Reps F vs ds → ∀ (i : Nat) {v : V} {d : D}, Rep F v d → Reps F (vs.set i v) (ds.set i d)
  | _, _, .nil, i, v, d, _ => .nil
  | _, _, .cons q r, 0, v, d, h => .cons h r
  | _, _, .cons q r, i + 1, v, d, h => .cons q (Reps.set r i h)
theorem Reps.take : ∀ {vs : List V} {ds : List D}, Reps F vs ds → ∀ (n : Nat), Reps F (vs.take n) (ds.take n)
  | _, _, _, 0 => .nil
  | _, _, .nil, n + 1 => .nil
  | _, _, .cons q r, n + 1 => .cons q (Reps.take r n)
theorem Reps.drop : ∀ {vs : List V} {ds : List D}, Reps F vs ds → ∀ (n : Nat), Reps F (vs.drop n) (ds.drop n)
  | _, _, r, 0 => r
  | _, _, .nil, n + 1 => .nil
  | _, _, .cons q r, n + 1 => Reps.drop r n
theorem Reps.dropLast {vs : List V} {ds : List D} (r : Reps F vs ds) : Reps F vs.dropLast ds.dropLast := by
  rw [List.dropLast_eq_take, List.dropLast_eq_take, r.length]
  exact r.take _
theorem Reps.ints : ∀ (ns : List Int), Reps F (ns.map V.int) (ns.map D.int)
  | [] => .nil
  | n :: ns => .cons (.int n) (Reps.ints ns)
theorem Rep.int_inv {v : V} {i : Int} (h : Rep F v (.int i)) : v = .int i := by cases h; rfl
theorem Rep.bl_inv {v : V} {b : Bool} (h : Rep F v (.bl b)) : v = .bl b := by cases h; rfl
theorem Rep.non_inv {v : V} (h : Rep F v .non) : v = .non := by cases h; rfl
theorem Rep.str_inv {v : V} {s : Str} (h : Rep F v (.str s)) : v = .str s := by cases h; rfl
theorem Rep.lst_inv {v : V} {ds : List D} (h : Rep F v (.lst ds)) : ∃ a xs, v = .ref a ∧ F a = some (.lst xs) ∧ Reps F xs ds := by
  cases h with | lst h r => exact ⟨_, _, rfl, h, r⟩
theorem Rep.tup_inv {v : V} {ds : List D} (h : Rep F v (.tup ds)) : ∃ a xs, v = .ref a ∧ F a = some (.tup xs) ∧ Reps F xs ds := by
  cases h with | tup h r => exact ⟨_, _, rfl, h, r⟩
theorem Rep.obj_inv {v : V} {C : Addr} {ds : List (Str × D)} (h : Rep F v (.obj C ds)) : ∃ a dx fs, v = .ref a ∧ F a = some (.ins C dx fs) ∧ RepF F fs ds := by
  cases h with | obj h r => exact ⟨_, _, _, rfl, h, r⟩
theorem Rep.opq_inv {v : V} {a : Addr} {S : Hp → Prop} (h : Rep F v (.opq a S)) : v = .ref a ∧ S F ∧ ∀ F1 F2, Ex F1 F2 → S F1 → S F2 := by
  cases h with | opq m h => exact ⟨rfl, h, m⟩
theorem Reps.ints_inv : ∀ {vs : List V} {ns : List Int}, Reps F vs (ns.map D.int) → vs = ns.map V.int
  | _, [], h => by cases h; rfl
  | _, n :: ns, h => by
    cases h with | cons q r => rw [q.int_inv, Reps.ints_inv r]; rfl
theorem Reps.nil_inv {vs : List V} (h : Reps F vs []) : vs = [] := by cases h; rfl
theorem Reps.cons_inv {vs : List V} {d : D} {ds : List D} (h : Reps F vs (d :: ds)) : ∃ v ws, vs = v :: ws ∧ Rep F v d ∧ Reps F ws ds := by
  cases h with | cons q r => exact ⟨_, _, rfl, q, r⟩
theorem RepF.lookup : ∀ {fs : List (Str × V)} {ds : List (Str × D)}, RepF F fs ds → ∀ {x : Str} {d : D}, ds.lookup x = some d → ∃ v, fs.lookup x = some v ∧ Rep F v d
  | _, _, .nil, x, d, h => by simp at h
  | (y, v) :: fs, (_, e) :: ds, .cons q r, x, d, h => by
    unfold List.lookup at h ⊢
    cases hb : x == y with
    | true =>
      rw [hb] at h
      simp at h; subst h
      exact ⟨v, rfl, q⟩
    | false =>
      rw [hb] at h
      exact RepF.lookup r h
theorem RepF.lookup_none : ∀ {fs : List (Str × V)} {ds : List (Str × D)}, RepF F fs ds → ∀ {x : Str}, ds.lookup x = none → fs.lookup x = none
  | _, _, .nil, x, h => rfl
  | (y, v) :: fs, (_, e) :: ds, .cons q r, x, h => by
    unfold List.lookup at h ⊢
    cases hb : x == y with
    | true => rw [hb] at h; simp at h
    | false => rw [hb] at h; exact RepF.lookup_none r h
end

/-! ### the state: B stands behind, F is what data lean on, H the heap -/
structure In0 (B F0 F H : Hp) : Prop where
  bh : Ex B H
  ff : Ex F0 F
  fh : Ex F H
  new : ∀ a, F a ≠ none → F0 a ≠ none ∨ B a = none

def GenOk (n : Nat) (a b c : Int) : Prop := 0 ≤ a ∧ a < 10 ^ 600 ∧ 0 ≤ b ∧ b < 2147483647 ∧ 0 ≤ c ∧ c ≤ n
theorem GenOk.mono {n m : Nat} {a b c : Int} (h : GenOk n a b c) (k : n ≤ m) : GenOk m a b c := by
  obtain ⟨h1, h2, h3, h4, h5, h6⟩ := h
  exact ⟨h1, h2, h3, h4, h5, by omega⟩

/-- what a slot holds -/
inductive Sl where
  | sh (d : D)
  | own (l : Addr) (ds : List D)
  | gen (g : Addr) (n : Nat)
  | ob (l C : Addr) (fs : List (Str × D))
abbrev Env := List (Option Sl)
def Sl.at : Option Sl → Option Addr
  | some (.own l _) => some l
  | some (.gen g _) => some g
  | some (.ob l _ _) => some l
  | _ => none
def SlOk (B F H : Hp) (x : Option V) : Option Sl → Prop
  | none => True
  | some (.sh d) => ∃ v, x = some v ∧ Rep F v d
  | some (.own l ds) => x = some (.ref l) ∧ F l = none ∧ B l = none ∧ ∃ xs, H l = some (.lst xs) ∧ Reps F xs ds
  | some (.gen g n) => x = some (.ref g) ∧ F g = none ∧ B g = none ∧ ∃ a b c : Int, H g = some (.lst [.int a, .int b, .int c]) ∧ GenOk n a b c
  | some (.ob l C fs) => x = some (.ref l) ∧ F l = none ∧ B l = none ∧ ∃ dx vs, H l = some (.ins C dx vs) ∧ RepF F vs fs
structure RepE (B F H : Hp) (σ : St) (ρ : Env) : Prop where
  len : σ.length = ρ.length
  ok : ∀ i, SlOk B F H (σ.getD i none) (ρ.getD i none)
  apart : ∀ i j l, Sl.at (ρ.getD i none) = some l → Sl.at (ρ.getD j none) = some l → i = j

section
variable {B F0 F F2 H H2 : Hp} {σ : St} {ρ : Env}
theorem SlOk.held {x : Option V} {s : Option Sl} {l : Addr} (h : SlOk B F H x s) (e : Sl.at s = some l) : F l = none ∧ B l = none ∧ ∃ o, H l = some o := by
  cases s with
  | none => simp [Sl.at] at e
  | some s =>
    cases s with
    | sh d => simp [Sl.at] at e
    | own l' ds =>
      simp [Sl.at] at e; subst e
      obtain ⟨_, h1, h2, xs, h3, _⟩ := h
      exact ⟨h1, h2, _, h3⟩
    | gen g n =>
      simp [Sl.at] at e; subst e
      obtain ⟨_, h1, h2, a, b, c, h3, _⟩ := h
      exact ⟨h1, h2, _, h3⟩
    | ob l' C fs =>
      simp [Sl.at] at e; subst e
      obtain ⟨_, h1, h2, dx, vs, h3, _⟩ := h
      exact ⟨h1, h2, _, h3⟩
/-- the slots stay where their lists stay and the data grow -/
theorem SlOk.keep {x : Option V} {s : Option Sl} (h : SlOk B F H x s) (e : Ex F F2) (k : ∀ l, Sl.at s = some l → H2 l = H l ∧ F2 l = none) : SlOk B F2 H2 x s := by
  cases s with
  | none => trivial
  | some s =>
    cases s with
    | sh d =>
      obtain ⟨v, h1, h2⟩ := h
      exact ⟨v, h1, h2.mono e⟩
    | own l ds =>
      obtain ⟨h1, h2, h3, xs, h4, h5⟩ := h
      obtain ⟨k1, k2⟩ := k l rfl
      exact ⟨h1, k2, h3, xs, by rw [k1]; exact h4, h5.mono e⟩
    | gen g n =>
      obtain ⟨h1, h2, h3, a, b, c, h4, h5⟩ := h
      obtain ⟨k1, k2⟩ := k g rfl
      exact ⟨h1, k2, h3, a, b, c, by rw [k1]; exact h4, h5⟩
    | ob l C fs =>
      obtain ⟨h1, h2, h3, dx, vs, h4, h5⟩ := h
      obtain ⟨k1, k2⟩ := k l rfl
      exact ⟨h1, k2, h3, dx, vs, by rw [k1]; exact h4, h5.mono e⟩
theorem RepE.keep (r : RepE B F H σ ρ) (e : Ex F F2) (k : ∀ i l, Sl.at (ρ.getD i none) = some l → H2 l = H l ∧ F2 l = none) : RepE B F2 H2 σ ρ :=
  ⟨r.len, fun i => (r.ok i).keep e (k i), r.apart⟩
/-- a pure step from (F, H) to (F2, H2): nothing that stood has changed, what data lean on newly was not there -/
structure Grow (F H F2 H2 : Hp) : Prop where
  hh : Ex H H2
  ff : Ex F F2
  fh : Ex F2 H2
  new : ∀ a, F2 a ≠ none → F a ≠ none ∨ H a = none
theorem Grow.refl (e : Ex F H) : Grow F H F H := ⟨Ex.refl H, Ex.refl F, e, fun _ h => .inl h⟩
theorem Grow.trans {F3 H3 : Hp} (a : Grow F H F2 H2) (b : Grow F2 H2 F3 H3) : Grow F H F3 H3 := by
  refine ⟨a.hh.trans b.hh, a.ff.trans b.ff, b.fh, fun x h => ?_⟩
  rcases b.new x h with q | q
  · exact a.new x q
  · exact .inr (fresh_back a.hh q)
theorem In0.grow (I : In0 B F0 F H) (g : Grow F H F2 H2) : In0 B F0 F2 H2 := by
  refine ⟨I.bh.trans g.hh, I.ff.trans g.ff, g.fh, fun x h => ?_⟩
  rcases g.new x h with q | q
  · exact I.new x q
  · exact .inr (fresh_back I.bh q)
theorem RepE.grow (r : RepE B F H σ ρ) (g : Grow F H F2 H2) : RepE B F2 H2 σ ρ := by
  refine r.keep g.ff fun i l e => ?_
  obtain ⟨h1, _, xs, h3⟩ := (r.ok i).held e
  refine ⟨(g.hh l _ h3).trans h3.symm, ?_⟩
  cases q : F2 l with
  | none => rfl
  | some o =>
    rcases g.new l (by rw [q]; simp) with z | z
    · exact absurd h1 z
    · rw [z] at h3; cases h3
/-- a new object that data lean on -/
theorem Grow.lay {p : Addr} {o : HO} (e : Ex F H) (hp : H p = none) : Grow F H (upd F p o) (upd H p o) := by
  have hf : F p = none := fresh_back e hp
  refine ⟨Ex.new hp, Ex.new hf, fun a u h => ?_, fun a h => ?_⟩
  · by_cases z : a = p
    · subst z; rw [upd_same] at h ⊢; exact h
    · rw [upd_ne z] at h ⊢; exact e a u h
  · by_cases z : a = p
    · subst z; exact .inr hp
    · rw [upd_ne z] at h; exact .inl h
theorem Grow.more {H3 : Hp} (g : Grow F H F2 H2) (e : Ex H2 H3) : Grow F H F2 H3 := ⟨g.hh.trans e, g.ff, g.fh.trans e, g.new⟩

theorem getD_set {α : Type} (l : List α) (i j : Nat) (v d : α) (h : i < l.length) : (l.set i v).getD j d = if j = i then v else l.getD j d := by
  by_cases e : j = i
  · subst e; simp [List.getD, h]
  · rw [if_neg e]
    simp only [List.getD]
    rw [List.getElem?_set_ne (Ne.symm e)]
theorem RepE.set {i : Nat} {x : Option V} {s : Option Sl} (r : RepE B F H σ ρ) (hi : i < ρ.length) (h : SlOk B F H x s) (ha : ∀ l j, Sl.at s = some l → Sl.at (ρ.getD j none) = some l → j = i) : RepE B F H (σ.set i x) (ρ.set i s) := by
  have hl := r.len
  refine ⟨by simp [hl], fun j => ?_, fun j k l h1 h2 => ?_⟩
  · rw [getD_set _ _ _ _ _ (by omega), getD_set _ _ _ _ _ hi]
    by_cases e : j = i
    · rw [if_pos e, if_pos e]; exact h
    · rw [if_neg e, if_neg e]; exact r.ok j
  · rw [getD_set _ _ _ _ _ hi] at h1 h2
    by_cases e : j = i
    · by_cases f : k = i
      · omega
      · rw [if_pos e] at h1; rw [if_neg f] at h2
        have := ha l k h1 h2
        omega
    · by_cases f : k = i
      · rw [if_neg e] at h1; rw [if_pos f] at h2
        have := ha l j h2 h1
        omega
      · rw [if_neg e] at h1; rw [if_neg f] at h2
        exact r.apart j k l h1 h2
theorem RepE.setSh {i : Nat} {v : V} {d : D} (r : RepE B F H σ ρ) (hi : i < ρ.length) (h : Rep F v d) : RepE B F H (σ.set i (some v)) (ρ.set i (some (.sh d))) :=
  r.set hi ⟨v, rfl, h⟩ fun l j e => by simp [Sl.at] at e
theorem RepE.forget {i : Nat} (r : RepE B F H σ ρ) : RepE B F H σ (ρ.set i none) := by
  by_cases hi : i < ρ.length
  · refine ⟨by simp [r.len], fun j => ?_, fun j k l h1 h2 => ?_⟩
    · rw [getD_set _ _ _ _ _ hi]
      by_cases e : j = i
      · rw [if_pos e]; trivial
      · rw [if_neg e]; exact r.ok j
    · rw [getD_set _ _ _ _ _ hi] at h1 h2
      by_cases e : j = i
      · rw [if_pos e] at h1; simp [Sl.at] at h1
      · by_cases f : k = i
        · rw [if_pos f] at h2; simp [Sl.at] at h2
        · rw [if_neg e] at h1; rw [if_neg f] at h2
          exact r.apart j k l h1 h2
  · rw [List.set_eq_of_length_le (by omega)]; exact r
/-- forgetting several slots -/
inductive Le : Env → Env → Prop
  | nil : Le [] []
  | keep {s : Option Sl} {a b : Env} : Le a b → Le (s :: a) (s :: b)
  | drop {s : Option Sl} {a b : Env} : Le a b → Le (none :: a) (s :: b)
theorem Le.refl : ∀ ρ : Env, Le ρ ρ
  | [] => .nil
  | _ :: r => .keep (Le.refl r)
theorem Le.len {a b : Env} (h : Le a b) : a.length = b.length := by
  induction h with
  | nil => rfl
  | keep _ ih => simp [ih]
  | drop _ ih => simp [ih]
theorem Le.at {a b : Env} (h : Le a b) : ∀ i, a.getD i none = none ∨ a.getD i none = b.getD i none := by
  induction h with
  | nil => intro i; left; simp
  | keep _ ih =>
    intro i
    cases i with
    | zero => right; rfl
    | succ i => simpa using ih i
  | drop _ ih =>
    intro i
    cases i with
    | zero => left; rfl
    | succ i => simpa using ih i
theorem RepE.le {ρ' : Env} (r : RepE B F H σ ρ) (h : Le ρ' ρ) : RepE B F H σ ρ' := by
  refine ⟨by rw [r.len, h.len], fun i => ?_, fun i j l h1 h2 => ?_⟩
  · rcases h.at i with e | e
    · rw [e]; trivial
    · rw [e]; exact r.ok i
  · rcases h.at i with e | e
    · rw [e] at h1; simp [Sl.at] at h1
    · rcases h.at j with f | f
      · rw [f] at h2; simp [Sl.at] at h2
      · rw [e] at h1; rw [f] at h2; exact r.apart i j l h1 h2
theorem RepE.sh {i : Nat} {d : D} (r : RepE B F H σ ρ) (h : ρ[i]? = some (some (.sh d))) : ∃ v, σ[i]? = some (some v) ∧ Rep F v d := by
  have hi : i < ρ.length := (List.getElem?_eq_some_iff.mp h).1
  have := r.ok i
  simp only [List.getD, h, Option.getD_some] at this
  obtain ⟨v, h1, h2⟩ := this
  refine ⟨v, ?_, h2⟩
  have hs : i < σ.length := by rw [r.len]; exact hi
  rw [List.getElem?_eq_getElem hs] at h1 ⊢
  simpa using h1
theorem RepE.own {i : Nat} {l : Addr} {ds : List D} (r : RepE B F H σ ρ) (h : ρ[i]? = some (some (.own l ds))) : σ[i]? = some (some (.ref l)) ∧ F l = none ∧ B l = none ∧ ∃ xs, H l = some (.lst xs) ∧ Reps F xs ds := by
  have hi : i < ρ.length := (List.getElem?_eq_some_iff.mp h).1
  have := r.ok i
  simp only [List.getD, h, Option.getD_some] at this
  obtain ⟨h1, h2⟩ := this
  refine ⟨?_, h2⟩
  have hs : i < σ.length := by rw [r.len]; exact hi
  rw [List.getElem?_eq_getElem hs] at h1 ⊢
  simpa using h1
theorem RepE.gen {i : Nat} {g : Addr} {n : Nat} (r : RepE B F H σ ρ) (h : ρ[i]? = some (some (.gen g n))) : σ[i]? = some (some (.ref g)) ∧ F g = none ∧ B g = none ∧ ∃ a b c : Int, H g = some (.lst [.int a, .int b, .int c]) ∧ GenOk n a b c := by
  have hi : i < ρ.length := (List.getElem?_eq_some_iff.mp h).1
  have := r.ok i
  simp only [List.getD, h, Option.getD_some] at this
  obtain ⟨h1, h2⟩ := this
  refine ⟨?_, h2⟩
  have hs : i < σ.length := by rw [r.len]; exact hi
  rw [List.getElem?_eq_getElem hs] at h1 ⊢
  simpa using h1
theorem RepE.ob {i : Nat} {l C : Addr} {fs : List (Str × D)} (r : RepE B F H σ ρ) (h : ρ[i]? = some (some (.ob l C fs))) : σ[i]? = some (some (.ref l)) ∧ F l = none ∧ B l = none ∧ ∃ dx vs, H l = some (.ins C dx vs) ∧ RepF F vs fs := by
  have hi : i < ρ.length := (List.getElem?_eq_some_iff.mp h).1
  have := r.ok i
  simp only [List.getD, h, Option.getD_some] at this
  obtain ⟨h1, h2⟩ := this
  refine ⟨?_, h2⟩
  have hs : i < σ.length := by rw [r.len]; exact hi
  rw [List.getElem?_eq_getElem hs] at h1 ⊢
  simpa using h1
end
end Cv
end
section
set_option Elab.async false
set_option linter.all false
set_option maxRecDepth 100000
set_option maxHeartbeats 4000000
namespace Cv
open PySem L2 Evl

/-- where one stands: a def's body (one context), a comprehension's block (all contexts that it may run in) -/
structure Fm where
  ι : Type
  Y : ι → Cx
  P : Program
  w : World
  K : PySem.W.Frag
  mg : Str → Option Value
  base : Heap
  A : Around
  N : List Str
  nd : N.Nodup
  hP : ∀ j, (Y j).prog = P
  hw : ∀ j, (Y j).w = w
  hK : ∀ j, (Y j).K = K
  hmg : ∀ j, (Y j).mg = mg
  hb : ∀ j, (Y j).base = base
  hA : ∀ j, (Y j).A = A
  hN : ∀ j, (Y j).N = N
  calm : ∀ j, (Y j).calm = true
  hx : ∀ j, (Y j).xe = fun _ _ => False

/-! ### the readings of an expression, a test, arguments, a statement: any that holds in all contexts -/
def aE (X : Fm) (e : Expr) : TE := fun σ H Q => ∃ t, (∀ j, PE (X.Y j) e t) ∧ t σ H Q
def aT (X : Fm) (e : Expr) : TT := fun σ H Q => ∃ t, (∀ j, PT (X.Y j) e t) ∧ t σ H Q
def aW (X : Fm) (e : Expr) : TT := fun σ H Q => ∃ t, (∀ j, PW (X.Y j) e t) ∧ t σ H Q
def aA (X : Fm) (es : List Expr) : TA := fun σ H Q => ∃ t, (∀ j, PA (X.Y j) es t) ∧ t σ H Q
def aO (X : Fm) (e : Option Expr) : TO := fun σ H Q => ∃ t, (∀ j, PO (X.Y j) e t) ∧ t σ H Q
def aS (X : Fm) (st : Stmt) : TS := fun D σ H => ∃ t, (∀ j, PS (X.Y j) st t) ∧ t D σ H
def aSs (X : Fm) (st : List Stmt) : TS := fun D σ H => ∃ t, (∀ j, PSs (X.Y j) st t) ∧ t D σ H
def aI (X : Fm) (tg e : Expr) : TI := fun σ H R => ∃ t, (∀ j, PI (X.Y j) tg e t) ∧ t σ H R
section
variable {X : Fm}
theorem aE_ok {e : Expr} (j : X.ι) : PE (X.Y j) e (aE X e) := ⟨fun pins s σ H Q I ⟨_, h, q⟩ => (h j).run pins s σ H Q I q⟩
theorem aT_ok {e : Expr} (j : X.ι) : PT (X.Y j) e (aT X e) := ⟨fun pins s σ H Q I ⟨_, h, q⟩ => (h j).run pins s σ H Q I q⟩
theorem aW_ok {e : Expr} (j : X.ι) : PW (X.Y j) e (aW X e) := ⟨fun wh pins s σ H Q I ⟨_, h, q⟩ => (h j).run wh pins s σ H Q I q⟩
theorem aA_ok {es : List Expr} (j : X.ι) : PA (X.Y j) es (aA X es) := ⟨fun pos pins s σ H Q I ⟨_, h, q⟩ => (h j).run pos pins s σ H Q I q⟩
theorem aO_ok {e : Option Expr} (j : X.ι) : PO (X.Y j) e (aO X e) := by
  cases e with
  | none => exact ⟨fun pins s σ H Q I ⟨_, h, q⟩ => (h j).run pins s σ H Q I q⟩
  | some e => exact ⟨fun pins s σ H Q I ⟨_, h, q⟩ => (h j).run pins s σ H Q I q⟩
theorem aS_ok {e : Stmt} (j : X.ι) : PS (X.Y j) e (aS X e) := ⟨fun pins s σ H D I ⟨_, h, q⟩ => (h j).run pins s σ H D I q⟩
theorem aSs_ok {e : List Stmt} (j : X.ι) : PSs (X.Y j) e (aSs X e) := ⟨fun pins s σ H D I ⟨_, h, q⟩ => (h j).run pins s σ H D I q⟩
theorem aI_ok {tg e : Expr} (j : X.ι) : PI (X.Y j) tg e (aI X tg e) := ⟨fun pins s σ H R I ⟨_, h, q⟩ => (h j).run pins s σ H R I q⟩
end

/-! ### judgements over data -/
/-- e evaluates to d and changes nothing -/
def DE (t : TE) (ρ : Env) (d : D) : Prop := ∀ (B F H : Hp) (σ : L2.St), Ex F H → RepE B F H σ ρ → ∀ Q : VK, (∀ v F2 H2, Grow F H F2 H2 → Rep F2 v d → Q v H2) → t σ H Q
/-- e evaluates to a new list that nobody else holds -/
def DN (t : TE) (ρ : Env) (ds : List D) : Prop := ∀ (B F H : Hp) (σ : L2.St), Ex F H → RepE B F H σ ρ → ∀ Q : VK, (∀ l xs F2 H2, Grow F H F2 H2 → F2 l = none → H l = none → H2 l = some (.lst xs) → Reps F2 xs ds → Q (.ref l) H2) → t σ H Q
def DT (t : TT) (ρ : Env) (b : Bool) : Prop := ∀ (B F H : Hp) (σ : L2.St), Ex F H → RepE B F H σ ρ → ∀ Q : Bool → Hp → Prop, (∀ F2 H2, Grow F H F2 H2 → Q b H2) → t σ H Q
def DA (t : TA) (ρ : Env) (ds : List D) : Prop := ∀ (B F H : Hp) (σ : L2.St), Ex F H → RepE B F H σ ρ → ∀ Q : List V → Hp → Prop, (∀ vs F2 H2, Grow F H F2 H2 → Reps F2 vs ds → Q vs H2) → t σ H Q
def DO (t : TO) (ρ : Env) (o : Option Int) : Prop := ∀ (B F H : Hp) (σ : L2.St), Ex F H → RepE B F H σ ρ → ∀ Q : Option Int → Hp → Prop, (∀ F2 H2, Grow F H F2 H2 → Q o H2) → t σ H Q
/-- e evaluates to some d as R tells, and may draw -/
def DX (t : TE) (ρ : Env) (R : Env → D → Prop) : Prop := ∀ (B F0 F H : Hp) (σ : L2.St), In0 B F0 F H → RepE B F H σ ρ → ∀ Q : VK, (∀ v F2 H2 ρ2 d, In0 B F0 F2 H2 → Ex F F2 → RepE B F2 H2 σ ρ2 → Rep F2 v d → R ρ2 d → Q v H2) → t σ H Q
def DXA (t : TA) (ρ : Env) (R : Env → List D → Prop) : Prop := ∀ (B F0 F H : Hp) (σ : L2.St), In0 B F0 F H → RepE B F H σ ρ → ∀ Q : List V → Hp → Prop, (∀ vs F2 H2 ρ2 ds, In0 B F0 F2 H2 → Ex F F2 → RepE B F2 H2 σ ρ2 → Reps F2 vs ds → R ρ2 ds → Q vs H2) → t σ H Q
def DXT (t : TT) (ρ : Env) (R : Env → Bool → Prop) : Prop := ∀ (B F0 F H : Hp) (σ : L2.St), In0 B F0 F H → RepE B F H σ ρ → ∀ Q : Bool → Hp → Prop, (∀ b F2 H2 ρ2, In0 B F0 F2 H2 → Ex F F2 → RepE B F2 H2 σ ρ2 → R ρ2 b → Q b H2) → t σ H Q
/-- behind a statement -/
structure Post where
  nx : Env → Prop
  rt : Env → D → Prop
  bk : Env → Prop := fun _ => False
  ct : Env → Prop := fun _ => False
structure Fits (B F0 F : Hp) (P : Post) (D' : Ends) : Prop where
  nx : ∀ F2 H2 σ2 ρ2, In0 B F0 F2 H2 → Ex F F2 → RepE B F2 H2 σ2 ρ2 → P.nx ρ2 → D'.nx σ2 H2
  rt : ∀ F2 H2 σ2 ρ2 v d, In0 B F0 F2 H2 → Ex F F2 → RepE B F2 H2 σ2 ρ2 → Rep F2 v d → P.rt ρ2 d → D'.rt v H2
  bk : ∀ F2 H2 σ2 ρ2, In0 B F0 F2 H2 → Ex F F2 → RepE B F2 H2 σ2 ρ2 → P.bk ρ2 → D'.bk σ2 H2
  ct : ∀ F2 H2 σ2 ρ2, In0 B F0 F2 H2 → Ex F F2 → RepE B F2 H2 σ2 ρ2 → P.ct ρ2 → D'.ct σ2 H2
def DS (t : TS) (ρ : Env) (P : Post) : Prop := ∀ (B F0 F H : Hp) (σ : L2.St) (D' : Ends), In0 B F0 F H → RepE B F H σ ρ → Fits B F0 F P D' → t D' σ H
theorem Fits.mono {B F0 F F' : Hp} {P : Post} {D' : Ends} (f : Fits B F0 F P D') (e : Ex F F') : Fits B F0 F' P D' :=
  ⟨fun F2 H2 σ2 ρ2 h k => f.nx F2 H2 σ2 ρ2 h (e.trans k), fun F2 H2 σ2 ρ2 v d h k => f.rt F2 H2 σ2 ρ2 v d h (e.trans k), fun F2 H2 σ2 ρ2 h k => f.bk F2 H2 σ2 ρ2 h (e.trans k), fun F2 H2 σ2 ρ2 h k => f.ct F2 H2 σ2 ρ2 h (e.trans k)⟩

abbrev GE (X : Fm) (e : Expr) (ρ : Env) (d : D) : Prop := DE (aE X e) ρ d
abbrev GN (X : Fm) (e : Expr) (ρ : Env) (ds : List D) : Prop := DN (aE X e) ρ ds
abbrev GT (X : Fm) (e : Expr) (ρ : Env) (b : Bool) : Prop := DT (aT X e) ρ b
abbrev GW (X : Fm) (e : Expr) (ρ : Env) (b : Bool) : Prop := DT (aW X e) ρ b
abbrev GA (X : Fm) (es : List Expr) (ρ : Env) (ds : List D) : Prop := DA (aA X es) ρ ds
abbrev GO (X : Fm) (e : Option Expr) (ρ : Env) (o : Option Int) : Prop := DO (aO X e) ρ o
abbrev GX (X : Fm) (e : Expr) (ρ : Env) (R : Env → D → Prop) : Prop := DX (aE X e) ρ R
abbrev GXA (X : Fm) (es : List Expr) (ρ : Env) (R : Env → List D → Prop) : Prop := DXA (aA X es) ρ R
abbrev GXT (X : Fm) (e : Expr) (ρ : Env) (R : Env → Bool → Prop) : Prop := DXT (aT X e) ρ R
abbrev GS (X : Fm) (st : Stmt) (ρ : Env) (P : Post) : Prop := DS (aS X st) ρ P
abbrev GSs (X : Fm) (st : List Stmt) (ρ : Env) (P : Post) : Prop := DS (aSs X st) ρ P

section
variable {X : Fm} {ρ : Env}
/-- by a reading -/
theorem ge_by {e : Expr} {t : TE} {d : D} (p : ∀ j, PE (X.Y j) e t) (h : DE t ρ d) : GE X e ρ d := fun B F H σ e r Q q => ⟨t, p, h B F H σ e r Q q⟩
theorem gn_by {e : Expr} {t : TE} {ds : List D} (p : ∀ j, PE (X.Y j) e t) (h : DN t ρ ds) : GN X e ρ ds := fun B F H σ e r Q q => ⟨t, p, h B F H σ e r Q q⟩
theorem gt_by {e : Expr} {t : TT} {b : Bool} (p : ∀ j, PT (X.Y j) e t) (h : DT t ρ b) : GT X e ρ b := fun B F H σ e r Q q => ⟨t, p, h B F H σ e r Q q⟩
theorem gw_by {e : Expr} {t : TT} {b : Bool} (p : ∀ j, PW (X.Y j) e t) (h : DT t ρ b) : GW X e ρ b := fun B F H σ e r Q q => ⟨t, p, h B F H σ e r Q q⟩
theorem ga_by {es : List Expr} {t : TA} {ds : List D} (p : ∀ j, PA (X.Y j) es t) (h : DA t ρ ds) : GA X es ρ ds := fun B F H σ e r Q q => ⟨t, p, h B F H σ e r Q q⟩
theorem go_by {e : Option Expr} {t : TO} {o : Option Int} (p : ∀ j, PO (X.Y j) e t) (h : DO t ρ o) : GO X e ρ o := fun B F H σ e r Q q => ⟨t, p, h B F H σ e r Q q⟩
theorem gx_by {e : Expr} {t : TE} {R : Env → D → Prop} (p : ∀ j, PE (X.Y j) e t) (h : DX t ρ R) : GX X e ρ R := fun B F0 F H σ i r Q q => ⟨t, p, h B F0 F H σ i r Q q⟩
theorem gxa_by {es : List Expr} {t : TA} {R : Env → List D → Prop} (p : ∀ j, PA (X.Y j) es t) (h : DXA t ρ R) : GXA X es ρ R := fun B F0 F H σ i r Q q => ⟨t, p, h B F0 F H σ i r Q q⟩
theorem gxt_by {e : Expr} {t : TT} {R : Env → Bool → Prop} (p : ∀ j, PT (X.Y j) e t) (h : DXT t ρ R) : GXT X e ρ R := fun B F0 F H σ i r Q q => ⟨t, p, h B F0 F H σ i r Q q⟩
theorem gs_by {st : Stmt} {t : TS} {P : Post} (p : ∀ j, PS (X.Y j) st t) (h : DS t ρ P) : GS X st ρ P := fun B F0 F H σ D' i r f => ⟨t, p, h B F0 F H σ D' i r f⟩
theorem gss_by {st : List Stmt} {t : TS} {P : Post} (p : ∀ j, PSs (X.Y j) st t) (h : DS t ρ P) : GSs X st ρ P := fun B F0 F H σ D' i r f => ⟨t, p, h B F0 F H σ D' i r f⟩
/-- what changes nothing may stand where one may draw -/
theorem dx_of {t : TE} {d : D} {R : Env → D → Prop} (h : DE t ρ d) (k : R ρ d) : DX t ρ R := fun B F0 F H σ i r Q q =>
  h B F H σ i.fh r Q fun v F2 H2 g rv => q v F2 H2 ρ d (i.grow g) g.ff (r.grow g) rv k
theorem dxt_of {t : TT} {b : Bool} {R : Env → Bool → Prop} (h : DT t ρ b) (k : R ρ b) : DXT t ρ R := fun B F0 F H σ i r Q q =>
  h B F H σ i.fh r Q fun F2 H2 g => q b F2 H2 ρ (i.grow g) g.ff (r.grow g) k
theorem dx_mono {t : TE} {R R' : Env → D → Prop} (h : DX t ρ R) (k : ∀ ρ2 d, R ρ2 d → R' ρ2 d) : DX t ρ R' := fun B F0 F H σ i r Q q =>
  h B F0 F H σ i r Q fun v F2 H2 ρ2 d a b c e f => q v F2 H2 ρ2 d a b c e (k _ _ f)
/-- a new list as data -/
theorem de_of_dn {t : TE} {ds : List D} (h : DN t ρ ds) : DE t ρ (.lst ds) := fun B F H σ e r Q q =>
  h B F H σ e r Q fun l xs F2 H2 g hf hl hx rx => by
    have hF : Ex F2 (upd F2 l (.lst xs)) := Ex.new hf
    refine q (.ref l) (upd F2 l (.lst xs)) H2 ⟨g.hh, g.ff.trans hF, fun a o h => ?_, fun a h => ?_⟩ (.lst upd_same (rx.mono hF))
    · by_cases z : a = l
      · subst z; rw [upd_same] at h; rw [hx]; exact h
      · rw [upd_ne z] at h; exact g.fh a o h
    · by_cases z : a = l
      · subst z; exact .inr hl
      · rw [upd_ne z] at h; exact g.new a h
theorem DE.to {t : TE} {d d' : D} (h : DE t ρ d) (e : d = d') : DE t ρ d' := e ▸ h
theorem DN.to {t : TE} {d d' : List D} (h : DN t ρ d) (e : d = d') : DN t ρ d' := e ▸ h
theorem DT.to {t : TT} {b b' : Bool} (h : DT t ρ b) (e : b = b') : DT t ρ b' := e ▸ h
theorem DA.to {t : TA} {b b' : List D} (h : DA t ρ b) (e : b = b') : DA t ρ b' := e ▸ h

/-! ### names, constants -/
theorem g_var (i : Nat) {x : Str} {pos : Pos} {d : D} (h : ρ[i]? = some (some (.sh d)) := by rfl) (hn : X.N[i]? = some x := by rfl)
    (hv : ∀ j, Vis (X.Y j).env.scope x := by intro _; first | exact Or.inl rfl | exact Or.inr (Or.inl rfl) | exact Or.inr (Or.inr rfl))
    (hd : (x == ("__debug__" : Str)) = false := by decide) (hcd : (x == ("__classdict__" : Str)) = false := by decide) : GE X (.Name x pos) ρ d :=
  ge_by (fun j => pe_var (i := i) (by rw [X.hN j]; exact hn) (hv j) hd hcd) fun B F H σ e r Q q => by
    obtain ⟨v, h1, h2⟩ := r.sh h
    exact ⟨v, h1, q v F H (Grow.refl e) h2⟩
theorem g_int {i j pos} : GE X (.Constant (.int i) j pos) ρ (.int i) := ge_by (fun _ => pe_int) fun B F H σ e r Q q => q _ F H (Grow.refl e) (.int i)
theorem g_bl {b j pos} : GE X (.Constant (.bool b) j pos) ρ (.bl b) := ge_by (fun _ => pe_bl) fun B F H σ e r Q q => q _ F H (Grow.refl e) (.bl b)
theorem g_non {j pos} : GE X (.Constant .none j pos) ρ .non := ge_by (fun _ => pe_non) fun B F H σ e r Q q => q _ F H (Grow.refl e) .non

/-! ### operators -/
/-- an operation on values, told over data -/
def RD (r : R2) (d1 d2 d : D) : Prop := ∀ (F H : Hp) (v u : V), Ex F H → Rep F v d1 → Rep F u d2 → ∀ Q : VK, (∀ w F2 H2, Grow F H F2 H2 → Rep F2 w d → Q w H2) → r v u H Q
def RDN (r : R2) (d1 d2 : D) (ds : List D) : Prop := ∀ (F H : Hp) (v u : V), Ex F H → Rep F v d1 → Rep F u d2 → ∀ Q : VK, (∀ l xs F2 H2, Grow F H F2 H2 → F2 l = none → H l = none → H2 l = some (.lst xs) → Reps F2 xs ds → Q (.ref l) H2) → r v u H Q
theorem de_op {r : R2} {ta tb : TE} {d1 d2 d : D} (ha : DE ta ρ d1) (hb : DE tb ρ d2) (hr : RD r d1 d2 d) : DE (tOp r ta tb) ρ d := fun B F H σ e rr Q q =>
  ha B F H σ e rr _ fun v F2 H2 g rv => hb B F2 H2 σ g.fh (rr.grow g) _ fun u F3 H3 g3 ru => hr F3 H3 v u g3.fh (rv.mono g3.ff) ru Q fun w F4 H4 g4 rw' => q w F4 H4 ((g.trans g3).trans g4) rw'
theorem dn_op {r : R2} {ta tb : TE} {d1 d2 : D} {ds : List D} (ha : DE ta ρ d1) (hb : DE tb ρ d2) (hr : RDN r d1 d2 ds) : DN (tOp r ta tb) ρ ds := fun B F H σ e rr Q q =>
  ha B F H σ e rr _ fun v F2 H2 g rv => hb B F2 H2 σ g.fh (rr.grow g) _ fun u F3 H3 g3 ru => hr F3 H3 v u g3.fh (rv.mono g3.ff) ru Q fun l xs F4 H4 g4 h1 h2 h3 h4 =>
    q l xs F4 H4 ((g.trans g3).trans g4) h1 (fresh_back (g.trans g3).hh h2) h3 h4
theorem dx_op {r : R2} {ta tb : TE} {R : Env → D → Prop} (ha : DX ta ρ fun ρ1 d1 => DX tb ρ1 fun ρ2 d2 => ∃ d, RD r d1 d2 d ∧ R ρ2 d) : DX (tOp r ta tb) ρ R := fun B F0 F H σ i rr Q q =>
  ha B F0 F H σ i rr _ fun v F2 H2 ρ1 d1 i2 e2 r2 rv k2 => k2 B F0 F2 H2 σ i2 r2 _ fun u F3 H3 ρ2 d2 i3 e3 r3 ru ⟨d, k3, k4⟩ => k3 F3 H3 v u i3.fh (rv.mono e3) ru Q fun w F4 H4 g4 rw' =>
    q w F4 H4 ρ2 d (i3.grow g4) ((e2.trans e3).trans g4.ff) (r3.grow g4) rw' k4
theorem rd_I0 {g : Int → Int → V} {i j : Int} {d : D} (h : ∀ F, Rep F (g i j) d) : RD (rI0 g) (.int i) (.int j) d := fun F H v u e hv hu Q q => by
  rw [hv.int_inv, hu.int_inv]
  exact ⟨i, j, rfl, rfl, q _ F H (Grow.refl e) (h F)⟩
theorem rd_I {C : Int → Int → Prop} {g : Int → Int → V} {i j : Int} {d : D} (hc : C i j) (h : ∀ F, Rep F (g i j) d) : RD (rI C g) (.int i) (.int j) d := fun F H v u e hv hu Q q => by
  rw [hv.int_inv, hu.int_inv]
  exact ⟨i, j, rfl, rfl, hc, q _ F H (Grow.refl e) (h F)⟩
variable {a b : Expr} {i j : Int} {pos : Pos}
theorem g_add (ha : GE X a ρ (.int i)) (hb : GE X b ρ (.int j)) : GE X (.BinOp a .Add b pos) ρ (.int (i + j)) := ge_by (fun _ => pe_op op_add (aE_ok _) (aE_ok _)) (de_op ha hb (rd_I0 fun _ => .int _))
theorem g_sub (ha : GE X a ρ (.int i)) (hb : GE X b ρ (.int j)) : GE X (.BinOp a .Sub b pos) ρ (.int (i - j)) := ge_by (fun _ => pe_op op_sub (aE_ok _) (aE_ok _)) (de_op ha hb (rd_I0 fun _ => .int _))
theorem g_mul (ha : GE X a ρ (.int i)) (hb : GE X b ρ (.int j)) (hc : CMul i j) : GE X (.BinOp a .Mult b pos) ρ (.int (i * j)) := ge_by (fun _ => pe_op op_mul (aE_ok _) (aE_ok _)) (de_op ha hb (rd_I hc fun _ => .int _))
theorem g_mulW (ha : GE X a ρ (.int i)) (hb : GE X b ρ (.int j)) (hc : CMulW i j) : GE X (.BinOp a .Mult b pos) ρ (.int (i * j)) := ge_by (fun _ => pe_op op_mulW (aE_ok _) (aE_ok _)) (de_op ha hb (rd_I hc fun _ => .int _))
theorem g_mod (ha : GE X a ρ (.int i)) (hb : GE X b ρ (.int j)) (hc : 0 < j) : GE X (.BinOp a .Mod b pos) ρ (.int (i % j)) := ge_by (fun _ => pe_op op_mod (aE_ok _) (aE_ok _)) (de_op ha hb (rd_I hc fun _ => .int _))
theorem g_fdiv (ha : GE X a ρ (.int i)) (hb : GE X b ρ (.int j)) (hc : CDiv i j) : GE X (.BinOp a .FloorDiv b pos) ρ (.int (i / j)) := ge_by (fun _ => pe_op op_fdiv (aE_ok _) (aE_ok _)) (de_op ha hb (rd_I hc fun _ => .int _))
theorem g_pow (ha : GE X a ρ (.int i)) (hb : GE X b ρ (.int j)) (hc : CPow i j) : GE X (.BinOp a .Pow b pos) ρ (.int (i ^ j.toNat)) := ge_by (fun _ => pe_op op_pow (aE_ok _) (aE_ok _)) (de_op ha hb (rd_I hc fun _ => .int _))
theorem g_neg (ha : GE X a ρ (.int i)) : GE X (.UnaryOp .USub a pos) ρ (.int (-i)) := ge_by (fun _ => pe_un un_neg (aE_ok _)) fun B F H σ e r Q q =>
  ha B F H σ e r _ fun v F2 H2 g rv => by
    rw [rv.int_inv]
    exact ⟨i, rfl, q _ F2 H2 g (.int _)⟩
/-- a list and a list, a list so many times: new ones -/
theorem gn_cat {ds es : List D} (ha : GE X a ρ (.lst ds)) (hb : GE X b ρ (.lst es)) (hz : ds.length + es.length ≤ 100000) : GN X (.BinOp a .Add b pos) ρ (ds ++ es) := gn_by (fun _ => pe_op op_cat (aE_ok _) (aE_ok _)) (dn_op ha hb fun F H v u e hv hu Q q => by
  obtain ⟨l, xs, rfl, h1, r1⟩ := hv.lst_inv
  obtain ⟨m, ys, rfl, h2, r2⟩ := hu.lst_inv
  refine ⟨l, m, xs, ys, rfl, rfl, e _ _ h1, e _ _ h2, sz_of (by rw [r1.length, r2.length]; exact hz), fun p hp => ?_⟩
  refine q p _ F _ ⟨Ex.new hp, Ex.refl F, e.trans (Ex.new hp), fun _ h => .inl h⟩ (fresh_back e hp) hp upd_same (r1.append r2))
theorem g_cat {ds es : List D} (ha : GE X a ρ (.lst ds)) (hb : GE X b ρ (.lst es)) (hz : ds.length + es.length ≤ 100000) : GE X (.BinOp a .Add b pos) ρ (.lst (ds ++ es)) := de_of_dn (gn_cat ha hb hz)
theorem Reps.rep {F : Hp} {xs : List V} {ds : List D} (h : Reps F xs ds) : ∀ k : Nat, Reps F (List.replicate k xs).flatten (List.replicate k ds).flatten
  | 0 => .nil
  | k + 1 => by
    rw [List.replicate_succ, List.replicate_succ, List.flatten_cons, List.flatten_cons]
    exact h.append (Reps.rep h k)
theorem gn_rep {d : D} (ha : GE X a ρ (.lst [d])) (hb : GE X b ρ (.int j)) (hz : -100000 ≤ j ∧ j ≤ 100000) : GN X (.BinOp a .Mult b pos) ρ (List.replicate j.toNat d) := gn_by (fun _ => pe_op op_rep (aE_ok _) (aE_ok _)) (dn_op ha hb fun F H v u e hv hu Q q => by
  obtain ⟨l, xs, rfl, h1, r1⟩ := hv.lst_inv
  rw [hu.int_inv]
  have hl : xs.length = 1 := r1.length
  refine ⟨l, j, xs, rfl, rfl, e _ _ h1, by omega, by omega, sz_of (by rw [hl]; omega), fun p hp => ?_⟩
  refine q p _ F _ ⟨Ex.new hp, Ex.refl F, e.trans (Ex.new hp), fun _ h => .inl h⟩ (fresh_back e hp) hp upd_same ?_
  have := r1.rep j.toNat
  have e1 : (List.replicate j.toNat [d]).flatten = List.replicate j.toNat d := by
    generalize j.toNat = n
    induction n with
    | zero => rfl
    | succ n ih => rw [List.replicate_succ, List.flatten_cons, ih]; rfl
  rw [e1] at this
  exact this)
theorem g_rep {d : D} (ha : GE X a ρ (.lst [d])) (hb : GE X b ρ (.int j)) (hz : -100000 ≤ j ∧ j ≤ 100000) : GE X (.BinOp a .Mult b pos) ρ (.lst (List.replicate j.toNat d)) := de_of_dn (gn_rep ha hb hz)

/-! ### comparisons -/
theorem cmp_bl {op : CmpOp} {r : R2} {d1 d2 : D} {k : Bool} (ho : ∀ j, OpR (X.Y j) (compareOp op) r) (ha : GE X a ρ d1) (hb : GE X b ρ d2) (hr : RD r d1 d2 (.bl k)) (hm : op ≠ .In := by decide) (hm2 : op ≠ .NotIn := by decide) : GE X (.Compare a [op] [b] pos) ρ (.bl k) :=
  ge_by (fun j => pe_cmpR (ho j) (aE_ok _) (aE_ok _) (nomark _ hm hm2)) (de_op ha hb hr)
theorem cmp_t {op : CmpOp} {r : R2} {d1 d2 : D} {k : Bool} (ho : ∀ j, OpR (X.Y j) (compareOp op) r) (ha : GE X a ρ d1) (hb : GE X b ρ d2) (hr : RD r d1 d2 (.bl k)) (hm : op ≠ .In := by decide) (hm2 : op ≠ .NotIn := by decide) : GT X (.Compare a [op] [b] pos) ρ k :=
  gt_by (fun j => pt_cmpR (ho j) (aE_ok _) (aE_ok _) (nomark _ hm hm2)) fun B F H σ e r Q q => de_op ha hb hr B F H σ e r _ fun v F2 H2 g rv => ⟨k, rv.bl_inv, q F2 H2 g⟩
theorem rd_eqI : RD rEq (.int i) (.int j) (.bl (decide (i = j))) := fun F H v u e hv hu Q q => by
  rw [hv.int_inv, hu.int_inv]
  refine ⟨rfl, q _ F H (Grow.refl e) ?_⟩
  have : decide (V.int i = V.int j) = decide (i = j) := by simp
  rw [this]; exact .bl _
theorem rd_neI : RD rNe (.int i) (.int j) (.bl (!decide (i = j))) := fun F H v u e hv hu Q q => by
  rw [hv.int_inv, hu.int_inv]
  refine ⟨rfl, q _ F H (Grow.refl e) ?_⟩
  have : decide (V.int i = V.int j) = decide (i = j) := by simp
  rw [this]; exact .bl _
theorem t_eqI (ha : GE X a ρ (.int i)) (hb : GE X b ρ (.int j)) : GT X (.Compare a [.Eq] [b] pos) ρ (decide (i = j)) := cmp_t (fun _ => op_eq) ha hb rd_eqI
theorem t_neI (ha : GE X a ρ (.int i)) (hb : GE X b ρ (.int j)) : GT X (.Compare a [.NotEq] [b] pos) ρ (!decide (i = j)) := cmp_t (fun _ => op_ne) ha hb rd_neI
theorem t_ltI (ha : GE X a ρ (.int i)) (hb : GE X b ρ (.int j)) : GT X (.Compare a [.Lt] [b] pos) ρ (decide (i < j)) := cmp_t (fun _ => op_lt) ha hb (rd_I0 fun _ => .bl _)
theorem t_leI (ha : GE X a ρ (.int i)) (hb : GE X b ρ (.int j)) : GT X (.Compare a [.LtE] [b] pos) ρ (decide (i ≤ j)) := cmp_t (fun _ => op_le) ha hb (rd_I0 fun _ => .bl _)
theorem t_gtI (ha : GE X a ρ (.int i)) (hb : GE X b ρ (.int j)) : GT X (.Compare a [.Gt] [b] pos) ρ (decide (j < i)) := cmp_t (fun _ => op_gt) ha hb (rd_I0 fun _ => .bl _)
theorem t_geI (ha : GE X a ρ (.int i)) (hb : GE X b ρ (.int j)) : GT X (.Compare a [.GtE] [b] pos) ρ (decide (j ≤ i)) := cmp_t (fun _ => op_ge) ha hb (rd_I0 fun _ => .bl _)
theorem g_eqI (ha : GE X a ρ (.int i)) (hb : GE X b ρ (.int j)) : GE X (.Compare a [.Eq] [b] pos) ρ (.bl (decide (i = j))) := cmp_bl (fun _ => op_eq) ha hb rd_eqI
theorem g_neI (ha : GE X a ρ (.int i)) (hb : GE X b ρ (.int j)) : GE X (.Compare a [.NotEq] [b] pos) ρ (.bl (!decide (i = j))) := cmp_bl (fun _ => op_ne) ha hb rd_neI
theorem g_ltI (ha : GE X a ρ (.int i)) (hb : GE X b ρ (.int j)) : GE X (.Compare a [.Lt] [b] pos) ρ (.bl (decide (i < j))) := cmp_bl (fun _ => op_lt) ha hb (rd_I0 fun _ => .bl _)
theorem g_leI (ha : GE X a ρ (.int i)) (hb : GE X b ρ (.int j)) : GE X (.Compare a [.LtE] [b] pos) ρ (.bl (decide (i ≤ j))) := cmp_bl (fun _ => op_le) ha hb (rd_I0 fun _ => .bl _)
theorem g_gtI (ha : GE X a ρ (.int i)) (hb : GE X b ρ (.int j)) : GE X (.Compare a [.Gt] [b] pos) ρ (.bl (decide (j < i))) := cmp_bl (fun _ => op_gt) ha hb (rd_I0 fun _ => .bl _)
theorem g_geI (ha : GE X a ρ (.int i)) (hb : GE X b ρ (.int j)) : GE X (.Compare a [.GtE] [b] pos) ρ (.bl (decide (j ≤ i))) := cmp_bl (fun _ => op_ge) ha hb (rd_I0 fun _ => .bl _)
theorem rd_eqS {x y : Str} : RD rEq (.str x) (.str y) (.bl (decide (x = y))) := fun F H v u e hv hu Q q => by
  rw [hv.str_inv, hu.str_inv]
  refine ⟨rfl, q _ F H (Grow.refl e) ?_⟩
  have : decide (V.str x = V.str y) = decide (x = y) := by simp
  rw [this]; exact .bl _
theorem rd_neS {x y : Str} : RD rNe (.str x) (.str y) (.bl (!decide (x = y))) := fun F H v u e hv hu Q q => by
  rw [hv.str_inv, hu.str_inv]
  refine ⟨rfl, q _ F H (Grow.refl e) ?_⟩
  have : decide (V.str x = V.str y) = decide (x = y) := by simp
  rw [this]; exact .bl _
theorem t_eqS {x y : Str} (ha : GE X a ρ (.str x)) (hb : GE X b ρ (.str y)) : GT X (.Compare a [.Eq] [b] pos) ρ (decide (x = y)) := cmp_t (fun _ => op_eq) ha hb rd_eqS
theorem t_neS {x y : Str} (ha : GE X a ρ (.str x)) (hb : GE X b ρ (.str y)) : GT X (.Compare a [.NotEq] [b] pos) ρ (!decide (x = y)) := cmp_t (fun _ => op_ne) ha hb rd_neS
theorem g_eqS {x y : Str} (ha : GE X a ρ (.str x)) (hb : GE X b ρ (.str y)) : GE X (.Compare a [.Eq] [b] pos) ρ (.bl (decide (x = y))) := cmp_bl (fun _ => op_eq) ha hb rd_eqS
theorem g_neS {x y : Str} (ha : GE X a ρ (.str x)) (hb : GE X b ρ (.str y)) : GE X (.Compare a [.NotEq] [b] pos) ρ (.bl (!decide (x = y))) := cmp_bl (fun _ => op_ne) ha hb rd_neS
def D.isNon : D → Bool
  | .non => true
  | _ => false
theorem Rep.isNon {F : Hp} {v : V} {d : D} (h : Rep F v d) : decide (v = .non) = d.isNon := by
  cases h <;> simp [D.isNon]
theorem t_isN {d : D} {k p2} (ha : GE X a ρ d) : GT X (.Compare a [.Is] [.Constant .none k p2] pos) ρ d.isNon :=
  gt_by (fun _ => pt_cmpR op_isN (aE_ok _) pe_non (nomark _)) fun B F H σ e r Q q => ha B F H σ e r _ fun v F2 H2 g rv => ⟨rfl, d.isNon, by rw [rv.isNon], q F2 H2 g⟩
theorem t_notN {d : D} {k p2} (ha : GE X a ρ d) : GT X (.Compare a [.IsNot] [.Constant .none k p2] pos) ρ (!d.isNon) :=
  gt_by (fun _ => pt_cmpR op_notN (aE_ok _) pe_non (nomark _)) fun B F H σ e r Q q => ha B F H σ e r _ fun v F2 H2 g rv => ⟨rfl, !d.isNon, by rw [rv.isNon], q F2 H2 g⟩

/-! ### tests -/
variable {rest : List Expr} {k c : Bool}
theorem t_w {e : Expr} (h : GW X e ρ k) : GT X e ρ k := gt_by (fun j => (aW_ok j).pt) h
theorem w_and1 (h : GT X a ρ k) : GW X (.BoolOp .And [a] pos) ρ k := gw_by (fun j => pw_and1 (aT_ok j)) h
theorem w_or1 (h : GT X a ρ k) : GW X (.BoolOp .Or [a] pos) ρ k := gw_by (fun j => pw_or1 (aT_ok j)) h
theorem w_and (h1 : GT X a ρ k) (h2 : k = true → GW X (.BoolOp .And (b :: rest) pos) ρ c) : GW X (.BoolOp .And (a :: b :: rest) pos) ρ (k && c) :=
  gw_by (fun j => pw_and (aT_ok j) (aW_ok j)) fun B F H σ e r Q q => h1 B F H σ e r _ fun F2 H2 g => by
    cases k with
    | false => exact q F2 H2 g
    | true => exact h2 rfl B F2 H2 σ g.fh (r.grow g) Q fun F3 H3 g3 => q F3 H3 (g.trans g3)
theorem w_or (h1 : GT X a ρ k) (h2 : k = false → GW X (.BoolOp .Or (b :: rest) pos) ρ c) : GW X (.BoolOp .Or (a :: b :: rest) pos) ρ (k || c) :=
  gw_by (fun j => pw_or (aT_ok j) (aW_ok j)) fun B F H σ e r Q q => h1 B F H σ e r _ fun F2 H2 g => by
    cases k with
    | true => exact q F2 H2 g
    | false => exact h2 rfl B F2 H2 σ g.fh (r.grow g) Q fun F3 H3 g3 => q F3 H3 (g.trans g3)
theorem t_not (h : GT X a ρ k) : GT X (.UnaryOp .Not a pos) ρ (!k) := gt_by (fun j => pt_not (aT_ok j)) fun B F H σ e r Q q => h B F H σ e r _ fun F2 H2 g => q F2 H2 g
theorem t_val (h : GE X a ρ (.bl k)) (he : ∀ j whole, isTrue a (X.Y j).env whole = (do let v ← whole; standAt a.pos; holding [v] (truthy v)) := by intro _ _; rfl) : GT X a ρ k :=
  gt_by (fun j => pt_val (aE_ok j) (he j)) fun B F H σ e r Q q => h B F H σ e r _ fun v F2 H2 g rv => ⟨k, rv.bl_inv, q F2 H2 g⟩
theorem g_ifT {d : D} {c : Expr} (h : GT X c ρ k) (h1 : k = true → GE X a ρ d) (h2 : k = false → GE X b ρ d) : GE X (.IfExp c a b pos) ρ d :=
  ge_by (fun j => pe_ifExp (aT_ok j) (aE_ok j) (aE_ok j)) fun B F H σ e r Q q => h B F H σ e r _ fun F2 H2 g => by
    cases k with
    | true => exact h1 rfl B F2 H2 σ g.fh (r.grow g) Q fun v F3 H3 g3 => q v F3 H3 (g.trans g3)
    | false => exact h2 rfl B F2 H2 σ g.fh (r.grow g) Q fun v F3 H3 g3 => q v F3 H3 (g.trans g3)
/-- and, or, not as values -/
theorem g_one {op} {d : D} (h : GE X a ρ d) : GE X (.BoolOp op [a] pos) ρ d := ge_by (fun j => pe_one (aE_ok j)) h
theorem g_and (h1 : GE X a ρ (.bl k)) (h2 : k = true → GE X (.BoolOp .And (b :: rest) pos) ρ (.bl c)) : GE X (.BoolOp .And (a :: b :: rest) pos) ρ (.bl (k && c)) :=
  ge_by (fun j => pe_and (aE_ok j) (aE_ok j)) fun B F H σ e r Q q => h1 B F H σ e r _ fun v F2 H2 g rv => ⟨k, rv.bl_inv, by
    cases k with
    | false => exact q _ F2 H2 g (.bl false)
    | true => exact h2 rfl B F2 H2 σ g.fh (r.grow g) Q fun v F3 H3 g3 => q v F3 H3 (g.trans g3)⟩
theorem g_or (h1 : GE X a ρ (.bl k)) (h2 : k = false → GE X (.BoolOp .Or (b :: rest) pos) ρ (.bl c)) : GE X (.BoolOp .Or (a :: b :: rest) pos) ρ (.bl (k || c)) :=
  ge_by (fun j => pe_or (aE_ok j) (aE_ok j)) fun B F H σ e r Q q => h1 B F H σ e r _ fun v F2 H2 g rv => ⟨k, rv.bl_inv, by
    cases k with
    | true => exact q _ F2 H2 g (.bl true)
    | false => exact h2 rfl B F2 H2 σ g.fh (r.grow g) Q fun v F3 H3 g3 => q v F3 H3 (g.trans g3)⟩
theorem g_not (h1 : GE X a ρ (.bl k)) : GE X (.UnaryOp .Not a pos) ρ (.bl (!k)) :=
  ge_by (fun j => pe_not (aE_ok j)) fun B F H σ e r Q q => h1 B F H σ e r _ fun v F2 H2 g rv => ⟨k, rv.bl_inv, q _ F2 H2 g (.bl _)⟩

/-! ### arguments, displays -/
def noStar : Expr → Bool
  | .Starred _ _ => false
  | _ => true
theorem star_of {e : Expr} {es : List Expr} {env : PySem.Env} (h : noStar e = true) : starEach (e :: es) env = (false, eval e env) :: starEach es env := by
  cases e <;> first | rfl | simp [noStar] at h
def noStars : List Expr → Bool
  | [] => true
  | e :: es => noStar e && noStars es
theorem stars_any {pos : Pos} : ∀ {es : List Expr} {env : PySem.Env}, noStars es = true → (backTo pos (starEach es env)).any (·.1) = false
  | [], env, _ => rfl
  | e :: es, env, h => by
    have h' : noStar e = true ∧ noStars es = true := by simpa [noStars] using h
    rw [star_of h'.1]
    have ih := stars_any (pos := pos) (es := es) (env := env) h'.2
    simpa [backTo] using ih
theorem a_nil : GA X [] ρ [] := ga_by (fun _ => pa_nil) fun B F H σ e r Q q => q [] F H (Grow.refl e) .nil
theorem a_cons {d : D} {ds : List D} {es : List Expr} (h : GE X a ρ d) (hs : GA X es ρ ds) (st : noStar a = true := by rfl) : GA X (a :: es) ρ (d :: ds) :=
  ga_by (fun _ => pa_cons (aE_ok _) (aA_ok _) (star_of st)) fun B F H σ e r Q q => h B F H σ e r _ fun v F2 H2 g rv => hs B F2 H2 σ g.fh (r.grow g) _ fun vs F3 H3 g3 rvs => q (v :: vs) F3 H3 (g.trans g3) (.cons (rv.mono g3.ff) rvs)
theorem gn_lst {ds : List D} {es : List Expr} (h : GA X es ρ ds) (hz : ds.length ≤ 100000 := by first | exact of_decide_eq_true rfl | decide) : GN X (.List es pos) ρ ds :=
  gn_by (fun _ => pe_lst (aA_ok _)) fun B F H σ e r Q q => h B F H σ e r _ fun vs F2 H2 g rv => ⟨sz_of (by rw [rv.length]; exact hz), fun p hp =>
    q p vs F2 _ (g.more (Ex.new hp)) (fresh_back g.fh hp) (fresh_back g.hh hp) upd_same rv⟩
theorem g_lst {ds : List D} {es : List Expr} (h : GA X es ρ ds) (hz : ds.length ≤ 100000 := by first | exact of_decide_eq_true rfl | decide) : GE X (.List es pos) ρ (.lst ds) := de_of_dn (gn_lst h hz)
theorem g_tup {ds : List D} {es : List Expr} {k : Nat} (h : GA X es ρ ds) (hz : ds.length ≤ 100000 := by first | exact of_decide_eq_true rfl | decide) : GE X (.Tuple es k pos) ρ (.tup ds) :=
  ge_by (fun _ => pe_tup (aA_ok _)) fun B F H σ e r Q q => h B F H σ e r _ fun vs F2 H2 g rv => ⟨sz_of (by rw [rv.length]; exact hz), fun p hp => by
    have gl := Grow.lay (o := .tup vs) g.fh hp
    exact q (.ref p) _ _ (g.trans gl) (.tup upd_same (rv.mono gl.ff))⟩
end
end Cv
end
section
set_option Elab.async false
set_option linter.all false
set_option maxRecDepth 100000
set_option maxHeartbeats 4000000
namespace Cv
open PySem L2 Evl
section
variable {X : Fm} {ρ : Env} {a b e : Expr} {es : List Expr} {pos p : Pos} {i j : Int}

/-! ### calls of built-ins -/
/-- a built-in's call, told over data -/
def RCD (r : List V → Hp → VK → Prop) (ds : List D) (d : D) : Prop := ∀ (F H : Hp) (vs : List V), Ex F H → Reps F vs ds → ∀ Q : VK, (∀ w F2 H2, Grow F H F2 H2 → Rep F2 w d → Q w H2) → r vs H Q
def RCN (r : List V → Hp → VK → Prop) (ds es : List D) : Prop := ∀ (F H : Hp) (vs : List V), Ex F H → Reps F vs ds → ∀ Q : VK, (∀ l xs F2 H2, Grow F H F2 H2 → F2 l = none → H l = none → H2 l = some (.lst xs) → Reps F2 xs es → Q (.ref l) H2) → r vs H Q
theorem de_cb {r : List V → Hp → VK → Prop} {t : TA} {ds : List D} {d : D} (h : DA t ρ ds) (hr : RCD r ds d) : DE (tCB r t) ρ d := fun B F H σ e rr Q q =>
  h B F H σ e rr _ fun vs F2 H2 g rv => hr F2 H2 vs g.fh rv Q fun w F3 H3 g3 rw' => q w F3 H3 (g.trans g3) rw'
theorem dn_cb {r : List V → Hp → VK → Prop} {t : TA} {ds es : List D} (h : DA t ρ ds) (hr : RCN r ds es) : DN (tCB r t) ρ es := fun B F H σ e rr Q q =>
  h B F H σ e rr _ fun vs F2 H2 g rv => hr F2 H2 vs g.fh rv Q fun l xs F3 H3 g3 h1 h2 h3 h4 => q l xs F3 H3 (g.trans g3) h1 (fresh_back g.hh h2) h3 h4
/-- the facts of a built-in's name -/
structure BuN (X : Fm) (x : Str) (v : Value) : Prop where
  mg : X.mg x = none
  bt : bootBuiltins x = some v
  hn : x ≠ "__name__"
  hd : (x == ("__debug__" : Str)) = false
theorem g_callB {x : Str} {id : String} {r : Fm → List V → Hp → VK → Prop} {ds : List D} {d : D} (hc : ∀ j, CallR (X.Y j) (.builtin id) (r X)) (bu : BuN X x (.builtin id)) (h : GA X (e :: es) ρ ds) (hr : RCD (r X) ds d)
    (hg : ∀ j, Gl (X.Y j) x := by intro _; rfl) (st : noStars (e :: es) = true := by rfl) : GE X (.Call (.Name x p) (e :: es) [] pos) ρ d := by
  have st' : noStar e = true ∧ noStars es = true := by simpa [noStars] using st
  exact ge_by (fun j => pe_callB (hc j) (hg j) (by rw [X.hmg j]; exact bu.mg) bu.bt (aA_ok j) bu.hn bu.hd (star_of st'.1) (stars_any st'.2)) (de_cb h hr)
theorem g_callTy {x : Str} {T : String} {r : Fm → List V → Hp → VK → Prop} {ds : List D} {d : D} (hc : ∀ j, CallR (X.Y j) (.type T) (r X)) (bu : BuN X x (.type T)) (h : GA X (e :: es) ρ ds) (hr : RCD (r X) ds d)
    (hg : ∀ j, Gl (X.Y j) x := by intro _; rfl) (st : noStars (e :: es) = true := by rfl) : GE X (.Call (.Name x p) (e :: es) [] pos) ρ d := by
  have st' : noStar e = true ∧ noStars es = true := by simpa [noStars] using st
  exact ge_by (fun j => pe_callTy (hc j) (hg j) (by rw [X.hmg j]; exact bu.mg) bu.bt (aA_ok j) bu.hn bu.hd (star_of st'.1) (stars_any st'.2)) (de_cb h hr)
theorem gn_callTy {x : Str} {T : String} {r : Fm → List V → Hp → VK → Prop} {ds ds' : List D} (hc : ∀ j, CallR (X.Y j) (.type T) (r X)) (bu : BuN X x (.type T)) (h : GA X (e :: es) ρ ds) (hr : RCN (r X) ds ds')
    (hg : ∀ j, Gl (X.Y j) x := by intro _; rfl) (st : noStars (e :: es) = true := by rfl) : GN X (.Call (.Name x p) (e :: es) [] pos) ρ ds' := by
  have st' : noStar e = true ∧ noStars es = true := by simpa [noStars] using st
  exact gn_by (fun j => pe_callTy (hc j) (hg j) (by rw [X.hmg j]; exact bu.mg) bu.bt (aA_ok j) bu.hn bu.hd (star_of st'.1) (stars_any st'.2)) (dn_cb h hr)

/-- the names of built-ins that the program uses are free -/
structure BuAll (mg : Str → Option Value) : Prop where
  len : mg "len" = none
  max : mg "max" = none
  int : mg "int" = none
  bool : mg "bool" = none
  list : mg "list" = none
  isi : mg "isinstance" = none
  range : mg "range" = none
  enum : mg "enumerate" = none
  zip : mg "zip" = none
  repr : mg "repr" = none
  sum : mg "sum" = none
  min : mg "min" = none
  abs : mg "abs" = none
theorem bu_len (h : BuAll X.mg) : BuN X "len" (.builtin "len") := ⟨h.len, PySem.boot_len, by decide, by decide⟩
theorem bu_max (h : BuAll X.mg) : BuN X "max" (.builtin "max") := ⟨h.max, by decide +kernel, by decide, by decide⟩
theorem bu_int (h : BuAll X.mg) : BuN X "int" (.type "int") := ⟨h.int, by decide +kernel, by decide, by decide⟩
theorem bu_list (h : BuAll X.mg) : BuN X "list" (.type "list") := ⟨h.list, by decide +kernel, by decide, by decide⟩
theorem bu_isi (h : BuAll X.mg) : BuN X "isinstance" (.builtin "isinstance") := ⟨h.isi, by decide +kernel, by decide, by decide⟩
theorem bu_sum (h : BuAll X.mg) : BuN X "sum" (.builtin "sum") := ⟨h.sum, by decide +kernel, by decide, by decide⟩

/-- how long a list or a tuple is -/
inductive LenD : D → Nat → Prop
  | lst (ds : List D) : LenD (.lst ds) ds.length
  | tup (ds : List D) : LenD (.tup ds) ds.length
theorem g_len {d : D} {n : Nat} (bu : BuAll X.mg) (h : GE X a ρ d) (hl : LenD d n) (hg : ∀ j, Gl (X.Y j) "len" := by intro _; rfl) (st : noStar a = true := by rfl) : GE X (.Call (.Name "len" p) [a] [] pos) ρ (.int (n : Int)) :=
  g_callB (r := fun X xs H Q => ∃ p ys, xs = [.ref p] ∧ (SqL X.K H p ys ∨ SqT X.K H p ys) ∧ Q (.int ys.length) H) (fun j => by rw [← X.hK j]; exact call_len_seq) (bu_len bu) (a_cons h a_nil st) (fun F H vs e rv Q q => by
    obtain ⟨v, ws, rfl, r1, r2⟩ := rv.cons_inv
    cases r2.nil_inv
    cases hl with
    | lst ds =>
      obtain ⟨l, xs, rfl, h1, r1⟩ := r1.lst_inv
      refine ⟨l, xs, rfl, .inl (SqL.of (e _ _ h1)), q _ F H (Grow.refl e) ?_⟩
      rw [r1.length]; exact .int _
    | tup ds =>
      obtain ⟨l, xs, rfl, h1, r1⟩ := r1.tup_inv
      refine ⟨l, xs, rfl, .inr (SqT.of (e _ _ h1)), q _ F H (Grow.refl e) ?_⟩
      rw [r1.length]; exact .int _) hg (by simp [noStars, st])
theorem g_max2 (bu : BuAll X.mg) (ha : GE X a ρ (.int i)) (hb : GE X b ρ (.int j)) (hg : ∀ j, Gl (X.Y j) "max" := by intro _; rfl) (st : noStar a = true := by rfl) (st2 : noStar b = true := by rfl) : GE X (.Call (.Name "max" p) [a, b] [] pos) ρ (.int (max i j)) :=
  g_callB (r := fun _ xs H Q => ∃ i j, xs = [.int i, .int j] ∧ Q (.int (if j > i then j else i)) H) (fun j => call_max2 (X.calm j)) (bu_max bu) (a_cons ha (a_cons hb a_nil st2) st) (fun F H vs e rv Q q => by
    obtain ⟨v, ws, rfl, r1, r2⟩ := rv.cons_inv
    obtain ⟨u, ws', rfl, r3, r4⟩ := r2.cons_inv
    cases r4.nil_inv
    rw [r1.int_inv, r3.int_inv]
    refine ⟨i, j, rfl, q _ F H (Grow.refl e) ?_⟩
    have : (if j > i then j else i) = max i j := by
      by_cases h : j > i
      · rw [if_pos h]; omega
      · rw [if_neg h]; omega
    rw [this]; exact .int _) hg (by simp [noStars, st, st2])
theorem g_toInt (bu : BuAll X.mg) (ha : GE X a ρ (.int i)) (hg : ∀ j, Gl (X.Y j) "int" := by intro _; rfl) (st : noStar a = true := by rfl) : GE X (.Call (.Name "int" p) [a] [] pos) ρ (.int i) :=
  g_callTy (r := fun _ xs H Q => (∃ i, xs = [.int i] ∧ Q (.int i) H) ∨ ∃ k, xs = [.bl k] ∧ Q (.int (if k then 1 else 0)) H) (fun j => call_int1) (bu_int bu) (a_cons ha a_nil st) (fun F H vs e rv Q q => by
    obtain ⟨v, ws, rfl, r1, r2⟩ := rv.cons_inv
    cases r2.nil_inv
    rw [r1.int_inv]
    exact .inl ⟨i, rfl, q _ F H (Grow.refl e) (.int _)⟩) hg (by simp [noStars, st])
theorem gn_list {ds : List D} (bu : BuAll X.mg) (ha : GE X a ρ (.lst ds)) (hg : ∀ j, Gl (X.Y j) "list" := by intro _; rfl) (st : noStar a = true := by rfl) : GN X (.Call (.Name "list" p) [a] [] pos) ρ ds :=
  gn_callTy (r := fun X xs H Q => ∃ p ys, xs = [.ref p] ∧ (SqL X.K H p ys ∨ SqT X.K H p ys) ∧ ∀ l, H l = none → Q (.ref l) (upd H l (.lst ys))) (fun j => by rw [← X.hK j]; exact call_list_of) (bu_list bu) (a_cons ha a_nil st) (fun F H vs e rv Q q => by
    obtain ⟨v, ws, rfl, r1, r2⟩ := rv.cons_inv
    cases r2.nil_inv
    obtain ⟨l, xs, rfl, h1, r1⟩ := r1.lst_inv
    refine ⟨l, xs, rfl, .inl (SqL.of (e _ _ h1)), fun m hm => ?_⟩
    exact q m xs F _ ⟨Ex.new hm, Ex.refl F, e.trans (Ex.new hm), fun _ h => .inl h⟩ (fresh_back e hm) hm upd_same r1) hg (by simp [noStars, st])
theorem g_list {ds : List D} (bu : BuAll X.mg) (ha : GE X a ρ (.lst ds)) (hg : ∀ j, Gl (X.Y j) "list" := by intro _; rfl) (st : noStar a = true := by rfl) : GE X (.Call (.Name "list" p) [a] [] pos) ρ (.lst ds) := de_of_dn (gn_list bu ha hg st)

/-- the type of data -/
inductive TyD (K : PySem.W.Frag) : D → Value → Prop
  | non : TyD K .non (.type "NoneType")
  | bl (b : Bool) : TyD K (.bl b) (.type "bool")
  | int (i : Int) : TyD K (.int i) (.type "int")
  | str (s : Str) : TyD K (.str s) (.type "str")
  | lst (ds : List D) : TyD K (.lst ds) (.type "list")
  | tup (ds : List D) : TyD K (.tup ds) (.type "tuple")
  | obj {C : Addr} {fs : List (Str × D)} (cl : Cls K C) (ha : PySem.W.findIn K (.ref C) "__class__" = some (some (.builtin "object.__class__")))
      (hn : PySem.W.specialIn K (.builtin "object.__class__") "__get__" = some (some (.builtin "getset_descriptor.__get__"))) (htk : PySem.W.takesIn K (.builtin "object.__class__") = some true)
      (hm : PySem.W.mroIn K C (.type "object") = some true) : TyD K (.obj C fs) (.ref C)
theorem TyD.tyx {K : PySem.W.Frag} {F H : Hp} {v : V} {d : D} {t : Value} (h : TyD K d t) (r : Rep F v d) (e : Ex F H) : TyX K H v t := by
  cases h with
  | non => rw [r.non_inv]; exact .base .non
  | bl b => rw [r.bl_inv]; exact .base (.bl b)
  | int i => rw [r.int_inv]; exact .base (.int i)
  | str s => rw [r.str_inv]; exact .base (.str s)
  | lst ds => obtain ⟨l, xs, rfl, h1, _⟩ := r.lst_inv; exact .base (.lst (e _ _ h1))
  | tup ds => obtain ⟨l, xs, rfl, h1, _⟩ := r.tup_inv; exact .base (.tup (e _ _ h1))
  | obj cl ha hn htk hm => obtain ⟨l, dx, fs, rfl, h1, _⟩ := r.obj_inv; exact .base (.ins (e _ _ h1) cl ha hn htk hm)
/-- isinstance(x, c), c a name of a class -/
theorem g_isi {d : D} {t u : Value} {cv : V} {k : Bool} (bu : BuAll X.mg) (ha : GE X a ρ d) (hc : ∀ j, PE (X.Y j) b (tC cv)) (cl : ClsV cv u) (ty : TyD X.K d t) (ki : PySem.W.kitOne X.K t u = some k)
    (hg : ∀ j, Gl (X.Y j) "isinstance" := by intro _; rfl) (st : noStar a = true := by rfl) (st2 : noStar b = true := by rfl) : GE X (.Call (.Name "isinstance" p) [a, b] [] pos) ρ (.bl k) := by
  have bn := bu_isi bu
  refine ge_by (t := tCB (rIsi X.K) (tCons (aE X a) (tCons (tC cv) tNil))) (fun j => pe_callB (by rw [← X.hK j]; exact call_isi) (hg j) (by rw [X.hmg j]; exact bn.mg) bn.bt (pa_cons (aE_ok j) (pa_cons (hc j) pa_nil (star_of st2)) (star_of st)) bn.hn bn.hd (star_of st) (stars_any (by simp [noStars, st2]))) fun B F H σ e r Q q => ?_
  refine ha B F H σ e r _ fun v F2 H2 g rv => ?_
  exact ⟨v, cv, t, u, k, rfl, cl, ty.tyx rv g.fh, ki, q _ F2 H2 g (.bl k)⟩
/-- a class by its name -/
theorem c_ty {x : Str} {T : String} {pos : Pos} (bu : BuN X x (.type T)) (hg : ∀ j, Gl (X.Y j) x := by intro _; rfl) (j : X.ι) : PE (X.Y j) (.Name x pos) (tC (.ty T)) := pe_bltn (hg j) (by rw [X.hmg j]; exact bu.mg) bu.bt rfl bu.hn bu.hd
theorem c_own {x : Str} {C : Addr} {pos : Pos} (hm : X.mg x = some (.ref C)) (hg : ∀ j, Gl (X.Y j) x := by intro _; rfl) (hd : (x == ("__debug__" : Str)) = false := by decide) (j : X.ι) : PE (X.Y j) (.Name x pos) (tC (.ref C)) := pe_glob (hg j) (by rw [X.hmg j]; exact hm) rfl hd

/-! ### items -/
def atD (ds : List D) (i : Int) : Option D := atI ds i
theorem reps_atI {F : Hp} {vs : List V} {ds : List D} (r : Reps F vs ds) {i : Int} {d : D} (h : atI ds i = some d) : ∃ v, atI vs i = some v ∧ Rep F v d := by
  unfold atI at h ⊢
  rw [r.length]
  cases e : ixN ds.length i with
  | none => rw [e] at h; simp at h
  | some j =>
    rw [e] at h
    obtain ⟨v, h1, h2⟩ := r.get (i := j) (d := d) (by simpa using h)
    exact ⟨v, by simpa using h1, h2⟩
def noSl : Expr → Bool
  | .Slice _ _ _ _ => false
  | _ => true
theorem plainIx_of (h : noSl b = true) : PlainIx b := by
  intro o i
  cases b <;> first | rfl | (simp [noSl] at h)
theorem g_ixL {ds : List D} {d : D} (ha : GE X a ρ (.lst ds)) (hb : GE X b ρ (.int i)) (h : atI ds i = some d) (hs : noSl b = true := by rfl) : GE X (.Subscript a b pos) ρ d :=
  ge_by (t := tOp (rIxL X.K) (aE X a) (aE X b)) (fun j => pe_ix (by rw [← X.hK j]; exact ix_list) (aE_ok j) (aE_ok j) (plainIx_of hs)) (de_op ha hb fun F H v u e hv hu Q q => by
    obtain ⟨l, xs, rfl, h1, r1⟩ := hv.lst_inv
    rw [hu.int_inv]
    obtain ⟨w, h2, r2⟩ := reps_atI r1 h
    exact ⟨l, xs, i, w, rfl, rfl, SqL.of (e _ _ h1), h2, q w F H (Grow.refl e) r2⟩)
theorem g_ixT {ds : List D} {d : D} (ha : GE X a ρ (.tup ds)) (hb : GE X b ρ (.int i)) (h : atI ds i = some d) (hs : noSl b = true := by rfl) : GE X (.Subscript a b pos) ρ d :=
  ge_by (t := tOp (rIxT X.K) (aE X a) (aE X b)) (fun j => pe_ix (by rw [← X.hK j]; exact ix_tup) (aE_ok j) (aE_ok j) (plainIx_of hs)) (de_op ha hb fun F H v u e hv hu Q q => by
    obtain ⟨l, xs, rfl, h1, r1⟩ := hv.tup_inv
    rw [hu.int_inv]
    obtain ⟨w, h2, r2⟩ := reps_atI r1 h
    exact ⟨l, xs, i, w, rfl, rfl, SqT.of (e _ _ h1), h2, q w F H (Grow.refl e) r2⟩)

/-! ### slices by one -/
theorem o_none : GO X none ρ none := go_by (fun _ => po_none) fun B F H σ e r Q q => q F H (Grow.refl e)
theorem o_some (ha : GE X a ρ (.int i)) : GO X (some a) ρ (some i) := go_by (fun j => po_some (aE_ok j)) fun B F H σ e r Q q => ha B F H σ e r _ fun v F2 H2 g rv => ⟨i, rv.int_inv, q F2 H2 g⟩
def cutD (ds : List D) (lo hi : Option Int) : List D := (ds.drop (HT.sIx ds.length 0 lo)).take (HT.sIx ds.length ds.length hi - HT.sIx ds.length 0 lo)
theorem reps_cut {F : Hp} {vs : List V} {ds : List D} (r : Reps F vs ds) (lo hi : Option Int) : Reps F (cutV vs lo hi) (cutD ds lo hi) := by
  unfold cutV cutD
  rw [r.length]
  exact (r.drop _).take _
theorem gn_sl {ds : List D} {lo hi : Option Expr} {l h : Option Int} {p2 : Pos} (ha : GE X a ρ (.lst ds)) (h1 : GO X lo ρ l) (h2 : GO X hi ρ h) : GN X (.Subscript a (.Slice lo hi none p2) pos) ρ (cutD ds l h) :=
  gn_by (t := tSl (rSlL X.K) (aE X a) (aO X lo) (aO X hi)) (fun j => pe_slice (by rw [← X.hK j]; exact sl_list) (aE_ok j) (aO_ok j) (aO_ok j)) fun B F H σ e r Q q =>
    ha B F H σ e r _ fun v F2 H2 g rv => h1 B F2 H2 σ g.fh (r.grow g) _ fun F3 H3 g3 => h2 B F3 H3 σ g3.fh ((r.grow g).grow g3) _ fun F4 H4 g4 => by
      obtain ⟨l', xs, rfl, k1, r1⟩ := rv.lst_inv
      have gg := (g.trans g3).trans g4
      refine ⟨l', xs, rfl, SqL.of (gg.fh _ _ (g4.ff _ _ (g3.ff _ _ k1))), fun m hm => ?_⟩
      exact q m _ F4 _ (gg.more (Ex.new hm)) (fresh_back gg.fh hm) (fresh_back gg.hh hm) upd_same (reps_cut (r1.mono (g3.ff.trans g4.ff)) l h)
theorem g_sl {ds : List D} {lo hi : Option Expr} {l h : Option Int} {p2 : Pos} (ha : GE X a ρ (.lst ds)) (h1 : GO X lo ρ l) (h2 : GO X hi ρ h) : GE X (.Subscript a (.Slice lo hi none p2) pos) ρ (.lst (cutD ds l h)) := de_of_dn (gn_sl ha h1 h2)
theorem cutD_from1 (ds : List D) : cutD ds (some 1) none = ds.drop 1 := by
  unfold cutD
  rw [show HT.sIx ds.length 0 (some 1) = min 1 ds.length from HT.sIx_nat ds.length 0 1, HT.sIx_none]
  cases ds with
  | nil => rfl
  | cons x r =>
    rw [show min 1 (x :: r).length = 1 by rw [List.length_cons]; omega]
    show (List.take ((x :: r).length - 1) r) = r
    rw [List.length_cons, Nat.add_sub_cancel]
    exact List.take_length

/-! ### == of data -/
mutual
def D.py : D → PyData
  | .non => .none
  | .bl b => .bool b
  | .int i => .int i
  | .str s => .str s
  | .lst ds => .list (pys ds)
  | .tup ds => .tuple (pys ds)
  | .obj _ _ => .none
  | .opq _ _ => .none
def pys : List D → List PyData
  | [] => []
  | d :: ds => d.py :: pys ds
end
/-! data of None, whole numbers, lists and tuples alone -/
mutual
def D.num : D → Bool
  | .non => true
  | .bl _ => false
  | .int _ => true
  | .str _ => false
  | .lst ds => nums ds
  | .tup ds => nums ds
  | .obj _ _ => false
  | .opq _ _ => false
def nums : List D → Bool
  | [] => true
  | d :: ds => d.num && nums ds
end
mutual
theorem Rep.dp {K : PySem.W.Frag} {F H : Hp} (e : Ex F H) : ∀ {v : V} {d : D}, Rep F v d → d.num = true → Dp K H v d.py
  | _, _, .non, _ => .non
  | _, _, .bl b, h => by simp [D.num] at h
  | _, _, .int i, _ => .int i
  | _, _, .str s, h => by simp [D.num] at h
  | _, _, .lst h r, k => .lst (SqL.of (e _ _ h)) (Reps.dp e r (by simpa [D.num] using k))
  | _, _, .tup h r, k => .tup (SqT.of (e _ _ h)) (Reps.dp e r (by simpa [D.num] using k))
  | _, _, .obj h r, k => by simp [D.num] at k
  | _, _, .opq h r, k => by simp [D.num] at k
theorem Reps.dp {K : PySem.W.Frag} {F H : Hp} (e : Ex F H) : ∀ {vs : List V} {ds : List D}, Reps F vs ds → nums ds = true → DpAll K H vs (pys ds)
  | _, _, .nil, _ => .nil
  | _, _, .cons q r, h => by
    have h' := Bool.and_eq_true_iff.mp (show (_ && _) = true from h)
    exact .cons (Rep.dp e q h'.1) (Reps.dp e r h'.2)
end
mutual
theorem eqv_num : ∀ (d d' : D), d.num = true → d'.num = true → (PyData.eqv d.py d'.py = true ↔ d = d')
  | .non, d', _, h' => by cases d' <;> simp [D.py, PyData.eqv, D.num] at *
  | .int i, d', _, h' => by cases d' <;> simp [D.py, PyData.eqv, D.num] at *
  | .lst ds, d', h, h' => by
    cases d' with
    | lst es =>
      have := eqvs_num ds es (by simpa [D.num] using h) (by simpa [D.num] using h')
      simp only [D.py, PyData.eqv, D.lst.injEq]
      exact this
    | _ => simp [D.py, PyData.eqv, D.num] at *
  | .tup ds, d', h, h' => by
    cases d' with
    | tup es =>
      have := eqvs_num ds es (by simpa [D.num] using h) (by simpa [D.num] using h')
      simp only [D.py, PyData.eqv, D.tup.injEq]
      exact this
    | _ => simp [D.py, PyData.eqv, D.num] at *
  | .bl b, _, h, _ => by simp [D.num] at h
  | .str s, _, h, _ => by simp [D.num] at h
  | .obj C fs, _, h, _ => by simp [D.num] at h
  | .opq a S, _, h, _ => by simp [D.num] at h
theorem eqvs_num : ∀ (ds es : List D), nums ds = true → nums es = true → (PyData.eqvAll (pys ds) (pys es) = true ↔ ds = es)
  | [], [], _, _ => by simp [pys, PyData.eqvAll]
  | [], e :: es, _, _ => by simp [pys, PyData.eqvAll]
  | d :: ds, [], _, _ => by simp [pys, PyData.eqvAll]
  | d :: ds, e :: es, h, k => by
    have h' := Bool.and_eq_true_iff.mp (show (_ && _) = true from h)
    have k' := Bool.and_eq_true_iff.mp (show (_ && _) = true from k)
    have i1 := eqv_num d e h'.1 k'.1
    have i2 := eqvs_num ds es h'.2 k'.2
    simp only [pys, PyData.eqvAll, Bool.and_eq_true, List.cons.injEq]
    rw [i1, i2]
end
theorem eqv_dec {d d' : D} {k : Bool} (h : d.num = true) (h' : d'.num = true) (hk : k = true ↔ d = d') : PyData.eqv d.py d'.py = k := by
  have := eqv_num d d' h h'
  rw [Bool.eq_iff_iff, this, hk]
theorem rd_eqD {K : PySem.W.Frag} {d d' : D} {k : Bool} (h : d.num = true) (h' : d'.num = true) (s : SeqAt.shaped d.py = true) (s' : SeqAt.shaped d'.py = true) (hk : k = true ↔ d = d') : RD (rEqD K) d d' (.bl k) := fun F H v u e hv hu Q q =>
  ⟨d.py, d'.py, hv.dp e h, hu.dp e h', s, s', by rw [eqv_dec h h' hk]; exact q _ F H (Grow.refl e) (.bl _)⟩
theorem rd_neD {K : PySem.W.Frag} {d d' : D} {k : Bool} (h : d.num = true) (h' : d'.num = true) (s : SeqAt.shaped d.py = true) (s' : SeqAt.shaped d'.py = true) (hk : k = true ↔ d = d') : RD (rNeD K) d d' (.bl (!k)) := fun F H v u e hv hu Q q =>
  ⟨d.py, d'.py, hv.dp e h, hu.dp e h', s, s', by rw [eqv_dec h h' hk]; exact q _ F H (Grow.refl e) (.bl _)⟩
theorem t_eqD {d d' : D} {k : Bool} {n : Nat} (hr : Room n X.A) (ha : GE X a ρ d) (hb : GE X b ρ d') (hk : k = true ↔ d = d') (h : d.num = true) (h' : d'.num = true) (s : SeqAt.shaped d.py = true) (s' : SeqAt.shaped d'.py = true) : GT X (.Compare a [.Eq] [b] pos) ρ k :=
  cmp_t (r := rEqD X.K) (fun j => by rw [← X.hK j]; exact op_eqD (by rw [X.hA j]; exact hr.units)) ha hb (rd_eqD h h' s s' hk)
theorem t_neD {d d' : D} {k : Bool} {n : Nat} (hr : Room n X.A) (ha : GE X a ρ d) (hb : GE X b ρ d') (hk : k = true ↔ d = d') (h : d.num = true) (h' : d'.num = true) (s : SeqAt.shaped d.py = true) (s' : SeqAt.shaped d'.py = true) : GT X (.Compare a [.NotEq] [b] pos) ρ (!k) :=
  cmp_t (r := rNeD X.K) (fun j => by rw [← X.hK j]; exact op_neD (by rw [X.hA j]; exact hr.units)) ha hb (rd_neD h h' s s' hk)
theorem g_eqD {d d' : D} {k : Bool} {n : Nat} (hr : Room n X.A) (ha : GE X a ρ d) (hb : GE X b ρ d') (hk : k = true ↔ d = d') (h : d.num = true) (h' : d'.num = true) (s : SeqAt.shaped d.py = true) (s' : SeqAt.shaped d'.py = true) : GE X (.Compare a [.Eq] [b] pos) ρ (.bl k) :=
  cmp_bl (r := rEqD X.K) (fun j => by rw [← X.hK j]; exact op_eqD (by rw [X.hA j]; exact hr.units)) ha hb (rd_eqD h h' s s' hk)
theorem g_neD {d d' : D} {k : Bool} {n : Nat} (hr : Room n X.A) (ha : GE X a ρ d) (hb : GE X b ρ d') (hk : k = true ↔ d = d') (h : d.num = true) (h' : d'.num = true) (s : SeqAt.shaped d.py = true) (s' : SeqAt.shaped d'.py = true) : GE X (.Compare a [.NotEq] [b] pos) ρ (.bl (!k)) :=
  cmp_bl (r := rNeD X.K) (fun j => by rw [← X.hK j]; exact op_neD (by rw [X.hA j]; exact hr.units)) ha hb (rd_neD h h' s s' hk)
/-- lists of whole numbers -/
def L (ns : List Int) : D := .lst (ns.map .int)
theorem map_int_inj : ∀ {ns ms : List Int}, ns.map D.int = ms.map D.int → ns = ms
  | [], [], _ => rfl
  | [], _ :: _, h => by simp at h
  | _ :: _, [], h => by simp at h
  | n :: ns, m :: ms, h => by
    simp only [List.map_cons, List.cons.injEq, D.int.injEq] at h
    rw [h.1, map_int_inj h.2]
theorem L_inj {ns ms : List Int} : L ns = L ms ↔ ns = ms := ⟨fun h => map_int_inj (D.lst.inj h), fun h => by rw [h]⟩
theorem nums_ints : ∀ ns : List Int, nums (ns.map D.int) = true
  | [] => rfl
  | n :: ns => by simp [nums, D.num, nums_ints ns]
theorem L_num (ns : List Int) : (L ns).num = true := nums_ints ns
theorem pys_ints : ∀ ns : List Int, pys (ns.map D.int) = ns.map PyData.int
  | [] => rfl
  | n :: ns => by simp [pys, D.py, pys_ints ns]
theorem L_py (ns : List Int) : (L ns).py = .list (ns.map PyData.int) := by
  show PyData.list (pys (ns.map D.int)) = _
  rw [pys_ints]
theorem canLay_ints : ∀ ns : List Int, PyData.canLayAll0 (ns.map PyData.int) = true
  | [] => rfl
  | n :: ns => by simp [PyData.canLayAll0, PyData.canLay0, canLay_ints ns]
theorem depth_ints : ∀ ns : List Int, PyData.depthAll (ns.map PyData.int) = 0
  | [] => rfl
  | n :: ns => by simp [PyData.depthAll, PyData.depth, depth_ints ns]
theorem L_shaped (ns : List Int) : SeqAt.shaped (L ns).py = true := by
  rw [L_py]
  simp [SeqAt.shaped, PyData.canLay0, canLay_ints, PyData.depth, depth_ints]
theorem t_eqL {ns ms : List Int} {n : Nat} (hr : Room n X.A) (ha : GE X a ρ (L ns)) (hb : GE X b ρ (L ms)) : GT X (.Compare a [.Eq] [b] pos) ρ (decide (ns = ms)) := t_eqD hr ha hb (by rw [L_inj]; exact decide_eq_true_iff) (L_num _) (L_num _) (L_shaped _) (L_shaped _)
theorem t_neL {ns ms : List Int} {n : Nat} (hr : Room n X.A) (ha : GE X a ρ (L ns)) (hb : GE X b ρ (L ms)) : GT X (.Compare a [.NotEq] [b] pos) ρ (!decide (ns = ms)) := t_neD hr ha hb (by rw [L_inj]; exact decide_eq_true_iff) (L_num _) (L_num _) (L_shaped _) (L_shaped _)
theorem g_eqL {ns ms : List Int} {n : Nat} (hr : Room n X.A) (ha : GE X a ρ (L ns)) (hb : GE X b ρ (L ms)) : GE X (.Compare a [.Eq] [b] pos) ρ (.bl (decide (ns = ms))) := g_eqD hr ha hb (by rw [L_inj]; exact decide_eq_true_iff) (L_num _) (L_num _) (L_shaped _) (L_shaped _)
theorem g_neL {ns ms : List Int} {n : Nat} (hr : Room n X.A) (ha : GE X a ρ (L ns)) (hb : GE X b ρ (L ms)) : GE X (.Compare a [.NotEq] [b] pos) ρ (.bl (!decide (ns = ms))) := g_neD hr ha hb (by rw [L_inj]; exact decide_eq_true_iff) (L_num _) (L_num _) (L_shaped _) (L_shaped _)
end

/-! ### own defs -/
/-- a promise: data in, data out, nothing changed -/
def spD (f : List D → D → Prop) : Sp := fun vs H Q _ => ∃ (F : Hp) (ds : List D) (d : D), Ex F H ∧ Reps F vs ds ∧ f ds d ∧ ∀ v F2 H2, Grow F H F2 H2 → Rep F2 v d → Q v H2
/-- .. of a def whose first argument is the drawer -/
def spG (f : Nat → List D → Nat → (D → Prop) → Prop) : Sp := fun vs H Q _ => ∃ (g : Addr) (ws : List V) (F : Hp) (ds : List D) (n n' : Nat) (R : D → Prop) (a b c : Int), vs = .ref g :: ws ∧ H g = some (.lst [.int a, .int b, .int c]) ∧ GenOk n a b c ∧ F g = none ∧ Ex F H ∧ Reps F ws ds ∧ f n ds n' R ∧
  ∀ v F2 H2 d a' b' c', (∀ x o, x ≠ g → H x = some o → H2 x = some o) → Ex F F2 → Ex F2 H2 → (∀ x, F2 x ≠ none → F x ≠ none ∨ H x = none) → H2 g = some (.lst [.int a', .int b', .int c']) → GenOk n' a' b' c' → Rep F2 v d → R d → Q v H2
section
variable {X : Fm} {ρ : Env} {a b e o : Expr} {es : List Expr} {pos p apos : Pos} {k : Nat} {fA C : Addr} {fd : FuncData} {ps : List Str} {x m : Str}
theorem FnOk.at {sp : Sp} (F : FnOk X.P X.w X.K X.mg X.base CX0 k fA fd ps sp) (j : X.ι) : FnOk (X.Y j).prog (X.Y j).w (X.Y j).K (X.Y j).mg (X.Y j).base CX0 k fA fd ps sp := by
  rw [X.hP j, X.hw j, X.hK j, X.hmg j, X.hb j]; exact F
/-- where a def of one's own stands -/
structure Own (P : Program) (w : World) (K : PySem.W.Frag) (mg : Str → Option Value) (base : Heap) (k : Nat) (x : Str) (ps : List Str) (sp : Sp) : Prop where
  ex : ∃ fA fd, FnOk P w K mg base CX0 k fA fd ps sp ∧ mg x = some (.ref fA) ∧ PySem.W.keepIn K (.ref fA) = true ∧ Binds K fd ps []
theorem g_call {f : List D → D → Prop} {ds : List D} {d : D} (O : Own X.P X.w X.K X.mg X.base k x ps (spD f)) (hr : Room k X.A) (h : GA X (e :: es) ρ ds) (hf : f ds d)
    (hg : ∀ j, Gl (X.Y j) x := by intro _; rfl) (hd : (x == ("__debug__" : Str)) = false := by decide) (st : noStars (e :: es) = true := by rfl) : GE X (.Call (.Name x p) (e :: es) [] pos) ρ d := by
  obtain ⟨fA, fd, F, hm, hk, hb⟩ := O.ex
  have st' : noStar e = true ∧ noStars es = true := by simpa [noStars] using st
  refine ge_by (t := tCall (spD f) [] E0 (aA X (e :: es))) (fun j => pe_call (FnOk.at F j) (by rw [X.hA j]; exact hr) (hg j) (by rw [X.hmg j]; exact hm) (by rw [X.hK j]; exact hk) (by rw [X.hK j]; exact hb) .nil pass0 (aA_ok j) hd (star_of st'.1) (stars_any st'.2)) fun B F H σ ex r Q q => ?_
  refine h B F H σ ex r _ fun vs F2 H2 g rv => ?_
  refine ⟨F2, ds, d, g.fh, by rw [List.append_nil]; exact rv, hf, fun v F3 H3 g3 rv3 => q v F3 H3 (g.trans g3) rv3⟩
/-- a drawing call -/
theorem gx_callG {f : Nat → List D → Nat → (D → Prop) → Prop} {ds : List D} {n n' : Nat} {R : D → Prop} {gi : Nat} {gA : Addr} {gx : Str} {gp : Pos} (O : Own X.P X.w X.K X.mg X.base k x ps (spG f)) (hr : Room k X.A) (hgen : ρ[gi]? = some (some (.gen gA n))) (h : GA X es ρ ds) (hf : f n ds n' R)
    (hn : X.N[gi]? = some gx := by rfl) (hv : ∀ j, Vis (X.Y j).env.scope gx := by intro _; first | exact Or.inl rfl | exact Or.inr (Or.inl rfl) | exact Or.inr (Or.inr rfl))
    (hg : ∀ j, Gl (X.Y j) x := by intro _; rfl) (hd : (x == ("__debug__" : Str)) = false := by decide) (hd2 : (gx == ("__debug__" : Str)) = false := by decide) (hcd : (gx == ("__classdict__" : Str)) = false := by decide) (st : noStars es = true := by rfl) :
    GX X (.Call (.Name x p) (.Name gx gp :: es) [] pos) ρ (fun ρ2 d => ρ2 = ρ.set gi (some (.gen gA n')) ∧ R d) := by
  obtain ⟨fA, fd, F, hm, hk, hb⟩ := O.ex
  refine gx_by (t := tCall (spG f) [] E0 (tCons (tVar gi) (aA X es))) (fun j => pe_call (FnOk.at F j) (by rw [X.hA j]; exact hr) (hg j) (by rw [X.hmg j]; exact hm) (by rw [X.hK j]; exact hk) (by rw [X.hK j]; exact hb) .nil pass0 (pa_cons (pe_var (by rw [X.hN j]; exact hn) (hv j) hd2 hcd) (aA_ok j) (star_of rfl)) hd (star_of rfl) (stars_any st)) fun B F0 F H σ I r Q q => ?_
  have hgi : gi < ρ.length := (List.getElem?_eq_some_iff.mp hgen).1
  obtain ⟨hs, hF, hB, a0, b0, c0, hH, ok⟩ := r.gen hgen
  refine ⟨.ref gA, hs, ?_⟩
  refine h B F H σ I.fh r _ fun vs F2 H2 g rv => ?_
  have r2 := r.grow g
  have I2 := I.grow g
  obtain ⟨_, hF2, _, a1, b1, c1, hH2, ok2⟩ := r2.gen hgen
  refine ⟨gA, vs, F2, ds, n, n', R, a1, b1, c1, by rw [List.append_nil], hH2, ok2, hF2, g.fh, rv, hf, fun v F3 H3 d a' b' c' kk ff fh nw hg' ok' rv3 rd => ?_⟩
  have hF3 : F3 gA = none := by
    cases z : F3 gA with
    | none => rfl
    | some u =>
      rcases nw gA (by rw [z]; simp) with w | w
      · exact absurd hF2 w
      · rw [hH2] at w; cases w
  have I3 : In0 B F0 F3 H3 := by
    refine ⟨fun x u hx => kk x u (fun z => by rw [z, hB] at hx; cases hx) (I2.bh x u hx), I2.ff.trans ff, fh, fun x hx => ?_⟩
    rcases nw x hx with z | z
    · exact I2.new x z
    · exact .inr (fresh_back I2.bh z)
  have other : ∀ i l, i ≠ gi → Sl.at (ρ.getD i none) = some l → H3 l = H2 l ∧ F3 l = none := fun i l hi hl => by
    have hne : l ≠ gA := fun z => hi (r2.apart i gi l hl (by
      simp only [List.getD, hgen, Option.getD_some]
      rw [z]; rfl))
    obtain ⟨f2, _, xs, h2⟩ := (r2.ok i).held hl
    refine ⟨(kk l _ hne h2).trans h2.symm, ?_⟩
    cases z : F3 l with
    | none => rfl
    | some u =>
      rcases nw l (by rw [z]; simp) with w | w
      · exact absurd f2 w
      · rw [h2] at w; cases w
  have hlen := r2.len
  have r3 : RepE B F3 H3 σ (ρ.set gi (some (.gen gA n'))) := by
    refine ⟨by simp [hlen], fun i => ?_, fun i j l h1 h2 => ?_⟩
    · rw [getD_set _ _ _ _ _ hgi]
      by_cases z : i = gi
      · rw [if_pos z]
        subst z
        exact ⟨by simp [List.getD, hs], hF3, hB, a', b', c', hg', ok'⟩
      · rw [if_neg z]
        exact (r2.ok i).keep ff fun l hl => other i l z hl
    · have back : ∀ i, Sl.at ((ρ.set gi (some (.gen gA n'))).getD i none) = Sl.at (ρ.getD i none) := fun i => by
        rw [getD_set _ _ _ _ _ hgi]
        by_cases z : i = gi
        · rw [if_pos z]; subst z; simp [List.getD, hgen, Sl.at]
        · rw [if_neg z]
      rw [back] at h1 h2
      exact r2.apart i j l h1 h2
  exact q v F3 H3 _ d I3 (g.ff.trans ff) r3 rv3 ⟨rfl, rd⟩

/-! ### objects -/
/-- a field -/
theorem g_fld {fs : List (Str × D)} {d : D} (ha : GE X a ρ (.obj C fs)) (h : fs.lookup m = some d) (c : Cls X.K C) (n : NoAttr X.K C m)
    (hb : ∀ j, attributeBase a m (X.Y j).env (eval a (X.Y j).env) = eval a (X.Y j).env := by intro _; rfl) : GE X (.Attribute a m pos) ρ d :=
  ge_by (t := tFld X.K (aE X a) m) (fun j => by rw [← X.hK j]; exact pe_fld (aE_ok j) (hb j)) fun B F H σ e r Q q => ha B F H σ e r _ fun v F2 H2 g rv => by
    obtain ⟨l, dx, vs, rfl, h1, r1⟩ := rv.obj_inv
    obtain ⟨w, h2, r2⟩ := r1.lookup h
    exact ⟨l, C, dx, vs, w, rfl, g.fh _ _ h1, c, n, h2, q w F2 H2 g r2⟩
structure OwnM (P : Program) (w : World) (K : PySem.W.Frag) (mg : Str → Option Value) (base : Heap) (k : Nat) (C : Addr) (m : Str) (ps : List Str) (sp : Sp) : Prop where
  ex : ∃ fA fd, FnOk P w K mg base CX0 k fA fd ps sp ∧ Meth K C m fA ∧ Binds K fd ps []
/-- o.m() -/
theorem g_meth0 {f : List D → D → Prop} {fs : List (Str × D)} {d : D} {pl : X.ι → Sem Bool} (O : OwnM X.P X.w X.K X.mg X.base k C m ps (spD f)) (hr : Room k X.A) (c : Cls X.K C) (ha : GE X o ρ (.obj C fs)) (hl : fs.lookup m = none) (hf : f [.obj C fs] d)
    (ht : ∀ j, eval (.Call (.Attribute o m apos) [] [] pos) (X.Y j).env = (do
      let q ← eval o (X.Y j).env
      standAt apos.atName
      let (q1, q2) ← holding [q] (getMethod q m (pl j))
      callWith pos q1 q2 (backTo pos (starEach [] (X.Y j).env)) (backToKw pos (keywordEach [] (X.Y j).env))) := by intro _; rfl) :
    GE X (.Call (.Attribute o m apos) [] [] pos) ρ d := by
  obtain ⟨fA, fd, F, hm, hb⟩ := O.ex
  refine ge_by (t := tMeth C m (spD f) [] E0 (aE X o) tNil) (fun j => pe_meth0 (pl := pl j) (aE_ok j) (by rw [X.hK j]; exact c) (by rw [X.hK j]; exact hm) (FnOk.at F j) (by rw [X.hA j]; exact hr) (by rw [X.hK j]; exact hb) .nil pass0 (ht j)) fun B F H σ e r Q q => ?_
  refine ha B F H σ e r _ fun v F2 H2 g rv => ?_
  obtain ⟨l, dx, vs, rfl, h1, r1⟩ := id rv.obj_inv
  refine ⟨l, dx, vs, rfl, g.fh _ _ h1, r1.lookup_none hl, F2, [.obj C fs], d, g.fh, ?_, hf, fun v F3 H3 g3 rv3 => q v F3 H3 (g.trans g3) rv3⟩
  exact .cons rv .nil
end
end Cv
end
section
set_option Elab.async false
set_option linter.all false
set_option maxRecDepth 100000
set_option maxHeartbeats 4000000
namespace Cv
open PySem L2 Evl
/-! ### targets -/
def aG (X : Fm) (tg : Expr) : TG := fun v σ H Q => ∃ t, (∀ j, PG (X.Y j) tg t) ∧ t v σ H Q
def aGs (X : Fm) (tgs : List Expr) : TGs := fun vs σ H Q => ∃ t, (∀ j, PGs (X.Y j) tgs t) ∧ t vs σ H Q
theorem aG_ok {X : Fm} {tg : Expr} (j : X.ι) : PG (X.Y j) tg (aG X tg) := ⟨fun pins s σ H v u Q I r ⟨_, h, q⟩ => (h j).run pins s σ H v u Q I r q⟩
theorem aGs_ok {X : Fm} {tgs : List Expr} (j : X.ι) : PGs (X.Y j) tgs (aGs X tgs) := ⟨fun pins s σ H v u Q I r ⟨_, h, q⟩ => (h j).run pins s σ H v u Q I r q⟩
/-- only the slots ts are stored -/
def Touch (ts : List Nat) (σ σ' : L2.St) : Prop := σ'.length = σ.length ∧ ∀ i, i ∉ ts → σ'[i]? = σ[i]?
theorem Touch.refl (σ : L2.St) : Touch [] σ σ := ⟨rfl, fun _ _ => rfl⟩
theorem Touch.trans {ts us : List Nat} {σ σ' σ'' : L2.St} (h : Touch ts σ σ') (k : Touch us σ' σ'') : Touch (ts ++ us) σ σ'' := ⟨k.1.trans h.1, fun i hi => by
  rw [List.mem_append] at hi
  rw [k.2 i fun z => hi (.inr z), h.2 i fun z => hi (.inl z)]⟩
theorem Touch.set (i : Nat) (x : Option V) (σ : L2.St) : Touch [i] σ (σ.set i x) := ⟨by simp, fun j hj => by
  rw [List.getElem?_set_ne]
  intro z; exact hj (by simp [z])⟩
theorem wipe_get (σ : L2.St) : ∀ (vs : List Nat) (i : Nat), (wipe σ vs)[i]? = if i ∈ vs ∧ i < σ.length then some none else σ[i]?
  | [], i => by simp [wipe]
  | v :: vs, i => by
    unfold wipe
    rw [List.getElem?_set]
    by_cases e : v = i
    · subst e
      rw [if_pos rfl]
      by_cases h : v < σ.length
      · rw [if_pos (by rw [wipe_length]; exact h), if_pos ⟨by simp, h⟩]
      · rw [if_neg (by rw [wipe_length]; exact h), if_neg (fun z => h z.2)]
        rw [List.getElem?_eq_none (by omega)]
    · rw [if_neg e, wipe_get σ vs i]
      have : (i ∈ v :: vs ∧ i < σ.length) ↔ (i ∈ vs ∧ i < σ.length) := by
        rw [List.mem_cons]
        constructor
        · rintro ⟨h | h, k⟩
          · exact absurd h.symm e
          · exact ⟨h, k⟩
        · rintro ⟨h, k⟩; exact ⟨.inr h, k⟩
      by_cases h : i ∈ vs ∧ i < σ.length
      · rw [if_pos h, if_pos (this.mpr h)]
      · rw [if_neg h, if_neg (fun z => h (this.mp z))]
theorem wipe_touch {ts vs : List Nat} {σ σ' : L2.St} (h : Touch ts (wipe σ vs) σ') (k : ∀ i ∈ ts, i ∈ vs) : wipe σ' vs = wipe σ vs := by
  refine List.ext_getElem? fun i => ?_
  have hl : σ'.length = σ.length := h.1.trans (wipe_length σ vs)
  rw [wipe_get, wipe_get, hl]
  by_cases e : i ∈ vs ∧ i < σ.length
  · rw [if_pos e, if_pos e]
  · rw [if_neg e, if_neg e]
    by_cases m : i ∈ vs
    · have hi : σ.length ≤ i := Nat.le_of_not_lt fun z => e ⟨m, z⟩
      rw [List.getElem?_eq_none (by omega), List.getElem?_eq_none (by omega)]
    · rw [h.2 i fun z => m (k i z), wipe_get, if_neg fun z => m z.1]
/-- storing data d takes the slots from ρ to ρ' -/
def DG (g : TG) (d : D) (ts : List Nat) (ρ ρ' : Env) : Prop := ∀ (B F H : Hp) (σ : L2.St) (v : V), Ex F H → RepE B F H σ ρ → Rep F v d → ∀ Q : L2.St → Hp → Prop, (∀ σ', RepE B F H σ' ρ' → Touch ts σ σ' → Q σ' H) → g v σ H Q
def DGs (g : TGs) (ds : List D) (ts : List Nat) (ρ ρ' : Env) : Prop := ∀ (B F H : Hp) (σ : L2.St) (vs : List V), Ex F H → RepE B F H σ ρ → Reps F vs ds → ∀ Q : L2.St → Hp → Prop, (∀ σ', RepE B F H σ' ρ' → Touch ts σ σ' → Q σ' H) → g vs σ H Q
section
variable {X : Fm} {ρ ρ1 ρ2 : Env} {tg : Expr} {tgs : List Expr} {pos : Pos}
theorem tg_name {i : Nat} {x : Str} {d : D} (hi : i < ρ.length := by exact Nat.le_of_ble_eq_true rfl) (hn : X.N[i]? = some x := by rfl) (hx : ∀ j, Loc (X.Y j).env.scope x := by intro _; first | exact Or.inl rfl | exact Or.inr rfl)
    (hf : ∀ j, (X.Y j).fn x = true ∨ (X.Y j).env.scope.names.lookup x = some .local := by intro _; first | exact .inl rfl | exact .inr rfl) : DG (aG X (.Name x pos)) d [i] ρ (ρ.set i (some (.sh d))) := fun B F H σ v e r rv Q q =>
  ⟨gName i, fun j => pg_name (by rw [X.hN j]; exact X.nd) (by rw [X.hN j]; exact hn) (hx j) (hf j), q _ (r.setSh hi rv) (Touch.set i _ σ)⟩
theorem tgs_nil : DGs (aGs X []) [] [] ρ ρ := fun B F H σ vs e r rv Q q => ⟨gNil, fun j => pgs_nil, rv.nil_inv, q σ r (Touch.refl σ)⟩
theorem tgs_cons {d : D} {ds : List D} {ts us : List Nat} (h1 : DG (aG X tg) d ts ρ ρ1) (h2 : DGs (aGs X tgs) ds us ρ1 ρ2)
    (hs : ∀ j, (assignEach (tg :: tgs) (X.Y j).env).map (·.2) = assign tg (X.Y j).env :: (assignEach tgs (X.Y j).env).map (·.2) := by intro _; rfl) : DGs (aGs X (tg :: tgs)) (d :: ds) (ts ++ us) ρ ρ2 := fun B F H σ vs e r rv Q q => by
  obtain ⟨v, ws, rfl, r1, r2⟩ := rv.cons_inv
  refine ⟨gCons (aG X tg) (aGs X tgs), fun j => pgs_cons (aG_ok j) (aGs_ok j) (hs j), v, ws, rfl, ?_⟩
  exact h1 B F H σ v e r r1 _ fun σ1 k1 t1 => h2 B F H σ1 ws e k1 r2 _ fun σ2 k2 t2 => q σ2 k2 (t1.trans t2)
theorem tg_tup {ds : List D} {ts : List Nat} {k : Nat} (h : DGs (aGs X tgs) ds ts ρ ρ2) (hn : ∀ j, (assignEach tgs (X.Y j).env).length = ds.length := by intro _; rfl)
    (hst : ∀ j, (assignEach tgs (X.Y j).env).findIdx? (·.1) = none := by intro _; rfl) : DG (aG X (.Tuple tgs k pos)) (.tup ds) ts ρ ρ2 := fun B F H σ v e r rv Q q => by
  obtain ⟨l, xs, rfl, h1, r1⟩ := rv.tup_inv
  exact ⟨gTup X.K ds.length (aGs X tgs), fun j => by rw [← X.hK j]; exact pg_tup (X.calm j) (aGs_ok j) (hn j) (hst j), l, xs, rfl, SqT.of (e _ _ h1), r1.length, h B F H σ xs e r r1 Q q⟩
end

/-! ### what is walked -/
structure ItOk (J : It) (F : Hp) (n : Nat) (src : Nat → D) : Prop where
  go : ∀ i F' H', Ex F F' → Ex F' H' → i < n → J.go i H'
  yld : ∀ i F' H' x H'', Ex F F' → Ex F' H' → i < n → J.yld i H' x H'' → ∃ F'', Grow F' H' F'' H'' ∧ Rep F'' x (src i)
  stop : ∀ F' H', Ex F F' → Ex F' H' → J.stop n H'
def DI (wi : TI) (ρ : Env) (n : Nat) (src : Nat → D) : Prop := ∀ (B F H : Hp) (σ : L2.St), Ex F H → RepE B F H σ ρ → ∀ R : It → Hp → Prop, (∀ J F2 H2, Grow F H F2 H2 → ItOk J F2 n src → R J H2) → wi σ H R
section
variable {X : Fm} {ρ : Env} {a b c tg : Expr} {pos p tpos : Pos} {elts : List Expr} {kk : Nat}
theorem i_list {ds : List D} (ha : GE X a ρ (.lst ds)) : DI (aI X tg a) ρ ds.length (fun i => ds.getD i .non) := fun B F H σ e r R q =>
  ⟨iList X.K (aE X a), fun j => by rw [← X.hK j]; exact pi_list (aE_ok j), ha B F H σ e r _ fun v F2 H2 g rv => by
    obtain ⟨l, xs, rfl, h1, r1⟩ := rv.lst_inv
    refine ⟨l, rfl, ⟨xs, SqL.of (g.fh _ _ h1)⟩, q _ F2 H2 g ⟨fun i F' H' e1 e2 hi => ?_, fun i F' H' x H'' e1 e2 hi y => ?_, fun F' H' e1 e2 => ?_⟩⟩
    · have hi' : i < xs.length := by rw [r1.length]; exact hi
      exact ⟨xs, xs[i], SqL.of (e2 _ _ (e1 _ _ h1)), List.getElem?_eq_getElem hi'⟩
    · obtain ⟨y1, y2⟩ := y
      subst y1
      refine ⟨F', Grow.refl e2, ?_⟩
      obtain ⟨d, k1, k2⟩ := r1.getV (y2 xs (SqL.of (e2 _ _ (e1 _ _ h1))))
      rw [List.getD_eq_getElem?_getD, k1]
      exact k2.mono e1
    · exact ⟨xs, SqL.of (e2 _ _ (e1 _ _ h1)), by rw [r1.length]; exact Nat.le_refl _⟩⟩
theorem i_tup {ds : List D} (ha : GE X a ρ (.tup ds)) : DI (aI X tg a) ρ ds.length (fun i => ds.getD i .non) := fun B F H σ e r R q =>
  ⟨iTup X.K (aE X a), fun j => by rw [← X.hK j]; exact pi_tup (aE_ok j), ha B F H σ e r _ fun v F2 H2 g rv => by
    obtain ⟨l, xs, rfl, h1, r1⟩ := rv.tup_inv
    refine ⟨l, rfl, ⟨xs, SqT.of (g.fh _ _ h1)⟩, q _ F2 H2 g ⟨fun i F' H' e1 e2 hi => ?_, fun i F' H' x H'' e1 e2 hi y => ?_, fun F' H' e1 e2 => ?_⟩⟩
    · have hi' : i < xs.length := by rw [r1.length]; exact hi
      exact ⟨xs, xs[i], SqT.of (e2 _ _ (e1 _ _ h1)), List.getElem?_eq_getElem hi'⟩
    · obtain ⟨y1, y2⟩ := y
      subst y1
      refine ⟨F', Grow.refl e2, ?_⟩
      obtain ⟨d, k1, k2⟩ := r1.getV (y2 xs (SqT.of (e2 _ _ (e1 _ _ h1))))
      rw [List.getD_eq_getElem?_getD, k1]
      exact k2.mono e1
    · exact ⟨xs, SqT.of (e2 _ _ (e1 _ _ h1)), by rw [r1.length]; exact Nat.le_refl _⟩⟩
theorem itr_ok (lo : Int) (n : Nat) (F : Hp) : ItOk (Itr lo n) F n (fun i => .int (lo + (i : Int))) :=
  ⟨fun i F' H' _ _ hi => hi, fun i F' H' x H'' _ e2 _ y => by
    obtain ⟨y1, y2⟩ := y
    subst y1 y2
    exact ⟨F', Grow.refl e2, .int _⟩, fun F' H' _ _ => Nat.le_refl n⟩
theorem i_range1 {n : Int} (bu : BuAll X.mg) (ha : GE X a ρ (.int n)) (hn : n ≤ 1000000 := by omega) (hn0 : -1000000 ≤ n := by omega) (hg : ∀ j, Gl (X.Y j) "range" := by intro _; rfl) (st : noStar a = true := by rfl) : DI (aI X tg (.Call (.Name "range" p) [a] [] pos)) ρ n.toNat (fun i => .int ((0 : Int) + (i : Int))) := fun B F H σ e r R q =>
  ⟨iRng1 (aA X [a]), fun j => pi_range1 (hg j) (by rw [X.hmg j]; exact bu.range) (aA_ok j) (star_of st), a_cons ha a_nil st B F H σ e r _ fun vs F2 H2 g rv => by
    obtain ⟨v, ws, rfl, r1, r2⟩ := rv.cons_inv
    cases r2.nil_inv
    rw [r1.int_inv]
    exact ⟨n, rfl, by omega, by omega, q _ F2 H2 g (itr_ok 0 n.toNat F2)⟩⟩
theorem i_range2 {m n : Int} (bu : BuAll X.mg) (ha : GE X a ρ (.int m)) (hb : GE X b ρ (.int n)) (hm : -1000000 ≤ m ∧ m ≤ 1000000 := by omega) (hn : -1000000 ≤ n ∧ n ≤ 1000000 := by omega) (hg : ∀ j, Gl (X.Y j) "range" := by intro _; rfl) (st : noStar a = true := by rfl) (st2 : noStar b = true := by rfl) :
    DI (aI X tg (.Call (.Name "range" p) [a, b] [] pos)) ρ (n - m).toNat (fun i => .int (m + (i : Int))) := fun B F H σ e r R q =>
  ⟨iRng2 (aA X [a, b]), fun j => pi_range2 (hg j) (by rw [X.hmg j]; exact bu.range) (aA_ok j) (by rw [star_of st, star_of st2]; rfl) (by rw [star_of st2]; rfl), a_cons ha (a_cons hb a_nil st2) st B F H σ e r _ fun vs F2 H2 g rv => by
    obtain ⟨v, ws, rfl, r1, r2⟩ := rv.cons_inv
    obtain ⟨u, ws', rfl, r3, r4⟩ := r2.cons_inv
    cases r4.nil_inv
    rw [r1.int_inv, r3.int_inv]
    exact ⟨m, n, rfl, ⟨by omega, by omega, by omega, by omega⟩, q _ F2 H2 g (itr_ok m (n - m).toNat F2)⟩⟩
theorem i_down {m n : Int} (bu : BuAll X.mg) (ha : GE X a ρ (.int m)) (hb : GE X b ρ (.int n)) (hc : GE X c ρ (.int (-1))) (hm : -1000000 ≤ m ∧ m ≤ 1000000 := by omega) (hn : -1000000 ≤ n ∧ n ≤ 1000000 := by omega) (hg : ∀ j, Gl (X.Y j) "range" := by intro _; rfl) (st : noStars [a, b, c] = true := by rfl) :
    DI (aI X tg (.Call (.Name "range" p) [a, b, c] [] pos)) ρ (m - n).toNat (fun i => .int (m + (i : Int) * (-1))) := by
  have h1 : noStar a = true ∧ noStar b = true ∧ noStar c = true := by simpa [noStars] using st
  refine fun B F H σ e r R q => ⟨iRng3 (aA X [a, b, c]), fun j => pi_range3 (hg j) (by rw [X.hmg j]; exact bu.range) (aA_ok j) (star_of h1.1) (stars_any (by simp [noStars, h1.2.1, h1.2.2])), a_cons ha (a_cons hb (a_cons hc a_nil h1.2.2) h1.2.1) h1.1 B F H σ e r _ fun vs F2 H2 g rv => ?_⟩
  obtain ⟨v, ws, rfl, r1, r2⟩ := rv.cons_inv
  obtain ⟨u, ws', rfl, r3, r4⟩ := r2.cons_inv
  obtain ⟨z, ws'', rfl, r5, r6⟩ := r4.cons_inv
  cases r6.nil_inv
  rw [r1.int_inv, r3.int_inv, r5.int_inv]
  refine ⟨m, n, -1, (m - n).toNat, rfl, RgC.neg (by omega) (by omega) (by omega) (by omega), q _ F2 H2 g ⟨fun i F' H' _ _ hi => hi, fun i F' H' x H'' _ e2 _ y => ?_, fun F' H' _ _ => Nat.le_refl _⟩⟩
  obtain ⟨y1, y2⟩ := y
  subst y1 y2
  exact ⟨F', Grow.refl e2, .int _⟩
theorem i_enum {ds : List D} (bu : BuAll X.mg) (ha : GE X a ρ (.lst ds)) (hg : ∀ j, Gl (X.Y j) "enumerate" := by intro _; rfl) (st : noStar a = true := by rfl) :
    DI (aI X (.Tuple elts kk tpos) (.Call (.Name "enumerate" p) [a] [] pos)) ρ ds.length (fun i => .tup [.int (i : Int), ds.getD i .non]) := fun B F H σ e r R q =>
  ⟨iEnum X.K (aA X [a]), fun j => by rw [← X.hK j]; exact pi_enum (hg j) (by rw [X.hmg j]; exact bu.enum) (aA_ok j) (star_of st), a_cons ha a_nil st B F H σ e r _ fun vs F2 H2 g rv => by
    obtain ⟨v, ws, rfl, r1, r2⟩ := rv.cons_inv
    cases r2.nil_inv
    obtain ⟨l, xs, rfl, h1, r1⟩ := r1.lst_inv
    refine ⟨l, xs, rfl, SqL.of (g.fh _ _ h1), q _ F2 H2 g ⟨fun i F' H' e1 e2 hi => ?_, fun i F' H' x H'' e1 e2 hi y => ?_, fun F' H' e1 e2 => ?_⟩⟩
    · have hi' : i < xs.length := by rw [r1.length]; exact hi
      exact ⟨xs, xs[i], SqL.of (e2 _ _ (e1 _ _ h1)), List.getElem?_eq_getElem hi'⟩
    · obtain ⟨T, z, rfl, hT, rfl, y2⟩ := y
      obtain ⟨d, k1, k2⟩ := r1.getV (y2 xs (SqL.of (e2 _ _ (e1 _ _ h1))))
      have gl := Grow.lay (o := .tup [.int (i : Nat), z]) e2 hT
      refine ⟨_, gl, .tup upd_same (.cons (.int _) (.cons ?_ .nil))⟩
      rw [List.getD_eq_getElem?_getD, k1]
      exact (k2.mono e1).mono gl.ff
    · exact ⟨xs, SqL.of (e2 _ _ (e1 _ _ h1)), by rw [r1.length]; exact Nat.le_refl _⟩⟩
theorem i_zip {ds es : List D} (bu : BuAll X.mg) (ha : GE X a ρ (.lst ds)) (hb : GE X b ρ (.lst es)) (hl : ds.length = es.length) (hg : ∀ j, Gl (X.Y j) "zip" := by intro _; rfl) (st : noStar a = true := by rfl) (st2 : noStar b = true := by rfl) :
    DI (aI X (.Tuple elts kk tpos) (.Call (.Name "zip" p) [a, b] [] pos)) ρ ds.length (fun i => .tup [ds.getD i .non, es.getD i .non]) := fun B F H σ e r R q =>
  ⟨iZip X.K (aA X [a, b]), fun j => by rw [← X.hK j]; exact pi_zip (hg j) (by rw [X.hmg j]; exact bu.zip) (aA_ok j) (by rw [star_of st]) (stars_any (by simp [noStars, st2])), a_cons ha (a_cons hb a_nil st2) st B F H σ e r _ fun vs F2 H2 g rv => by
    obtain ⟨v, ws, rfl, r1, r2⟩ := rv.cons_inv
    obtain ⟨u, ws', rfl, r3, r4⟩ := r2.cons_inv
    cases r4.nil_inv
    obtain ⟨l, xs, rfl, h1, r1⟩ := r1.lst_inv
    obtain ⟨m, ys, rfl, h3, r3⟩ := r3.lst_inv
    refine ⟨l, m, xs, ys, rfl, SqL.of (g.fh _ _ h1), SqL.of (g.fh _ _ h3), q _ F2 H2 g ⟨fun i F' H' e1 e2 hi => ?_, fun i F' H' x H'' e1 e2 hi y => ?_, fun F' H' e1 e2 => ?_⟩⟩
    · have hi' : i < xs.length := by rw [r1.length]; exact hi
      have hi2 : i < ys.length := by rw [r3.length]; omega
      exact ⟨xs, ys, xs[i], ys[i], SqL.of (e2 _ _ (e1 _ _ h1)), SqL.of (e2 _ _ (e1 _ _ h3)), List.getElem?_eq_getElem hi', List.getElem?_eq_getElem hi2⟩
    · obtain ⟨T, z, z', rfl, hT, rfl, y2, y3⟩ := y
      obtain ⟨d, k1, k2⟩ := r1.getV (y2 xs (SqL.of (e2 _ _ (e1 _ _ h1))))
      obtain ⟨d', k3, k4⟩ := r3.getV (y3 ys (SqL.of (e2 _ _ (e1 _ _ h3))))
      have gl := Grow.lay (o := .tup [z, z']) e2 hT
      refine ⟨_, gl, .tup upd_same (.cons ?_ (.cons ?_ .nil))⟩
      · rw [List.getD_eq_getElem?_getD, k1]
        exact (k2.mono e1).mono gl.ff
      · rw [List.getD_eq_getElem?_getD, k3]
        exact (k4.mono e1).mono gl.ff
    · exact ⟨xs, ys, SqL.of (e2 _ _ (e1 _ _ h1)), SqL.of (e2 _ _ (e1 _ _ h3)), .inl (by rw [r1.length]; exact Nat.le_refl _)⟩⟩
end

/-! ### statements -/
section
variable {X : Fm} {ρ : Env} {P : Post} {a b c e tg : Expr} {st : Stmt} {sts rest body els : List Stmt} {pos p : Pos} {d : D} {ds : List D}
theorem ss_nil (h : P.nx ρ) : GSs X [] ρ P := gss_by (fun _ => pss_nil) fun B F0 F H σ D' I r f => f.nx F H σ ρ I (Ex.refl F) r h
theorem ss_cons (h : GS X st ρ { P with nx := fun ρ' => GSs X rest ρ' P }) : GSs X (st :: rest) ρ P := gss_by (fun j => pss_cons (aS_ok j) (aSs_ok j)) fun B F0 F H σ D' I r f =>
  h B F0 F H σ { D' with nx := aSs X rest D' } I r ⟨fun F2 H2 σ2 ρ2 I2 e2 r2 k => k B F0 F2 H2 σ2 D' I2 r2 (f.mono e2), f.rt, f.bk, f.ct⟩
theorem ss_one (h : GS X st ρ P) : GSs X [st] ρ P := gss_by (fun j => pss_one (aS_ok j)) h
/-- forgetting -/
theorem ss_le {ρ' : Env} (h : GSs X sts ρ' P) (k : Le ρ' ρ) : GSs X sts ρ P := fun B F0 F H σ D' I r f => h B F0 F H σ D' I (r.le k) f
/-- a list of one's own is from now on data -/
theorem RepE.freeze {B F0 F H : Hp} {σ : L2.St} {i : Nat} {l : Addr} (I : In0 B F0 F H) (r : RepE B F H σ ρ) (h : ρ[i]? = some (some (.own l ds))) : ∃ F2, In0 B F0 F2 H ∧ Ex F F2 ∧ RepE B F2 H σ (ρ.set i (some (.sh (.lst ds)))) ∧ Rep F2 (.ref l) (.lst ds) := by
  have hi : i < ρ.length := (List.getElem?_eq_some_iff.mp h).1
  obtain ⟨hs, hF, hB, xs, hH, rx⟩ := r.own h
  have hE : Ex F (upd F l (.lst xs)) := Ex.new hF
  have rep : Rep (upd F l (.lst xs)) (.ref l) (.lst ds) := .lst upd_same (rx.mono hE)
  refine ⟨upd F l (.lst xs), ⟨I.bh, I.ff.trans hE, fun a o h => ?_, fun a h => ?_⟩, hE, ?_, rep⟩
  · by_cases z : a = l
    · subst z; rw [upd_same] at h; rw [hH]; exact h
    · rw [upd_ne z] at h; exact I.fh a o h
  · by_cases z : a = l
    · subst z; exact .inr hB
    · rw [upd_ne z] at h; exact I.new a h
  · have hl := r.len
    refine ⟨by simp [hl], fun k => ?_, fun k m x h1 h2 => ?_⟩
    · rw [getD_set _ _ _ _ _ hi]
      by_cases z : k = i
      · rw [if_pos z]; subst z
        exact ⟨.ref l, by simp [List.getD, hs], rep⟩
      · rw [if_neg z]
        refine (r.ok k).keep hE fun l' e' => ⟨rfl, ?_⟩
        have hne : l' ≠ l := fun q => z (r.apart k i l' e' (by simp only [List.getD, h, Option.getD_some]; rw [q]; rfl))
        rw [upd_ne hne]
        exact ((r.ok k).held e').1
    · rw [getD_set _ _ _ _ _ hi] at h1 h2
      by_cases z : k = i
      · rw [if_pos z] at h1; simp [Sl.at] at h1
      · by_cases y : m = i
        · rw [if_pos y] at h2; simp [Sl.at] at h2
        · rw [if_neg z] at h1; rw [if_neg y] at h2; exact r.apart k m x h1 h2
theorem ss_freeze (i : Nat) {l : Addr} (h : GSs X sts (ρ.set i (some (.sh (.lst ds)))) P) (hi : ρ[i]? = some (some (.own l ds)) := by rfl) : GSs X sts ρ P := fun B F0 F H σ D' I r f => by
  obtain ⟨F2, I2, e2, r2, _⟩ := RepE.freeze I r hi
  exact h B F0 F2 H σ D' I2 r2 (f.mono e2)
theorem s_set (i : Nat) {x : Str} (he : GE X e ρ d) (h : P.nx (ρ.set i (some (.sh d)))) (hi : i < ρ.length := by exact Nat.le_of_ble_eq_true rfl) (hn : X.N[i]? = some x := by rfl) (hx : ∀ j, Loc (X.Y j).env.scope x := by intro _; first | exact Or.inl rfl | exact Or.inr rfl)
    (hs : ∀ j, swapsWith e (some (.Name x p)) pos.line (X.Y j).env = pure false := by intro _; rfl) (hf : ∀ j, (X.Y j).fn x = true ∨ (X.Y j).env.scope.names.lookup x = some .local := by intro _; first | exact .inl rfl | exact .inr rfl) :
    GS X (.Assign [.Name x p] e pos) ρ P := gs_by (fun j => ps_set (by rw [X.hN j]; exact X.nd) (by rw [X.hN j]; exact hn) (hx j) (aE_ok j) (hs j) (hf j)) fun B F0 F H σ D' I r f =>
  he B F H σ I.fh r _ fun v F2 H2 g rv => f.nx F2 H2 _ _ (I.grow g) g.ff ((r.grow g).setSh hi rv) h
theorem s_setX (i : Nat) {x : Str} (he : GX X e ρ fun ρ2 d => P.nx (ρ2.set i (some (.sh d))) ∧ i < ρ2.length) (hn : X.N[i]? = some x := by rfl) (hx : ∀ j, Loc (X.Y j).env.scope x := by intro _; first | exact Or.inl rfl | exact Or.inr rfl)
    (hs : ∀ j, swapsWith e (some (.Name x p)) pos.line (X.Y j).env = pure false := by intro _; rfl) (hf : ∀ j, (X.Y j).fn x = true ∨ (X.Y j).env.scope.names.lookup x = some .local := by intro _; first | exact .inl rfl | exact .inr rfl) :
    GS X (.Assign [.Name x p] e pos) ρ P := gs_by (fun j => ps_set (by rw [X.hN j]; exact X.nd) (by rw [X.hN j]; exact hn) (hx j) (aE_ok j) (hs j) (hf j)) fun B F0 F H σ D' I r f =>
  he B F0 F H σ I r _ fun v F2 H2 ρ2 d I2 e2 r2 rv k => f.nx F2 H2 _ _ I2 e2 (r2.setSh k.2 rv) k.1
theorem RepE.setOwn {B F H : Hp} {σ : L2.St} {i : Nat} {l : Addr} {xs : List V} (r : RepE B F H σ ρ) (hi : i < ρ.length) (hF : F l = none) (hB : B l = none) (hH : H l = some (.lst xs)) (rx : Reps F xs ds) (fresh : ∀ k m, Sl.at (ρ.getD k none) = some m → m ≠ l) : RepE B F H (σ.set i (some (.ref l))) (ρ.set i (some (.own l ds))) :=
  r.set hi ⟨rfl, hF, hB, xs, hH, rx⟩ fun m k h1 h2 => by
    simp [Sl.at] at h1
    exact absurd h1.symm (fresh k m h2)
theorem s_setN (i : Nat) {x : Str} (he : GN X e ρ ds) (h : ∀ l, P.nx (ρ.set i (some (.own l ds)))) (hi : i < ρ.length := by exact Nat.le_of_ble_eq_true rfl) (hn : X.N[i]? = some x := by rfl) (hx : ∀ j, Loc (X.Y j).env.scope x := by intro _; first | exact Or.inl rfl | exact Or.inr rfl)
    (hs : ∀ j, swapsWith e (some (.Name x p)) pos.line (X.Y j).env = pure false := by intro _; rfl) (hf : ∀ j, (X.Y j).fn x = true ∨ (X.Y j).env.scope.names.lookup x = some .local := by intro _; first | exact .inl rfl | exact .inr rfl) :
    GS X (.Assign [.Name x p] e pos) ρ P := gs_by (fun j => ps_set (by rw [X.hN j]; exact X.nd) (by rw [X.hN j]; exact hn) (hx j) (aE_ok j) (hs j) (hf j)) fun B F0 F H σ D' I r f =>
  he B F H σ I.fh r _ fun l xs F2 H2 g h1 h2 h3 rx => f.nx F2 H2 _ _ (I.grow g) g.ff ((r.grow g).setOwn hi h1 (fresh_back I.bh h2) h3 rx fun k m hm z => by
    obtain ⟨_, _, ys, hy⟩ := (r.ok k).held hm
    rw [z, h2] at hy; cases hy) (h l)
theorem s_ret (he : GE X e ρ d) (h : P.rt ρ d) : GS X (.Return (some e) pos) ρ P := gs_by (fun j => ps_ret (aE_ok j)) fun B F0 F H σ D' I r f =>
  he B F H σ I.fh r _ fun v F2 H2 g rv => f.rt F2 H2 σ ρ v d (I.grow g) g.ff (r.grow g) rv h
theorem s_retX (he : GX X e ρ fun ρ2 d => P.rt ρ2 d) : GS X (.Return (some e) pos) ρ P := gs_by (fun j => ps_ret (aE_ok j)) fun B F0 F H σ D' I r f =>
  he B F0 F H σ I r _ fun v F2 H2 ρ2 d I2 e2 r2 rv k => f.rt F2 H2 σ ρ2 v d I2 e2 r2 rv k
theorem s_if {k : Bool} (hc : GT X c ρ k) (h1 : k = true → GSs X body ρ P) (h2 : k = false → GSs X els ρ P) : GS X (.If c body els pos) ρ P := gs_by (fun j => ps_if (aT_ok j) (aSs_ok j) (aSs_ok j)) fun B F0 F H σ D' I r f =>
  hc B F H σ I.fh r _ fun F2 H2 g => by
    cases k with
    | true => exact h1 rfl B F0 F2 H2 σ D' (I.grow g) (r.grow g) (f.mono g.ff)
    | false => exact h2 rfl B F0 F2 H2 σ D' (I.grow g) (r.grow g) (f.mono g.ff)
theorem s_ifX (hc : GXT X c ρ fun ρ2 k => (k = true → GSs X body ρ2 P) ∧ (k = false → GSs X els ρ2 P)) : GS X (.If c body els pos) ρ P := gs_by (fun j => ps_if (aT_ok j) (aSs_ok j) (aSs_ok j)) fun B F0 F H σ D' I r f =>
  hc B F0 F H σ I r _ fun k F2 H2 ρ2 I2 e2 r2 q => by
    cases k with
    | true => exact q.1 rfl B F0 F2 H2 σ D' I2 r2 (f.mono e2)
    | false => exact q.2 rfl B F0 F2 H2 σ D' I2 r2 (f.mono e2)
theorem s_break (h : P.bk ρ) : GS X (.Break pos) ρ P := gs_by (fun _ => ps_break) fun B F0 F H σ D' I r f => f.bk F H σ ρ I (Ex.refl F) r h
theorem s_continue (h : P.ct ρ) : GS X (.Continue pos) ρ P := gs_by (fun _ => ps_continue) fun B F0 F H σ D' I r f => f.ct F H σ ρ I (Ex.refl F) r h
theorem s_pass (h : P.nx ρ) : GS X (.Pass pos) ρ P := gs_by (fun _ => ps_pass) fun B F0 F H σ D' I r f => f.nx F H σ ρ I (Ex.refl F) r h
/-- targets that are no single name -/
theorem s_asg {ts : List Nat} {ρ2 : Env} (he : GE X e ρ d) (hg : DG (aG X tg) d ts ρ ρ2) (h : P.nx ρ2) (hs : ∀ j, swapsWithSole [tg] e pos.line (X.Y j).env = pure false := by intro _; rfl) (hw : ∀ j, swappedStores [tg] e (X.Y j).env = pure none := by intro _; rfl)
    (ht : ∀ j, (assignEach [tg] (X.Y j).env).map (·.2) = [assign tg (X.Y j).env] := by intro _; rfl) :
    GS X (.Assign [tg] e pos) ρ P := gs_by (fun j => ps_asg (aE_ok j) (aG_ok j) (hs j) (hw j) (ht j)) fun B F0 F H σ D' I r f =>
  he B F H σ I.fh r _ fun v F2 H2 g rv => hg B F2 H2 σ v g.fh (r.grow g) rv _ fun σ2 r2 _ => f.nx F2 H2 σ2 ρ2 (I.grow g) g.ff r2 h
theorem s_asgX {ts : List Nat} (he : GX X e ρ fun ρ1 d => ∃ ρ2, DG (aG X tg) d ts ρ1 ρ2 ∧ P.nx ρ2) (hs : ∀ j, swapsWithSole [tg] e pos.line (X.Y j).env = pure false := by intro _; rfl) (hw : ∀ j, swappedStores [tg] e (X.Y j).env = pure none := by intro _; rfl)
    (ht : ∀ j, (assignEach [tg] (X.Y j).env).map (·.2) = [assign tg (X.Y j).env] := by intro _; rfl) :
    GS X (.Assign [tg] e pos) ρ P := gs_by (fun j => ps_asg (aE_ok j) (aG_ok j) (hs j) (hw j) (ht j)) fun B F0 F H σ D' I r f =>
  he B F0 F H σ I r _ fun v F2 H2 ρ1 d I2 e2 r2 rv ⟨ρ2, hg, h⟩ => hg B F2 H2 σ v I2.fh r2 rv _ fun σ2 r3 _ => f.nx F2 H2 σ2 ρ2 I2 e2 r3 h
theorem s_drop (he : GE X e ρ d) (h : P.nx ρ) (hs : ∀ j, swapsWith e none pos.line (X.Y j).env = pure false := by intro _; rfl) : GS X (.Expr e pos) ρ P := gs_by (fun j => ps_expr (aE_ok j) (hs j)) fun B F0 F H σ D' I r f =>
  he B F H σ I.fh r _ fun v F2 H2 g rv => f.nx F2 H2 σ ρ (I.grow g) g.ff (r.grow g) h

/-! ### lists of one's own -/
theorem pvN (i : Nat) {x : Str} (hn : X.N[i]? = some x) (hv : ∀ j, Vis (X.Y j).env.scope x) (hd : (x == ("__debug__" : Str)) = false) (hcd : (x == ("__classdict__" : Str)) = false) (j : X.ι) : PE (X.Y j) (.Name x p) (tVar i) := pe_var (by rw [X.hN j]; exact hn) (hv j) hd hcd
/-- an own list changed -/
theorem RepE.own_set {B F H : Hp} {σ : L2.St} {i : Nat} {l : Addr} {ds2 : List D} {xs2 : List V} (r : RepE B F H σ ρ) (h : ρ[i]? = some (some (.own l ds))) (rx : Reps F xs2 ds2) : RepE B F (upd H l (.lst xs2)) σ (ρ.set i (some (.own l ds2))) := by
  have hi : i < ρ.length := (List.getElem?_eq_some_iff.mp h).1
  obtain ⟨hs, hF, hB, xs, hH, _⟩ := r.own h
  have hl := r.len
  have back : ∀ k, Sl.at ((ρ.set i (some (.own l ds2))).getD k none) = Sl.at (ρ.getD k none) := fun k => by
    rw [getD_set _ _ _ _ _ hi]
    by_cases z : k = i
    · rw [if_pos z]; subst z; simp [List.getD, h, Sl.at]
    · rw [if_neg z]
  refine ⟨by simp [hl], fun k => ?_, fun k m x h1 h2 => ?_⟩
  · rw [getD_set _ _ _ _ _ hi]
    by_cases z : k = i
    · rw [if_pos z]; subst z
      exact ⟨by simp [List.getD, hs], hF, hB, xs2, upd_same, rx⟩
    · rw [if_neg z]
      refine (r.ok k).keep (Ex.refl F) fun l' e' => ?_
      have hne : l' ≠ l := fun q => z (r.apart k i l' e' (by simp only [List.getD, h, Option.getD_some]; rw [q]; rfl))
      exact ⟨upd_ne hne, ((r.ok k).held e').1⟩
  · rw [back] at h1 h2; exact r.apart k m x h1 h2
theorem In0.own_set {B F0 F H : Hp} {l : Addr} {o : HO} (I : In0 B F0 F H) (hF : F l = none) (hB : B l = none) : In0 B F0 F (upd H l o) :=
  ⟨Ex.mut I.bh hB, I.ff, fun a u h => by
    have : a ≠ l := fun z => by rw [z, hF] at h; cases h
    rw [upd_ne this]; exact I.fh a u h, I.new⟩
/-- xs.append(e) -/
theorem s_app (i : Nat) {x : Str} {l : Addr} {pa : Pos} (he : GE X e ρ d) (h : P.nx (ρ.set i (some (.own l (ds ++ [d]))))) (hz : ds.length < 100000) (hi : ρ[i]? = some (some (.own l ds)) := by rfl) (hn : X.N[i]? = some x := by rfl)
    (hv : ∀ j, Vis (X.Y j).env.scope x := by intro _; first | exact Or.inl rfl | exact Or.inr (Or.inl rfl) | exact Or.inr (Or.inr rfl)) (hd : (x == ("__debug__" : Str)) = false := by decide) (hcd : (x == ("__classdict__" : Str)) = false := by decide) {pc p2 : Pos}
    (hline : (pa.endLine == pc.line) = true := by rfl) (st : noStar e = true := by rfl) : GS X (.Expr (.Call (.Attribute (.Name x p) "append" pa) [e] [] pc) p2) ρ P :=
  gs_by (t := tDrop (tBM X.K "list" rAppend (tVar i) (tCons (aE X e) tNil))) (fun j => ps_expr (by
    rw [← X.hK j]
    exact pe_bm PySem.F.plainAttrs_list PySem.F.slot_list_append PySem.F.type_list_append mt_append (pvN i hn hv hd hcd j) (pa_cons (aE_ok j) pa_nil (star_of st)) (by rfl) (by rw [star_of st]; rfl) hline (star_of st) (by rfl)) (by rfl)) fun B F0 F H σ D' I r f => by
    obtain ⟨hs, hF, hB, xs, hH, rx⟩ := r.own hi
    refine ⟨.ref l, hs, .inl ⟨rfl, xs, SqL.of hH⟩, ?_⟩
    refine he B F H σ I.fh r _ fun v F2 H2 g rv => ?_
    have r2 := r.grow g
    obtain ⟨_, hF2, _, xs2, hH2, rx2⟩ := r2.own hi
    have e2 : xs2 = xs := HO.lst.inj (Option.some.inj (hH2.symm.trans (g.hh _ _ hH)))
    subst e2
    refine ⟨l, xs2, v, rfl, rfl, hH2, sz_lt (by rw [rx.length]; exact hz), f.nx F2 _ σ _ ((I.grow g).own_set hF2 hB) g.ff (r2.own_set hi (rx2.append (.cons rv .nil))) h⟩
theorem drop_last {α : Type} {xs : List α} {y : α} (h : xs[xs.length - 1]? = some y) : xs = xs.dropLast ++ [y] := by
  cases hx : xs with
  | nil => rw [hx] at h; simp at h
  | cons a r =>
    rw [← hx]
    have hne : xs ≠ [] := by rw [hx]; simp
    have : xs.getLast hne = y := by
      rw [List.getLast_eq_getElem]
      have := List.getElem?_eq_some_iff.mp h
      exact this.2
    rw [← this, List.dropLast_concat_getLast]
/-- xs.pop() -/
theorem s_pop (i : Nat) {x : Str} {l : Addr} {pa : Pos} (hne : ds ≠ []) (h : P.nx (ρ.set i (some (.own l ds.dropLast)))) (hi : ρ[i]? = some (some (.own l ds)) := by rfl) (hn : X.N[i]? = some x := by rfl)
    (hv : ∀ j, Vis (X.Y j).env.scope x := by intro _; first | exact Or.inl rfl | exact Or.inr (Or.inl rfl) | exact Or.inr (Or.inr rfl)) (hd : (x == ("__debug__" : Str)) = false := by decide) (hcd : (x == ("__classdict__" : Str)) = false := by decide) {pc p2 : Pos}
    (hline : (pa.endLine == pc.line) = true := by rfl) : GS X (.Expr (.Call (.Attribute (.Name x p) "pop" pa) [] [] pc) p2) ρ P :=
  gs_by (t := tDrop (tBM0 X.K "list" rPop (tVar i))) (fun j => ps_expr (by
    rw [← X.hK j]
    exact pe_bm0 PySem.F.plainAttrs_list PySem.F.slot_list_pop PySem.F.type_list_pop mt_pop (pvN i hn hv hd hcd j) (by rfl) hline) (by rfl)) fun B F0 F H σ D' I r f => by
    obtain ⟨hs, hF, hB, xs, hH, rx⟩ := r.own hi
    have hlen := rx.length
    have hpos : 0 < ds.length := List.length_pos_iff.mpr hne
    have hlt : xs.length - 1 < xs.length := by omega
    refine ⟨.ref l, hs, .inl ⟨rfl, xs, SqL.of hH⟩, l, xs, xs[xs.length - 1], rfl, rfl, hH, List.getElem?_eq_getElem hlt, ?_⟩
    exact f.nx F _ σ _ (I.own_set hF hB) (Ex.refl F) (r.own_set hi rx.dropLast) h
theorem asg_sub {o b : Expr} {ps : Pos} {env : PySem.Env} (h : noSl b = true) (v : Value) : assign (.Subscript o b ps) env v = (do
      let q ← holding [v] (eval o env)
      let k ← holding [v, q] (eval b env)
      standAt ps
      holding [v, q, k] (setItem q k v)
      release [v, q, k] []) := by
  cases b <;> first | rfl | (simp [noSl] at h)
/-- xs[i] = e -/
theorem s_setI (i : Nat) {x : Str} {l : Addr} {n : Int} {m : Nat} {ps : Pos} (he : GE X e ρ d) (hb : GE X b ρ (.int n)) (hm : ixN ds.length n = some m) (h : P.nx (ρ.set i (some (.own l (ds.set m d))))) (hi : ρ[i]? = some (some (.own l ds)) := by rfl) (hn : X.N[i]? = some x := by rfl)
    (hv : ∀ j, Vis (X.Y j).env.scope x := by intro _; first | exact Or.inl rfl | exact Or.inr (Or.inl rfl) | exact Or.inr (Or.inr rfl)) (hd : (x == ("__debug__" : Str)) = false := by decide) (hcd : (x == ("__classdict__" : Str)) = false := by decide)
    (hs : ∀ j, swapsWithSole [.Subscript (.Name x p) b ps] e pos.line (X.Y j).env = pure false := by intro _; rfl) (hw : ∀ j, swappedStores [.Subscript (.Name x p) b ps] e (X.Y j).env = pure none := by intro _; rfl) (hsl : noSl b = true := by rfl) :
    GS X (.Assign [.Subscript (.Name x p) b ps] e pos) ρ P :=
  gs_by (t := tAsg (aE X e) (gSub (tVar i) (aE X b) rSetL)) (fun j => ps_asg (aE_ok j) (pg_sub (pvN i hn hv hd hcd j) (aE_ok j) set_list (asg_sub hsl)) (hs j) (hw j)) fun B F0 F H σ D' I r f => by
    refine he B F H σ I.fh r _ fun v F2 H2 g rv => ?_
    have r2 := r.grow g
    obtain ⟨hs, hF, hB, xs, hH, rx⟩ := r2.own hi
    refine ⟨.ref l, hs, ?_⟩
    refine hb B F2 H2 σ g.fh r2 _ fun u F3 H3 g3 ru => ?_
    have r3 := r2.grow g3
    obtain ⟨_, hF3, _, xs3, hH3, rx3⟩ := r3.own hi
    rw [ru.int_inv]
    refine ⟨l, xs3, n, m, rfl, rfl, hH3, by rw [rx3.length]; exact hm, f.nx F3 _ σ _ (((I.grow g).grow g3).own_set hF3 hB) (g.ff.trans g3.ff) (r3.own_set hi (rx3.set m (rv.mono g3.ff))) h⟩
/-- reading one's own list -/
theorem g_ixOwn (i : Nat) {x : Str} {l : Addr} {n : Int} (hb : GE X b ρ (.int n)) (h : atI ds n = some d) (hi : ρ[i]? = some (some (.own l ds)) := by rfl) (hn : X.N[i]? = some x := by rfl)
    (hv : ∀ j, Vis (X.Y j).env.scope x := by intro _; first | exact Or.inl rfl | exact Or.inr (Or.inl rfl) | exact Or.inr (Or.inr rfl)) (hd : (x == ("__debug__" : Str)) = false := by decide) (hcd : (x == ("__classdict__" : Str)) = false := by decide)
    (hs : noSl b = true := by rfl) : GE X (.Subscript (.Name x p) b pos) ρ d :=
  ge_by (t := tOp (rIxL X.K) (tVar i) (aE X b)) (fun j => pe_ix (by rw [← X.hK j]; exact ix_list) (pvN i hn hv hd hcd j) (aE_ok j) (plainIx_of hs)) fun B F H σ ex r Q q => by
    obtain ⟨h1, hF, hB, xs, hH, rx⟩ := r.own hi
    refine ⟨.ref l, h1, ?_⟩
    refine hb B F H σ ex r _ fun u F2 H2 g ru => ?_
    rw [ru.int_inv]
    obtain ⟨w, h2, r2⟩ := reps_atI (rx.mono g.ff) h
    exact ⟨l, xs, n, w, rfl, rfl, SqL.of (g.hh _ _ hH), h2, q w F2 H2 g r2⟩
theorem g_lenOwn (i : Nat) {x : Str} {l : Addr} {pn : Pos} (bu : BuAll X.mg) (hi : ρ[i]? = some (some (.own l ds)) := by rfl) (hn : X.N[i]? = some x := by rfl)
    (hv : ∀ j, Vis (X.Y j).env.scope x := by intro _; first | exact Or.inl rfl | exact Or.inr (Or.inl rfl) | exact Or.inr (Or.inr rfl)) (hd : (x == ("__debug__" : Str)) = false := by decide) (hcd : (x == ("__classdict__" : Str)) = false := by decide)
    (hg : ∀ j, Gl (X.Y j) "len" := by intro _; rfl) : GE X (.Call (.Name "len" p) [.Name x pn] [] pos) ρ (.int (ds.length : Int)) := by
  have bn := bu_len bu
  refine ge_by (t := tCB (fun xs H Q => ∃ p ys, xs = [.ref p] ∧ (SqL X.K H p ys ∨ SqT X.K H p ys) ∧ Q (.int ys.length) H) (tCons (tVar i) tNil)) (fun j => pe_callB (by rw [← X.hK j]; exact call_len_seq) (hg j) (by rw [X.hmg j]; exact bn.mg) bn.bt (pa_cons (pvN i hn hv hd hcd j) pa_nil (star_of rfl)) bn.hn bn.hd (star_of rfl) (stars_any rfl)) fun B F H σ ex r Q q => ?_
  obtain ⟨h1, hF, hB, xs, hH, rx⟩ := r.own hi
  refine ⟨.ref l, h1, l, xs, rfl, .inl (SqL.of hH), ?_⟩
  rw [rx.length]
  exact q _ F H (Grow.refl ex) (.int _)
/-- != [] of one's own list of whole numbers -/
theorem t_neOwn (i : Nat) {x : Str} {l : Addr} {n : Nat} {ns ms : List Int} (hr : Room n X.A) (hb : GE X b ρ (L ms)) (hi : ρ[i]? = some (some (.own l (ns.map .int))) := by rfl) (hn : X.N[i]? = some x := by rfl)
    (hv : ∀ j, Vis (X.Y j).env.scope x := by intro _; first | exact Or.inl rfl | exact Or.inr (Or.inl rfl) | exact Or.inr (Or.inr rfl)) (hd : (x == ("__debug__" : Str)) = false := by decide) (hcd : (x == ("__classdict__" : Str)) = false := by decide) : GT X (.Compare (.Name x p) [.NotEq] [b] pos) ρ (!decide (ns = ms)) :=
  gt_by (t := tTest (tOp (rNeD X.K) (tVar i) (aE X b))) (fun j => pt_cmpR (by rw [← X.hK j]; exact op_neD (by rw [X.hA j]; exact hr.units)) (pvN i hn hv hd hcd j) (aE_ok j) (nomark _)) fun B F H σ ex r Q q => by
    obtain ⟨h1, hF, hB, xs, hH, rx⟩ := r.own hi
    refine ⟨.ref l, h1, ?_⟩
    refine hb B F H σ ex r _ fun u F2 H2 g ru => ?_
    refine ⟨(L ns).py, (L ms).py, ?_, ru.dp g.fh (L_num ms), L_shaped ns, L_shaped ms, !decide (ns = ms), ?_, q F2 H2 g⟩
    · exact .lst (SqL.of (g.hh _ _ hH)) (Reps.dp (ex.trans g.hh) rx (nums_ints ns))
    · rw [eqv_dec (L_num ns) (L_num ms) (k := decide (ns = ms)) (by rw [L_inj]; exact decide_eq_true_iff)]
end
end Cv
end
section
set_option Elab.async false
set_option linter.all false
set_option maxRecDepth 100000
set_option maxHeartbeats 4000000
namespace Cv
open PySem L2 Evl
section
variable {X : Fm} {ρ : Env} {P : Post} {a b c e tg it elt : Expr} {st : Stmt} {sts rest body els : List Stmt} {pos p : Pos} {d : D} {ds : List D} {n : Nat} {src : Nat → D}
/-! ### loops -/
theorem s_for (hi : DI (aI X tg it) ρ n src) (Iv : Nat → Env → Prop) (h0 : Iv 0 ρ)
    (hs : ∀ i ρ1, i < n → Iv i ρ1 → ∃ ts ρ2, DG (aG X tg) (src i) ts ρ1 ρ2 ∧ GSs X body ρ2 { nx := Iv (i + 1), rt := P.rt, bk := P.nx, ct := Iv (i + 1) }) (hd : ∀ ρ1, Iv n ρ1 → P.nx ρ1) (hf : ∀ j x, foldedSetIterable it (X.Y j).env x = pure x := by intro _ _; rfl) : GS X (.For tg it body [] pos) ρ P :=
  gs_by (fun j => ps_for (by rw [X.hx j]; exact PassesOwn.never) (X.calm j) (aI_ok j) (aG_ok j) (aSs_ok j) (hf j)) fun B F0 F H σ D' I r f => by
    refine hi B F H σ I.fh r _ fun J F2 H2 g ok => ?_
    have I2 := I.grow g
    refine ⟨fun i m σ' H' => m = n - i ∧ i ≤ n ∧ ∃ F' ρ', In0 B F0 F' H' ∧ Ex F2 F' ∧ RepE B F' H' σ' ρ' ∧ Iv i ρ', ⟨n, by simp, Nat.zero_le _, F2, ρ, I2, Ex.refl F2, r.grow g, h0⟩, ?_⟩
    rintro i m σ' H' ⟨rfl, hin, F', ρ', I', e', r', iv⟩
    by_cases hlt : i < n
    · refine .inr ⟨ok.go i F' H' e' I'.fh hlt, fun σ'' H'' => ∃ F3 ρ3, In0 B F0 F3 H'' ∧ Ex F2 F3 ∧ RepE B F3 H'' σ'' ρ3 ∧ Iv (i + 1) ρ3, ?_, fun x H'' y => ?_⟩
      · rintro σ'' H'' ⟨F3, ρ3, q⟩
        exact ⟨n - (i + 1), by omega, rfl, hlt, F3, ρ3, q⟩
      · obtain ⟨F'', g2, rx⟩ := ok.yld i F' H' x H'' e' I'.fh hlt y
        obtain ⟨ts, ρ2, hg, hb⟩ := hs i ρ' hlt iv
        refine hg B F'' H'' σ' x g2.fh (r'.grow g2) rx _ fun σ2 r2 _ => ?_
        refine hb B F0 F'' H'' σ2 _ (I'.grow g2) r2 ⟨fun F3 H3 σ3 ρ3 I3 e3 r3 k => ⟨F3, ρ3, I3, (e'.trans g2.ff).trans e3, r3, k⟩, fun F3 H3 σ3 ρ3 v d I3 e3 r3 rv k => f.rt F3 H3 σ3 ρ3 v d I3 (((g.ff.trans e').trans g2.ff).trans e3) r3 rv k,
          fun F3 H3 σ3 ρ3 I3 e3 r3 k => f.nx F3 H3 σ3 ρ3 I3 (((g.ff.trans e').trans g2.ff).trans e3) r3 k, fun F3 H3 σ3 ρ3 I3 e3 r3 k => ⟨F3, ρ3, I3, (e'.trans g2.ff).trans e3, r3, k⟩⟩
    · have e0 : i = n := by omega
      subst e0
      exact .inl ⟨ok.stop F' H' e' I'.fh, f.nx F' H' σ' ρ' I' (g.ff.trans e') r' (hd ρ' iv)⟩
theorem s_while (Iv : Nat → Env → Prop) (m0 : Nat) (h0 : Iv m0 ρ)
    (hs : ∀ m ρ1, Iv m ρ1 → ∃ k, GT X c ρ1 k ∧ (k = true → GSs X body ρ1 { nx := fun ρ2 => ∃ m', m' < m ∧ Iv m' ρ2, rt := P.rt, bk := P.nx, ct := fun ρ2 => ∃ m', m' < m ∧ Iv m' ρ2 }) ∧ (k = false → P.nx ρ1)) : GS X (.While c body [] pos) ρ P :=
  gs_by (fun j => ps_while (by rw [X.hx j]; exact PassesOwn.never) (aT_ok j) (aSs_ok j)) fun B F0 F H σ D' I r f => by
    refine ⟨fun m σ' H' => ∃ F' ρ', In0 B F0 F' H' ∧ Ex F F' ∧ RepE B F' H' σ' ρ' ∧ Iv m ρ', ⟨m0, F, ρ, I, Ex.refl F, r, h0⟩, ?_⟩
    rintro m σ' H' ⟨F', ρ', I', e', r', iv⟩
    obtain ⟨k, hc, h1, h2⟩ := hs m ρ' iv
    refine hc B F' H' σ' I'.fh r' _ fun F2 H2 g => ?_
    cases k with
    | true =>
      refine ⟨fun σ2 H2 => ∃ m', m' < m ∧ ∃ F3 ρ3, In0 B F0 F3 H2 ∧ Ex F F3 ∧ RepE B F3 H2 σ2 ρ3 ∧ Iv m' ρ3, fun σ2 H2 q => q, ?_⟩
      refine h1 rfl B F0 F2 H2 σ' _ (I'.grow g) (r'.grow g) ⟨fun F3 H3 σ3 ρ3 I3 e3 r3 ⟨m', l, k⟩ => ⟨m', l, F3, ρ3, I3, (e'.trans g.ff).trans e3, r3, k⟩, fun F3 H3 σ3 ρ3 v d I3 e3 r3 rv k => f.rt F3 H3 σ3 ρ3 v d I3 ((e'.trans g.ff).trans e3) r3 rv k,
        fun F3 H3 σ3 ρ3 I3 e3 r3 k => f.nx F3 H3 σ3 ρ3 I3 ((e'.trans g.ff).trans e3) r3 k, fun F3 H3 σ3 ρ3 I3 e3 r3 ⟨m', l, k⟩ => ⟨m', l, F3, ρ3, I3, (e'.trans g.ff).trans e3, r3, k⟩⟩
    | false => exact f.nx F2 H2 σ' ρ' (I'.grow g) (e'.trans g.ff) (r'.grow g) (h2 rfl)

/-! ### comprehensions -/
/-- the contexts of a comprehension's block -/
@[reducible] def blkF (X : Fm) (scope : Scope) : Fm where
  ι := X.ι × Shared × Hp × Addr × List (Str × Addr) × List Addr
  Y := fun z => (X.Y z.1).blk z.2.1 z.2.2.1 scope (compEnvC scope z.2.2.2.2.1 z.2.2.2.1 (X.Y z.1).env) z.2.2.2.2.2
  P := X.P
  w := X.w
  K := X.K
  mg := X.mg
  base := X.base
  A := X.A
  N := X.N
  nd := X.nd
  hP := fun z => X.hP z.1
  hw := fun z => X.hw z.1
  hK := fun z => X.hK z.1
  hmg := fun z => X.hmg z.1
  hb := fun z => X.hb z.1
  hA := fun z => X.hA z.1
  hN := fun z => X.hN z.1
  calm := fun z => X.calm z.1
  hx := fun _ => rfl
def aTs (X : Fm) (ifs : List Expr) : TT := fun σ H Q => ∃ t, (∀ j, PTs (X.Y j) ifs t) ∧ t σ H Q
theorem aTs_ok {ifs : List Expr} (j : X.ι) : PTs (X.Y j) ifs (aTs X ifs) := ⟨fun pins s σ H Q I ⟨_, h, q⟩ => (h j).run pins s σ H Q I q⟩
theorem ts_nil : DT (aTs X []) ρ true := fun B F H σ e r Q q => ⟨tYes, fun _ => pts_nil, q F H (Grow.refl e)⟩
theorem ts_one {k : Bool} (h : GT X c ρ k) : DT (aTs X [c]) ρ k := fun B F H σ e r Q q => ⟨aT X c, fun j => pts_one (aT_ok j), h B F H σ e r Q q⟩
def aLc (X : Fm) (elt tg it : Expr) (ifs : List Expr) (scope : Scope) : TE := fun σ H Q => ∃ (own : List (Str × Nat)) (wi : TI) (g : TG) (tt : TT) (te : TE), (∀ j, PI (X.Y j) tg it wi) ∧ (∀ j, BlkOk (X.Y j).N (X.Y j).env.scope scope own) ∧
  (∀ j, PG ((blkF X scope).Y j) tg g) ∧ (∀ j, PTs ((blkF X scope).Y j) ifs tt) ∧ (∀ j, PE ((blkF X scope).Y j) elt te) ∧ (∀ j x, foldedSetIterable it (X.Y j).env x = pure x) ∧ tLc wi g tt te (own.map (·.2)) σ H Q
theorem aLc_ok {ifs : List Expr} {scope : Scope} (j : X.ι) : PE (X.Y j) (.ListComp elt [⟨tg, it, ifs, 0⟩] scope pos) (aLc X elt tg it ifs scope) := ⟨fun pins s σ H Q I ⟨own, wi, g, tt, te, h1, h2, h3, h4, h5, h6, q⟩ =>
  (pe_lc (X.calm j) (by rw [X.hN j]; exact X.nd) (h1 j) (h2 j) (fun s H C cl fp => h3 (j, s, H, C, cl, fp)) (fun s H C cl fp => h4 (j, s, H, C, cl, fp)) (fun s H C cl fp => h5 (j, s, H, C, cl, fp)) (h6 j)).run pins s σ H Q I q⟩
theorem aLcS_ok {ifs : List Expr} {scope : Scope} {i : Nat} {y : Str} {py spos : Pos} (hy : X.N[i]? = some y) (hyl : ∀ j, (X.Y j).env.scope.names.lookup y = some .local)
    (hsw : ∀ j, swapsWith (.ListComp elt [⟨tg, it, ifs, 0⟩] scope pos) (some (.Name y py)) spos.line (X.Y j).env = pure true) (j : X.ι) : PS (X.Y j) (.Assign [.Name y py] (.ListComp elt [⟨tg, it, ifs, 0⟩] scope pos) spos) (tAsg (aLc X elt tg it ifs scope) (gName i)) := ⟨fun pins s σ H D' I ⟨own, wi, g, tt, te, h1, h2, h3, h4, h5, h6, q⟩ =>
  (ps_setLc (X.calm j) (by rw [X.hN j]; exact X.nd) (by rw [X.hN j]; exact hy) (hyl j) (hsw j) (h1 j) (h2 j) (fun s H C cl fp => h3 (j, s, H, C, cl, fp)) (fun s H C cl fp => h4 (j, s, H, C, cl, fp)) (fun s H C cl fp => h5 (j, s, H, C, cl, fp)) (h6 j)).run pins s σ H D' I q⟩
def wipeE (ρ : Env) : List Nat → Env
  | [] => ρ
  | v :: vs => (wipeE ρ vs).set v none
theorem RepE.wiped {B F H : Hp} {σ : L2.St} (r : RepE B F H σ ρ) : ∀ vs : List Nat, RepE B F H (wipe σ vs) (wipeE ρ vs)
  | [] => r
  | v :: vs => by
    have ih := RepE.wiped r vs
    unfold wipe wipeE
    by_cases hv : v < (wipeE ρ vs).length
    · exact ih.set hv trivial fun l j h => by simp [Sl.at] at h
    · have hl := ih.len
      rw [List.set_eq_of_length_le (by omega), List.set_eq_of_length_le (by omega)]
      exact ih
/-- what a comprehension gives -/
def resD (tb : Nat → Bool) (f : Nat → D) (i : Nat) : List D := ((List.range i).filter tb).map f
theorem resD_yes {tb : Nat → Bool} {f : Nat → D} {i : Nat} (h : tb i = true) : resD tb f (i + 1) = resD tb f i ++ [f i] := by
  unfold resD
  rw [List.range_succ, List.filter_append, List.map_append, List.filter_cons, if_pos h]; rfl
theorem resD_no {tb : Nat → Bool} {f : Nat → D} {i : Nat} (h : tb i = false) : resD tb f (i + 1) = resD tb f i := by
  unfold resD
  rw [List.range_succ, List.filter_append, List.map_append, List.filter_cons, if_neg (by rw [h]; decide)]
  simp
theorem resD_len (tb : Nat → Bool) (f : Nat → D) (i : Nat) : (resD tb f i).length ≤ i := by
  unfold resD
  rw [List.length_map]
  exact Nat.le_trans (List.length_filter_le _ _) (by simp)
theorem resD_all (f : Nat → D) (n : Nat) : resD (fun _ => true) f n = (List.range n).map f := by
  unfold resD
  congr 1
  exact List.filter_eq_self.mpr fun _ _ => rfl
theorem dn_lc {ifs : List Expr} {scope : Scope} (own : List (Str × Nat)) (ok : ∀ j, BlkOk X.N (X.Y j).env.scope scope own) (hi : DI (aI X tg it) ρ n src) (hn : n ≤ 100000) {tb : Nat → Bool} {f : Nat → D} (ts : List Nat) (ρ' : Nat → Env)
    (hg : ∀ i, i < n → DG (aG (blkF X scope) tg) (src i) ts (wipeE ρ (own.map (·.2))) (ρ' i)) (hts : ∀ i ∈ ts, i ∈ own.map (·.2)) (ht : ∀ i, i < n → DT (aTs (blkF X scope) ifs) (ρ' i) (tb i)) (he : ∀ i, i < n → tb i = true → GE (blkF X scope) elt (ρ' i) (f i))
    (hf : ∀ j x, foldedSetIterable it (X.Y j).env x = pure x) : DN (aLc X elt tg it ifs scope) ρ (resD tb f n) := fun B F H σ e r Q q => by
  refine ⟨own, aI X tg it, aG (blkF X scope) tg, aTs (blkF X scope) ifs, aE (blkF X scope) elt, aI_ok, fun j => by rw [X.hN j]; exact ok j, aG_ok, aTs_ok, aE_ok, hf, ?_⟩
  refine hi B F H σ e r _ fun J F1 H1 g ik => ?_
  intro Dd hD
  have hFD : F1 Dd = none := fresh_back g.fh hD
  refine ⟨fun i m H' => m = n - i ∧ i ≤ n ∧ ∃ F' acc, Grow F1 H1 F' H' ∧ F' Dd = none ∧ H' Dd = some (.lst acc) ∧ Reps F' acc (resD tb f i), ⟨n, by simp, Nat.zero_le _, F1, [], (Grow.refl g.fh).more (Ex.new hD), hFD, upd_same, .nil⟩, ?_⟩
  rintro i m H' ⟨rfl, hin, F', acc, g', hF', hH', ra⟩
  by_cases hlt : i < n
  · refine .inr ⟨ik.go i F' H' g'.ff g'.fh hlt, fun H'' => ∃ F3 acc3, Grow F1 H1 F3 H'' ∧ F3 Dd = none ∧ H'' Dd = some (.lst acc3) ∧ Reps F3 acc3 (resD tb f (i + 1)), fun H'' ⟨F3, acc3, z⟩ => ⟨n - (i + 1), by omega, rfl, hlt, F3, acc3, z⟩, fun x H'' y => ?_⟩
    obtain ⟨F'', g2, rx⟩ := ik.yld i F' H' x H'' g'.ff g'.fh hlt y
    have r'' := ((r.grow g).grow g').grow g2
    refine hg i hlt B F'' H'' _ x g2.fh (r''.wiped _) rx _ fun σ2 r2 t2 => ⟨wipe_touch t2 hts, ?_⟩
    refine ht i hlt B F'' H'' σ2 g2.fh r2 _ fun F3 H3 g3 => ?_
    have gg := g2.trans g3
    have noD : ∀ F4 H4, Grow F' H' F4 H4 → F4 Dd = none := fun F4 H4 g4 => by
      cases z : F4 Dd with
      | none => rfl
      | some u =>
        rcases g4.new Dd (by rw [z]; simp) with w | w
        · exact absurd hF' w
        · rw [hH'] at w; cases w
    cases hb : tb i with
    | true =>
      show aE (blkF X scope) elt σ2 H3 _
      refine he i hlt hb B F3 H3 σ2 g3.fh (r2.grow g3) _ fun v F4 H4 g4 rv => ?_
      have g5 := gg.trans g4
      have hF4 := noD F4 H4 g5
      have gw := g'.trans g5
      refine ⟨acc, g5.hh _ _ hH', sz_lt (by rw [ra.length]; have := resD_len tb f i; omega), F4, acc ++ [v], ⟨Ex.mut gw.hh hD, gw.ff, fun a u h => ?_, gw.new⟩, hF4, upd_same, ?_⟩
      · have : a ≠ Dd := fun z => by rw [z, hF4] at h; cases h
        rw [upd_ne this]; exact g5.fh a u h
      · rw [resD_yes hb]
        exact (ra.mono g5.ff).append (.cons rv .nil)
    | false =>
      show ∃ F3 acc3, _
      refine ⟨F3, acc, g'.trans gg, noD F3 H3 gg, gg.hh _ _ hH', ?_⟩
      rw [resD_no hb]
      exact ra.mono gg.ff
  · have e0 : i = n := by omega
    subst e0
    exact .inl ⟨ik.stop F' H' g'.ff g'.fh, q Dd acc F' H' (g.trans g') hF' (fresh_back g.hh hD) hH' ra⟩
theorem gn_lc {ifs : List Expr} {scope : Scope} {es : List D} (h : DN (aLc X elt tg it ifs scope) ρ es) : GN X (.ListComp elt [⟨tg, it, ifs, 0⟩] scope pos) ρ es := gn_by (fun j => aLc_ok j) h
theorem g_lc {ifs : List Expr} {scope : Scope} {es : List D} (h : DN (aLc X elt tg it ifs scope) ρ es) : GE X (.ListComp elt [⟨tg, it, ifs, 0⟩] scope pos) ρ (.lst es) := de_of_dn (gn_lc h)
/-- y = [..], y a local: a list of one's own -/
theorem s_setLcN (i : Nat) {ifs : List Expr} {scope : Scope} {es : List D} {y : Str} {py spos : Pos} (h : DN (aLc X elt tg it ifs scope) ρ es) (hq : ∀ l, P.nx (ρ.set i (some (.own l es)))) (hi : i < ρ.length := by exact Nat.le_of_ble_eq_true rfl) (hy : X.N[i]? = some y := by rfl) (hyl : ∀ j, (X.Y j).env.scope.names.lookup y = some .local := by intro _; rfl)
    (hsw : ∀ j, swapsWith (.ListComp elt [⟨tg, it, ifs, 0⟩] scope pos) (some (.Name y py)) spos.line (X.Y j).env = pure true := by intro _; exact sw_true rfl rfl rfl (by decide +kernel)) : GS X (.Assign [.Name y py] (.ListComp elt [⟨tg, it, ifs, 0⟩] scope pos) spos) ρ P :=
  gs_by (aLcS_ok hy hyl hsw) fun B F0 F H σ D' I r f => h B F H σ I.fh r _ fun l xs F2 H2 g h1 h2 h3 rx => f.nx F2 H2 _ _ (I.grow g) g.ff ((r.grow g).setOwn hi h1 (fresh_back I.bh h2) h3 rx fun k m hm z => by
    obtain ⟨_, _, ys, hy⟩ := (r.ok k).held hm
    rw [z, h2] at hy; cases hy) (hq l)
/-- .. as data -/
theorem s_setLc (i : Nat) {ifs : List Expr} {scope : Scope} {es : List D} {y : Str} {py spos : Pos} (h : DN (aLc X elt tg it ifs scope) ρ es) (hq : P.nx (ρ.set i (some (.sh (.lst es))))) (hi : i < ρ.length := by exact Nat.le_of_ble_eq_true rfl) (hy : X.N[i]? = some y := by rfl) (hyl : ∀ j, (X.Y j).env.scope.names.lookup y = some .local := by intro _; rfl)
    (hsw : ∀ j, swapsWith (.ListComp elt [⟨tg, it, ifs, 0⟩] scope pos) (some (.Name y py)) spos.line (X.Y j).env = pure true := by intro _; exact sw_true rfl rfl rfl (by decide +kernel)) : GS X (.Assign [.Name y py] (.ListComp elt [⟨tg, it, ifs, 0⟩] scope pos) spos) ρ P :=
  gs_by (aLcS_ok hy hyl hsw) fun B F0 F H σ D' I r f => de_of_dn h B F H σ I.fh r _ fun v F2 H2 g rv => f.nx F2 H2 _ _ (I.grow g) g.ff ((r.grow g).setSh hi rv) hq
end

/-! ### defs -/
@[reducible] def fmOf (P : Program) (w : World) (K : PySem.W.Frag) (mg : Str → Option Value) (base : Heap) (N : List Str) (nd : N.Nodup) (qual : Str) (st : Stmt) (f : Addr) (cdv : Value) (A : Around) (outer : List PySem.Env) (s : Shared) (H : Hp) (E : XK) : Fm where
  ι := Unit
  Y := fun _ => (cxOf CX0 P w K mg base N qual (defScope st) f cdv A outer s H E).nox
  P := P
  w := w
  K := K
  mg := mg
  base := base
  A := A.deeper (PyProof.Rows.envOfC qual (defScope st) s.heap.objs.size f cdv)
  N := N
  nd := nd
  hP := fun _ => rfl
  hw := fun _ => rfl
  hK := fun _ => rfl
  hmg := fun _ => rfl
  hb := fun _ => rfl
  hA := fun _ => rfl
  hN := fun _ => rfl
  calm := fun _ => rfl
  hx := fun _ => rfl
def initE (n : Nat) (ds : List D) : Env := ds.map (fun d => some (.sh d)) ++ List.replicate (n - ds.length) none
theorem ite_none_sl (c : Prop) [Decidable c] : ((if c then some (none : Option Sl) else none).getD none) = none := by split <;> rfl
theorem repE_init {B F H : Hp} {N : List Str} {vs : List V} {ds : List D} (h : Reps F vs ds) : RepE B F H (L2.start N vs) (initE N.length ds) := by
  have hl := h.length
  have hat : ∀ i, Sl.at ((initE N.length ds).getD i none) = none := fun i => by
    unfold initE
    rw [List.getD_eq_getElem?_getD]
    by_cases hi : i < ds.length
    · rw [List.getElem?_append_left (by simpa using hi), List.getElem?_map, List.getElem?_eq_getElem hi]; rfl
    · rw [List.getElem?_append_right (by simp; omega), List.getElem?_replicate]
      split <;> rfl
  refine ⟨by simp [L2.start, initE, hl], fun i => ?_, fun i j l h1 h2 => by rw [hat] at h1; cases h1⟩
  unfold initE L2.start
  rw [List.getD_eq_getElem?_getD, List.getD_eq_getElem?_getD]
  by_cases hi : i < ds.length
  · rw [List.getElem?_append_left (by simp; omega), List.getElem?_append_left (by simpa using hi), List.getElem?_map, List.getElem?_map, List.getElem?_eq_getElem hi]
    obtain ⟨v, h1, h2⟩ := h.get (List.getElem?_eq_getElem hi)
    rw [h1]
    exact ⟨v, rfl, h2⟩
  · rw [List.getElem?_append_right (by simp; omega), List.getElem?_append_right (by simp; omega), List.getElem?_replicate, List.getElem?_replicate, ite_none_sl]
    trivial
section
variable {P : Program} {w : World} {K : PySem.W.Frag} {mg : Str → Option Value} {base : Heap} {x qual : Str} {st : Stmt} {f : Addr} {fd : FuncData} {N ps : List Str} {k : Nat}
/-- a def keeps its promise, by its body -/
theorem fn_D (g : List D → D → Prop) (F : Fun K x qual st f fd) (S : FnScope N ps (defScope st)) (hl : ∀ ds d, g ds d → ds.length = ps.length)
    (body : ∀ (cdv : Value) (A : Around) (outer : List PySem.Env) (s : Shared) (H : Hp) (E : XK), Room k (fmOf P w K mg base N S.nd qual st f cdv A outer s H E).A → ∀ ds d, g ds d →
      GSs (fmOf P w K mg base N S.nd qual st f cdv A outer s H E) (defBody st) (initE N.length ds) { nx := fun _ => d = .non, rt := fun _ d' => d' = d }) : FnOk P w K mg base CX0 (k + 1) f fd ps (spD g) := by
  refine F.ok S (fun vs H Q E h => ?_) fun cdv A outer s H vs Q E hr h => ?_
  · obtain ⟨F, ds, d, _, r, hg, _⟩ := h
    rw [r.length, hl ds d hg]
  · obtain ⟨F1, ds, d, e, r, hg, q⟩ := h
    refine ⟨aSs (fmOf P w K mg base N S.nd qual st f cdv A outer s H E) (defBody st), aSs_ok (X := fmOf P w K mg base N S.nd qual st f cdv A outer s H E) (), ?_⟩
    refine body cdv A outer s H E hr ds d hg H F1 F1 H _ _ ⟨Ex.refl H, Ex.refl F1, e, fun a h => .inl h⟩ (repE_init r) ⟨fun F2 H2 σ2 ρ2 I2 e2 r2 k => ?_, fun F2 H2 σ2 ρ2 v d' I2 e2 r2 rv k => ?_, fun F2 H2 σ2 ρ2 I2 e2 r2 k => k.elim, fun F2 H2 σ2 ρ2 I2 e2 r2 k => k.elim⟩
    · subst k
      exact q .non F2 H2 ⟨I2.bh, e2, I2.fh, I2.new⟩ .non
    · subst k
      exact q v F2 H2 ⟨I2.bh, e2, I2.fh, I2.new⟩ rv
def initG (n : Nat) (g : Addr) (m : Nat) (ds : List D) : Env := some (.gen g m) :: (ds.map (fun d => some (.sh d)) ++ List.replicate (n - (ds.length + 1)) none)
/-- a drawing def -/
theorem fn_G (g : Nat → List D → Nat → (D → Prop) → Prop) (F : Fun K x qual st f fd) (S : FnScope N ps (defScope st)) (hl : ∀ n ds n' R, g n ds n' R → ds.length + 1 = ps.length)
    (body : ∀ (cdv : Value) (A : Around) (outer : List PySem.Env) (s : Shared) (H : Hp) (E : XK), Room k (fmOf P w K mg base N S.nd qual st f cdv A outer s H E).A → ∀ gA n ds n' R, g n ds n' R →
      GSs (fmOf P w K mg base N S.nd qual st f cdv A outer s H E) (defBody st) (initG N.length gA n ds) { nx := fun _ => False, rt := fun ρ2 d' => R d' ∧ ∃ m, m ≤ n' ∧ ρ2[0]? = some (some (.gen gA m)) }) : FnOk P w K mg base CX0 (k + 1) f fd ps (spG g) := by
  refine F.ok S (fun vs H Q E h => ?_) fun cdv A outer s H vs Q E hr h => ?_
  · obtain ⟨gA, ws, F, ds, n, n', R, a, b, c, rfl, _, _, _, _, r, hg, _⟩ := h
    rw [List.length_cons, r.length, hl n ds n' R hg]
  · obtain ⟨gA, ws, F1, ds, n, n', R, a, b, c, rfl, hH, ok, hF, e, r, hg, q⟩ := h
    refine ⟨aSs (fmOf P w K mg base N S.nd qual st f cdv A outer s H E) (defBody st), aSs_ok (X := fmOf P w K mg base N S.nd qual st f cdv A outer s H E) (), ?_⟩
    let B : Hp := fun z => if z = gA then none else H z
    have hBg : B gA = none := if_pos rfl
    have hBn : ∀ z, z ≠ gA → B z = H z := fun z hz => if_neg hz
    have hBH : Ex B H := fun z o hz => by
      by_cases h : z = gA
      · rw [h, hBg] at hz; cases hz
      · rw [hBn z h] at hz; exact hz
    have hat : ∀ i, Sl.at ((initG N.length gA n ds).getD (i + 1) none) = none := fun i => by
      unfold initG
      rw [List.getD_cons_succ, List.getD_eq_getElem?_getD]
      by_cases hi : i < ds.length
      · rw [List.getElem?_append_left (by simpa using hi), List.getElem?_map, List.getElem?_eq_getElem hi]; rfl
      · rw [List.getElem?_append_right (by simp; omega), List.getElem?_replicate]
        split <;> rfl
    have hlr := r.length
    have r0 : RepE B F1 H (L2.start N (.ref gA :: ws)) (initG N.length gA n ds) := by
      refine ⟨by simp [L2.start, initG, hlr], fun i => ?_, fun i j l h1 h2 => ?_⟩
      · cases i with
        | zero => exact ⟨rfl, hF, hBg, a, b, c, hH, ok⟩
        | succ i =>
          unfold initG L2.start
          rw [List.getD_cons_succ, List.map_cons, List.cons_append, List.getD_cons_succ, List.getD_eq_getElem?_getD, List.getD_eq_getElem?_getD]
          by_cases hi : i < ds.length
          · rw [List.getElem?_append_left (by simp; omega), List.getElem?_append_left (by simpa using hi), List.getElem?_map, List.getElem?_map, List.getElem?_eq_getElem hi]
            obtain ⟨v, h1, h2⟩ := r.get (List.getElem?_eq_getElem hi)
            rw [h1]
            exact ⟨v, rfl, h2⟩
          · rw [List.getElem?_append_right (by simp; omega), List.getElem?_append_right (by simp; omega), List.getElem?_replicate, List.getElem?_replicate, ite_none_sl]
            trivial
      · cases i with
        | zero =>
          cases j with
          | zero => rfl
          | succ j => rw [hat] at h2; cases h2
        | succ i => rw [hat] at h1; cases h1
    refine body cdv A outer s H E hr gA n ds n' R hg B F1 F1 H _ _ ⟨hBH, Ex.refl F1, e, fun z h => .inl h⟩ r0 ⟨fun F2 H2 σ2 ρ2 I2 e2 r2 k => k.elim, fun F2 H2 σ2 ρ2 v d' I2 e2 r2 rv k => ?_, fun F2 H2 σ2 ρ2 I2 e2 r2 k => k.elim, fun F2 H2 σ2 ρ2 I2 e2 r2 k => k.elim⟩
    obtain ⟨rd, m, hm, k⟩ := k
    obtain ⟨_, hF2, _, a', b', c', hH2, ok2⟩ := r2.gen k
    refine q v F2 H2 d' a' b' c' (fun z o hz ho => I2.bh z o (by rw [hBn z hz]; exact ho)) e2 I2.fh (fun z hz => ?_) hH2 (ok2.mono hm) rv rd
    rcases I2.new z hz with w | w
    · exact .inl w
    · by_cases h : z = gA
      · rw [h, hF2] at hz; exact absurd rfl hz
      · rw [hBn z h] at w; exact .inr w
end
end Cv
end
section
set_option Elab.async false
set_option linter.all false
set_option maxRecDepth 100000
set_option maxHeartbeats 4000000
namespace Cv
open PySem L2 Evl
section
variable {X : Fm} {ρ : Env} {P : Post} {a b c e tg it elt : Expr} {st : Stmt} {sts rest body els : List Stmt} {es : List Expr} {pos p : Pos} {d : D} {ds : List D} {n : Nat} {src : Nat → D} {i j : Int}
/-! ### a, b = x, y with plain names -/
inductive Rs where
  | sh (d : D)
  | nw (ds : List D)
def Rs.mk (l : Addr) : Rs → Option Sl
  | .sh d => some (.sh d)
  | .nw ds => some (.own l ds)
/-- a value that is data, or a new list (Ho: the heap ahead) -/
def RsOk (F Ho H : Hp) (v : V) (l : Addr) : Rs → Prop
  | .sh d => Rep F v d
  | .nw ds => v = .ref l ∧ F l = none ∧ Ho l = none ∧ ∃ xs, H l = some (.lst xs) ∧ Reps F xs ds
def DR (t : TE) (ρ : Env) (r : Rs) : Prop := ∀ (B F H : Hp) (σ : L2.St), Ex F H → RepE B F H σ ρ → ∀ Q : VK, (∀ v l F2 H2, Grow F H F2 H2 → RsOk F2 H H2 v l r → Q v H2) → t σ H Q
abbrev GR (X : Fm) (e : Expr) (ρ : Env) (r : Rs) : Prop := DR (aE X e) ρ r
theorem r_sh (h : GE X e ρ d) : GR X e ρ (.sh d) := fun B F H σ ex r Q q => h B F H σ ex r Q fun v F2 H2 g rv => q v 0 F2 H2 g rv
theorem r_nw (h : GN X e ρ ds) : GR X e ρ (.nw ds) := fun B F H σ ex r Q q => h B F H σ ex r Q fun l xs F2 H2 g h1 h2 h3 h4 => q (.ref l) l F2 H2 g ⟨rfl, h1, h2, xs, h3, h4⟩
theorem RsOk.grow {F Ho H F2 H2 : Hp} {v : V} {l : Addr} {r : Rs} (h : RsOk F Ho H v l r) (g : Grow F H F2 H2) : RsOk F2 Ho H2 v l r := by
  cases r with
  | sh d => exact Rep.mono g.ff h
  | nw ds =>
    obtain ⟨h1, h2, h3, xs, h4, h5⟩ := h
    refine ⟨h1, ?_, h3, xs, g.hh _ _ h4, h5.mono g.ff⟩
    cases z : F2 l with
    | none => rfl
    | some u =>
      rcases g.new l (by rw [z]; simp) with w | w
      · exact absurd h2 w
      · rw [w] at h4; cases h4
theorem RepE.setR {B F Ho H : Hp} {σ : L2.St} {k : Nat} {v : V} {l : Addr} {r : Rs} (re : RepE B F H σ ρ) (hk : k < ρ.length) (eB : Ex B Ho) (h : RsOk F Ho H v l r) (fresh : ∀ m x, Sl.at (ρ.getD m none) = some x → ∀ ds, r = .nw ds → x ≠ l) : RepE B F H (σ.set k (some v)) (ρ.set k (r.mk l)) := by
  cases r with
  | sh d => exact re.setSh hk h
  | nw ds =>
    obtain ⟨rfl, h2, h3, xs, h4, h5⟩ := h
    exact re.setOwn hk h2 (fresh_back eB h3) h4 h5 fun m x hm => fresh m x hm ds rfl
theorem s_par2 (k m : Nat) {x y : Str} {px py pt : Pos} {kt k2 pt2} {r1 r2 : Rs} (h1 : GR X a ρ r1) (h2 : GR X b ρ r2) (hq : ∀ l1 l2, P.nx ((ρ.set k (r1.mk l1)).set m (r2.mk l2)))
    (hk : k < ρ.length := by exact Nat.le_of_ble_eq_true rfl) (hm : m < ρ.length := by exact Nat.le_of_ble_eq_true rfl) (hkm : k ≠ m := by decide) (hnk : X.N[k]? = some x := by rfl) (hnm : X.N[m]? = some y := by rfl)
    (hx : ∀ j, (X.Y j).env.scope.names.lookup x = some .local := by intro _; rfl) (hy : ∀ j, (X.Y j).env.scope.names.lookup y = some .local := by intro _; rfl)
    (hw : ∀ j, swappedStores [.Tuple [.Name x px, .Name y py] kt pt] (.Tuple [a, b] k2 pt2) (X.Y j).env = pure (some [x, y]) := by intro _; rfl)
    (hs : ∀ j, swapsWithSole [.Tuple [.Name x px, .Name y py] kt pt] (.Tuple [a, b] k2 pt2) pos.line (X.Y j).env = pure false := by intro _; rfl) (st : noStars [a, b] = true := by rfl) :
    GS X (.Assign [.Tuple [.Name x px, .Name y py] kt pt] (.Tuple [a, b] k2 pt2) pos) ρ P := by
  have st' : noStar a = true ∧ noStar b = true := by simpa [noStars] using st
  refine gs_by (fun j => ps_par (X.calm j) (by rw [X.hN j]; exact X.nd) (by rw [X.hN j]; exact hnk) (by rw [X.hN j]; exact hnm) hkm (hx j) (hy j) (pa_cons (aE_ok j) (pa_cons (aE_ok j) pa_nil (star_of st'.2)) (star_of st'.1)) (hw j) (hs j)) fun B F0 F H σ D' I r f => ?_
  refine h1 B F H σ I.fh r _ fun v l1 F2 H2 g ok1 => h2 B F2 H2 σ g.fh (r.grow g) _ fun u l2 F3 H3 g3 ok2 => ⟨v, u, rfl, ?_⟩
  have ok1' := ok1.grow g3
  have rr := (r.grow g).grow g3
  have old : ∀ z x, Sl.at (ρ.getD z none) = some x → ∃ o, H x = some o := fun z x hz => ((r.ok z).held hz).2.2
  have s1 := rr.setR hk I.bh ok1' fun z x hz ds e q => by
    obtain ⟨xs, hx⟩ := old z x hz
    subst e
    obtain ⟨_, _, h3, _⟩ := ok1
    rw [q, h3] at hx; cases hx
  refine f.nx F3 H3 _ _ ((I.grow g).grow g3) (g.ff.trans g3.ff) (s1.setR (by simpa using hm) (I.bh.trans g.hh) ok2 fun z x hz ds e q => ?_) (hq l1 l2)
  subst e
  obtain ⟨_, _, h3, _⟩ := ok2
  rw [getD_set _ _ _ _ _ hk] at hz
  by_cases hzk : z = k
  · rw [if_pos hzk] at hz
    cases r1 with
    | sh d => simp [Rs.mk, Sl.at] at hz
    | nw ds1 =>
      simp [Rs.mk, Sl.at] at hz
      obtain ⟨_, _, _, xs, h4, _⟩ := ok1
      rw [hz, q, h3] at h4; cases h4
  · rw [if_neg hzk] at hz
    obtain ⟨xs, hx⟩ := old z x hz
    have := g.hh _ _ hx
    rw [q, h3] at this; cases this
theorem s_par3 (k m n : Nat) {x y z : Str} {px py pz pt : Pos} {kt k2 pt2} {r1 r2 r3 : Rs} (h1 : GR X a ρ r1) (h2 : GR X b ρ r2) (h3 : GR X c ρ r3) (hq : ∀ l1 l2 l3, P.nx (((ρ.set k (r1.mk l1)).set m (r2.mk l2)).set n (r3.mk l3)))
    (hk : k < ρ.length := by exact Nat.le_of_ble_eq_true rfl) (hm : m < ρ.length := by exact Nat.le_of_ble_eq_true rfl) (hn : n < ρ.length := by exact Nat.le_of_ble_eq_true rfl) (hkm : k ≠ m := by decide) (hkn : k ≠ n := by decide) (hmn : m ≠ n := by decide) (hnk : X.N[k]? = some x := by rfl) (hnm : X.N[m]? = some y := by rfl) (hnn : X.N[n]? = some z := by rfl)
    (hx : ∀ j, (X.Y j).env.scope.names.lookup x = some .local := by intro _; rfl) (hy : ∀ j, (X.Y j).env.scope.names.lookup y = some .local := by intro _; rfl) (hz : ∀ j, (X.Y j).env.scope.names.lookup z = some .local := by intro _; rfl)
    (hw : ∀ j, swappedStores [.Tuple [.Name x px, .Name y py, .Name z pz] kt pt] (.Tuple [a, b, c] k2 pt2) (X.Y j).env = pure (some [x, y, z]) := by intro _; rfl)
    (hs : ∀ j, swapsWithSole [.Tuple [.Name x px, .Name y py, .Name z pz] kt pt] (.Tuple [a, b, c] k2 pt2) pos.line (X.Y j).env = pure false := by intro _; rfl) (st : noStars [a, b, c] = true := by rfl) :
    GS X (.Assign [.Tuple [.Name x px, .Name y py, .Name z pz] kt pt] (.Tuple [a, b, c] k2 pt2) pos) ρ P := by
  have st' : noStar a = true ∧ noStar b = true ∧ noStar c = true := by simpa [noStars] using st
  refine gs_by (fun j => ps_par3 (X.calm j) (by rw [X.hN j]; exact X.nd) (by rw [X.hN j]; exact hnk) (by rw [X.hN j]; exact hnm) (by rw [X.hN j]; exact hnn) hkm hkn hmn (hx j) (hy j) (hz j) (pa_cons (aE_ok j) (pa_cons (aE_ok j) (pa_cons (aE_ok j) pa_nil (star_of st'.2.2)) (star_of st'.2.1)) (star_of st'.1)) (hw j) (hs j)) fun B F0 F H σ D' I r f => ?_
  refine h1 B F H σ I.fh r _ fun v l1 F2 H2 g ok1 => h2 B F2 H2 σ g.fh (r.grow g) _ fun u l2 F3 H3 g3 ok2 => h3 B F3 H3 σ g3.fh ((r.grow g).grow g3) _ fun w l3 F4 H4 g4 ok3 => ⟨v, u, w, rfl, ?_⟩
  have ok1' := (ok1.grow g3).grow g4
  have ok2' := ok2.grow g4
  have rr := ((r.grow g).grow g3).grow g4
  have old : ∀ z x, Sl.at (ρ.getD z none) = some x → ∃ o, H x = some o := fun z x hz => ((r.ok z).held hz).2.2
  have s1 := rr.setR hk I.bh ok1' fun z x hz ds e q => by
    obtain ⟨xs, hx⟩ := old z x hz
    subst e
    obtain ⟨_, _, h3, _⟩ := ok1
    rw [q, h3] at hx; cases hx
  have at1 : ∀ (z : Nat) (x : Addr), Sl.at ((ρ.set k (r1.mk l1)).getD z none) = some x → ∃ o, H2 x = some o := fun z x hz => by
    rw [getD_set _ _ _ _ _ hk] at hz
    by_cases hzk : z = k
    · rw [if_pos hzk] at hz
      cases r1 with
      | sh d => simp [Rs.mk, Sl.at] at hz
      | nw ds1 =>
        simp [Rs.mk, Sl.at] at hz
        obtain ⟨_, _, _, xs, h4, _⟩ := ok1
        rw [hz] at h4; exact ⟨_, h4⟩
    · rw [if_neg hzk] at hz
      obtain ⟨xs, hx⟩ := old z x hz
      exact ⟨xs, g.hh _ _ hx⟩
  have s2 := s1.setR (k := m) (r := r2) (by simpa using hm) (I.bh.trans g.hh) ok2' fun z x hz ds e q => by
    obtain ⟨xs, hx⟩ := at1 z x hz
    subst e
    obtain ⟨_, _, h3, _⟩ := ok2
    rw [q, h3] at hx; cases hx
  have at2 : ∀ (z : Nat) (x : Addr), Sl.at (((ρ.set k (r1.mk l1)).set m (r2.mk l2)).getD z none) = some x → ∃ o, H3 x = some o := fun z x hz => by
    rw [getD_set _ _ _ _ _ (by simpa using hm)] at hz
    by_cases hzk : z = m
    · rw [if_pos hzk] at hz
      cases r2 with
      | sh d => simp [Rs.mk, Sl.at] at hz
      | nw ds1 =>
        simp [Rs.mk, Sl.at] at hz
        obtain ⟨_, _, _, xs, h4, _⟩ := ok2
        rw [hz] at h4; exact ⟨_, h4⟩
    · rw [if_neg hzk] at hz
      obtain ⟨xs, hx⟩ := at1 z x hz
      exact ⟨xs, g3.hh _ _ hx⟩
  refine f.nx F4 H4 _ _ (((I.grow g).grow g3).grow g4) ((g.ff.trans g3.ff).trans g4.ff) (s2.setR (by simpa using hn) ((I.bh.trans g.hh).trans g3.hh) ok3 fun z x hz ds e q => ?_) (hq l1 l2 l3)
  obtain ⟨xs, hx⟩ := at2 z x hz
  subst e
  obtain ⟨_, _, h3, _⟩ := ok3
  rw [q, h3] at hx; cases hx

/-! ### drawing expressions -/
theorem xa_nil {R : Env → List D → Prop} (h : R ρ []) : GXA X [] ρ R := gxa_by (fun _ => pa_nil) fun B F0 F H σ I r Q q => q [] F H ρ [] I (Ex.refl F) r .nil h
theorem xa_cons {R : Env → List D → Prop} (h : GX X a ρ fun ρ1 d => GXA X es ρ1 fun ρ2 ds => R ρ2 (d :: ds)) (st : noStar a = true := by rfl) : GXA X (a :: es) ρ R :=
  gxa_by (fun _ => pa_cons (aE_ok _) (aA_ok _) (star_of st)) fun B F0 F H σ I r Q q => h B F0 F H σ I r _ fun v F2 H2 ρ1 d I2 e2 r2 rv k => k B F0 F2 H2 σ I2 r2 _ fun vs F3 H3 ρ2 ds I3 e3 r3 rvs k3 => q (v :: vs) F3 H3 ρ2 (d :: ds) I3 (e2.trans e3) r3 (.cons (rv.mono e3) rvs) k3
theorem In0.lay {B F0 F H : Hp} {o : Addr} {u : HO} (I : In0 B F0 F H) (h : H o = none) : In0 B F0 (upd F o u) (upd H o u) := I.grow (Grow.lay I.fh h)
theorem x_lst {R : Env → D → Prop} (h : GXA X es ρ fun ρ2 ds => ds.length ≤ 100000 ∧ R ρ2 (.lst ds)) : GX X (.List es pos) ρ R :=
  gx_by (fun _ => pe_lst (aA_ok _)) fun B F0 F H σ I r Q q => h B F0 F H σ I r _ fun vs F2 H2 ρ2 ds I2 e2 r2 rvs k => ⟨sz_of (by rw [rvs.length]; exact k.1), fun o ho => by
    have gl := Grow.lay (o := .lst vs) I2.fh ho
    exact q (.ref o) _ _ ρ2 _ (I2.grow gl) (e2.trans gl.ff) (r2.grow gl) (.lst upd_same (rvs.mono gl.ff)) k.2⟩
theorem x_tup {R : Env → D → Prop} {kk : Nat} (h : GXA X es ρ fun ρ2 ds => ds.length ≤ 100000 ∧ R ρ2 (.tup ds)) : GX X (.Tuple es kk pos) ρ R :=
  gx_by (fun _ => pe_tup (aA_ok _)) fun B F0 F H σ I r Q q => h B F0 F H σ I r _ fun vs F2 H2 ρ2 ds I2 e2 r2 rvs k => ⟨sz_of (by rw [rvs.length]; exact k.1), fun o ho => by
    have gl := Grow.lay (o := .tup vs) I2.fh ho
    exact q (.ref o) _ _ ρ2 _ (I2.grow gl) (e2.trans gl.ff) (r2.grow gl) (.tup upd_same (rvs.mono gl.ff)) k.2⟩
theorem x_cat {R : Env → D → Prop} (h : GX X a ρ fun ρ1 d1 => GX X b ρ1 fun ρ2 d2 => ∃ ds es, d1 = .lst ds ∧ d2 = .lst es ∧ ds.length + es.length ≤ 100000 ∧ R ρ2 (.lst (ds ++ es))) : GX X (.BinOp a .Add b pos) ρ R :=
  gx_by (fun _ => pe_op op_cat (aE_ok _) (aE_ok _)) (dx_op (dx_mono h fun ρ1 d1 k => dx_mono k fun ρ2 d2 ⟨ds, es, e1, e2, hz, k⟩ => ⟨.lst (ds ++ es), by
    subst e1 e2
    intro F H v u e hv hu Q q
    obtain ⟨l, xs, rfl, h1, r1⟩ := hv.lst_inv
    obtain ⟨m, ys, rfl, h2, r2⟩ := hu.lst_inv
    refine ⟨l, m, xs, ys, rfl, rfl, e _ _ h1, e _ _ h2, sz_of (by rw [r1.length, r2.length]; exact hz), fun o ho => ?_⟩
    have gl := Grow.lay (o := .lst (xs ++ ys)) e ho
    exact q (.ref o) _ _ gl (.lst upd_same ((r1.append r2).mono gl.ff)), k⟩))
theorem x_ixL {R : Env → D → Prop} (h : GX X a ρ fun ρ1 d1 => GX X b ρ1 fun ρ2 d2 => ∃ ds i d, d1 = .lst ds ∧ d2 = .int i ∧ atI ds i = some d ∧ R ρ2 d) (hs : noSl b = true := by rfl) : GX X (.Subscript a b pos) ρ R :=
  gx_by (t := tOp (rIxL X.K) (aE X a) (aE X b)) (fun j => pe_ix (by rw [← X.hK j]; exact ix_list) (aE_ok j) (aE_ok j) (plainIx_of hs)) (dx_op (dx_mono h fun ρ1 d1 k => dx_mono k fun ρ2 d2 ⟨ds, i, d, e1, e2, hd, k⟩ => ⟨d, by
    subst e1 e2
    intro F H v u e hv hu Q q
    obtain ⟨l, xs, rfl, h1, r1⟩ := hv.lst_inv
    rw [hu.int_inv]
    obtain ⟨w, h2, r2⟩ := reps_atI r1 hd
    exact ⟨l, xs, i, w, rfl, rfl, SqL.of (e _ _ h1), h2, q w F H (Grow.refl e) r2⟩, k⟩))
theorem x_add {R : Env → D → Prop} (h : GX X a ρ fun ρ1 d1 => GX X b ρ1 fun ρ2 d2 => ∃ i j, d1 = .int i ∧ d2 = .int j ∧ R ρ2 (.int (i + j))) : GX X (.BinOp a .Add b pos) ρ R :=
  gx_by (fun _ => pe_op op_add (aE_ok _) (aE_ok _)) (dx_op (dx_mono h fun ρ1 d1 k => dx_mono k fun ρ2 d2 ⟨i, j, e1, e2, k⟩ => ⟨.int (i + j), by subst e1 e2; exact rd_I0 fun _ => .int _, k⟩))
theorem x_sub {R : Env → D → Prop} (h : GX X a ρ fun ρ1 d1 => GX X b ρ1 fun ρ2 d2 => ∃ i j, d1 = .int i ∧ d2 = .int j ∧ R ρ2 (.int (i - j))) : GX X (.BinOp a .Sub b pos) ρ R :=
  gx_by (fun _ => pe_op op_sub (aE_ok _) (aE_ok _)) (dx_op (dx_mono h fun ρ1 d1 k => dx_mono k fun ρ2 d2 ⟨i, j, e1, e2, k⟩ => ⟨.int (i - j), by subst e1 e2; exact rd_I0 fun _ => .int _, k⟩))
theorem x_call {f : List D → D → Prop} {R : Env → D → Prop} {k : Nat} {x : Str} {ps : List Str} (O : Own X.P X.w X.K X.mg X.base k x ps (spD f)) (hr : Room k X.A) (h : GXA X (e :: es) ρ fun ρ2 ds => ∃ d, f ds d ∧ R ρ2 d)
    (hg : ∀ j, Gl (X.Y j) x := by intro _; rfl) (hd : (x == ("__debug__" : Str)) = false := by decide) (st : noStars (e :: es) = true := by rfl) : GX X (.Call (.Name x p) (e :: es) [] pos) ρ R := by
  obtain ⟨fA, fd, F, hm, hk, hb⟩ := O.ex
  have st' : noStar e = true ∧ noStars es = true := by simpa [noStars] using st
  refine gx_by (t := tCall (spD f) [] E0 (aA X (e :: es))) (fun j => pe_call (FnOk.at F j) (by rw [X.hA j]; exact hr) (hg j) (by rw [X.hmg j]; exact hm) (by rw [X.hK j]; exact hk) (by rw [X.hK j]; exact hb) .nil pass0 (aA_ok j) hd (star_of st'.1) (stars_any st'.2)) fun B F0 F H σ I r Q q => ?_
  refine h B F0 F H σ I r _ fun vs F2 H2 ρ2 ds I2 e2 r2 rv ⟨d, hf, k⟩ => ?_
  exact ⟨F2, ds, d, I2.fh, by rw [List.append_nil]; exact rv, hf, fun v F3 H3 g3 rv3 => q v F3 H3 ρ2 d (I2.grow g3) (e2.trans g3.ff) (r2.grow g3) rv3 k⟩
theorem x_ifT {R : Env → D → Prop} {k : Bool} (h : GT X c ρ k) (h1 : k = true → GX X a ρ R) (h2 : k = false → GX X b ρ R) : GX X (.IfExp c a b pos) ρ R :=
  gx_by (fun j => pe_ifExp (aT_ok j) (aE_ok j) (aE_ok j)) fun B F0 F H σ I r Q q => h B F H σ I.fh r _ fun F2 H2 g => by
    cases k with
    | true => exact h1 rfl B F0 F2 H2 σ (I.grow g) (r.grow g) Q fun v F3 H3 ρ2 d I3 e3 => q v F3 H3 ρ2 d I3 (g.ff.trans e3)
    | false => exact h2 rfl B F0 F2 H2 σ (I.grow g) (r.grow g) Q fun v F3 H3 ρ2 d I3 e3 => q v F3 H3 ρ2 d I3 (g.ff.trans e3)
theorem xt_eqI {R : Env → Bool → Prop} (h : GX X a ρ fun ρ1 d1 => GX X b ρ1 fun ρ2 d2 => ∃ i j, d1 = .int i ∧ d2 = .int j ∧ R ρ2 (decide (i = j))) : GXT X (.Compare a [.Eq] [b] pos) ρ R :=
  gxt_by (fun _ => pt_cmpR op_eq (aE_ok _) (aE_ok _) (nomark _)) fun B F0 F H σ I r Q q => dx_op (R := fun ρ2 d => ∃ k, d = .bl k ∧ R ρ2 k) (dx_mono h fun ρ1 d1 k => dx_mono k fun ρ2 d2 ⟨i, j, e1, e2, k⟩ => ⟨.bl (decide (i = j)), by subst e1 e2; exact rd_eqI, _, rfl, k⟩) B F0 F H σ I r _ fun v F2 H2 ρ2 d I2 e2 r2 rv ⟨k, ek, hk⟩ => by
    subst ek
    exact ⟨k, rv.bl_inv, q k F2 H2 ρ2 I2 e2 r2 hk⟩
theorem xt_and {R : Env → Bool → Prop} {k : Bool} (h1 : GT X a ρ k) (h2 : k = true → GXT X b ρ R) (h3 : k = false → R ρ false) : GXT X (.BoolOp .And [a, b] pos) ρ R :=
  gxt_by (fun j => PW.pt (pw_and (aT_ok j) (pw_and1 (aT_ok j)))) fun B F0 F H σ I r Q q => h1 B F H σ I.fh r _ fun F2 H2 g => by
    cases k with
    | false => exact q false F2 H2 ρ (I.grow g) g.ff (r.grow g) (h3 rfl)
    | true => exact h2 rfl B F0 F2 H2 σ (I.grow g) (r.grow g) Q fun k F3 H3 ρ2 I3 e3 => q k F3 H3 ρ2 I3 (g.ff.trans e3)

/-! ### drawing comprehensions -/
def DIX (wi : TI) (ρ : Env) (R : Env → Nat → (Nat → D) → Prop) : Prop := ∀ (B F0 F H : Hp) (σ : L2.St), In0 B F0 F H → RepE B F H σ ρ → ∀ K : It → Hp → Prop, (∀ J F2 H2 ρ2 n src, In0 B F0 F2 H2 → Ex F F2 → RepE B F2 H2 σ ρ2 → ItOk J F2 n src → R ρ2 n src → K J H2) → wi σ H K
theorem ix_of {wi : TI} {R : Env → Nat → (Nat → D) → Prop} (h : DI wi ρ n src) (k : R ρ n src) : DIX wi ρ R := fun B F0 F H σ I r K q => h B F H σ I.fh r K fun J F2 H2 g ok => q J F2 H2 ρ n src (I.grow g) g.ff (r.grow g) ok k
theorem ix_range1 {R : Env → Nat → (Nat → D) → Prop} (bu : BuAll X.mg) (ha : GX X a ρ fun ρ2 d => ∃ n : Int, d = .int n ∧ -1000000 ≤ n ∧ n ≤ 1000000 ∧ R ρ2 n.toNat (fun i => .int ((0 : Int) + (i : Int)))) (hg : ∀ j, Gl (X.Y j) "range" := by intro _; rfl) (st : noStar a = true := by rfl) : DIX (aI X tg (.Call (.Name "range" p) [a] [] pos)) ρ R := fun B F0 F H σ I r K q =>
  ⟨iRng1 (aA X [a]), fun j => pi_range1 (hg j) (by rw [X.hmg j]; exact bu.range) (aA_ok j) (star_of st), (show GXA X [a] ρ (fun ρ2 ds => ∃ n : Int, ds = [.int n] ∧ -1000000 ≤ n ∧ n ≤ 1000000 ∧ R ρ2 n.toNat (fun i => .int ((0 : Int) + (i : Int)))) from xa_cons (dx_mono ha fun ρ2 d ⟨n, e, h1, h2, h3⟩ => xa_nil ⟨n, by rw [e], h1, h2, h3⟩) st) B F0 F H σ I r _ fun vs F2 H2 ρ2 ds I2 e2 r2 rv ⟨n, e, h1, h2, h3⟩ => by
    subst e
    obtain ⟨v, ws, rfl, r1, r3⟩ := rv.cons_inv
    cases r3.nil_inv
    rw [r1.int_inv]
    exact ⟨n, rfl, by omega, by omega, q _ F2 H2 ρ2 _ _ I2 e2 r2 (itr_ok 0 n.toNat F2) h3⟩⟩
theorem RepE.unwiped {B F H : Hp} {σ : L2.St} {vs : List Nat} {ρ1 : Env} (r : RepE B F H (wipe σ vs) ρ1) (h : ∀ i ∈ vs, ρ1.getD i none = none) : RepE B F H σ ρ1 := by
  refine ⟨by rw [← r.len, wipe_length], fun i => ?_, r.apart⟩
  by_cases hi : i ∈ vs
  · rw [h i hi]; trivial
  · have := r.ok i
    rw [List.getD_eq_getElem?_getD, wipe_get, if_neg fun z => hi z.1] at this
    rw [List.getD_eq_getElem?_getD]; exact this
theorem wipeE_none (ρ : Env) : ∀ (vs : List Nat) (i : Nat), i ∈ vs → (wipeE ρ vs).getD i none = none
  | [], i, h => by simp at h
  | v :: vs, i, h => by
    unfold wipeE
    by_cases hv : v < (wipeE ρ vs).length
    · rw [getD_set _ _ _ _ _ hv]
      by_cases e : i = v
      · rw [if_pos e]
      · rw [if_neg e]
        exact wipeE_none ρ vs i ((List.mem_cons.mp h).resolve_left e)
    · rw [List.set_eq_of_length_le (by omega)]
      by_cases e : i = v
      · subst e
        rw [List.getD_eq_getElem?_getD, List.getElem?_eq_none (by omega)]; rfl
      · exact wipeE_none ρ vs i ((List.mem_cons.mp h).resolve_left e)
theorem wipeE_other (ρ : Env) : ∀ (vs : List Nat) (i : Nat), i ∉ vs → (wipeE ρ vs).getD i none = ρ.getD i none
  | [], i, _ => rfl
  | v :: vs, i, h => by
    unfold wipeE
    have hv : i ≠ v := fun e => h (by simp [e])
    rw [← wipeE_other ρ vs i fun z => h (List.mem_cons_of_mem _ z)]
    simp only [List.getD]
    rw [List.getElem?_set_ne (Ne.symm hv)]
theorem RepE.behind {B B' F H : Hp} {σ : L2.St} (r : RepE B F H σ ρ) (h : ∀ i l, Sl.at (ρ.getD i none) = some l → B' l = none) : RepE B' F H σ ρ := by
  refine ⟨r.len, fun i => ?_, r.apart⟩
  have h1 := r.ok i
  have h2 := h i
  generalize ρ.getD i none = s at h1 h2
  cases s with
  | none => trivial
  | some s =>
    cases s with
    | sh d => exact h1
    | own l ds =>
      obtain ⟨k1, k2, k3, k4⟩ := h1
      exact ⟨k1, k2, h2 l rfl, k4⟩
    | gen g n =>
      obtain ⟨k1, k2, k3, k4⟩ := h1
      exact ⟨k1, k2, h2 g rfl, k4⟩
    | ob l C fs =>
      obtain ⟨k1, k2, k3, k4⟩ := h1
      exact ⟨k1, k2, h2 l rfl, k4⟩
theorem dx_lc {scope : Scope} {RI : Env → Nat → (Nat → D) → Prop} {R : Env → D → Prop} (own : List (Str × Nat)) (ok : ∀ j, BlkOk X.N (X.Y j).env.scope scope own) (hi : DIX (aI X tg it) ρ RI)
    (h : ∀ ρ1 n src, RI ρ1 n src → n ≤ 100000 ∧ ∃ Iv : Nat → Env → List D → Prop, Iv 0 (wipeE ρ1 (own.map (·.2))) [] ∧ (∀ i ρ2 acc, i < n → Iv i ρ2 acc → acc.length = i → ∃ ts ρ3, (∀ t ∈ ts, t ∈ own.map (·.2)) ∧ DG (aG (blkF X scope) tg) (src i) ts ρ2 ρ3 ∧ GX (blkF X scope) elt ρ3 fun ρ4 d => Iv (i + 1) (wipeE ρ4 (own.map (·.2))) (acc ++ [d])) ∧
      ∀ ρ2 acc, Iv n ρ2 acc → acc.length = n → R ρ2 (.lst acc))
    (hf : ∀ j x, foldedSetIterable it (X.Y j).env x = pure x) : DX (aLc X elt tg it [] scope) ρ R := fun B F0 F H σ I r Q q => by
  refine ⟨own, aI X tg it, aG (blkF X scope) tg, tYes, aE (blkF X scope) elt, aI_ok, fun j => by rw [X.hN j]; exact ok j, aG_ok, fun _ => pts_nil, aE_ok, hf, ?_⟩
  refine hi B F0 F H σ I r _ fun J F1 H1 ρ1 n src I1 e1 r1 ik ri => ?_
  obtain ⟨hn, Iv, h0, hs, hd⟩ := h ρ1 n src ri
  intro Dd hD
  have hBD : B Dd = none := fresh_back I1.bh hD
  have hFD : F1 Dd = none := fresh_back I1.fh hD
  have step0 : ∀ i l, Sl.at (ρ1.getD i none) = some l → l ≠ Dd := fun i l hl z => by
    obtain ⟨_, _, xs, hx⟩ := (r1.ok i).held hl
    rw [z, hD] at hx; cases hx
  refine ⟨fun i m H' => m = n - i ∧ i ≤ n ∧ ∃ F' acc vacc ρ', In0 B F0 F' H' ∧ Ex F1 F' ∧ F' Dd = none ∧ H' Dd = some (.lst vacc) ∧ Reps F' vacc acc ∧ acc.length = i ∧ RepE B F' H' (wipe σ (own.map (·.2))) ρ' ∧ (∀ k ∈ own.map (·.2), ρ'.getD k none = none) ∧ (∀ k l, Sl.at (ρ'.getD k none) = some l → l ≠ Dd) ∧ Iv i ρ' acc, ⟨n, by simp, Nat.zero_le _, F1, [], [], _, ⟨Ex.mut I1.bh hBD, I1.ff, fun z u hz => ?_, I1.new⟩, Ex.refl F1, hFD, upd_same, .nil, rfl, (r1.keep (Ex.refl F1) fun i l hl => ⟨upd_ne (step0 i l hl), ((r1.ok i).held hl).1⟩).wiped _, fun k hk => wipeE_none _ _ _ hk, fun k l hl => ?_, h0⟩, ?_⟩
  · have : z ≠ Dd := fun w => by rw [w, hFD] at hz; cases hz
    rw [upd_ne this]; exact I1.fh z u hz
  · by_cases hk : k ∈ own.map (·.2)
    · rw [wipeE_none _ _ _ hk] at hl; simp [Sl.at] at hl
    · rw [wipeE_other _ _ _ hk] at hl
      exact step0 k l hl
  rintro i m H' ⟨rfl, hin, F', acc, vacc, ρ', I', e', hF', hH', ra, hla, r', hw', hne, iv⟩
  by_cases hlt : i < n
  · refine .inr ⟨ik.go i F' H' e' I'.fh hlt, fun H'' => ∃ F' acc vacc ρ', In0 B F0 F' H'' ∧ Ex F1 F' ∧ F' Dd = none ∧ H'' Dd = some (.lst vacc) ∧ Reps F' vacc acc ∧ acc.length = i + 1 ∧ RepE B F' H'' (wipe σ (own.map (·.2))) ρ' ∧ (∀ k ∈ own.map (·.2), ρ'.getD k none = none) ∧ (∀ k l, Sl.at (ρ'.getD k none) = some l → l ≠ Dd) ∧ Iv (i + 1) ρ' acc, fun H'' z => ⟨n - (i + 1), by omega, rfl, hlt, z⟩, fun x H'' y => ?_⟩
    obtain ⟨F'', g2, rx⟩ := ik.yld i F' H' x H'' e' I'.fh hlt y
    obtain ⟨ts, ρ3, hts, hg, he⟩ := hs i ρ' acc hlt iv hla
    generalize hB' : upd B Dd (.lst vacc) = B'
    have hB'D : B' Dd = some (.lst vacc) := by rw [← hB']; exact upd_same
    have hB'e : ∀ z, z ≠ Dd → B' z = B z := fun z hz => by rw [← hB']; exact upd_ne hz
    have hB'n : ∀ z, B' z = none → B z = none := fun z hz => by
      by_cases w : z = Dd
      · rw [w]; exact hBD
      · rw [hB'e z w] at hz; exact hz
    have I2 := I'.grow g2
    have hD2 : H'' Dd = some (.lst vacc) := g2.hh _ _ hH'
    have hFD2 : F'' Dd = none := by
      cases z : F'' Dd with
      | none => rfl
      | some u =>
        rcases g2.new Dd (by rw [z]; simp) with w | w
        · exact absurd hF' w
        · rw [hH'] at w; cases w
    have hF0 : F0 Dd = none := fresh_back (I2.ff) hFD2
    have I3 : In0 B' F0 F'' H'' := ⟨fun z u hz => by
      by_cases w : z = Dd
      · rw [w] at hz ⊢; rw [hB'D] at hz; rw [hD2]; exact hz
      · rw [hB'e z w] at hz; exact I2.bh z u hz, I2.ff, I2.fh, fun z hz => by
      rcases I2.new z hz with w | w
      · exact .inl w
      · by_cases v : z = Dd
        · rw [v] at hz; exact absurd hFD2 hz
        · exact .inr (by rw [hB'e z v]; exact w)⟩
    have r3 : RepE B' F'' H'' (wipe σ (own.map (·.2))) ρ' := (r'.grow g2).behind fun k l hl => by
      obtain ⟨_, hb, xs, hx⟩ := (r'.ok k).held hl
      rw [hB'e l (hne k l hl)]; exact hb
    refine hg B' F'' H'' _ x I3.fh r3 rx _ fun σ2 r4 t4 => ⟨wipe_touch t4 hts, ?_⟩
    show aE (blkF X scope) elt σ2 H'' _
    refine he B' F0 F'' H'' σ2 I3 r4 _ fun v F5 H5 ρ5 d I5 e5 r5 rv k5 => ?_
    have hD5 : H5 Dd = some (.lst vacc) := I5.bh _ _ hB'D
    have hF5 : F5 Dd = none := by
      cases z : F5 Dd with
      | none => rfl
      | some u =>
        rcases I5.new Dd (by rw [z]; simp) with w | w
        · exact absurd hF0 w
        · rw [hB'D] at w; cases w
    have hne5 : ∀ k l, Sl.at (ρ5.getD k none) = some l → l ≠ Dd := fun k l hl z => by
      obtain ⟨_, hb, _⟩ := (r5.ok k).held hl
      rw [z, hB'D] at hb; cases hb
    refine ⟨vacc, hD5, sz_lt (by rw [ra.length, hla]; omega), F5, acc ++ [d], vacc ++ [v], _, ⟨fun z u hz => ?_, I5.ff, fun z u hz => ?_, fun z hz => ?_⟩, (e'.trans g2.ff).trans e5, hF5, upd_same, (ra.mono (g2.ff.trans e5)).append (.cons rv .nil), by simp [hla], ?_, fun k hk => wipeE_none _ _ _ hk, fun k l hl => ?_, k5⟩
    · have hzD : z ≠ Dd := fun w => by rw [w, hBD] at hz; cases hz
      rw [upd_ne hzD]
      exact I5.bh z u (by rw [hB'e z hzD]; exact hz)
    · have hzD : z ≠ Dd := fun w => by rw [w, hF5] at hz; cases hz
      rw [upd_ne hzD]; exact I5.fh z u hz
    · rcases I5.new z hz with w | w
      · exact .inl w
      · exact .inr (hB'n z w)
    · have r6 : RepE B F5 (upd H5 Dd (.lst (vacc ++ [v]))) σ2 ρ5 := ((r5.behind (B' := B) fun k l hl => hB'n l ((r5.ok k).held hl).2.1).keep (Ex.refl F5) fun k l hl => ⟨upd_ne (hne5 k l hl), ((r5.ok k).held hl).1⟩)
      have r7 := r6.wiped (own.map (·.2))
      rw [wipe_touch t4 hts] at r7
      exact r7
    · by_cases hk : k ∈ own.map (·.2)
      · rw [wipeE_none _ _ _ hk] at hl; simp [Sl.at] at hl
      · rw [wipeE_other _ _ _ hk] at hl
        exact hne5 k l hl
  · have e0 : i = n := by omega
    subst e0
    refine .inl ⟨ik.stop F' H' e' I'.fh, ?_⟩
    -- the list made is data from now on
    have r8 := r'.unwiped hw'
    have hE : Ex F' (upd F' Dd (.lst vacc)) := Ex.new hF'
    refine q (.ref Dd) (upd F' Dd (.lst vacc)) H' ρ' (.lst acc) ⟨I'.bh, I'.ff.trans hE, fun z u hz => ?_, fun z hz => ?_⟩ ((e1.trans e').trans hE) (r8.keep hE fun k l hl => ⟨rfl, ?_⟩) (.lst upd_same (ra.mono hE)) (hd ρ' acc iv hla)
    · by_cases w : z = Dd
      · rw [w] at hz ⊢; rw [upd_same] at hz; rw [hH']; exact hz
      · rw [upd_ne w] at hz; exact I'.fh z u hz
    · by_cases w : z = Dd
      · rw [w]; exact .inr hBD
      · rw [upd_ne w] at hz; exact I'.new z hz
    · rw [upd_ne (hne k l hl)]; exact ((r8.ok k).held hl).1
theorem x_lc {scope : Scope} {R : Env → D → Prop} (h : DX (aLc X elt tg it [] scope) ρ R) : GX X (.ListComp elt [⟨tg, it, [], 0⟩] scope pos) ρ R := gx_by (fun j => aLc_ok j) h
theorem s_setLcX (i : Nat) {scope : Scope} {y : Str} {py spos : Pos} (h : DX (aLc X elt tg it [] scope) ρ fun ρ2 d => P.nx (ρ2.set i (some (.sh d))) ∧ i < ρ2.length) (hy : X.N[i]? = some y := by rfl) (hyl : ∀ j, (X.Y j).env.scope.names.lookup y = some .local := by intro _; rfl)
    (hsw : ∀ j, swapsWith (.ListComp elt [⟨tg, it, [], 0⟩] scope pos) (some (.Name y py)) spos.line (X.Y j).env = pure true := by intro _; exact sw_true rfl rfl rfl (by decide +kernel)) : GS X (.Assign [.Name y py] (.ListComp elt [⟨tg, it, [], 0⟩] scope pos) spos) ρ P :=
  gs_by (aLcS_ok hy hyl hsw) fun B F0 F H σ D' I r f => h B F0 F H σ I r _ fun v F2 H2 ρ2 d I2 e2 r2 rv k => f.nx F2 H2 _ _ I2 e2 (r2.setSh k.2 rv) k.1
end
end Cv
end
section
set_option Elab.async false
set_option linter.all false
set_option maxRecDepth 100000
set_option maxHeartbeats 4000000
namespace Cv
open PySem L2 Evl
/-! ### slices with a step: xs[i::k] -/
def stepL {α : Type} (xs : List α) (i k : Nat) : List α :=
  (sliceRange (sliceBounds (some (i : Int)) none (some (k : Int)) xs.length).1 (sliceBounds (some (i : Int)) none (some (k : Int)) xs.length).2.1 (sliceBounds (some (i : Int)) none (some (k : Int)) xs.length).2.2).filterMap fun j => xs[j]?
theorem vals_filterMap {xs : List V} {us : List Value} (r : Vals xs us) : ∀ l : List Nat, Vals (l.filterMap fun j => xs[j]?) (l.filterMap fun j => us[j]?)
  | [] => .nil
  | j :: l => by
    have ih := vals_filterMap r l
    rw [List.filterMap_cons, List.filterMap_cons]
    cases e : xs[j]? with
    | none => rw [r.none_of e]; exact ih
    | some x =>
      obtain ⟨u, h1, h2⟩ := r.get e
      rw [h1]; exact .cons h2 ih
theorem reps_filterMap {F : Hp} {xs : List V} {ds : List D} (r : Reps F xs ds) : ∀ l : List Nat, Reps F (l.filterMap fun j => xs[j]?) (l.filterMap fun j => ds[j]?)
  | [] => .nil
  | j :: l => by
    have ih := reps_filterMap r l
    rw [List.filterMap_cons, List.filterMap_cons]
    cases e : ds[j]? with
    | none =>
      have hl := r.length
      rw [List.getElem?_eq_none_iff] at e
      rw [List.getElem?_eq_none (by omega)]; exact ih
    | some x =>
      obtain ⟨u, h1, h2⟩ := r.get e
      rw [h1]; exact .cons h2 ih
theorem fm_range {α : Type} (f : Nat → Option α) : ∀ c : Nat, (∀ m, m < c → (f m).isSome = true) → ((List.range c).filterMap f).length = c ∧ ∀ m, m < c → ((List.range c).filterMap f)[m]? = f m
  | 0, _ => ⟨rfl, fun m h => by omega⟩
  | c + 1, h => by
    obtain ⟨h1, h2⟩ := fm_range f c fun m hm => h m (by omega)
    have hc := h c (by omega)
    obtain ⟨y, hy⟩ := Option.isSome_iff_exists.mp hc
    rw [List.range_succ, List.filterMap_append, List.filterMap_cons, hy]
    refine ⟨by simp [h1], fun m hm => ?_⟩
    by_cases e : m < c
    · rw [List.getElem?_append_left (by omega)]; exact h2 m e
    · have : m = c := by omega
      subst this
      rw [List.getElem?_append_right (by omega), h1, Nat.sub_self, hy]; rfl
theorem stepL_get {α : Type} (xs : List α) (i k : Nat) (hk : 0 < k) (m : Nat) : (stepL xs i k)[m]? = xs[i + m * k]? := by
  have hk' : (k : Int) > 0 := by omega
  have hi : ¬ ((i : Int) < 0) := by omega
  have e : sliceBounds (some (i : Int)) none (some (k : Int)) xs.length = (max 0 (min (i : Int) xs.length), (xs.length : Int), (k : Int)) := by
    simp only [sliceBounds, Option.getD_some, hk', hi, if_true, if_false]
  unfold stepL
  rw [e]
  by_cases hlt : i < xs.length
  · have e1 : max 0 (min (i : Int) xs.length) = (i : Int) := by omega
    have e2 : (i : Int) < (xs.length : Int) := by omega
    simp only [sliceRange, e1, hk', e2, if_true, List.filterMap_map]
    generalize hc : (((xs.length : Int) - (i : Int) + (k : Int) - 1) / (k : Int)).toNat = c
    have iff : ∀ m : Nat, m < c ↔ i + m * k < xs.length := fun m => by
      have h1 : ((m : Int) + 1 ≤ ((xs.length : Int) - (i : Int) + (k : Int) - 1) / (k : Int)) ↔ ((m : Int) + 1) * (k : Int) ≤ (xs.length : Int) - (i : Int) + (k : Int) - 1 := Int.le_ediv_iff_mul_le (by omega)
      have h2 : ((m : Int) + 1) * (k : Int) = ((m * k : Nat) : Int) + (k : Int) := by rw [Int.add_mul, Int.one_mul]; simp
      rw [h2] at h1
      constructor
      · intro h
        have : (m : Int) + 1 ≤ ((xs.length : Int) - (i : Int) + (k : Int) - 1) / (k : Int) := by omega
        have := h1.mp this
        omega
      · intro h
        have := h1.mpr (by omega)
        omega
    have at_ : ∀ m : Nat, ((fun j => xs[j]?) ∘ fun (q : Nat) => ((i : Int) + (k : Int) * (q : Int)).toNat) m = xs[i + m * k]? := fun m => by
      have : ((i : Int) + (k : Int) * (m : Int)).toNat = i + m * k := by
        have : (k : Int) * (m : Int) = ((m * k : Nat) : Int) := by rw [Int.mul_comm]; simp
        rw [this]; omega
      show xs[((i : Int) + (k : Int) * (m : Int)).toNat]? = _
      rw [this]
    obtain ⟨h1, h2⟩ := fm_range (((fun j => xs[j]?) ∘ fun (q : Nat) => ((i : Int) + (k : Int) * (q : Int)).toNat)) c fun m hm => by
      rw [at_, List.getElem?_eq_getElem ((iff m).mp hm)]; rfl
    by_cases hm : m < c
    · rw [h2 m hm, at_]
    · rw [List.getElem?_eq_none (by omega), List.getElem?_eq_none (by
        have := mt (iff m).mpr hm
        omega)]
  · have e1 : max 0 (min (i : Int) xs.length) = (xs.length : Int) := by omega
    have e2 : ¬ ((xs.length : Int) < (xs.length : Int)) := by omega
    simp only [sliceRange, e1, hk', e2, if_true, if_false]
    rw [List.getElem?_eq_none (l := xs) (by omega)]
    rfl
theorem stepL_len {α : Type} (xs : List α) (i k : Nat) (hk : 0 < k) : (stepL xs i k).length ≤ xs.length := by
  refine Nat.le_of_not_lt fun h => ?_
  have h1 := stepL_get xs i k hk xs.length
  rw [List.getElem?_eq_getElem h, List.getElem?_eq_none (by
    have : xs.length * 1 ≤ xs.length * k := Nat.mul_le_mul_left _ hk
    omega)] at h1
  cases h1
def tSlS (K : PySem.W.Frag) (te tl ts : TE) : TE := fun σ H Q => te σ H fun x H1 => tPart tl σ H1 fun y H2 => tPart ts σ H2 fun z H3 => ∃ (a : Addr) (xs : List V) (i k : Nat), x = .ref a ∧ y = some (i : Int) ∧ z = some (k : Int) ∧ 0 < k ∧ SqL K H3 a xs ∧ ∀ p, H3 p = none → Q (.ref p) (upd H3 p (.lst (stepL xs i k)))
theorem pe_slS {X : Cx} {e lo sx : Expr} {te tl ts : TE} {p3 pos : Pos} (he : PE X e te) (hl : PE X lo tl) (hs : PE X sx ts) : PE X (.Subscript e (.Slice (some lo) none (some sx) p3) pos) (tSlS X.K te tl ts) := by
  refine ⟨fun pins s σ H Q I h => ?_⟩
  refine PyProof.Rows.Subscript_ (thn (he.run pins s σ H _ I h) fun v s1 ⟨x, H1, I1, r1, q1⟩ => ?_)
  refine wpAny_Slice (thn ((po_some hl).run pins s1 σ H1 _ I1 q1) fun vl s2 ⟨l, H2, I2, pl, q2⟩ => ?_)
  refine thn (po_none.run pins s2 σ H2 (fun o H3 => o = none ∧ H3 = H2) I2 ⟨rfl, rfl⟩) fun vu s3 ⟨u, H3, I3, pu, eu, e3⟩ => ?_
  subst eu e3
  refine thn ((po_some hs).run pins s3 σ H3 _ I3 q2) fun vs s4 ⟨o, H4, I4, ps, q4⟩ => ?_
  obtain ⟨a, xs, i, k, ex, el, eo, hk, hx, q⟩ := q4
  subst ex el eo
  cases r1
  have I5 : Inv X pins σ H4 { s4 with heap := s4.heap.push { cls := .type "slice", data := .fields #[vl, vu, vs] } } := I4.kept (t' := s4.toks) fun b ob z => Heap.get?_push_of_some _ z
  obtain ⟨its, r, ht, hz⟩ := I5.list hx
  have hlen := r.length
  have hgo : subscripted (.Slice (some lo) none (some sx) p3) false (.ref a) (.ref s4.heap.objs.size) = operate [.ref a, .ref s4.heap.objs.size] (getItem (.ref a) (.ref s4.heap.objs.size)) := by with_unfolding_all rfl
  refine PyProof.Rows.tail_any (value := e) ht.isList.typeIs PySem.slot_list_getitem.lookup ?_ hgo
  refine wpAny_getItem_list_slice ht.isList (Heap.IsSliceOf.new _ vl vu vs) pl pu ps (by
    intro z
    have := Option.some.inj z
    omega) ?_ (by rw [List.size_toArray]; omega)
  have pick : slicePick its.toArray (some (i : Int)) none (some (k : Int)) = (stepL its i k).toArray := by
    unfold slicePick stepL
    simp only [List.size_toArray, List.getElem?_toArray]
  rw [pick]
  have rv : Vals (stepL xs i k) (stepL its i k) := by
    unfold stepL
    rw [hlen]
    exact vals_filterMap r _
  have hl := stepL_len xs i k hk
  refine ⟨.ref _, _, I5.laid (t' := s4.toks) (o := .lst (stepL xs i k)) (fun b ob z => Heap.get?_push_of_some _ z) (Nat.le_refl _) ?_, rfl, q _ (I5.hok.fresh (Nat.le_refl _))⟩
  exact ⟨Nat.le_trans hl hz, _, 0, rv, Heap.get?_push_size _ rfl⟩
section
variable {X : Fm} {ρ : Env} {P : Post} {a b c e tg it elt : Expr} {pos p : Pos}
theorem gn_slS {ds : List D} {lo sx : Expr} {i k : Nat} {p3 : Pos} (ha : GE X a ρ (.lst ds)) (h1 : GE X lo ρ (.int (i : Int))) (h2 : GE X sx ρ (.int (k : Int))) (hk : 0 < k) : GN X (.Subscript a (.Slice (some lo) none (some sx) p3) pos) ρ (stepL ds i k) :=
  gn_by (t := tSlS X.K (aE X a) (aE X lo) (aE X sx)) (fun j => by rw [← X.hK j]; exact pe_slS (aE_ok j) (aE_ok j) (aE_ok j)) fun B F H σ ex r Q q =>
    ha B F H σ ex r _ fun v F2 H2 g rv => h1 B F2 H2 σ g.fh (r.grow g) _ fun u F3 H3 g3 ru => ⟨i, ru.int_inv, h2 B F3 H3 σ g3.fh ((r.grow g).grow g3) _ fun w F4 H4 g4 rw' => ⟨k, rw'.int_inv, by
      obtain ⟨l', xs, rfl, k1, r1⟩ := rv.lst_inv
      have gg := (g.trans g3).trans g4
      refine ⟨l', xs, i, k, rfl, rfl, rfl, hk, SqL.of (gg.fh _ _ (g4.ff _ _ (g3.ff _ _ k1))), fun m hm => ?_⟩
      refine q m _ F4 _ (gg.more (Ex.new hm)) (fresh_back gg.fh hm) (fresh_back gg.hh hm) upd_same ?_
      unfold stepL
      rw [r1.length]
      exact reps_filterMap (r1.mono (g3.ff.trans g4.ff)) _⟩⟩
theorem stepL_map {α β : Type} (f : α → β) (xs : List α) (i k : Nat) (hk : 0 < k) : stepL (xs.map f) i k = (stepL xs i k).map f := by
  refine List.ext_getElem? fun m => ?_
  rw [stepL_get _ _ _ hk, List.getElem?_map, List.getElem?_map, stepL_get _ _ _ hk]
theorem g_slSL {ns : List Int} {lo sx : Expr} {i k : Nat} {p3 : Pos} (ha : GE X a ρ (L ns)) (h1 : GE X lo ρ (.int (i : Int))) (h2 : GE X sx ρ (.int (k : Int))) (hk : 0 < k) : GE X (.Subscript a (.Slice (some lo) none (some sx) p3) pos) ρ (L (stepL ns i k)) :=
  (de_of_dn (gn_slS ha h1 h2 hk)).to (by unfold L; rw [stepL_map _ _ _ _ hk])

/-! ### lists of whole numbers -/
theorem getD_int (ns : List Int) {i : Nat} (h : i < ns.length) : (ns.map D.int).getD i .non = .int (ns.getD i 0) := by
  simp [List.getD, h]
theorem DI.src {wi : TI} {n : Nat} {src src' : Nat → D} (h : DI wi ρ n src) (e : ∀ i, i < n → src i = src' i) : DI wi ρ n src' := fun B F H σ ex r R q =>
  h B F H σ ex r R fun J F2 H2 g ok => q J F2 H2 g ⟨ok.go, fun i F' H' x H'' e1 e2 hi y => by
    obtain ⟨F'', k1, k2⟩ := ok.yld i F' H' x H'' e1 e2 hi y
    exact ⟨F'', k1, by rw [← e i hi]; exact k2⟩, ok.stop⟩
theorem DI.num {wi : TI} {n n' : Nat} {src : Nat → D} (h : DI wi ρ n src) (e : n = n') : DI wi ρ n' src := e ▸ h
theorem i_listI {ns : List Int} (ha : GE X a ρ (L ns)) : DI (aI X tg a) ρ ns.length (fun i => .int (ns.getD i 0)) :=
  ((i_list ha).num (by simp)).src fun i hi => getD_int ns hi
theorem i_enumI {elts : List Expr} {kk : Nat} {tpos : Pos} {ns : List Int} (bu : BuAll X.mg) (ha : GE X a ρ (L ns)) (hg : ∀ j, Gl (X.Y j) "enumerate" := by intro _; rfl) (st : noStar a = true := by rfl) :
    DI (aI X (.Tuple elts kk tpos) (.Call (.Name "enumerate" p) [a] [] pos)) ρ ns.length (fun i => .tup [.int (i : Int), .int (ns.getD i 0)]) :=
  ((i_enum bu ha hg st).num (by simp)).src fun i hi => by rw [getD_int ns hi]
theorem i_zipI {elts : List Expr} {kk : Nat} {tpos : Pos} {ns ms : List Int} (bu : BuAll X.mg) (ha : GE X a ρ (L ns)) (hb : GE X b ρ (L ms)) (hl : ns.length = ms.length) (hg : ∀ j, Gl (X.Y j) "zip" := by intro _; rfl) (st : noStar a = true := by rfl) (st2 : noStar b = true := by rfl) :
    DI (aI X (.Tuple elts kk tpos) (.Call (.Name "zip" p) [a, b] [] pos)) ρ ns.length (fun i => .tup [.int (ns.getD i 0), .int (ms.getD i 0)]) :=
  ((i_zip bu ha hb (by simp [hl]) hg st st2).num (by simp)).src fun i hi => by rw [getD_int ns hi, getD_int ms (by omega)]
/-- [elt for x in ..], each a whole number -/
theorem dn_lcI {n : Nat} {src : Nat → D} {scope : Scope} (own : List (Str × Nat)) (ok : ∀ j, BlkOk X.N (X.Y j).env.scope scope own) (hi : DI (aI X tg it) ρ n src) (hn : n ≤ 100000) (g : Nat → Int) (ts : List Nat) (ρ' : Nat → Env)
    (hg : ∀ i, i < n → DG (aG (blkF X scope) tg) (src i) ts (wipeE ρ (own.map (·.2))) (ρ' i)) (hts : ∀ i ∈ ts, i ∈ own.map (·.2)) (he : ∀ i, i < n → GE (blkF X scope) elt (ρ' i) (.int (g i)))
    (hf : ∀ j x, foldedSetIterable it (X.Y j).env x = pure x) {ms : List Int} (hm : ms = (List.range n).map g) : DN (aLc X elt tg it [] scope) ρ (ms.map .int) :=
  (dn_lc own ok hi hn (tb := fun _ => true) (f := fun i => .int (g i)) ts ρ' hg hts (fun _ _ => ts_nil) (fun i hi _ => he i hi) hf).to (by rw [resD_all, hm]; simp)
theorem aI_nil : GA X [] ρ (([] : List Int).map D.int) := a_nil
theorem aI_cons {es : List Expr} {i : Int} {ns : List Int} (h : GE X a ρ (.int i)) (hs : GA X es ρ (ns.map D.int)) (st : noStar a = true := by rfl) : GA X (a :: es) ρ ((i :: ns).map D.int) := a_cons h hs st
theorem g_lstI {es : List Expr} {ns : List Int} (h : GA X es ρ (ns.map D.int)) (hz : ns.length ≤ 100000 := by exact of_decide_eq_true rfl) : GE X (.List es pos) ρ (L ns) := g_lst h (by simpa using hz)
theorem g_nilI : GE X (.List [] pos) ρ (L []) := g_lstI aI_nil
theorem g_catI {ns ms : List Int} (ha : GE X a ρ (L ns)) (hb : GE X b ρ (L ms)) (hz : ns.length + ms.length ≤ 100000) : GE X (.BinOp a .Add b pos) ρ (L (ns ++ ms)) := (g_cat ha hb (by simpa using hz)).to (by unfold L; rw [List.map_append])
theorem g_lenI {ns : List Int} (bu : BuAll X.mg) (h : GE X a ρ (L ns)) (hg : ∀ j, Gl (X.Y j) "len" := by intro _; rfl) (st : noStar a = true := by rfl) : GE X (.Call (.Name "len" p) [a] [] pos) ρ (.int (ns.length : Int)) := by
  have := g_len (p := p) (pos := pos) bu h (.lst _) hg st
  rwa [List.length_map] at this
theorem g_repI {i j : Int} (ha : GE X a ρ (.int i)) (hb : GE X b ρ (.int j)) (hz : -100000 ≤ j ∧ j ≤ 100000) {p2 : Pos} (st : noStar a = true := by rfl) : GN X (.BinOp (.List [a] p2) .Mult b pos) ρ ((List.replicate j.toNat i).map .int) := (gn_rep (g_lst (a_cons ha a_nil st)) hb hz).to (by rw [List.map_replicate])
theorem g_ixI {ns : List Int} {i : Int} {n : Nat} (ha : GE X a ρ (L ns)) (hb : GE X b ρ (.int i)) (hi : i = n) (hn : n < ns.length) (hs : noSl b = true := by rfl) : GE X (.Subscript a b pos) ρ (.int (ns.getD n 0)) :=
  g_ixL ha hb (by rw [hi]; exact atI_nat (by simp [List.getD, hn])) hs
theorem atI_lastI {ns : List Int} (h : ns ≠ []) : atI (ns.map D.int) (-1) = some (.int (ns.getLast h)) := by
  conv => lhs; rw [← List.dropLast_concat_getLast h, List.map_append]
  exact atI_last _ _
theorem g_lastI {ns : List Int} (ha : GE X a ρ (L ns)) (h : ns ≠ []) {k p2 p3} : GE X (.Subscript a (.UnaryOp .USub (.Constant (.int 1) k p2) p3) pos) ρ (.int (ns.getLast h)) := g_ixL ha (g_neg g_int) (atI_lastI h)
theorem range_map_getD {α : Type} (ns : List Int) (g : Int → α) : (List.range ns.length).map (fun i => g (ns.getD i 0)) = ns.map g := by
  refine List.ext_getElem? fun i => ?_
  rw [List.getElem?_map, List.getElem?_map]
  by_cases h : i < ns.length
  · rw [List.getElem?_range h, List.getElem?_eq_getElem h]; simp [List.getD, h]
  · rw [List.getElem?_eq_none (by simpa using h), List.getElem?_eq_none (by omega)]; rfl
end
end Cv
end
section
set_option Elab.async false
set_option linter.all false
set_option maxRecDepth 100000
set_option maxHeartbeats 4000000
namespace Cv
open PySem L2 Evl
/-! ### new instances -/
def putD (x : Str) (d : D) : List (Str × D) → List (Str × D)
  | [] => [(x, d)]
  | (g, e) :: r => if g = x then (g, d) :: r else (g, e) :: putD x d r
theorem RepF.put {F : Hp} {x : Str} {v : V} {d : D} (hv : Rep F v d) : ∀ {vs : List (Str × V)} {fs : List (Str × D)}, RepF F vs fs → RepF F (putF x v vs) (putD x d fs)
  | _, _, .nil => .cons hv .nil
  | (y, u) :: vs, (_, e) :: fs, .cons q r => by
    unfold putF putD
    by_cases h : y = x
    · rw [if_pos h, if_pos h]; exact .cons hv r
    · rw [if_neg h, if_neg h]; exact .cons q (RepF.put hv r)
theorem RepF.length {F : Hp} : ∀ {vs : List (Str × V)} {fs : List (Str × D)}, RepF F vs fs → vs.length = fs.length
  | _, _, .nil => rfl
  | _, _, .cons q r => by rw [List.length_cons, List.length_cons, RepF.length r]
def DM (t : TE) (ρ : Env) (C : Addr) (fs : List (Str × D)) : Prop := ∀ (B F H : Hp) (σ : L2.St), Ex F H → RepE B F H σ ρ → ∀ Q : VK, (∀ l dx vs F2 H2, Grow F H F2 H2 → F2 l = none → H l = none → H2 l = some (.ins C dx vs) → RepF F2 vs fs → Q (.ref l) H2) → t σ H Q
abbrev GM (X : Fm) (e : Expr) (ρ : Env) (C : Addr) (fs : List (Str × D)) : Prop := DM (aE X e) ρ C fs
section
variable {X : Fm} {ρ : Env} {P : Post} {a b c e : Expr} {es : List Expr} {sts : List Stmt} {pos p : Pos} {d : D} {ds : List D} {C : Addr} {fs : List (Str × D)} {k : Nat}
theorem gm_by {t : TE} (p : ∀ j, PE (X.Y j) e t) (h : DM t ρ C fs) : GM X e ρ C fs := fun B F H σ e r Q q => ⟨t, p, h B F H σ e r Q q⟩
theorem Grow.seal {F H F2 H2 : Hp} {l : Addr} {o : HO} (g : Grow F H F2 H2) (hf : F2 l = none) (hl : H l = none) (hx : H2 l = some o) : Grow F H (upd F2 l o) H2 :=
  ⟨g.hh, g.ff.trans (Ex.new hf), fun a u h => by
    by_cases z : a = l
    · subst z; rw [upd_same] at h; rw [hx]; exact h
    · rw [upd_ne z] at h; exact g.fh a u h, fun a h => by
    by_cases z : a = l
    · subst z; exact .inr hl
    · rw [upd_ne z] at h; exact g.new a h⟩
theorem de_of_dm {t : TE} (h : DM t ρ C fs) : DE t ρ (.obj C fs) := fun B F H σ e r Q q =>
  h B F H σ e r Q fun l dx vs F2 H2 g hf hl hx rx => q (.ref l) _ H2 (g.seal hf hl hx) (.obj upd_same (rx.mono (Ex.new hf)))
/-- the promise of an __init__ -/
def spI (C : Addr) (f : List D → List (Str × D) → Prop) : Sp := fun vs H Q _ => ∃ (x dx : Addr) (ws : List V) (F : Hp) (ds : List D) (fs : List (Str × D)), vs = .ref x :: ws ∧ H x = some (.ins C dx []) ∧ F x = none ∧ Ex F H ∧ Reps F ws ds ∧ f ds fs ∧
  ∀ F2 H2 dx' vfs, (∀ y o, y ≠ x → H y = some o → H2 y = some o) → Ex F F2 → Ex F2 H2 → (∀ y, F2 y ≠ none → F y ≠ none ∨ H y = none) → F2 x = none → H2 x = some (.ins C dx' vfs) → RepF F2 vfs fs → Q .non H2
structure OwnC (P : Program) (w : World) (K : PySem.W.Frag) (mg : Str → Option Value) (base : Heap) (k : Nat) (x : Str) (C : Addr) (ps : List Str) (f : List D → List (Str × D) → Prop) : Prop where
  ex : ∃ j fA fd, j + 1 ≤ k ∧ Mk K C fA ∧ FnOk P w K mg base CX0 j fA fd ps (spI C f) ∧ mg x = some (.ref C) ∧ Binds K fd ps []
theorem OwnC.mono {P : Program} {w : World} {K : PySem.W.Frag} {mg : Str → Option Value} {base : Heap} {k m : Nat} {x : Str} {ps : List Str} {f : List D → List (Str × D) → Prop} (O : OwnC P w K mg base k x C ps f) (h : k ≤ m) : OwnC P w K mg base m x C ps f := by
  obtain ⟨j, fA, fd, hj, q⟩ := O.ex
  exact ⟨j, fA, fd, by omega, q⟩
theorem gm_make {f : List D → List (Str × D) → Prop} {x : Str} {ps : List Str} (O : OwnC X.P X.w X.K X.mg X.base k x C ps f) (hr : Room k X.A) (h : GA X (e :: es) ρ ds) (hf : f ds fs)
    (hg : ∀ j, Gl (X.Y j) x := by intro _; rfl) (hd : (x == ("__debug__" : Str)) = false := by decide) (st : noStars (e :: es) = true := by rfl) : GM X (.Call (.Name x p) (e :: es) [] pos) ρ C fs := by
  obtain ⟨j0, fA, fd, hj, M, F, hm, hb⟩ := O.ex
  have st' : noStar e = true ∧ noStars es = true := by simpa [noStars] using st
  refine gm_by (t := tMake C (spI C f) [] E0 (aA X (e :: es))) (fun j => pe_make (by rw [X.hK j]; exact M) (FnOk.at F j) (by rw [X.hA j]; exact hr.mono hj) (hg j) (by rw [X.hmg j]; exact hm) (by rw [X.hK j]; exact hb) .nil pass0 (aA_ok j) hd (star_of st'.1) (stars_any st'.2)) fun B F H σ ex r Q q => ?_
  refine h B F H σ ex r _ fun vs F2 H2 g rv => ?_
  intro y dx hy hdx hne
  have hy' : upd H2 dx (.own y) y = none := by rw [upd_ne (Ne.symm hne)]; exact hy
  have e3 : Ex H2 (upd (upd H2 dx (.own y)) y (.ins C dx [])) := (Ex.new hdx).trans (Ex.new hy')
  have hFy : F2 y = none := fresh_back g.fh hy
  refine ⟨y, dx, vs, F2, ds, fs, by rw [List.append_nil], upd_same, hFy, g.fh.trans e3, rv, hf, fun F3 H4 dx' vfs keep ff fh nw hF hH rf => ⟨rfl, ?_⟩⟩
  refine q y dx' vfs F3 H4 (g.trans ⟨fun z o hz => keep z o (fun e => by rw [e, hy] at hz; cases hz) (e3 z o hz), ff, fh, fun z hz => ?_⟩) hF (fresh_back g.hh hy) hH rf
  rcases nw z hz with w | w
  · exact .inl w
  · exact .inr (fresh_back e3 w)
/-! instances of one's own in slots -/
theorem RepE.ob_set {B F H : Hp} {σ : L2.St} {i : Nat} {l dx : Addr} {fs2 : List (Str × D)} {vs2 : List (Str × V)} (r : RepE B F H σ ρ) (h : ρ[i]? = some (some (.ob l C fs))) (rx : RepF F vs2 fs2) : RepE B F (upd H l (.ins C dx vs2)) σ (ρ.set i (some (.ob l C fs2))) := by
  have hi : i < ρ.length := (List.getElem?_eq_some_iff.mp h).1
  obtain ⟨hs, hF, hB, dx0, xs, hH, _⟩ := r.ob h
  have hl := r.len
  have back : ∀ k, Sl.at ((ρ.set i (some (.ob l C fs2))).getD k none) = Sl.at (ρ.getD k none) := fun k => by
    rw [getD_set _ _ _ _ _ hi]
    by_cases z : k = i
    · rw [if_pos z]; subst z; simp [List.getD, h, Sl.at]
    · rw [if_neg z]
  refine ⟨by simp [hl], fun k => ?_, fun k m x h1 h2 => ?_⟩
  · rw [getD_set _ _ _ _ _ hi]
    by_cases z : k = i
    · rw [if_pos z]; subst z
      exact ⟨by simp [List.getD, hs], hF, hB, dx, vs2, upd_same, rx⟩
    · rw [if_neg z]
      refine (r.ok k).keep (Ex.refl F) fun l' e' => ?_
      have hne : l' ≠ l := fun q => z (r.apart k i l' e' (by simp only [List.getD, h, Option.getD_some]; rw [q]; rfl))
      exact ⟨upd_ne hne, ((r.ok k).held e').1⟩
  · rw [back] at h1 h2; exact r.apart k m x h1 h2
/-- self.m = e -/
theorem s_fld (i : Nat) {x m : Str} {l : Addr} {pa : Pos} (he : GE X e ρ d) (h : P.nx (ρ.set i (some (.ob l C (putD m d fs))))) (c : Cls X.K C) (n : NoAttr X.K C m) (hz : fs.length < 1000 := by exact of_decide_eq_true rfl) (hi : ρ[i]? = some (some (.ob l C fs)) := by rfl) (hn : X.N[i]? = some x := by rfl)
    (hv : ∀ j, Vis (X.Y j).env.scope x := by intro _; first | exact Or.inl rfl | exact Or.inr (Or.inl rfl) | exact Or.inr (Or.inr rfl)) (hd : (x == ("__debug__" : Str)) = false := by decide) (hcd : (x == ("__classdict__" : Str)) = false := by decide)
    (hs : ∀ j, swapsWith e (some (.Attribute (.Name x p) m pa)) pos.line (X.Y j).env = pure false := by intro _; rfl) : GS X (.Assign [.Attribute (.Name x p) m pa] e pos) ρ P :=
  gs_by (t := sFld X.K (tVar i) (aE X e) m) (fun j => by rw [← X.hK j]; exact ps_fld (pvN i hn hv hd hcd j) (aE_ok j) (hs j)) fun B F0 F H σ D' I r f => by
    refine he B F H σ I.fh r _ fun v F2 H2 g rv => ?_
    have r2 := r.grow g
    obtain ⟨hs, hF, hB, dx, xs, hH, rx⟩ := r2.ob hi
    refine ⟨.ref l, hs, l, C, dx, xs, rfl, hH, c, n, by rw [rx.length]; exact hz, ?_⟩
    exact f.nx F2 _ σ _ ((I.grow g).own_set hF hB) g.ff (r2.ob_set hi (rx.put rv)) h
theorem s_setM (i : Nat) {x : Str} (he : GM X e ρ C fs) (h : ∀ l, P.nx (ρ.set i (some (.ob l C fs)))) (hi : i < ρ.length := by exact Nat.le_of_ble_eq_true rfl) (hn : X.N[i]? = some x := by rfl) (hx : ∀ j, Loc (X.Y j).env.scope x := by intro _; first | exact Or.inl rfl | exact Or.inr rfl)
    (hs : ∀ j, swapsWith e (some (.Name x p)) pos.line (X.Y j).env = pure false := by intro _; rfl) (hf : ∀ j, (X.Y j).fn x = true ∨ (X.Y j).env.scope.names.lookup x = some .local := by intro _; first | exact .inl rfl | exact .inr rfl) :
    GS X (.Assign [.Name x p] e pos) ρ P := gs_by (fun j => ps_set (by rw [X.hN j]; exact X.nd) (by rw [X.hN j]; exact hn) (hx j) (aE_ok j) (hs j) (hf j)) fun B F0 F H σ D' I r f =>
  he B F H σ I.fh r _ fun l dx vs F2 H2 g h1 h2 h3 rx => f.nx F2 H2 _ _ (I.grow g) g.ff ((r.grow g).set (s := some (.ob l C fs)) hi ⟨rfl, h1, fresh_back I.bh h2, dx, vs, h3, rx⟩ fun m k e1 e2 => by
    simp [Sl.at] at e1
    obtain ⟨_, _, o, ho⟩ := (r.ok k).held e2
    rw [← e1, h2] at ho; cases ho) (h l)
theorem ss_freezeM (i : Nat) {l : Addr} (h : GSs X sts (ρ.set i (some (.sh (.obj C fs)))) P) (hi : ρ[i]? = some (some (.ob l C fs)) := by rfl) : GSs X sts ρ P := fun B F0 F H σ D' I r f => by
  have hlt : i < ρ.length := (List.getElem?_eq_some_iff.mp hi).1
  obtain ⟨hs, hF, hB, dx, xs, hH, rx⟩ := r.ob hi
  have hE : Ex F (upd F l (.ins C dx xs)) := Ex.new hF
  have rep : Rep (upd F l (.ins C dx xs)) (.ref l) (.obj C fs) := .obj upd_same (rx.mono hE)
  refine h B F0 (upd F l (.ins C dx xs)) H σ D' ⟨I.bh, I.ff.trans hE, fun a o h => ?_, fun a h => ?_⟩ ?_ (f.mono hE)
  · by_cases z : a = l
    · subst z; rw [upd_same] at h; rw [hH]; exact h
    · rw [upd_ne z] at h; exact I.fh a o h
  · by_cases z : a = l
    · subst z; exact .inr hB
    · rw [upd_ne z] at h; exact I.new a h
  · have hl := r.len
    refine ⟨by simp [hl], fun k => ?_, fun k m x h1 h2 => ?_⟩
    · rw [getD_set _ _ _ _ _ hlt]
      by_cases z : k = i
      · rw [if_pos z]; subst z
        exact ⟨.ref l, by simp [List.getD, hs], rep⟩
      · rw [if_neg z]
        refine (r.ok k).keep hE fun l' e' => ⟨rfl, ?_⟩
        have hne : l' ≠ l := fun q => z (r.apart k i l' e' (by simp only [List.getD, hi, Option.getD_some]; rw [q]; rfl))
        rw [upd_ne hne]
        exact ((r.ok k).held e').1
    · rw [getD_set _ _ _ _ _ hlt] at h1 h2
      by_cases z : k = i
      · rw [if_pos z] at h1; simp [Sl.at] at h1
      · by_cases y : m = i
        · rw [if_pos y] at h2; simp [Sl.at] at h2
        · rw [if_neg z] at h1; rw [if_neg y] at h2; exact r.apart k m x h1 h2
/-! ### constants of the module, in and not in -/
theorem g_globI {x : Str} {i : Int} {t : Nat} (hm : X.mg x = some (.int i t)) (hg : ∀ j, Gl (X.Y j) x := by intro _; rfl) (hd : (x == ("__debug__" : Str)) = false := by decide) : GE X (.Name x pos) ρ (.int i) :=
  ge_by (t := tC (.int i)) (fun j => pe_glob (hg j) (by rw [X.hmg j]; exact hm) ⟨t, rfl⟩ hd) fun B F H σ e r Q q => q _ F H (Grow.refl e) (.int i)
theorem inV_int (i : Int) : ∀ ns : List Int, inV (.int i) (ns.map V.int) = decide (i ∈ ns)
  | [] => rfl
  | n :: ns => by
    have ih := inV_int i ns
    unfold inV at ih ⊢
    rw [List.map_cons, List.any_cons, ih]
    show (n == i || decide (i ∈ ns)) = decide (i ∈ n :: ns)
    by_cases h : n = i
    · subst h; simp
    · have : (n == i) = false := by simpa using h
      rw [this]; simp [Ne.symm h]
theorem flat_ints : ∀ ns : List Int, (ns.map V.int).all flatV = true
  | [] => rfl
  | n :: ns => by rw [List.map_cons, List.all_cons, flat_ints ns]; rfl
/-- not in a tuple of the module -/
theorem t_notInK {x : Str} {aP : Addr} {i : Int} {ns : List Int} {p2 : Pos} (ha : GE X a ρ (.int i)) (hm : X.mg x = some (.ref aP)) (hs : ∀ H, SqT X.K H aP (ns.map V.int)) (hg : ∀ j, Gl (X.Y j) x := by intro _; rfl) (hd : (x == ("__debug__" : Str)) = false := by decide)
    (hmk : ∀ j : X.ι, behindInMarks .NotIn (.Name x p2) = false := by intro _; rfl) : GT X (.Compare a [.NotIn] [.Name x p2] pos) ρ (!decide (i ∈ ns)) :=
  gt_by (t := tTest (tOp (rIn X.K true) (aE X a) (tC (.ref aP)))) (fun j => by rw [← X.hK j]; exact pt_cmpR op_notIn_seq (aE_ok j) (pe_glob (hg j) (by rw [X.hmg j]; exact hm) rfl hd) (hmk j)) fun B F H σ ex r Q q => ha B F H σ ex r _ fun v F2 H2 g rv => by
    refine ⟨aP, ns.map V.int, rfl, .inr (hs H2), by rw [rv.int_inv]; rfl, flat_ints ns, ?_⟩
    rw [rv.int_inv, inV_int]
    exact ⟨_, rfl, q F2 H2 g⟩
/-- not in a written list -/
theorem t_notInL {i : Int} {ns : List Int} (ha : GE X a ρ (.int i)) (hb : GE X b ρ (L ns)) (hmk : ∀ j : X.ι, behindInMarks .NotIn b = false := by intro _; rfl) : GT X (.Compare a [.NotIn] [b] pos) ρ (!decide (i ∈ ns)) :=
  gt_by (t := tTest (tOp (rIn X.K true) (aE X a) (aE X b))) (fun j => by rw [← X.hK j]; exact pt_cmpR op_notIn_seq (aE_ok j) (aE_ok j) (hmk j)) fun B F H σ ex r Q q => ha B F H σ ex r _ fun v F2 H2 g rv => hb B F2 H2 σ g.fh (r.grow g) _ fun u F3 H3 g3 ru => by
    obtain ⟨l, xs, rfl, h1, r1⟩ := ru.lst_inv
    have := r1.ints_inv
    subst this
    refine ⟨l, ns.map V.int, rfl, .inl (SqL.of (g3.fh _ _ h1)), by rw [rv.int_inv]; rfl, flat_ints ns, ?_⟩
    rw [rv.int_inv, inV_int]
    exact ⟨_, rfl, q F3 H3 (g.trans g3)⟩
/-! ### == of instances by their own __eq__: True only -/
def relQ (good : D → Prop) (x y : Addr) (H : Hp) : Prop := ∃ (F : Hp) (d : D), Ex F H ∧ Rep F (.ref x) d ∧ Rep F (.ref y) d ∧ good d
structure OwnQ (P : Program) (w : World) (K : PySem.W.Frag) (mg : Str → Option Value) (base : Heap) (k : Nat) (C : Addr) (ps : List Str) (good : D → Prop) : Prop where
  ex : ∃ fA fd, FnOk P w K mg base CX0 k fA fd ps (spD fun ds d => ∃ c, good c ∧ ds = [c, c] ∧ d = .bl true) ∧ PySem.W.findIn K (.ref C) "__eq__" = some (some (.ref fA)) ∧ PySem.W.isFn K (.ref fA) = true ∧ Binds K fd ps []
theorem OwnQ.mono {P : Program} {w : World} {K : PySem.W.Frag} {mg : Str → Option Value} {base : Heap} {k m : Nat} {ps : List Str} {good : D → Prop} (O : OwnQ P w K mg base k C ps good) (h : k ≤ m) : OwnQ P w K mg base m C ps good := by
  obtain ⟨fA, fd, F, q⟩ := O.ex
  exact ⟨fA, fd, F.mono h, q⟩
theorem t_eqOb {good : D → Prop} {ps : List Str} (O : OwnQ X.P X.w X.K X.mg X.base k C ps good) (hr : Room k X.A) (ha : GE X a ρ (.obj C fs)) (hb : GE X b ρ (.obj C fs)) (hg : good (.obj C fs)) : GT X (.Compare a [.Eq] [b] pos) ρ true := by
  obtain ⟨fA, fd, F, h1, h2, h3⟩ := O.ex
  have F2 := F.imp (sp' := spEq (relQ good)) fun vs H Q E ⟨x, y, e, ⟨F1, d, ex, r1, r2, g⟩, q⟩ => by
    subst e
    exact ⟨F1, [d, d], .bl true, ex, .cons r1 (.cons r2 .nil), ⟨d, g, rfl, rfl⟩, fun v F2 H2 gr rv => by rw [rv.bl_inv]; exact q H2 gr.hh⟩
  refine gt_by (t := tTest (tOp (rEqG (DIns C (relQ good))) (aE X a) (aE X b))) (fun j => pt_cmpR (op_eqG (rcG_ins (FnOk.at F2 j) (by rw [X.hK j]; exact h1) (by rw [X.hK j]; exact h2) (by rw [X.hK j]; exact h3) pass0) (by rw [X.hA j]; exact hr)) (aE_ok j) (aE_ok j) (nomark _)) fun B F H σ ex r Q q => ?_
  refine ha B F H σ ex r _ fun v F2 H2 g rv => hb B F2 H2 σ g.fh (r.grow g) _ fun u F3 H3 g3 ru => ?_
  have rv3 := rv.mono g3.ff
  obtain ⟨l, dx, xs, rfl, k1, r1⟩ := id rv3.obj_inv
  obtain ⟨m, dy, ys, rfl, k2, r2⟩ := id ru.obj_inv
  refine ⟨⟨l, m, dx, dy, xs, ys, rfl, rfl, g3.fh _ _ k1, g3.fh _ _ k2, F3, _, g3.fh, rv3, ru, hg⟩, fun H4 e4 => ⟨true, rfl, q F3 H4 ((g.trans g3).more e4)⟩⟩
end
/-! ### an __init__ keeps its promise -/
def initI (n : Nat) (x C : Addr) (ds : List D) : Env := some (.ob x C []) :: (ds.map (fun d => some (.sh d)) ++ List.replicate (n - (ds.length + 1)) none)
section
variable {P : Program} {w : World} {K : PySem.W.Frag} {mg : Str → Option Value} {base : Heap} {x qual : Str} {st : Stmt} {f : Addr} {fd : FuncData} {N ps : List Str} {k : Nat} {C : Addr}
theorem fn_I (g : List D → List (Str × D) → Prop) (F : Fun K x qual st f fd) (S : FnScope N ps (defScope st)) (hl : ∀ ds fs, g ds fs → ds.length + 1 = ps.length)
    (body : ∀ (cdv : Value) (A : Around) (outer : List PySem.Env) (s : Shared) (H : Hp) (E : XK), Room k (fmOf P w K mg base N S.nd qual st f cdv A outer s H E).A → ∀ xA ds fs, g ds fs →
      GSs (fmOf P w K mg base N S.nd qual st f cdv A outer s H E) (defBody st) (initI N.length xA C ds) { nx := fun ρ2 => ρ2[0]? = some (some (.ob xA C fs)), rt := fun _ _ => False }) : FnOk P w K mg base CX0 (k + 1) f fd ps (spI C g) := by
  refine F.ok S (fun vs H Q E h => ?_) fun cdv A outer s H vs Q E hr h => ?_
  · obtain ⟨xA, dx, ws, F, ds, fs, rfl, _, _, _, r, hg, _⟩ := h
    rw [List.length_cons, r.length, hl ds fs hg]
  · obtain ⟨xA, dx, ws, F1, ds, fs, rfl, hH, hF, e, r, hg, q⟩ := h
    refine ⟨aSs (fmOf P w K mg base N S.nd qual st f cdv A outer s H E) (defBody st), aSs_ok (X := fmOf P w K mg base N S.nd qual st f cdv A outer s H E) (), ?_⟩
    let B : Hp := fun z => if z = xA then none else H z
    have hBg : B xA = none := if_pos rfl
    have hBn : ∀ z, z ≠ xA → B z = H z := fun z hz => if_neg hz
    have hBH : Ex B H := fun z o hz => by
      by_cases h : z = xA
      · rw [h, hBg] at hz; cases hz
      · rw [hBn z h] at hz; exact hz
    have hat : ∀ i, Sl.at ((initI N.length xA C ds).getD (i + 1) none) = none := fun i => by
      unfold initI
      rw [List.getD_cons_succ, List.getD_eq_getElem?_getD]
      by_cases hi : i < ds.length
      · rw [List.getElem?_append_left (by simpa using hi), List.getElem?_map, List.getElem?_eq_getElem hi]; rfl
      · rw [List.getElem?_append_right (by simp; omega), List.getElem?_replicate]
        split <;> rfl
    have hlr := r.length
    have r0 : RepE B F1 H (L2.start N (.ref xA :: ws)) (initI N.length xA C ds) := by
      refine ⟨by simp [L2.start, initI, hlr], fun i => ?_, fun i j l h1 h2 => ?_⟩
      · cases i with
        | zero => exact ⟨rfl, hF, hBg, dx, [], hH, .nil⟩
        | succ i =>
          unfold initI L2.start
          rw [List.getD_cons_succ, List.map_cons, List.cons_append, List.getD_cons_succ, List.getD_eq_getElem?_getD, List.getD_eq_getElem?_getD]
          by_cases hi : i < ds.length
          · rw [List.getElem?_append_left (by simp; omega), List.getElem?_append_left (by simpa using hi), List.getElem?_map, List.getElem?_map, List.getElem?_eq_getElem hi]
            obtain ⟨v, h1, h2⟩ := r.get (List.getElem?_eq_getElem hi)
            rw [h1]
            exact ⟨v, rfl, h2⟩
          · rw [List.getElem?_append_right (by simp; omega), List.getElem?_append_right (by simp; omega), List.getElem?_replicate, List.getElem?_replicate, ite_none_sl]
            trivial
      · cases i with
        | zero =>
          cases j with
          | zero => rfl
          | succ j => rw [hat] at h2; cases h2
        | succ i => rw [hat] at h1; cases h1
    refine body cdv A outer s H E hr xA ds fs hg B F1 F1 H _ _ ⟨hBH, Ex.refl F1, e, fun z h => .inl h⟩ r0 ⟨fun F2 H2 σ2 ρ2 I2 e2 r2 k => ?_, fun F2 H2 σ2 ρ2 v d' I2 e2 r2 rv k => k.elim, fun F2 H2 σ2 ρ2 I2 e2 r2 k => k.elim, fun F2 H2 σ2 ρ2 I2 e2 r2 k => k.elim⟩
    obtain ⟨_, hF2, _, dx', vfs, hH2, rf⟩ := r2.ob k
    refine q F2 H2 dx' vfs (fun z o hz ho => I2.bh z o (by rw [hBn z hz]; exact ho)) e2 I2.fh (fun z hz => ?_) hF2 hH2 rf
    rcases I2.new z hz with w | w
    · exact .inl w
    · by_cases h : z = xA
      · rw [h, hF2] at hz; exact absurd rfl hz
      · rw [hBn z h] at w; exact .inr w
end
end Cv
end
section
set_option Elab.async false
set_option linter.all false
set_option maxRecDepth 100000
set_option maxHeartbeats 4000000
namespace Cv
open PySem L2 Evl
/-! ### the script: a list that is read alone -/
def scrD (K : PySem.W.Frag) (a : Addr) (ns : List Int) : D := .opq a fun F => SqL K F a (ns.map V.int)
theorem rep_scr {K : PySem.W.Frag} {F : Hp} {a : Addr} {ns : List Int} (h : SqL K F a (ns.map V.int)) : Rep F (.ref a) (scrD K a ns) := .opq (fun F1 F2 e q => SqL.ext q e) h
section
variable {X : Fm} {ρ : Env} {P : Post} {a b c e : Expr} {es : List Expr} {sts : List Stmt} {pos p : Pos} {d : D} {ds : List D} {k : Nat} {aS : Addr} {ns : List Int} {i : Int}
theorem scr_at {F H : Hp} {v : V} (rv : Rep F v (scrD X.K aS ns)) (ex : Ex F H) : v = .ref aS ∧ SqL X.K H aS (ns.map V.int) := by
  obtain ⟨h1, h2, h3⟩ := rv.opq_inv
  exact ⟨h1, h3 F H ex h2⟩
theorem g_lenS (bu : BuAll X.mg) (h : GE X a ρ (scrD X.K aS ns)) (hg : ∀ j, Gl (X.Y j) "len" := by intro _; rfl) (st : noStar a = true := by rfl) : GE X (.Call (.Name "len" p) [a] [] pos) ρ (.int (ns.length : Int)) :=
  g_callB (r := fun X xs H Q => ∃ p ys, xs = [.ref p] ∧ (SqL X.K H p ys ∨ SqT X.K H p ys) ∧ Q (.int ys.length) H) (fun j => by rw [← X.hK j]; exact call_len_seq) (bu_len bu) (a_cons h a_nil st) (fun F H vs e rv Q q => by
    obtain ⟨v, ws, rfl, r1, r2⟩ := rv.cons_inv
    cases r2.nil_inv
    obtain ⟨rfl, hs⟩ := scr_at r1 e
    refine ⟨aS, ns.map V.int, rfl, .inl hs, q _ F H (Grow.refl e) ?_⟩
    rw [List.length_map]; exact .int _) hg (by simp [noStars, st])
theorem g_ixS {n : Nat} (ha : GE X a ρ (scrD X.K aS ns)) (hb : GE X b ρ (.int i)) (hi : i = n) (hn : n < ns.length) (hs : noSl b = true := by rfl) : GE X (.Subscript a b pos) ρ (.int (ns.getD n 0)) :=
  ge_by (t := tOp (rIxL X.K) (aE X a) (aE X b)) (fun j => pe_ix (by rw [← X.hK j]; exact ix_list) (aE_ok j) (aE_ok j) (plainIx_of hs)) (de_op ha hb fun F H v u e hv hu Q q => by
    obtain ⟨rfl, hS⟩ := scr_at hv e
    rw [hu.int_inv]
    exact ⟨aS, _, i, .int (ns.getD n 0), rfl, rfl, hS, by rw [hi]; exact atI_nat (by simp [List.getD, hn]), q _ F H (Grow.refl e) (.int _)⟩)
theorem cutV_one (ns : List Int) : cutV (ns.map V.int) none (some 1) = (ns.take 1).map V.int := by
  cases ns with
  | nil => rfl
  | cons x r =>
    unfold cutV
    rw [HT.sIx_none, show HT.sIx ((x :: r).map V.int).length ((x :: r).map V.int).length (some 1) = min 1 ((x :: r).map V.int).length from HT.sIx_nat _ _ 1]
    rw [List.length_map, List.length_cons, show min 1 (r.length + 1) = 1 by omega]
    rfl
theorem g_slS {k2 p2 p3} (ha : GE X a ρ (scrD X.K aS ns)) : GE X (.Subscript a (.Slice none (some (.Constant (.int 1) k2 p2)) none p3) pos) ρ (L (ns.take 1)) :=
  de_of_dn (gn_by (t := tSl (rSlL X.K) (aE X a) (aO X none) (aO X (some (.Constant (.int 1) k2 p2)))) (fun j => pe_slice (by rw [← X.hK j]; exact sl_list) (aE_ok j) (aO_ok j) (aO_ok j)) fun B F H σ ex r Q q =>
    ha B F H σ ex r _ fun v F2 H2 g rv => o_none B F2 H2 σ g.fh (r.grow g) _ fun F3 H3 g3 => o_some (g_int (X := X)) B F3 H3 σ g3.fh ((r.grow g).grow g3) _ fun F4 H4 g4 => by
      obtain ⟨rfl, hS⟩ := scr_at (rv.mono (g3.ff.trans g4.ff)) g4.fh
      have gg := (g.trans g3).trans g4
      refine ⟨aS, _, rfl, hS, fun m hm => ?_⟩
      refine q m _ F4 _ (gg.more (Ex.new hm)) (fresh_back gg.fh hm) (fresh_back gg.hh hm) upd_same ?_
      rw [cutV_one]
      exact Reps.ints _)
theorem g_sum (bu : BuAll X.mg) (h : GE X a ρ (L ns)) (hg : ∀ j, Gl (X.Y j) "sum" := by intro _; rfl) (st : noStar a = true := by rfl) : GE X (.Call (.Name "sum" p) [a] [] pos) ρ (.int ns.sum) :=
  g_callB (r := fun X => rSum X.K) (fun j => by rw [← X.hK j]; exact cr_sum (X.calm j)) (bu_sum bu) (a_cons h a_nil st) (fun F H vs e rv Q q => by
    obtain ⟨v, ws, rfl, r1, r2⟩ := rv.cons_inv
    cases r2.nil_inv
    obtain ⟨l, xs, rfl, h1, r1⟩ := r1.lst_inv
    have := r1.ints_inv
    subst this
    exact ⟨l, ns, rfl, SqL.of (e _ _ h1), q _ F H (Grow.refl e) (.int _)⟩) hg (by simp [noStars, st])
/-! ### bits, greater powers -/
theorem g_bits (ha : GE X a ρ (.int i)) {apos : Pos} (hb : ∀ j, attributeBase a "bit_length" (X.Y j).env (eval a (X.Y j).env) = eval a (X.Y j).env := by intro _; rfl) (hl : (apos.endLine == pos.line) = true := by rfl) : GE X (.Call (.Attribute a "bit_length" apos) [] [] pos) ρ (.int (Builtin.Int.intBits i : Nat)) :=
  ge_by (t := tBits (aE X a)) (fun j => pe_bits (aE_ok j) (hb j) hl) fun B F H σ ex r Q q => ha B F H σ ex r _ fun v F2 H2 g rv => ⟨i, rv.int_inv, q _ F2 H2 g (.int _)⟩
def CPowB (i j : Int) : Prop := 0 ≤ j ∧ (Builtin.Int.intBits i : Int) * j ≤ 2 ^ 27
theorem op_powB {Y : Cx} : OpR Y (binaryOp .Pow) (rI CPowB fun i j => .int (i ^ j.toNat)) := opI fun _ _ _ _ _ _ _ hc q => PyProof.Rows.pow_int hc.1 hc.2 q
theorem g_powB {j : Int} (ha : GE X a ρ (.int i)) (hb : GE X b ρ (.int j)) (hc : CPowB i j) : GE X (.BinOp a .Pow b pos) ρ (.int (i ^ j.toNat)) := ge_by (fun _ => pe_op op_powB (aE_ok _) (aE_ok _)) (de_op ha hb (rd_I hc fun _ => .int _))
/-! ### the drawer, opened -/
theorem RepE.openG {B F H : Hp} {σ : L2.St} {i : Nat} {g : Addr} {n : Nat} (r : RepE B F H σ ρ) (h : ρ[i]? = some (some (.gen g n))) : ∃ x y z : Int, GenOk n x y z ∧ RepE B F H σ (ρ.set i (some (.own g [.int x, .int y, .int z]))) := by
  have hi : i < ρ.length := (List.getElem?_eq_some_iff.mp h).1
  obtain ⟨hs, hF, hB, x, y, z, hH, ok⟩ := r.gen h
  refine ⟨x, y, z, ok, ?_⟩
  have e : σ.set i (some (.ref g)) = σ := by
    refine List.ext_getElem? fun m => ?_
    by_cases q : m = i
    · subst q
      rw [List.getElem?_set_self (by rw [r.len]; exact hi), hs]
    · rw [List.getElem?_set_ne (Ne.symm q)]
  rw [← e]
  refine r.set hi ⟨rfl, hF, hB, _, hH, Reps.ints [x, y, z]⟩ fun l j e1 e2 => ?_
  simp [Sl.at] at e1
  exact r.apart j i l e2 (by simp only [List.getD, h, Option.getD_some]; rw [← e1]; rfl)
theorem RepE.closeG {B F H : Hp} {σ : L2.St} {i : Nat} {g : Addr} {n : Nat} {x y z : Int} (r : RepE B F H σ ρ) (h : ρ[i]? = some (some (.own g [.int x, .int y, .int z]))) (ok : GenOk n x y z) : RepE B F H σ (ρ.set i (some (.gen g n))) := by
  have hi : i < ρ.length := (List.getElem?_eq_some_iff.mp h).1
  obtain ⟨hs, hF, hB, xs, hH, rx⟩ := r.own h
  have := Reps.ints_inv (ns := [x, y, z]) rx
  subst this
  have e : σ.set i (some (.ref g)) = σ := by
    refine List.ext_getElem? fun m => ?_
    by_cases q : m = i
    · subst q
      rw [List.getElem?_set_self (by rw [r.len]; exact hi), hs]
    · rw [List.getElem?_set_ne (Ne.symm q)]
  rw [← e]
  refine r.set (s := some (.gen g n)) hi ⟨rfl, hF, hB, x, y, z, hH, ok⟩ fun l j e1 e2 => ?_
  simp [Sl.at] at e1
  exact r.apart j i l e2 (by simp only [List.getD, h, Option.getD_some]; rw [← e1]; rfl)
/-- a body that ends by a return, with the drawer as a list of one's own -/
theorem ss_gen (i : Nat) {g : Addr} {n m : Nat} {R : D → Prop} (hgen : ρ[i]? = some (some (.gen g n))) (hP : ∀ ρ2 d, ρ2[i]? = some (some (.gen g m)) → R d → P.rt ρ2 d)
    (h : ∀ x y z, GenOk n x y z → GSs X sts (ρ.set i (some (.own g [.int x, .int y, .int z]))) { nx := fun _ => False, rt := fun ρ2 d => R d ∧ ∃ x y z, ρ2[i]? = some (some (.own g [.int x, .int y, .int z])) ∧ GenOk m x y z }) : GSs X sts ρ P := fun B F0 F H σ D' I r f => by
  obtain ⟨x, y, z, ok, r2⟩ := r.openG hgen
  refine h x y z ok B F0 F H σ D' I r2 ⟨fun F2 H2 σ2 ρ2 I2 e2 r2 k => k.elim, fun F2 H2 σ2 ρ2 v d I2 e2 r2 rv k => ?_, fun F2 H2 σ2 ρ2 I2 e2 r2 k => k.elim, fun F2 H2 σ2 ρ2 I2 e2 r2 k => k.elim⟩
  obtain ⟨hR, x', y', z', h', ok'⟩ := k
  have hi : i < ρ2.length := (List.getElem?_eq_some_iff.mp h').1
  exact f.rt F2 H2 σ2 _ v d I2 e2 (r2.closeG h' ok') rv (hP _ d (by rw [List.getElem?_set_self hi]) hR)
/-! ### a def that returns a new list -/
def spN (f : List D → List D → Prop) : Sp := fun vs H Q _ => ∃ (F : Hp) (ds es : List D), Ex F H ∧ Reps F vs ds ∧ f ds es ∧ ∀ l xs F2 H2, Grow F H F2 H2 → F2 l = none → H l = none → H2 l = some (.lst xs) → Reps F2 xs es → Q (.ref l) H2
theorem gn_callN {f : List D → List D → Prop} {x : Str} {ps : List Str} {ds2 : List D} (O : Own X.P X.w X.K X.mg X.base k x ps (spN f)) (hr : Room k X.A) (h : GA X (e :: es) ρ ds) (hf : f ds ds2)
    (hg : ∀ j, Gl (X.Y j) x := by intro _; rfl) (hd : (x == ("__debug__" : Str)) = false := by decide) (st : noStars (e :: es) = true := by rfl) : GN X (.Call (.Name x p) (e :: es) [] pos) ρ ds2 := by
  obtain ⟨fA, fd, F, hm, hk, hb⟩ := O.ex
  have st' : noStar e = true ∧ noStars es = true := by simpa [noStars] using st
  refine gn_by (t := tCall (spN f) [] E0 (aA X (e :: es))) (fun j => pe_call (FnOk.at F j) (by rw [X.hA j]; exact hr) (hg j) (by rw [X.hmg j]; exact hm) (by rw [X.hK j]; exact hk) (by rw [X.hK j]; exact hb) .nil pass0 (aA_ok j) hd (star_of st'.1) (stars_any st'.2)) fun B F H σ ex r Q q => ?_
  refine h B F H σ ex r _ fun vs F2 H2 g rv => ?_
  exact ⟨F2, ds, ds2, g.fh, by rw [List.append_nil]; exact rv, hf, fun l xs F3 H3 g3 h1 h2 h3 h4 => q l xs F3 H3 (g.trans g3) h1 (fresh_back g.hh h2) h3 h4⟩
/-- a drawing call with a new drawer -/
theorem gx_callGN {f : Nat → List D → Nat → (D → Prop) → Prop} {x : Str} {ps : List Str} {n n' : Nat} {R : D → Prop} {x0 y0 z0 : Int} (O : Own X.P X.w X.K X.mg X.base k x ps (spG f)) (hr : Room k X.A) (he : GN X e ρ [.int x0, .int y0, .int z0]) (ok : GenOk n x0 y0 z0) (h : GA X es ρ ds) (hf : f n ds n' R)
    (hg : ∀ j, Gl (X.Y j) x := by intro _; rfl) (hd : (x == ("__debug__" : Str)) = false := by decide) (st : noStar e = true := by rfl) (st2 : noStars es = true := by rfl) : GX X (.Call (.Name x p) (e :: es) [] pos) ρ (fun ρ2 d => ρ2 = ρ ∧ R d) := by
  obtain ⟨fA, fd, F, hm, hk, hb⟩ := O.ex
  refine gx_by (t := tCall (spG f) [] E0 (tCons (aE X e) (aA X es))) (fun j => pe_call (FnOk.at F j) (by rw [X.hA j]; exact hr) (hg j) (by rw [X.hmg j]; exact hm) (by rw [X.hK j]; exact hk) (by rw [X.hK j]; exact hb) .nil pass0 (pa_cons (aE_ok j) (aA_ok j) (star_of st)) hd (star_of st) (stars_any st2)) fun B F0 F H σ I r Q q => ?_
  refine he B F H σ I.fh r _ fun l xs F2 H2 g h1 h2 h3 h4 => ?_
  have := Reps.ints_inv (ns := [x0, y0, z0]) h4
  subst this
  refine h B F2 H2 σ g.fh (r.grow g) _ fun vs F3 H3 g3 rv => ?_
  have hF3 : F3 l = none := by
    cases z : F3 l with
    | none => rfl
    | some u =>
      rcases g3.new l (by rw [z]; simp) with w | w
      · exact absurd h1 w
      · rw [h3] at w; cases w
  have gg := g.trans g3
  refine ⟨l, vs, F3, ds, n, n', R, x0, y0, z0, by rw [List.append_nil], g3.hh _ _ h3, ok, hF3, g3.fh, rv, hf, fun v F4 H4 d x' y' z' kk ff fh nw hg' ok' rv4 rd => ?_⟩
  have g4 : Grow F H F4 H4 := ⟨fun y o hy => kk y o (fun w => by rw [w, h2] at hy; cases hy) (gg.hh y o hy), gg.ff.trans ff, fh, fun y hy => by
    rcases nw y hy with w | w
    · exact gg.new y w
    · exact .inr (fresh_back gg.hh w)⟩
  exact q v F4 H4 ρ d (I.grow g4) g4.ff (r.grow g4) rv4 ⟨rfl, rd⟩
/-! ### a call by two keywords alone -/
def swap2 {α : Type} : List α → List α → List α
  | [], [x, y] => [y, x]
  | _, _ => []
theorem g_callKw {f : List D → D → Prop} {x n1 n2 : Str} {ps : List Str} {fA : Addr} {fd : FuncData} {e1 e2 : Expr} {k1 k2 : Pos} {d1 d2 d : D} (F : FnOk X.P X.w X.K X.mg X.base CX0 k fA fd ps (spD f)) (hm : X.mg x = some (.ref fA)) (hk : PySem.W.keepIn X.K (.ref fA) = true) (hb : KBinds X.K fd ps [n1, n2] swap2 swap2)
    (hr : Room k X.A) (h1 : GE X e1 ρ d1) (h2 : GE X e2 ρ d2) (hf : f [d2, d1] d) (hg : ∀ j, Gl (X.Y j) x := by intro _; rfl) (hd : (x == ("__debug__" : Str)) = false := by decide)
    (hall : ∀ j, (backToKw pos (keywordEach [⟨n1, e1, k1⟩, ⟨n2, e2, k2⟩] (X.Y j).env)).all (·.1.isSome) = true := by intro _; rfl) (hks : ∀ j, (backToKw pos (keywordEach [⟨n1, e1, k1⟩, ⟨n2, e2, k2⟩] (X.Y j).env)).filterMap (·.1) = [n1, n2] := by intro _; rfl)
    (hpl : ∀ j, ((backTo pos (starEach [] (X.Y j).env)).any (·.1) || (backToKw pos (keywordEach [⟨n1, e1, k1⟩, ⟨n2, e2, k2⟩] (X.Y j).env)).any (·.1.isNone)) = false := by intro _; rfl) :
    GE X (.Call (.Name x p) [] [⟨n1, e1, k1⟩, ⟨n2, e2, k2⟩] pos) ρ d := by
  refine ge_by (t := fun σ H Q => tCons (aE X e1) (tCons (aE X e2) tNil) σ H fun vs H2 => ∃ u v, vs = [u, v] ∧ spD f [v, u] H2 Q E0) (fun j => ⟨fun pins s σ H Q I h => ?_⟩) fun B F0 H σ ex r Q q => ?_
  · refine wpAny_Call_Name_kw (ld_glob I (hg j) (by rw [X.hmg j]; exact hm) ?_ hd)
    refine PySem.W.callWith_KW0 (h₀ := (X.Y j).base) I.ok.mod.kin (by rw [X.hK j]; exact hk) (hall j) ?_ (hpl j)
    refine thn ((pk_cons (nm := n1) (kpos := k1) (aE_ok (X := X) (e := e1) j) (pk_cons (nm := n2) (kpos := k2) (aE_ok (X := X) (e := e2) j) pk_nil)).run pos pins s σ H (fun vs H2 => ∃ u v, vs = [u, v] ∧ spD f [v, u] H2 Q E0) I h) fun ws s2 ⟨zs, H2, I2, rz, u, v, ez, q2⟩ => ⟨I2.kIn, ?_⟩
    subst ez
    rw [hks j]
    exact run_fnk (us := []) (vs := []) (FnOk.at F j) (by rw [X.hA j]; exact hr) (by rw [X.hK j]; exact hb) pass0 I2 .nil rz q2
  · refine h1 B F0 H σ ex r _ fun u F2 H2 g ru => h2 B F2 H2 σ g.fh (r.grow g) _ fun v F3 H3 g3 rv => ?_
    exact ⟨u, v, rfl, F3, [d2, d1], d, g3.fh, .cons rv (.cons (ru.mono g3.ff) .nil), hf, fun w F4 H4 g4 rw' => q w F4 H4 ((g.trans g3).trans g4) rw'⟩
end
section
variable {P : Program} {w : World} {K : PySem.W.Frag} {mg : Str → Option Value} {base : Heap} {x qual : Str} {st : Stmt} {f : Addr} {fd : FuncData} {N ps : List Str} {k : Nat}
/-- a def whose last statement returns a new list -/
theorem fn_N (g : List D → List D → Prop) (F : Fun K x qual st f fd) (S : FnScope N ps (defScope st)) {s1 : Stmt} {e : Expr} {pos : Pos} (hbd : defBody st = [s1, .Return (some e) pos]) (hl : ∀ ds es, g ds es → ds.length = ps.length)
    (body : ∀ (cdv : Value) (A : Around) (outer : List PySem.Env) (s : Shared) (H : Hp) (E : XK), Room k (fmOf P w K mg base N S.nd qual st f cdv A outer s H E).A → ∀ ds es, g ds es →
      GS (fmOf P w K mg base N S.nd qual st f cdv A outer s H E) s1 (initE N.length ds) { nx := fun ρ1 => GN (fmOf P w K mg base N S.nd qual st f cdv A outer s H E) e ρ1 es, rt := fun _ _ => False }) : FnOk P w K mg base CX0 (k + 1) f fd ps (spN g) := by
  refine F.ok S (fun vs H Q E h => ?_) fun cdv A outer s H vs Q E hr h => ?_
  · obtain ⟨F, ds, es, _, r, hg, _⟩ := h
    rw [r.length, hl ds es hg]
  · obtain ⟨F1, ds, es, ex, r, hg, q⟩ := h
    let X := fmOf P w K mg base N S.nd qual st f cdv A outer s H E
    rw [hbd]
    refine ⟨_, pss_cons (aS_ok (X := X) ()) (pss_one (ps_ret (aE_ok (X := X) ()))), ?_⟩
    refine body cdv A outer s H E hr ds es hg H F1 F1 H _ _ ⟨Ex.refl H, Ex.refl F1, ex, fun a h => .inl h⟩ (repE_init r) ⟨fun F2 H2 σ2 ρ2 I2 e2 r2 k => ?_, fun F2 H2 σ2 ρ2 v d' I2 e2 r2 rv k => k.elim, fun F2 H2 σ2 ρ2 I2 e2 r2 k => k.elim, fun F2 H2 σ2 ρ2 I2 e2 r2 k => k.elim⟩
    refine k H F2 H2 σ2 I2.fh r2 _ fun l xs F3 H3 g3 h1 h2 h3 h4 => ?_
    exact q l xs F3 H3 (Grow.trans ⟨I2.bh, e2, I2.fh, I2.new⟩ g3) h1 (fresh_back I2.bh h2) h3 h4
end
end Cv
end
section
set_option Elab.async false
set_option linter.all false
set_option maxRecDepth 100000
set_option maxHeartbeats 4000000
namespace Cv
open PySem L2 Evl
/-! ### defs that are run where no text of a list is under way -/
structure FnG (P : Program) (w : World) (K : PySem.W.Frag) (mg : Str → Option Value) (base : Heap) (k : Nat) (f : Addr) (fd : FuncData) (ps : List Str) (sp : Sp) : Prop where
  len : ∀ vs H Q E, sp vs H Q E → vs.length = ps.length
  run : ∀ (A : Around) (fr : List PySem.Env) (s : Shared) (H : Hp) (args : Args) (us : List Value) (vs : List V) (Q : VK) (E : XK), A.guards = some [] → Room k A → Env0 P w K mg base A fr s H → BindsTo s fd args (ps.zip us) → Vals vs us → sp vs H Q E →
    codeAny (model P w) A (.call (.ref f) args) (CR CX0 fr P w H s Q E) s
section
variable {P : Program} {w : World} {K : PySem.W.Frag} {mg : Str → Option Value} {base : Heap} {x qual : Str} {st : Stmt} {f : Addr} {fd : FuncData} {N ps : List Str} {k : Nat} {sp : Sp}
theorem Fun.okG (F : Fun K x qual st f fd) (S : FnScope N ps (defScope st)) (len : ∀ vs H Q E, sp vs H Q E → vs.length = ps.length)
    (hbody : ∀ (cdv : Value) (A : Around) (fr : List PySem.Env) (s : Shared) (H : Hp) (vs : List V) (Q : VK) (E : XK), A.guards = some [] → Room k (A.deeper (PyProof.Rows.envOfC qual (defScope st) s.heap.objs.size f cdv)) → sp vs H Q E →
      ∃ t, PSs (cxOf CX0 P w K mg base N qual (defScope st) f cdv A fr s H E).nox (defBody st) t ∧ t { nx := fun _ H' => Q .non H', rt := Q } (L2.start N vs) H) : FnG P w K mg base (k + 1) f fd ps sp := by
  obtain ⟨ocV, odA, kwV, docV, pmV, anA, cdv, ctV, slV, rfl, found, isCode⟩ := F.ex
  refine ⟨len, fun A fr s H args us vs Q E gd room en bd rv want => ?_⟩
  have same := len _ _ _ _ want
  have inK : K.In s.heap := en.mod.kin.keeps fun b o q => (en.bs b o q).1
  have noLim : s.heap.NoLimit := en.mod.nolimit.keeps fun b o q => (en.bs b o q).1
  refine codeAny_call_function room.depth (inK _ _ found) rfl S.co S.gen rfl (PySem.W.codeRec_of inK isCode) (bd _ _ _ _ ?_)
  refine wpAny_newFunctionEnv_cells S.kind (fun ⟨nm, vl⟩ mem => ?_) fun env ee s1 inside => ?_
  · rcases S.par nm (List.of_mem_zip mem).1 with lc | cl
    · exact .inl lc
    · exact .inr ⟨cl, PySem.W.cellsFrom_some _ _ _ (.inl cl)⟩
  subst ee
  refine ⟨noLim.keeps inside.toInCall.keep, codeAny_func ?_⟩
  obtain ⟨t, reads, holds⟩ := hbody cdv A fr s H vs Q E gd (room.deeper _) want
  have J0 : Inv (cxOf CX0 P w K mg base N qual (defScope st) f cdv A fr s H E) [] (L2.start N vs) H s1 := inv_start S room.hd en same rv inside
  refine wpAny_mono (reads.nox.run [] s1 (L2.start N vs) H _ J0 holds) (fun fl s2 done => ?_) fun e s2 q => q
  cases fl with
  | ret u =>
    obtain ⟨v, σ2, H2, J, r2, q⟩ := done
    exact ⟨v, H2, J.os, J.bare, J.base, J.hok, r2, q⟩
  | next =>
    obtain ⟨σ2, H2, J, q⟩ := done
    exact ⟨V.non, H2, J.os, J.bare, J.base, J.hok, rfl, q⟩
  | brk => exact done.elim fun _ z => z.elim fun _ z => z.2.elim
  | cont => exact done.elim fun _ z => z.elim fun _ z => z.2.elim
/-- a drawing def of this kind -/
theorem fn_GG (g : Nat → List D → Nat → (D → Prop) → Prop) (F : Fun K x qual st f fd) (S : FnScope N ps (defScope st)) (hl : ∀ n ds n' R, g n ds n' R → ds.length + 1 = ps.length)
    (body : ∀ (cdv : Value) (A : Around) (outer : List PySem.Env) (s : Shared) (H : Hp) (E : XK), (fmOf P w K mg base N S.nd qual st f cdv A outer s H E).A.guards = some [] → Room k (fmOf P w K mg base N S.nd qual st f cdv A outer s H E).A → ∀ gA n ds n' R, g n ds n' R →
      GSs (fmOf P w K mg base N S.nd qual st f cdv A outer s H E) (defBody st) (initG N.length gA n ds) { nx := fun _ => False, rt := fun ρ2 d' => R d' ∧ ∃ m, m ≤ n' ∧ ρ2[0]? = some (some (.gen gA m)) }) : FnG P w K mg base (k + 1) f fd ps (spG g) := by
  refine Fun.okG F S (fun vs H Q E h => ?_) fun cdv A outer s H vs Q E gd hr h => ?_
  · obtain ⟨gA, ws, F, ds, n, n', R, a, b, c, rfl, _, _, _, _, r, hg, _⟩ := h
    rw [List.length_cons, r.length, hl n ds n' R hg]
  · obtain ⟨gA, ws, F1, ds, n, n', R, a, b, c, rfl, hH, ok, hF, e, r, hg, q⟩ := h
    refine ⟨aSs (fmOf P w K mg base N S.nd qual st f cdv A outer s H E) (defBody st), aSs_ok (X := fmOf P w K mg base N S.nd qual st f cdv A outer s H E) (), ?_⟩
    let B : Hp := fun z => if z = gA then none else H z
    have hBg : B gA = none := if_pos rfl
    have hBn : ∀ z, z ≠ gA → B z = H z := fun z hz => if_neg hz
    have hBH : Ex B H := fun z o hz => by
      by_cases h : z = gA
      · rw [h, hBg] at hz; cases hz
      · rw [hBn z h] at hz; exact hz
    have hat : ∀ i, Sl.at ((initG N.length gA n ds).getD (i + 1) none) = none := fun i => by
      unfold initG
      rw [List.getD_cons_succ, List.getD_eq_getElem?_getD]
      by_cases hi : i < ds.length
      · rw [List.getElem?_append_left (by simpa using hi), List.getElem?_map, List.getElem?_eq_getElem hi]; rfl
      · rw [List.getElem?_append_right (by simp; omega), List.getElem?_replicate]
        split <;> rfl
    have hlr := r.length
    have r0 : RepE B F1 H (L2.start N (.ref gA :: ws)) (initG N.length gA n ds) := by
      refine ⟨by simp [L2.start, initG, hlr], fun i => ?_, fun i j l h1 h2 => ?_⟩
      · cases i with
        | zero => exact ⟨rfl, hF, hBg, a, b, c, hH, ok⟩
        | succ i =>
          unfold initG L2.start
          rw [List.getD_cons_succ, List.map_cons, List.cons_append, List.getD_cons_succ, List.getD_eq_getElem?_getD, List.getD_eq_getElem?_getD]
          by_cases hi : i < ds.length
          · rw [List.getElem?_append_left (by simp; omega), List.getElem?_append_left (by simpa using hi), List.getElem?_map, List.getElem?_map, List.getElem?_eq_getElem hi]
            obtain ⟨v, h1, h2⟩ := r.get (List.getElem?_eq_getElem hi)
            rw [h1]
            exact ⟨v, rfl, h2⟩
          · rw [List.getElem?_append_right (by simp; omega), List.getElem?_append_right (by simp; omega), List.getElem?_replicate, List.getElem?_replicate, ite_none_sl]
            trivial
      · cases i with
        | zero =>
          cases j with
          | zero => rfl
          | succ j => rw [hat] at h2; cases h2
        | succ i => rw [hat] at h1; cases h1
    refine body cdv A outer s H E gd hr gA n ds n' R hg B F1 F1 H _ _ ⟨hBH, Ex.refl F1, e, fun z h => .inl h⟩ r0 ⟨fun F2 H2 σ2 ρ2 I2 e2 r2 k => k.elim, fun F2 H2 σ2 ρ2 v d' I2 e2 r2 rv k => ?_, fun F2 H2 σ2 ρ2 I2 e2 r2 k => k.elim, fun F2 H2 σ2 ρ2 I2 e2 r2 k => k.elim⟩
    obtain ⟨rd, m, hm, k⟩ := k
    obtain ⟨_, hF2, _, a', b', c', hH2, ok2⟩ := r2.gen k
    refine q v F2 H2 d' a' b' c' (fun z o hz ho => I2.bh z o (by rw [hBn z hz]; exact ho)) e2 I2.fh (fun z hz => ?_) hH2 (ok2.mono hm) rv rd
    rcases I2.new z hz with w | w
    · exact .inl w
    · by_cases h : z = gA
      · rw [h, hF2] at hz; exact absurd rfl hz
      · rw [hBn z h] at w; exact .inr w
/-- the law's own promise -/
def spL (K : PySem.W.Frag) : Sp := fun vs H Q _ => ∃ (a : Addr) (ns : List Int), vs = [.ref a] ∧ SqL K H a (ns.map V.int) ∧ ∀ H', Q (.bl true) H'
theorem fn_L (F : Fun K x qual st f fd) (S : FnScope N ps (defScope st)) (hl : ps.length = 1)
    (body : ∀ (cdv : Value) (A : Around) (outer : List PySem.Env) (s : Shared) (H : Hp) (E : XK), (fmOf P w K mg base N S.nd qual st f cdv A outer s H E).A.guards = some [] → Room k (fmOf P w K mg base N S.nd qual st f cdv A outer s H E).A → ∀ a ns,
      GSs (fmOf P w K mg base N S.nd qual st f cdv A outer s H E) (defBody st) (initE N.length [scrD K a ns]) { nx := fun _ => False, rt := fun _ d => d = .bl true }) : FnG P w K mg base (k + 1) f fd ps (spL K) := by
  refine Fun.okG F S (fun vs H Q E h => ?_) fun cdv A outer s H vs Q E gd hr h => ?_
  · obtain ⟨a, ns, rfl, _⟩ := h
    exact hl.symm
  · obtain ⟨a, ns, rfl, hS, q⟩ := h
    refine ⟨aSs (fmOf P w K mg base N S.nd qual st f cdv A outer s H E) (defBody st), aSs_ok (X := fmOf P w K mg base N S.nd qual st f cdv A outer s H E) (), ?_⟩
    refine body cdv A outer s H E gd hr a ns H H H H _ _ ⟨Ex.refl H, Ex.refl H, Ex.refl H, fun a h => .inl h⟩ (repE_init (.cons (rep_scr hS) .nil)) ⟨fun F2 H2 σ2 ρ2 I2 e2 r2 k => k.elim, fun F2 H2 σ2 ρ2 v d' I2 e2 r2 rv k => ?_, fun F2 H2 σ2 ρ2 I2 e2 r2 k => k.elim, fun F2 H2 σ2 ρ2 I2 e2 r2 k => k.elim⟩
    subst k
    rw [rv.bl_inv]
    exact q H2
end
/-! ### calls of such defs -/
structure OwnG (P : Program) (w : World) (K : PySem.W.Frag) (mg : Str → Option Value) (base : Heap) (k : Nat) (x : Str) (ps : List Str) (sp : Sp) : Prop where
  ex : ∃ fA fd, FnG P w K mg base k fA fd ps sp ∧ mg x = some (.ref fA) ∧ PySem.W.keepIn K (.ref fA) = true ∧ Binds K fd ps []
section
variable {X : Fm} {ρ : Env} {e : Expr} {es : List Expr} {pos p : Pos} {ds : List D} {k : Nat} {fA : Addr} {fd : FuncData} {ps : List Str} {x : Str} {sp : Sp} {t : TA}
theorem pe_callG {j : X.ι} (F : FnG X.P X.w X.K X.mg X.base k fA fd ps sp) (gd : X.A.guards = some []) (hr : Room k X.A) (hg : Gl (X.Y j) x) (hm : X.mg x = some (.ref fA)) (hk : PySem.W.keepIn X.K (.ref fA) = true) (hb : Binds X.K fd ps [])
    (ha : PA (X.Y j) (e :: es) t) (hd : (x == ("__debug__" : Str)) = false) (s1 : starEach (e :: es) (X.Y j).env = (false, eval e (X.Y j).env) :: starEach es (X.Y j).env) (s2 : (backTo pos (starEach es (X.Y j).env)).any (·.1) = false) :
    PE (X.Y j) (.Call (.Name x p) (e :: es) [] pos) (fun σ H Q => t σ H fun vs H1 => sp vs H1 Q E0) := by
  have F' : FnG (X.Y j).prog (X.Y j).w (X.Y j).K (X.Y j).mg (X.Y j).base k fA fd ps sp := by
    rw [X.hP j, X.hw j, X.hK j, X.hmg j, X.hb j]; exact F
  have hb' : Binds (X.Y j).K fd ps [] := by rw [X.hK j]; exact hb
  refine ⟨fun pins s σ H Q I want => ?_⟩
  refine wpAny_Call_Name_kw (ld_glob I hg (by rw [X.hmg j]; exact hm) ?_ hd)
  refine PySem.W.callWith_K (h₀ := (X.Y j).base) I.ok.mod.kin (by rw [X.hK j]; exact hk) (thn (ha.run pos pins s σ H _ I want) fun us t1 ⟨vs, H1, J, rv, q⟩ => ⟨J.kIn, ?_⟩) s1 s2
  have same := F'.len _ _ _ _ q
  have bound := hb' t1 us J.kIn (by rw [List.append_nil, ← rv.length]; exact same)
  rw [List.append_nil] at bound
  refine wpAny_call (codeAny_mono (F'.run (X.Y j).A (X.Y j).stack t1 H1 ⟨us, []⟩ us vs Q E0 (by rw [X.hA j]; exact gd) (by rw [X.hA j]; exact hr) J.env0 bound rv q) fun res t2 out => ?_)
  cases res with
  | error err => exact out.elim
  | ok fl =>
    cases fl with
    | ret u => exact J.after out
    | next => exact out.elim
    | brk => exact out.elim
    | cont => exact out.elim
theorem gx_callGG {f : Nat → List D → Nat → (D → Prop) → Prop} {n n' : Nat} {R : D → Prop} {x0 y0 z0 : Int} (O : OwnG X.P X.w X.K X.mg X.base k x ps (spG f)) (gd : X.A.guards = some []) (hr : Room k X.A) (he : GN X e ρ [.int x0, .int y0, .int z0]) (ok : GenOk n x0 y0 z0) (h : GA X es ρ ds) (hf : f n ds n' R)
    (hg : ∀ j, Gl (X.Y j) x := by intro _; rfl) (hd : (x == ("__debug__" : Str)) = false := by decide) (st : noStar e = true := by rfl) (st2 : noStars es = true := by rfl) : GX X (.Call (.Name x p) (e :: es) [] pos) ρ (fun ρ2 d => ρ2 = ρ ∧ R d) := by
  obtain ⟨fA, fd, F, hm, hk, hb⟩ := O.ex
  refine gx_by (fun j => pe_callG F gd hr (hg j) hm hk hb (pa_cons (aE_ok j) (aA_ok j) (star_of st)) hd (star_of st) (stars_any st2)) fun B F0 F H σ I r Q q => ?_
  refine he B F H σ I.fh r _ fun l xs F2 H2 g h1 h2 h3 h4 => ?_
  have := Reps.ints_inv (ns := [x0, y0, z0]) h4
  subst this
  refine h B F2 H2 σ g.fh (r.grow g) _ fun vs F3 H3 g3 rv => ?_
  have hF3 : F3 l = none := by
    cases z : F3 l with
    | none => rfl
    | some u =>
      rcases g3.new l (by rw [z]; simp) with w | w
      · exact absurd h1 w
      · rw [h3] at w; cases w
  have gg := g.trans g3
  refine ⟨l, vs, F3, ds, n, n', R, x0, y0, z0, rfl, g3.hh _ _ h3, ok, hF3, g3.fh, rv, hf, fun v F4 H4 d x' y' z' kk ff fh nw hg' ok' rv4 rd => ?_⟩
  have g4 : Grow F H F4 H4 := ⟨fun y o hy => kk y o (fun w => by rw [w, h2] at hy; cases hy) (gg.hh y o hy), gg.ff.trans ff, fh, fun y hy => by
    rcases nw y hy with w | w
    · exact gg.new y w
    · exact .inr (fresh_back gg.hh w)⟩
  exact q v F4 H4 ρ d (I.grow g4) g4.ff (r.grow g4) rv4 ⟨rfl, rd⟩
/-! ### the text of lists -/
def rRep (K : PySem.W.Frag) : List V → Hp → VK → Prop := fun vs H Q => ∃ (a : Addr) (d : PyData), vs = [V.ref a] ∧ Dp K H (.ref a) d ∧ d.showable = true ∧ d.hasDict = false ∧ d.depth ≤ 60 ∧ d.shown.length ≤ sizeLine ∧ Q (.str d.shown) H
theorem call_rep {Y : Cx} (gd : Y.A.guards = some []) (hu : Y.A.units + 64 < cLine) : CallR Y (.builtin "repr") (rRep Y.K) := by
  intro pins s σ H vs us Q I rv want
  obtain ⟨a, d, rfl, hd, h1, h2, h3, h4, q⟩ := want
  rw [Vals.ref1 rv]
  obtain ⟨as, rd⟩ := Dp.reads I d (.ref a) (.ref a) hd rfl
  refine PySem.repr_of_reads' rd h1 (fun z => absurd z (by rw [h2]; decide)) gd (by omega) (fun b o z => z) (fun h' u tk hk => ⟨.str d.shown, H, I.kept hk, ⟨_, rfl⟩, q⟩) h4
theorem g_repr {d : D} {a : Expr} (bu : BuAll X.mg) (gd : X.A.guards = some []) (hr : Room k X.A) (ha : GE X a ρ d) (hl : ∃ ds, d = .lst ds) (hn : d.num = true) (h1 : d.py.showable = true) (h2 : d.py.hasDict = false) (h3 : d.py.depth ≤ 60) (h4 : d.py.shown.length ≤ sizeLine)
    (hg : ∀ j, Gl (X.Y j) "repr" := by intro _; rfl) (st : noStar a = true := by rfl) : GE X (.Call (.Name "repr" p) [a] [] pos) ρ (.str d.py.shown) := by
  have bn : BuN X "repr" (.builtin "repr") := ⟨bu.repr, by decide +kernel, by decide, by decide⟩
  refine g_callB (r := fun X => rRep X.K) (fun j => by rw [← X.hK j]; exact call_rep (by rw [X.hA j]; exact gd) (by rw [X.hA j]; exact hr.units)) bn (a_cons ha a_nil st) (fun F H vs e rv Q q => ?_) hg (by simp [noStars, st])
  obtain ⟨v, ws, rfl, r1, r2⟩ := rv.cons_inv
  cases r2.nil_inv
  obtain ⟨ds, rfl⟩ := hl
  have hdp := Rep.dp (K := X.K) e r1 hn
  obtain ⟨l, xs, rfl, _, _⟩ := r1.lst_inv
  exact ⟨l, _, rfl, hdp, h1, h2, h3, h4, q _ F H (Grow.refl e) (.str _)⟩
end
end Cv
end
section
set_option Elab.async false
set_option linter.all false
set_option maxRecDepth 100000
set_option maxHeartbeats 4000000
namespace Cv
open PySem PySem.Spec PyProof.Rows L2
/-- the law's call, from the promise of its def; where the script stands at a, known to S -/
theorem call_from {P : Program} {w : World} {K : PySem.W.Frag} {mg mb : Str → Option Value} {k : Nat} {fA a : Addr} {fd : FuncData} {x : Str} {st : Shared} {vs : List Value} {ns : List Int}
    (inK : K.In st.heap) (gl : st.heap.Ns mainGlobals mg) (bl : st.heap.Ns builtinsNs mb) (bb : ∀ y : Str, y ≠ "__name__" → mb y = bootBuiltins y) (nl : st.heap.NoLimit) (ng : st.gens = #[])
    (at_ : st.heap.get? a = some { cls := .type "list", data := .seq vs.toArray }) (nums_ : IntsAre vs ns) (small : ns.length ≤ sizeLine) (room : Room k callerA)
    (F : ∀ bs : Heap, K.In bs → bs.Ns mainGlobals mg → FnG P w K mg bs k fA fd [x] (spL K)) (bind : ∀ (t : Shared) (u : Value), BindsTo t fd ⟨[u], []⟩ [(x, u)]) :
    codeAny (model P w) callerA (.call (.ref fA) ⟨[.ref a], []⟩) (fun r t => r = .ok (.ret (.bool true)) ∧ OldK st.heap t.heap ∧ t.os = st.os ∧ AllBare t.gens) st := by
  have rel := vals_ints nums_
  have same := nums_.length
  have main : ∀ H : Hp, (∀ b u, H b = some u → b = a ∧ K.lookup a = none ∧ ∃ ob ys, u = .frz ob (.lst ys)) → SqL K H a (ns.map V.int) → HOk P w H st.heap →
      codeAny (model P w) callerA (.call (.ref fA) ⟨[.ref a], []⟩) (fun r t => r = .ok (.ret (.bool true)) ∧ OldK st.heap t.heap ∧ t.os = st.os ∧ AllBare t.gens) st := fun H only seq heapOk => by
    have part : ∀ {b : Addr} {ob : Obj}, st.heap.get? b = some ob → H b = none → (hidT st.heap H).get? b = some ob := fun q z => hidT_get q z
    have noDict : ∀ {b : Addr} {ob : Obj} {es : Array DictEntry} {ep : Nat}, st.heap.get? b = some ob → ob.data = .dict es ep → H b = none := fun {b ob es ep} q dd => by
      cases z : H b with
      | none => rfl
      | some u =>
        obtain ⟨rfl, _, _⟩ := only b u z
        rw [at_] at q
        cases q
        exact absurd (show Data.seq vs.toArray _ = Data.dict es ep from dd) (by simp)
    have keepNs : ∀ {b : Addr} {m : Str → Option Value}, st.heap.Ns b m → (hidT st.heap H).Ns b m := fun ⟨ob, es, ep, q, dd, r⟩ => ⟨ob, es, ep, part q (noDict q dd), dd, r⟩
    have inB : K.In (hidT st.heap H) := fun b ob q => part (inK b ob q) (by
      cases z : H b with
      | none => rfl
      | some u =>
        obtain ⟨rfl, none', _⟩ := only b u z
        rw [none'] at q
        cases q)
    have modB : Mod K mg (hidT st.heap H) := ⟨inB, keepNs gl, ⟨mb, keepNs bl, bb⟩, by
      obtain ⟨mc, q1, q2⟩ := nl
      exact ⟨mc, keepNs q1, q2⟩⟩
    have env : Env0 P w K mg (hidT st.heap H) callerA [] st H := ⟨rfl, modB, fun b ob q => of_hidT q, Nat.le_of_eq (hidT_size _ _), trivial, fun b mem => absurd (show b ∈ ([] : List Addr) from mem) (by simp), heapOk, .of_eq ng⟩
    refine codeAny_mono ((F _ inB (keepNs gl)).run callerA [] st H ⟨[.ref a], []⟩ [.ref a] [.ref a] (fun v _ => v = .bl true) (fun _ _ _ => False) rfl room env (bind st (.ref a)) (.cons rfl .nil) ⟨a, ns, rfl, seq, fun _ => rfl⟩) fun r t out => ?_
    cases r with
    | error err => exact out.elim
    | ok fl =>
      cases fl with
      | next => exact out.elim
      | brk => exact out.elim
      | cont => exact out.elim
      | ret u =>
        obtain ⟨v, H2, os, bare, un, ok2, rv, val⟩ := out
        have val' : v = .bl true := val
        subst val'
        obtain rfl : u = Value.bool true := rv
        refine ⟨rfl, OldK.of_keep fun b ob q => ?_, os, bare⟩
        cases z : H b with
        | none => exact un.keep b ob q z (fun mem => absurd (show b ∈ ([] : List Addr) from mem) (by simp)) (by simp)
        | some u =>
          obtain ⟨_, _, o1, ys, rfl⟩ := only b u z
          obtain ⟨q1, _⟩ := heapOk b _ z
          obtain ⟨q2, _⟩ := ok2 b _ (un.frzs b o1 _ z)
          rw [q] at q1
          cases q1
          exact q2
  cases lk : K.lookup a with
  | some ob =>
    have q := inK a ob lk
    rw [at_] at q
    cases q
    exact main (fun _ => none) (fun b u z => absurd (show (none : Option HO) = some u from z) (by simp)) (.inr ⟨_, vs.toArray, _, lk, rfl, rfl, rfl, by rw [List.size_toArray, same]; exact small, by simpa using rel⟩) fun b u z => absurd (show (none : Option HO) = some u from z) (by simp)
  | none =>
    let H : Hp := fun b => if b = a then some (.frz { cls := .type "list", data := .seq vs.toArray } (.lst (ns.map V.int))) else none
    have here : H a = some (.frz { cls := .type "list", data := .seq vs.toArray } (.lst (ns.map V.int))) := if_pos rfl
    have away : ∀ b, b ≠ a → H b = none := fun b z => if_neg z
    refine main H (fun b u z => ?_) (.inl (.inr ⟨_, here⟩)) fun b u z => ?_
    · by_cases q : b = a
      · subst q
        rw [here] at z
        cases z
        exact ⟨rfl, lk, _, _, rfl⟩
      · rw [away b q] at z; cases z
    · by_cases q : b = a
      · subst q
        rw [here] at z
        cases z
        exact ⟨at_, by rw [List.length_map]; exact small, vs, _, rel, at_⟩
      · rw [away b q] at z; cases z
theorem walk_G {l : PySem.W.OpenLaw} {n k : Nat} {q : Program} {loose : List Str} {XP : (Str → Option Value) → Heap → Prop} {YP : World → Heap → Prop} {d : DefRec} {K : Params → PySem.W.Frag} {x : Str}
    (most : l.most = some n) (small : n ≤ sizeLine) (noDef : d.params.defaults = []) (room : Room k callerA) (inK : ∀ (w : World) (h : Heap), YP w h → (K w.params).In h)
    (F : ∀ (w : World) (mg : Str → Option Value) (fA : Addr) (h : Heap), (K w.params).In h → h.Ns mainGlobals mg → mg d.name = some (.ref fA) →
      ∃ fd : FuncData, (∀ (t : Shared) (u : Value), BindsTo t fd ⟨[u], []⟩ [(x, u)]) ∧ ∀ bs : Heap, (K w.params).In bs → bs.Ns mainGlobals mg → FnG l.prog w (K w.params) mg bs k fA fd [x] (spL (K w.params))) :
    PySem.W.WalkO q loose XP YP l.row.toRowW d [] (fun f vs => PySem.call f vs) := by
  refine Att.attach_call most noDef fun w t0 t1 mg mb fA ob pm cd doc a vs ns G Y isDef data code name list nums_ few ng => ?_
  obtain ⟨fd, bind, ok⟩ := F w mg fA _ (inK w _ Y) G.T.g name
  exact call_from (inK w _ Y) G.T.g G.T.b G.T.builtins G.T.nolimit ng list nums_ (Nat.le_trans few small) room ok bind
end Cv
end
section
set_option Elab.async false
set_option linter.all false
set_option maxRecDepth 100000
set_option maxHeartbeats 4000000
namespace Cv
open PySem L2 Evl
/-! ### == of instances by their own __eq__, either answer -/
def rOwnEq (C : Addr) (sp : Sp) : R2 := fun x y H Q => ∃ a b dx dy fs gs, x = .ref a ∧ y = .ref b ∧ H a = some (.ins C dx fs) ∧ H b = some (.ins C dy gs) ∧ sp [.ref a, .ref b] H (fun v H2 => (∃ k, v = .bl k) ∧ Q v H2) E0
theorem op_ownEq {Y : Cx} {n : Nat} {C f : Addr} {fd : FuncData} {ps : List Str} {sp : Sp} (F : FnOk Y.prog Y.w Y.K Y.mg Y.base CX0 n f fd ps sp) (room : Room n Y.A) (has : PySem.W.findIn Y.K (.ref C) "__eq__" = some (some (.ref f))) (isf : PySem.W.isFn Y.K (.ref f) = true) (bd : Binds Y.K fd ps []) : OpR Y (compareOp .Eq) (rOwnEq C sp) := by
  intro pins s σ H x y u v Q I rx ry want
  obtain ⟨a, b, dx, dy, fs, gs, rfl, rfl, ha, hb, q⟩ := want
  cases rx
  cases ry
  show wpAny (model Y.prog Y.w) Y.A (richCompare .Eq (.ref a) (.ref b)) (EP Y pins σ Q) Y.xe s
  obtain ⟨mA, J1, _⟩ := ins_get I.hok ha
  obtain ⟨mB, J2, _⟩ := ins_get I.hok hb
  obtain ⟨oA, L1, _⟩ := J1.look
  obtain ⟨oB, L2', _⟩ := J2.look
  obtain ⟨m, fr⟩ := I.fr
  refine PySem.W.cmp_K (op := .Eq) (tb := .ref C) room.units0 fr I.ok.mod.kin L1 L2'.type (by simp [PySem.W.notFirst]) has isf ?_
  have rel : Vals [V.ref a, V.ref b] [Value.ref a, Value.ref b] := .cons rfl (.cons rfl .nil)
  have len := F.len _ _ _ _ q
  refine wpAny_call (codeAny_mono (F.run Y.A Y.stack s H ⟨[.ref a, .ref b], []⟩ [.ref a, .ref b] [.ref a, .ref b] _ E0 room I.env0 (by
    have := bd s [.ref a, .ref b] I.kIn (by simpa using len)
    simpa using this) rel q) fun r s2 out => ?_)
  cases r with
  | error err => exact out.elim
  | ok fl =>
    cases fl with
    | ret w =>
      obtain ⟨z, H2, J, rz, ⟨k, ez⟩, q2⟩ := I.after out
      subst ez
      cases rz
      exact ⟨.bl k, H2, J, rfl, q2⟩
    | next => exact out.elim
    | brk => exact out.elim
    | cont => exact out.elim
section
variable {X : Fm} {ρ : Env} {a b : Expr} {pos : Pos} {k : Nat} {C : Addr} {fs gs : List (Str × D)} {r : Bool} {ps : List Str} {f : List D → D → Prop}
structure OwnE (P : Program) (w : World) (K : PySem.W.Frag) (mg : Str → Option Value) (base : Heap) (k : Nat) (C : Addr) (ps : List Str) (f : List D → D → Prop) : Prop where
  ex : ∃ fA fd, FnOk P w K mg base CX0 k fA fd ps (spD f) ∧ PySem.W.findIn K (.ref C) "__eq__" = some (some (.ref fA)) ∧ PySem.W.isFn K (.ref fA) = true ∧ Binds K fd ps []
theorem OwnE.mono {P : Program} {w : World} {K : PySem.W.Frag} {mg : Str → Option Value} {base : Heap} {j : Nat} (O : OwnE P w K mg base j C ps f) (h : j ≤ k) : OwnE P w K mg base k C ps f := by
  obtain ⟨fA, fd, F, q⟩ := O.ex
  exact ⟨fA, fd, F.mono h, q⟩
theorem g_ownEq (O : OwnE X.P X.w X.K X.mg X.base k C ps f) (room : Room k X.A) (ha : GE X a ρ (.obj C fs)) (hb : GE X b ρ (.obj C gs)) (hf : f [.obj C fs, .obj C gs] (.bl r)) : GE X (.Compare a [.Eq] [b] pos) ρ (.bl r) := by
  obtain ⟨fA, fd, F, h1, h2, h3⟩ := O.ex
  refine cmp_bl (r := rOwnEq C (spD f)) (fun j => op_ownEq (FnOk.at F j) (by rw [X.hA j]; exact room) (by rw [X.hK j]; exact h1) (by rw [X.hK j]; exact h2) (by rw [X.hK j]; exact h3)) ha hb fun F0 H v u e rv ru Q q => ?_
  obtain ⟨l, dx, xs, rfl, k1, _⟩ := id rv.obj_inv
  obtain ⟨m, dy, ys, rfl, k2, _⟩ := id ru.obj_inv
  exact ⟨l, m, dx, dy, xs, ys, rfl, rfl, e _ _ k1, e _ _ k2, F0, _, .bl r, e, .cons rv (.cons ru .nil), hf, fun z F2 H2 g rz => ⟨⟨r, rz.bl_inv⟩, q z F2 H2 g rz⟩⟩
end
end Cv
end
section
set_option Elab.async false
set_option linter.all false
set_option maxRecDepth 100000
set_option maxHeartbeats 4000000
namespace Cv
open PySem L2 Evl
/-! ### a, b, c = a list -/
section
variable {X : Fm} {ρ ρ2 : Env} {tgs : List Expr} {pos : Pos}
theorem tg_lst {ds : List D} {ts : List Nat} {k : Nat} (h : DGs (aGs X tgs) ds ts ρ ρ2) (hn : ∀ j, (assignEach tgs (X.Y j).env).length = ds.length := by intro _; rfl)
    (hst : ∀ j, (assignEach tgs (X.Y j).env).findIdx? (·.1) = none := by intro _; rfl) : DG (aG X (.Tuple tgs k pos)) (.lst ds) ts ρ ρ2 := fun B F H σ v e r rv Q q => by
  obtain ⟨l, xs, rfl, h1, r1⟩ := rv.lst_inv
  exact ⟨gLst X.K ds.length (aGs X tgs), fun j => by rw [← X.hK j]; exact pg_lst (X.calm j) (aGs_ok j) (hn j) (hst j), l, xs, rfl, SqL.of (e _ _ h1), r1.length, h B F H σ xs e r r1 Q q⟩
end
/-! ### abs, max of a list, the text of a truth value, is and is not of truth values -/
section
variable {X : Fm} {ρ : Env} {a b e : Expr} {pos p : Pos} {i : Int} {k c : Bool}
theorem bu_abs (h : BuAll X.mg) : BuN X "abs" (.builtin "abs") := ⟨h.abs, by decide +kernel, by decide, by decide⟩
theorem g_abs (bu : BuAll X.mg) (ha : GE X a ρ (.int i)) (hg : ∀ j, Gl (X.Y j) "abs" := by intro _; rfl) (st : noStar a = true := by rfl) : GE X (.Call (.Name "abs" p) [a] [] pos) ρ (.int (i.natAbs : Int)) :=
  g_callB (r := fun _ xs H Q => ∃ i, xs = [.int i] ∧ Q (.int (if i < 0 then -i else i)) H) (fun j => call_abs) (bu_abs bu) (a_cons ha a_nil st) (fun F H vs e rv Q q => by
    obtain ⟨v, ws, rfl, r1, r2⟩ := rv.cons_inv
    cases r2.nil_inv
    rw [r1.int_inv]
    refine ⟨i, rfl, q _ F H (Grow.refl e) ?_⟩
    have : (if i < 0 then -i else i) = (i.natAbs : Int) := by split <;> omega
    rw [this]; exact .int _) hg (by simp [noStars, st])
theorem g_maxL {ns : List Int} {m : Int} (bu : BuAll X.mg) (ha : GE X a ρ (L ns)) (hm : m ∈ ns) (hmax : ∀ y ∈ ns, y ≤ m) (hg : ∀ j, Gl (X.Y j) "max" := by intro _; rfl) (st : noStar a = true := by rfl) : GE X (.Call (.Name "max" p) [a] [] pos) ρ (.int m) :=
  g_callB (r := fun X => rMax X.K) (fun j => by rw [← X.hK j]; exact cr_max (X.calm j)) (bu_max bu) (a_cons ha a_nil st) (fun F H vs e rv Q q => by
    obtain ⟨v, ws, rfl, r1, r2⟩ := rv.cons_inv
    cases r2.nil_inv
    obtain ⟨l, xs, rfl, h1, r1⟩ := r1.lst_inv
    have := r1.ints_inv
    subst this
    refine ⟨l, ns, rfl, SqL.of (e _ _ h1), List.length_pos_of_mem hm, fun m' h1 h2 => ?_⟩
    have : m' = m := Int.le_antisymm (hmax _ h1) (h2 _ hm)
    subst this
    exact q _ F H (Grow.refl e) (.int _)) hg (by simp [noStars, st])
theorem call_reprB {Y : Cx} : CallR Y (.builtin "repr") (fun xs H Q => ∃ b, xs = [.bl b] ∧ Q (.str (if b then "True" else "False")) H) := by
  intro pins s σ H vs us Q I r h
  obtain ⟨b, rfl, q⟩ := h
  obtain ⟨u, rfl, r1⟩ := vals1 r
  cases r1
  exact PySem.P.repr_of_bool ⟨.str _, H, I.tok _, ⟨_, rfl⟩, q⟩
theorem g_reprB (bu : BuAll X.mg) (ha : GE X a ρ (.bl k)) (hg : ∀ j, Gl (X.Y j) "repr" := by intro _; rfl) (st : noStar a = true := by rfl) : GE X (.Call (.Name "repr" p) [a] [] pos) ρ (.str (if k then "True" else "False")) := by
  have bn : BuN X "repr" (.builtin "repr") := ⟨bu.repr, by decide +kernel, by decide, by decide⟩
  refine g_callB (r := fun _ xs H Q => ∃ b, xs = [.bl b] ∧ Q (.str (if b then "True" else "False")) H) (fun j => call_reprB) bn (a_cons ha a_nil st) (fun F H vs e rv Q q => ?_) hg (by simp [noStars, st])
  obtain ⟨v, ws, rfl, r1, r2⟩ := rv.cons_inv
  cases r2.nil_inv
  rw [r1.bl_inv]
  exact ⟨k, rfl, q _ F H (Grow.refl e) (.str _)⟩
theorem rd_isB : RD rIsB (.bl k) (.bl c) (.bl (decide (k = c))) := fun F H v u e hv hu Q q => by
  rw [hv.bl_inv, hu.bl_inv]
  exact ⟨k, c, rfl, rfl, q _ F H (Grow.refl e) (.bl _)⟩
theorem rd_notB : RD rNotB (.bl k) (.bl c) (.bl (!decide (k = c))) := fun F H v u e hv hu Q q => by
  rw [hv.bl_inv, hu.bl_inv]
  exact ⟨k, c, rfl, rfl, q _ F H (Grow.refl e) (.bl _)⟩
theorem g_isB (ha : GE X a ρ (.bl k)) (hb : GE X b ρ (.bl c)) : GE X (.Compare a [.Is] [b] pos) ρ (.bl (decide (k = c))) := cmp_bl (fun _ => op_isBl) ha hb rd_isB
theorem t_isB (ha : GE X a ρ (.bl k)) (hb : GE X b ρ (.bl c)) : GT X (.Compare a [.Is] [b] pos) ρ (decide (k = c)) := cmp_t (fun _ => op_isBl) ha hb rd_isB
theorem t_notB (ha : GE X a ρ (.bl k)) (hb : GE X b ρ (.bl c)) : GT X (.Compare a [.IsNot] [b] pos) ρ (!decide (k = c)) := cmp_t (fun _ => op_notBl) ha hb rd_notB
/-! ### bool(a or b) of lists -/
theorem nil_empty {ns : List Int} : (ns.map V.int).isEmpty = decide (ns = []) := by cases ns <;> simp
theorem g_orL {ns ms : List Int} (ha : GE X a ρ (L ns)) (hb : GE X b ρ (L ms)) : GE X (.BoolOp .Or [a, b] pos) ρ (L (if ns = [] then ms else ns)) :=
  ge_by (t := tOrT X.K (aE X a) (aE X b)) (fun j => by rw [← X.hK j]; exact pe_orT (aE_ok j) (pe_one (aE_ok j))) fun B F H σ e r Q q => by
    refine ha B F H σ e r _ fun v F2 H2 g rv => ?_
    obtain ⟨l, xs, rfl, h1, r1⟩ := id rv.lst_inv
    have := r1.ints_inv
    subst this
    refine ⟨!(ns.map V.int).isEmpty, .inl ⟨_, SqL.of (g.fh _ _ h1), rfl⟩, ?_⟩
    rw [nil_empty]
    by_cases z : ns = []
    · rw [if_neg (by simp [z])]
      rw [if_pos z] at q
      exact hb B F2 H2 σ g.fh (r.grow g) Q fun u F3 H3 g3 ru => q u F3 H3 (g.trans g3) ru
    · rw [if_pos (by simp [z])]
      rw [if_neg z] at q
      exact q _ F2 H2 g rv
theorem g_boolL {ns : List Int} (bu : BuAll X.mg) (ha : GE X a ρ (L ns)) (hg : ∀ j, Gl (X.Y j) "bool" := by intro _; rfl) (st : noStar a = true := by rfl) : GE X (.Call (.Name "bool" p) [a] [] pos) ρ (.bl (!decide (ns = []))) := by
  have bn : BuN X "bool" (.type "bool") := ⟨bu.bool, by decide +kernel, by decide, by decide⟩
  refine g_callTy (r := fun X xs H Q => ∃ (a : Addr) (zs : List V), xs = [.ref a] ∧ SqL X.K H a zs ∧ Q (.bl (!zs.isEmpty)) H) (fun j => by rw [← X.hK j]; exact call_boolL) bn (a_cons ha a_nil st) (fun F H vs e rv Q q => ?_) hg (by simp [noStars, st])
  obtain ⟨v, ws, rfl, r1, r2⟩ := rv.cons_inv
  cases r2.nil_inv
  obtain ⟨l, xs, rfl, h1, r1⟩ := r1.lst_inv
  have := r1.ints_inv
  subst this
  refine ⟨l, _, rfl, SqL.of (e _ _ h1), ?_⟩
  rw [nil_empty]
  exact q _ F H (Grow.refl e) (.bl _)
end
/-! ### bool of an instance with an own __bool__ -/
section
open PySem.W
variable {prog : Program} {w : World} {A : Around} {E : Value → Shared → Prop} {s : Shared} {K : Frag} {x C f : Addr} {ox : Obj} {od : Option Obj}
theorem special_own {name : Str} {args : List Value} {Q : Option Value → Shared → Prop} (X : K.In s.heap) (I : InstAt s.heap x ox C od) (hs : findIn K (.ref C) name = some (some (.ref f))) (hf : isFn K (.ref f) = true)
    (h : wpAny (model prog w) A (call (.ref f) (.ref x :: args)) (fun v s' => Q (some v) s') E s) : wpAny (model prog w) A (callSpecial? (.ref x) name args) Q E s := by
  unfold callSpecial? specialOf
  refine wpAny_bind (wpAny_bind (I.type.here ((looks_findIn X hs).here ?_)))
  refine wpAny_holding ?_
  refine wpAny_bind ((bind_fn X _ (beq_iff_eq.mp hf)).here ?_)
  exact wpAny_bind (wpAny_mono h (fun v s' z => wpAny_pure z) fun _ _ z => z)
theorem truthy_own {Q : Bool → Shared → Prop} (X : K.In s.heap) (I : InstAt s.heap x ox C od) (hs : findIn K (.ref C) "__bool__" = some (some (.ref f))) (hf : isFn K (.ref f) = true)
    (h : wpAny (model prog w) A (call (.ref f) [.ref x]) (fun v s' => ∃ b, v = .bool b ∧ Q b s') E s) : wpAny (model prog w) A (truthy (.ref x)) Q E s := by
  have key : wpAny (model prog w) A (callSpecial? (.ref x) "__bool__") (fun r s' => ∃ b, r = some (.bool b) ∧ Q b s') E s :=
    special_own X I hs hf (wpAny_mono h (fun v s' ⟨b, e, q⟩ => ⟨b, by rw [e], q⟩) fun _ _ z => z)
  unfold truthy
  first
    | refine wpAny_bind (wpAny_mono key (fun r s' h' => ?_) fun _ _ e => e)
      obtain ⟨b, rfl, q⟩ := h'
      exact wpAny_pure q
    | refine wpAny_bind (wpAny_pure (wpAny_bind (wpAny_mono key (fun r s' h' => ?_) fun _ _ e => e)))
      obtain ⟨b, rfl, q⟩ := h'
      exact wpAny_pure q
theorem meets_bool_own (hs : findIn K (.ref C) "__bool__" = some (some (.ref f))) (hf : isFn K (.ref f) = true) : MeetsIn prog w (Builtin.«bool.__new__» ⟨[.type "bool", .ref x], []⟩)
    (fun A R s => K.In s.heap ∧ InstAt s.heap x ox C od ∧ wpAny (model prog w) A.in1 (call (.ref f) [.ref x]) (fun v s' => ∃ b, v = .bool b ∧ R (.ok (.ret (.bool b))) s') (fun e s' => R (.error e) s') s) :=
  MeetsIn.of_wp fun A R s hs' => by
    obtain ⟨X, I, q⟩ := hs'
    have f1 := F.conv_sub_bool
    have ht : ∀ {Q : Bool → Shared → Prop}, wpAny (model prog w) A.in1 (call (.ref f) [.ref x]) (fun v s' => ∃ b, v = .bool b ∧ Q b s') (fun e s' => R (.error e) s') s → wpAny (model prog w) A.in1 (truthy (.ref x)) Q (fun e s' => R (.error e) s') s := fun h => truthy_own X I hs hf h
    repeat (any_goals (first | assumption | (with_reducible refine ht (wpAny_mono q (fun v s' hv => ?_) fun _ _ z => z)) | wp_step))
    all_goals (obtain ⟨b, e, hb⟩ := hv; subst e; exact ⟨b, rfl, by repeat (first | exact ⟨_, rfl, hb⟩ | wp_step)⟩)
theorem call_bool_own {Q : Value → Shared → Prop} (X : K.In s.heap) (I : InstAt s.heap x ox C od) (hs : findIn K (.ref C) "__bool__" = some (some (.ref f))) (hf : isFn K (.ref f) = true)
    (h : wpAny (model prog w) A.in1.in1 (call (.ref f) [.ref x]) (fun v s' => ∃ b, v = .bool b ∧ Q (.bool b) s') E s) : wpAny (model prog w) A (call (.type "bool") [.ref x]) Q E s :=
  callType_newIn F.called_bool F.newNe_bool (F.typeCall_bool_1 _) (F.newCall_bool_1 _) (fun obj => F.args_object_init_2 obj _) F.entry_bool_new (meets_bool_own (K := K) (ox := ox) (od := od) hs hf)
    ⟨X, I, wpAny_mono h (fun v s' ⟨b, e, q⟩ => ⟨b, e, typeIs_bool s' b, q⟩) fun _ _ z => z⟩
end
section
variable {X : Fm} {ρ : Env} {a e : Expr} {pos p : Pos} {k : Nat} {C : Addr} {fs : List (Str × D)} {r : Bool} {ps : List Str} {f : List D → D → Prop}
theorem call_boolI {Y : Cx} {n : Nat} {C f : Addr} {fd : FuncData} {ps : List Str} {sp : Sp} (F : FnOk Y.prog Y.w Y.K Y.mg Y.base CX0 n f fd ps sp) (room : Room (n + 2) Y.A) (has : PySem.W.findIn Y.K (.ref C) "__bool__" = some (some (.ref f))) (isf : PySem.W.isFn Y.K (.ref f) = true) (bd : Binds Y.K fd ps []) :
    CallR Y (.type "bool") (fun xs H Q => ∃ a dx fs, xs = [.ref a] ∧ H a = some (.ins C dx fs) ∧ sp [.ref a] H (fun v H2 => (∃ k, v = .bl k) ∧ Q v H2) E0) := by
  intro pins s σ H xs us Q I r want
  obtain ⟨a, dx, fs, rfl, ha, q⟩ := want
  obtain rfl := Vals.ref1 r
  obtain ⟨mA, J1, _⟩ := ins_get I.hok ha
  obtain ⟨oA, L1, _⟩ := J1.look
  obtain ⟨m, fr⟩ := I.fr
  have rel : Vals [V.ref a] [Value.ref a] := .cons rfl .nil
  have len := F.len _ _ _ _ q
  have env0 := I.env0
  have env2 : Env0 Y.prog Y.w Y.K Y.mg Y.base Y.A.in1.in1 Y.stack s H := ⟨env0.frames, env0.mod, env0.bs, env0.bsz, env0.funs, env0.frf, env0.hok, env0.bare⟩
  refine call_bool_own (I.ok.mod.kin.keeps fr.keep) L1 has isf (wpAny_call (codeAny_mono (F.run Y.A.in1.in1 Y.stack s H ⟨[.ref a], []⟩ [.ref a] [.ref a] _ E0 room.in1.in1 env2 (by
    have := bd s [.ref a] I.kIn (by simpa using len)
    simpa using this) rel q) fun r s2 out => ?_))
  cases r with
  | error err => exact out.elim
  | ok fl =>
    cases fl with
    | ret w =>
      obtain ⟨z, H2, J, rz, ⟨k, ez⟩, q2⟩ := I.after out
      subst ez
      cases rz
      exact ⟨k, rfl, .bl k, H2, J, rfl, q2⟩
    | next => exact out.elim
    | brk => exact out.elim
    | cont => exact out.elim
structure OwnB (P : Program) (w : World) (K : PySem.W.Frag) (mg : Str → Option Value) (base : Heap) (k : Nat) (C : Addr) (ps : List Str) (f : List D → D → Prop) : Prop where
  ex : ∃ fA fd, FnOk P w K mg base CX0 k fA fd ps (spD f) ∧ PySem.W.findIn K (.ref C) "__bool__" = some (some (.ref fA)) ∧ PySem.W.isFn K (.ref fA) = true ∧ Binds K fd ps []
theorem OwnB.mono {P : Program} {w : World} {K : PySem.W.Frag} {mg : Str → Option Value} {base : Heap} {j : Nat} (O : OwnB P w K mg base j C ps f) (h : j ≤ k) : OwnB P w K mg base k C ps f := by
  obtain ⟨fA, fd, F, q⟩ := O.ex
  exact ⟨fA, fd, F.mono h, q⟩
theorem g_boolI (bu : BuAll X.mg) (O : OwnB X.P X.w X.K X.mg X.base k C ps f) (room : Room (k + 2) X.A) (ha : GE X a ρ (.obj C fs)) (hf : f [.obj C fs] (.bl r)) (hg : ∀ j, Gl (X.Y j) "bool" := by intro _; rfl) (st : noStar a = true := by rfl) : GE X (.Call (.Name "bool" p) [a] [] pos) ρ (.bl r) := by
  obtain ⟨fA, fd, F, h1, h2, h3⟩ := O.ex
  have bn : BuN X "bool" (.type "bool") := ⟨bu.bool, by decide +kernel, by decide, by decide⟩
  refine g_callTy (r := fun X xs H Q => ∃ a dx fs, xs = [.ref a] ∧ H a = some (.ins C dx fs) ∧ spD f [.ref a] H (fun v H2 => (∃ k, v = .bl k) ∧ Q v H2) E0) (fun j => call_boolI (FnOk.at F j) (by rw [X.hA j]; exact room) (by rw [X.hK j]; exact h1) (by rw [X.hK j]; exact h2) (by rw [X.hK j]; exact h3)) bn (a_cons ha a_nil st) (fun F0 H vs e rv Q q => ?_) hg (by simp [noStars, st])
  obtain ⟨v, ws, rfl, r1, r2⟩ := rv.cons_inv
  cases r2.nil_inv
  obtain ⟨l, dx, xs, rfl, k1, _⟩ := id r1.obj_inv
  exact ⟨l, dx, xs, rfl, e _ _ k1, F0, _, .bl r, e, .cons r1 .nil, hf, fun z F2 H2 g rz => ⟨⟨r, rz.bl_inv⟩, q z F2 H2 g rz⟩⟩
end
end Cv
end
section
set_option Elab.async false
set_option linter.all false
set_option maxRecDepth 100000
set_option maxHeartbeats 4000000
namespace Cv
open PySem L2 Evl
/-! ### xs[::k] -/
def tSlS0 (K : PySem.W.Frag) (te ts : TE) : TE := fun σ H Q => te σ H fun x H1 => tPart ts σ H1 fun z H3 => ∃ (a : Addr) (xs : List V) (k : Nat), x = .ref a ∧ z = some (k : Int) ∧ 0 < k ∧ SqL K H3 a xs ∧ ∀ p, H3 p = none → Q (.ref p) (upd H3 p (.lst (stepL xs 0 k)))
theorem pe_slS0 {X : Cx} {e sx : Expr} {te ts : TE} {p3 pos : Pos} (he : PE X e te) (hs : PE X sx ts) : PE X (.Subscript e (.Slice none none (some sx) p3) pos) (tSlS0 X.K te ts) := by
  refine ⟨fun pins s σ H Q I h => ?_⟩
  refine PyProof.Rows.Subscript_ (thn (he.run pins s σ H _ I h) fun v s1 ⟨x, H1, I1, r1, q1⟩ => ?_)
  refine wpAny_Slice (thn (po_none.run pins s1 σ H1 (fun o H3 => o = none ∧ H3 = H1) I1 ⟨rfl, rfl⟩) fun vl s2 ⟨l, H2, I2, pl, el, e2⟩ => ?_)
  subst el e2
  refine thn (po_none.run pins s2 σ H2 (fun o H3 => o = none ∧ H3 = H2) I2 ⟨rfl, rfl⟩) fun vu s3 ⟨u, H3, I3, pu, eu, e3⟩ => ?_
  subst eu e3
  refine thn ((po_some hs).run pins s3 σ H3 _ I3 q1) fun vs s4 ⟨o, H4, I4, ps, q4⟩ => ?_
  obtain ⟨a, xs, k, ex, eo, hk, hx, q⟩ := q4
  subst ex eo
  cases r1
  have I5 : Inv X pins σ H4 { s4 with heap := s4.heap.push { cls := .type "slice", data := .fields #[vl, vu, vs] } } := I4.kept (t' := s4.toks) fun b ob z => Heap.get?_push_of_some _ z
  obtain ⟨its, r, ht, hz⟩ := I5.list hx
  have hlen := r.length
  have hgo : subscripted (.Slice none none (some sx) p3) false (.ref a) (.ref s4.heap.objs.size) = operate [.ref a, .ref s4.heap.objs.size] (getItem (.ref a) (.ref s4.heap.objs.size)) := by with_unfolding_all rfl
  refine PyProof.Rows.tail_any (value := e) ht.isList.typeIs PySem.slot_list_getitem.lookup ?_ hgo
  refine wpAny_getItem_list_slice ht.isList (Heap.IsSliceOf.new _ vl vu vs) pl pu ps (by
    intro z
    have := Option.some.inj z
    omega) ?_ (by rw [List.size_toArray]; omega)
  have hk' : (k : Int) > 0 := by omega
  have bd : sliceBounds none none (some (k : Int)) its.length = sliceBounds (some ((0 : Nat) : Int)) none (some (k : Int)) its.length := by
    simp only [sliceBounds, Option.getD_some, hk', if_true]
    simp
    try omega
  have pick : slicePick its.toArray none none (some (k : Int)) = (stepL its 0 k).toArray := by
    unfold slicePick stepL
    simp only [List.size_toArray, List.getElem?_toArray]
    rw [bd]
  rw [pick]
  have rv : Vals (stepL xs 0 k) (stepL its 0 k) := by
    unfold stepL
    rw [hlen]
    exact vals_filterMap r _
  have hl := stepL_len xs 0 k hk
  refine ⟨.ref _, _, I5.laid (t' := s4.toks) (o := .lst (stepL xs 0 k)) (fun b ob z => Heap.get?_push_of_some _ z) (Nat.le_refl _) ?_, rfl, q _ (I5.hok.fresh (Nat.le_refl _))⟩
  exact ⟨Nat.le_trans hl hz, _, 0, rv, Heap.get?_push_size _ rfl⟩
section
variable {X : Fm} {ρ : Env} {P : Post} {a b c e tg it elt : Expr} {es : List Expr} {sts : List Stmt} {pos p : Pos} {d : D} {ds : List D} {k : Nat}
theorem gn_slS0 {sx : Expr} {k : Nat} {p3 : Pos} (ha : GE X a ρ (.lst ds)) (h2 : GE X sx ρ (.int (k : Int))) (hk : 0 < k) : GN X (.Subscript a (.Slice none none (some sx) p3) pos) ρ (stepL ds 0 k) :=
  gn_by (t := tSlS0 X.K (aE X a) (aE X sx)) (fun j => by rw [← X.hK j]; exact pe_slS0 (aE_ok j) (aE_ok j)) fun B F H σ ex r Q q =>
    ha B F H σ ex r _ fun v F2 H2 g rv => h2 B F2 H2 σ g.fh (r.grow g) _ fun w F4 H4 g4 rw' => ⟨k, rw'.int_inv, by
      obtain ⟨l', xs, rfl, k1, r1⟩ := rv.lst_inv
      have gg := g.trans g4
      refine ⟨l', xs, k, rfl, rfl, hk, SqL.of (gg.fh _ _ (g4.ff _ _ k1)), fun m hm => ?_⟩
      refine q m _ F4 _ (gg.more (Ex.new hm)) (fresh_back gg.fh hm) (fresh_back gg.hh hm) upd_same ?_
      unfold stepL
      rw [r1.length]
      exact reps_filterMap (r1.mono g4.ff) _⟩
theorem g_slS0L {ns : List Int} {sx : Expr} {k : Nat} {p3 : Pos} (ha : GE X a ρ (L ns)) (h2 : GE X sx ρ (.int (k : Int))) (hk : 0 < k) : GE X (.Subscript a (.Slice none none (some sx) p3) pos) ρ (L (stepL ns 0 k)) :=
  (de_of_dn (gn_slS0 ha h2 hk)).to (by unfold L; rw [stepL_map _ _ _ _ hk])
/-! ### drawing into one's own list -/
theorem s_setIX (i : Nat) {x : Str} {ps : Pos} {l : Addr} (he : GX X e ρ fun ρ2 d => ∃ l ds2 n m, ρ2[i]? = some (some (.own l ds2)) ∧ GE X b ρ2 (.int n) ∧ ixN ds2.length n = some m ∧ P.nx (ρ2.set i (some (.own l (ds2.set m d))))) (hn : X.N[i]? = some x := by rfl)
    (hv : ∀ j, Vis (X.Y j).env.scope x := by intro _; first | exact Or.inl rfl | exact Or.inr (Or.inl rfl) | exact Or.inr (Or.inr rfl)) (hd : (x == ("__debug__" : Str)) = false := by decide) (hcd : (x == ("__classdict__" : Str)) = false := by decide)
    (hs : ∀ j, swapsWithSole [.Subscript (.Name x p) b ps] e pos.line (X.Y j).env = pure false := by intro _; rfl) (hw : ∀ j, swappedStores [.Subscript (.Name x p) b ps] e (X.Y j).env = pure none := by intro _; rfl) (hsl : noSl b = true := by rfl) :
    GS X (.Assign [.Subscript (.Name x p) b ps] e pos) ρ P :=
  gs_by (t := tAsg (aE X e) (gSub (tVar i) (aE X b) rSetL)) (fun j => ps_asg (aE_ok j) (pg_sub (pvN i hn hv hd hcd j) (aE_ok j) set_list (asg_sub hsl)) (hs j) (hw j)) fun B F0 F H σ D' I r f => by
    refine he B F0 F H σ I r _ fun v F2 H2 ρ2 d I2 e2 r2 rv ⟨l, ds2, n, m, hi, hb, hm, hq⟩ => ?_
    obtain ⟨hs, hF, hB, xs, hH, rx⟩ := r2.own hi
    refine ⟨.ref l, hs, ?_⟩
    refine hb B F2 H2 σ I2.fh r2 _ fun u F3 H3 g3 ru => ?_
    have r3 := r2.grow g3
    obtain ⟨_, hF3, _, xs3, hH3, rx3⟩ := r3.own hi
    rw [ru.int_inv]
    refine ⟨l, xs3, n, m, rfl, rfl, hH3, by rw [rx3.length]; exact hm, f.nx F3 _ σ _ ((I2.grow g3).own_set hF3 hB) (e2.trans g3.ff) (r3.own_set hi (rx3.set m (rv.mono g3.ff))) hq⟩
/-- what is kept apart while something is drawn -/
theorem In0.apart {B F0 F H : Hp} {l : Addr} {o : HO} (I : In0 B F0 F H) (hl : H l = some o) (hF : F l = none) : In0 (upd B l o) F0 F H :=
  ⟨fun z u hz => by
    by_cases w : z = l
    · subst w; rw [upd_same] at hz; rw [hl]; exact hz
    · rw [upd_ne w] at hz; exact I.bh z u hz, I.ff, I.fh, fun z hz => by
    rcases I.new z hz with w | w
    · exact .inl w
    · by_cases v : z = l
      · subst v; exact absurd hF hz
      · exact .inr (by rw [upd_ne v]; exact w)⟩
/-- a, b = x, y with plain names: a new list, and what may draw -/
theorem s_par2NX (k m : Nat) {x y : Str} {px py pt : Pos} {kt k2 pt2} (h1 : GN X a ρ ds) (h2 : GX X b ρ fun ρ2 d => (∀ l, P.nx ((ρ2.set k (some (.own l ds))).set m (some (.sh d)))) ∧ k < ρ2.length ∧ m < ρ2.length)
    (hkm : k ≠ m := by decide) (hnk : X.N[k]? = some x := by rfl) (hnm : X.N[m]? = some y := by rfl)
    (hx : ∀ j, (X.Y j).env.scope.names.lookup x = some .local := by intro _; rfl) (hy : ∀ j, (X.Y j).env.scope.names.lookup y = some .local := by intro _; rfl)
    (hw : ∀ j, swappedStores [.Tuple [.Name x px, .Name y py] kt pt] (.Tuple [a, b] k2 pt2) (X.Y j).env = pure (some [x, y]) := by intro _; rfl)
    (hs : ∀ j, swapsWithSole [.Tuple [.Name x px, .Name y py] kt pt] (.Tuple [a, b] k2 pt2) pos.line (X.Y j).env = pure false := by intro _; rfl) (st : noStars [a, b] = true := by rfl) :
    GS X (.Assign [.Tuple [.Name x px, .Name y py] kt pt] (.Tuple [a, b] k2 pt2) pos) ρ P := by
  have st' : noStar a = true ∧ noStar b = true := by simpa [noStars] using st
  refine gs_by (fun j => ps_par (X.calm j) (by rw [X.hN j]; exact X.nd) (by rw [X.hN j]; exact hnk) (by rw [X.hN j]; exact hnm) hkm (hx j) (hy j) (pa_cons (aE_ok j) (pa_cons (aE_ok j) pa_nil (star_of st'.2)) (star_of st'.1)) (hw j) (hs j)) fun B F0 F H σ D' I r f => ?_
  refine h1 B F H σ I.fh r _ fun l xs F2 H2 g hF hH hl rx => ?_
  have hB : B l = none := fresh_back I.bh hH
  have I2 := (I.grow g).apart hl hF
  have hF0 : F0 l = none := fresh_back I2.ff hF
  have r2 : RepE (upd B l (.lst xs)) F2 H2 σ ρ := (r.grow g).behind fun i l' hl' => by
    obtain ⟨_, hb, o, ho⟩ := (r.ok i).held hl'
    have : l' ≠ l := fun z => by rw [z, hH] at ho; cases ho
    rw [upd_ne this]; exact hb
  generalize hB' : upd B l (.lst xs) = B' at *
  have hB'l : B' l = some (.lst xs) := by rw [← hB']; exact upd_same
  have hB'e : ∀ z, z ≠ l → B' z = B z := fun z hz => by rw [← hB']; exact upd_ne hz
  have hB'n : ∀ z, B' z = none → B z = none := fun z hz => by
    by_cases w : z = l
    · rw [w]; exact hB
    · rw [hB'e z w] at hz; exact hz
  refine h2 B' F0 F2 H2 σ I2 r2 _ fun u F3 H3 ρ2 d I3 e3 r3 ru hq => ⟨.ref l, u, rfl, ?_⟩
  have hl3 : H3 l = some (.lst xs) := I3.bh _ _ hB'l
  have hF3 : F3 l = none := by
    cases z : F3 l with
    | none => rfl
    | some u =>
      rcases I3.new l (by rw [z]; simp) with w | w
      · exact absurd hF0 w
      · rw [hB'l] at w; cases w
  have I4 : In0 B F0 F3 H3 := ⟨fun z o hz => by
    have hzl : z ≠ l := fun w => by rw [w, hB] at hz; cases hz
    exact I3.bh z o (by rw [hB'e z hzl]; exact hz), I3.ff, I3.fh, fun z hz => by
    rcases I3.new z hz with w | w
    · exact .inl w
    · exact .inr (hB'n z w)⟩
  have r4 : RepE B F3 H3 σ ρ2 := r3.behind fun i l' hl' => hB'n l' ((r3.ok i).held hl').2.1
  have r5 := r4.setOwn hq.2.1 hF3 hB hl3 (rx.mono e3) fun i l' hl' z => by
    obtain ⟨_, hb, _⟩ := (r3.ok i).held hl'
    rw [z, hB'l] at hb; cases hb
  exact f.nx F3 H3 _ _ I4 (g.ff.trans e3) (r5.setSh (by simpa using hq.2.2) ru) (hq.1 l)
def DXN (t : TE) (ρ : Env) (R : Env → List D → Prop) : Prop := ∀ (B F0 F H : Hp) (σ : L2.St), In0 B F0 F H → RepE B F H σ ρ → ∀ Q : VK, (∀ l xs F2 H2 ρ2 ds, In0 B F0 F2 H2 → Ex F F2 → RepE B F2 H2 σ ρ2 → F2 l = none → B l = none → (∀ k m, Sl.at (ρ2.getD k none) = some m → m ≠ l) → H2 l = some (.lst xs) → Reps F2 xs ds → R ρ2 ds → Q (.ref l) H2) → t σ H Q
theorem dxn_lc {scope : Scope} {RI : Env → Nat → (Nat → D) → Prop} {R : Env → List D → Prop} (own : List (Str × Nat)) (ok : ∀ j, BlkOk X.N (X.Y j).env.scope scope own) (hi : DIX (aI X tg it) ρ RI)
    (h : ∀ ρ1 n src, RI ρ1 n src → n ≤ 100000 ∧ ∃ Iv : Nat → Env → List D → Prop, Iv 0 (wipeE ρ1 (own.map (·.2))) [] ∧ (∀ i ρ2 acc, i < n → Iv i ρ2 acc → acc.length = i → ∃ ts ρ3, (∀ t ∈ ts, t ∈ own.map (·.2)) ∧ DG (aG (blkF X scope) tg) (src i) ts ρ2 ρ3 ∧ GX (blkF X scope) elt ρ3 fun ρ4 d => Iv (i + 1) (wipeE ρ4 (own.map (·.2))) (acc ++ [d])) ∧
      ∀ ρ2 acc, Iv n ρ2 acc → acc.length = n → R ρ2 acc)
    (hf : ∀ j x, foldedSetIterable it (X.Y j).env x = pure x) : DXN (aLc X elt tg it [] scope) ρ R := fun B F0 F H σ I r Q q => by
  refine ⟨own, aI X tg it, aG (blkF X scope) tg, tYes, aE (blkF X scope) elt, aI_ok, fun j => by rw [X.hN j]; exact ok j, aG_ok, fun _ => pts_nil, aE_ok, hf, ?_⟩
  refine hi B F0 F H σ I r _ fun J F1 H1 ρ1 n src I1 e1 r1 ik ri => ?_
  obtain ⟨hn, Iv, h0, hs, hd⟩ := h ρ1 n src ri
  intro Dd hD
  have hBD : B Dd = none := fresh_back I1.bh hD
  have hFD : F1 Dd = none := fresh_back I1.fh hD
  have step0 : ∀ i l, Sl.at (ρ1.getD i none) = some l → l ≠ Dd := fun i l hl z => by
    obtain ⟨_, _, xs, hx⟩ := (r1.ok i).held hl
    rw [z, hD] at hx; cases hx
  refine ⟨fun i m H' => m = n - i ∧ i ≤ n ∧ ∃ F' acc vacc ρ', In0 B F0 F' H' ∧ Ex F1 F' ∧ F' Dd = none ∧ H' Dd = some (.lst vacc) ∧ Reps F' vacc acc ∧ acc.length = i ∧ RepE B F' H' (wipe σ (own.map (·.2))) ρ' ∧ (∀ k ∈ own.map (·.2), ρ'.getD k none = none) ∧ (∀ k l, Sl.at (ρ'.getD k none) = some l → l ≠ Dd) ∧ Iv i ρ' acc, ⟨n, by simp, Nat.zero_le _, F1, [], [], _, ⟨Ex.mut I1.bh hBD, I1.ff, fun z u hz => ?_, I1.new⟩, Ex.refl F1, hFD, upd_same, .nil, rfl, (r1.keep (Ex.refl F1) fun i l hl => ⟨upd_ne (step0 i l hl), ((r1.ok i).held hl).1⟩).wiped _, fun k hk => wipeE_none _ _ _ hk, fun k l hl => ?_, h0⟩, ?_⟩
  · have : z ≠ Dd := fun w => by rw [w, hFD] at hz; cases hz
    rw [upd_ne this]; exact I1.fh z u hz
  · by_cases hk : k ∈ own.map (·.2)
    · rw [wipeE_none _ _ _ hk] at hl; simp [Sl.at] at hl
    · rw [wipeE_other _ _ _ hk] at hl
      exact step0 k l hl
  rintro i m H' ⟨rfl, hin, F', acc, vacc, ρ', I', e', hF', hH', ra, hla, r', hw', hne, iv⟩
  by_cases hlt : i < n
  · refine .inr ⟨ik.go i F' H' e' I'.fh hlt, fun H'' => ∃ F' acc vacc ρ', In0 B F0 F' H'' ∧ Ex F1 F' ∧ F' Dd = none ∧ H'' Dd = some (.lst vacc) ∧ Reps F' vacc acc ∧ acc.length = i + 1 ∧ RepE B F' H'' (wipe σ (own.map (·.2))) ρ' ∧ (∀ k ∈ own.map (·.2), ρ'.getD k none = none) ∧ (∀ k l, Sl.at (ρ'.getD k none) = some l → l ≠ Dd) ∧ Iv (i + 1) ρ' acc, fun H'' z => ⟨n - (i + 1), by omega, rfl, hlt, z⟩, fun x H'' y => ?_⟩
    obtain ⟨F'', g2, rx⟩ := ik.yld i F' H' x H'' e' I'.fh hlt y
    obtain ⟨ts, ρ3, hts, hg, he⟩ := hs i ρ' acc hlt iv hla
    generalize hB' : upd B Dd (.lst vacc) = B'
    have hB'D : B' Dd = some (.lst vacc) := by rw [← hB']; exact upd_same
    have hB'e : ∀ z, z ≠ Dd → B' z = B z := fun z hz => by rw [← hB']; exact upd_ne hz
    have hB'n : ∀ z, B' z = none → B z = none := fun z hz => by
      by_cases w : z = Dd
      · rw [w]; exact hBD
      · rw [hB'e z w] at hz; exact hz
    have I2 := I'.grow g2
    have hD2 : H'' Dd = some (.lst vacc) := g2.hh _ _ hH'
    have hFD2 : F'' Dd = none := by
      cases z : F'' Dd with
      | none => rfl
      | some u =>
        rcases g2.new Dd (by rw [z]; simp) with w | w
        · exact absurd hF' w
        · rw [hH'] at w; cases w
    have hF0 : F0 Dd = none := fresh_back (I2.ff) hFD2
    have I3 : In0 B' F0 F'' H'' := ⟨fun z u hz => by
      by_cases w : z = Dd
      · rw [w] at hz ⊢; rw [hB'D] at hz; rw [hD2]; exact hz
      · rw [hB'e z w] at hz; exact I2.bh z u hz, I2.ff, I2.fh, fun z hz => by
      rcases I2.new z hz with w | w
      · exact .inl w
      · by_cases v : z = Dd
        · rw [v] at hz; exact absurd hFD2 hz
        · exact .inr (by rw [hB'e z v]; exact w)⟩
    have r3 : RepE B' F'' H'' (wipe σ (own.map (·.2))) ρ' := (r'.grow g2).behind fun k l hl => by
      obtain ⟨_, hb, xs, hx⟩ := (r'.ok k).held hl
      rw [hB'e l (hne k l hl)]; exact hb
    refine hg B' F'' H'' _ x I3.fh r3 rx _ fun σ2 r4 t4 => ⟨wipe_touch t4 hts, ?_⟩
    show aE (blkF X scope) elt σ2 H'' _
    refine he B' F0 F'' H'' σ2 I3 r4 _ fun v F5 H5 ρ5 d I5 e5 r5 rv k5 => ?_
    have hD5 : H5 Dd = some (.lst vacc) := I5.bh _ _ hB'D
    have hF5 : F5 Dd = none := by
      cases z : F5 Dd with
      | none => rfl
      | some u =>
        rcases I5.new Dd (by rw [z]; simp) with w | w
        · exact absurd hF0 w
        · rw [hB'D] at w; cases w
    have hne5 : ∀ k l, Sl.at (ρ5.getD k none) = some l → l ≠ Dd := fun k l hl z => by
      obtain ⟨_, hb, _⟩ := (r5.ok k).held hl
      rw [z, hB'D] at hb; cases hb
    refine ⟨vacc, hD5, sz_lt (by rw [ra.length, hla]; omega), F5, acc ++ [d], vacc ++ [v], _, ⟨fun z u hz => ?_, I5.ff, fun z u hz => ?_, fun z hz => ?_⟩, (e'.trans g2.ff).trans e5, hF5, upd_same, (ra.mono (g2.ff.trans e5)).append (.cons rv .nil), by simp [hla], ?_, fun k hk => wipeE_none _ _ _ hk, fun k l hl => ?_, k5⟩
    · have hzD : z ≠ Dd := fun w => by rw [w, hBD] at hz; cases hz
      rw [upd_ne hzD]
      exact I5.bh z u (by rw [hB'e z hzD]; exact hz)
    · have hzD : z ≠ Dd := fun w => by rw [w, hF5] at hz; cases hz
      rw [upd_ne hzD]; exact I5.fh z u hz
    · rcases I5.new z hz with w | w
      · exact .inl w
      · exact .inr (hB'n z w)
    · have r6 : RepE B F5 (upd H5 Dd (.lst (vacc ++ [v]))) σ2 ρ5 := ((r5.behind (B' := B) fun k l hl => hB'n l ((r5.ok k).held hl).2.1).keep (Ex.refl F5) fun k l hl => ⟨upd_ne (hne5 k l hl), ((r5.ok k).held hl).1⟩)
      have r7 := r6.wiped (own.map (·.2))
      rw [wipe_touch t4 hts] at r7
      exact r7
    · by_cases hk : k ∈ own.map (·.2)
      · rw [wipeE_none _ _ _ hk] at hl; simp [Sl.at] at hl
      · rw [wipeE_other _ _ _ hk] at hl
        exact hne5 k l hl
  · have e0 : i = n := by omega
    subst e0
    refine .inl ⟨ik.stop F' H' e' I'.fh, ?_⟩
    have r8 := r'.unwiped hw'
    exact q Dd vacc F' H' ρ' acc I' (e1.trans e') r8 hF' hBD hne hH' ra (hd ρ' acc iv hla)
theorem s_setLcXN (i : Nat) {scope : Scope} {y : Str} {py spos : Pos} (h : DXN (aLc X elt tg it [] scope) ρ fun ρ2 ds => i < ρ2.length ∧ ∀ l, P.nx (ρ2.set i (some (.own l ds)))) (hy : X.N[i]? = some y := by rfl) (hyl : ∀ j, (X.Y j).env.scope.names.lookup y = some .local := by intro _; rfl)
    (hsw : ∀ j, swapsWith (.ListComp elt [⟨tg, it, [], 0⟩] scope pos) (some (.Name y py)) spos.line (X.Y j).env = pure true := by intro _; exact sw_true rfl rfl rfl (by decide +kernel)) : GS X (.Assign [.Name y py] (.ListComp elt [⟨tg, it, [], 0⟩] scope pos) spos) ρ P :=
  gs_by (aLcS_ok hy hyl hsw) fun B F0 F H σ D' I r f => h B F0 F H σ I r _ fun l xs F2 H2 ρ2 ds I2 e2 r2 hF hB hne hH rx k => f.nx F2 H2 _ _ I2 e2 (r2.setOwn k.1 hF hB hH rx hne) (k.2 l)
/-- a list of three numbers is from now on a drawer -/
theorem ss_closeG (i : Nat) {l : Addr} {x y z : Int} {n : Nat} (h : GSs X sts (ρ.set i (some (.gen l n))) P) (ok : GenOk n x y z) (hi : ρ[i]? = some (some (.own l [.int x, .int y, .int z])) := by rfl) : GSs X sts ρ P := fun B F0 F H σ D' I r f => h B F0 F H σ D' I (r.closeG hi ok) f
/-! ### tests that may draw -/
theorem xt_val {R : Env → Bool → Prop} (h : GX X e ρ fun ρ2 d => ∃ k, d = .bl k ∧ R ρ2 k) (he : ∀ j whole, isTrue e (X.Y j).env whole = (do let v ← whole; standAt e.pos; holding [v] (truthy v)) := by intro _ _; rfl) : GXT X e ρ R :=
  gxt_by (fun j => pt_val (aE_ok j) (he j)) fun B F0 F H σ I r Q q => h B F0 F H σ I r _ fun v F2 H2 ρ2 d I2 e2 r2 rv ⟨k, ek, hk⟩ => by
    subst ek
    exact ⟨k, rv.bl_inv, q k F2 H2 ρ2 I2 e2 r2 hk⟩
theorem xt_not {R : Env → Bool → Prop} (h : GXT X a ρ fun ρ2 k => R ρ2 (!k)) : GXT X (.UnaryOp .Not a pos) ρ R :=
  gxt_by (fun j => pt_not (aT_ok j)) fun B F0 F H σ I r Q q => h B F0 F H σ I r _ fun k F2 H2 ρ2 I2 e2 r2 hk => q (!k) F2 H2 ρ2 I2 e2 r2 hk
theorem xt_or {R : Env → Bool → Prop} (h : GXT X a ρ fun ρ2 k => (k = true → R ρ2 true) ∧ (k = false → GXT X b ρ2 R)) : GXT X (.BoolOp .Or [a, b] pos) ρ R :=
  gxt_by (fun j => PW.pt (pw_or (aT_ok j) (pw_or1 (aT_ok j)))) fun B F0 F H σ I r Q q => h B F0 F H σ I r _ fun k F2 H2 ρ2 I2 e2 r2 hk => by
    cases k with
    | true => exact q true F2 H2 ρ2 I2 e2 r2 (hk.1 rfl)
    | false => exact hk.2 rfl B F0 F2 H2 σ I2 r2 Q fun k F3 H3 ρ3 I3 e3 => q k F3 H3 ρ3 I3 (e2.trans e3)
end
/-! ### defs of data that are run where no text of a list is under way -/
section
variable {P : Program} {w : World} {K : PySem.W.Frag} {mg : Str → Option Value} {base : Heap} {x qual : Str} {st : Stmt} {f : Addr} {fd : FuncData} {N ps : List Str} {k : Nat}
theorem fn_DG (g : List D → D → Prop) (F : Fun K x qual st f fd) (S : FnScope N ps (defScope st)) (hl : ∀ ds d, g ds d → ds.length = ps.length)
    (body : ∀ (cdv : Value) (A : Around) (outer : List PySem.Env) (s : Shared) (H : Hp) (E : XK), (fmOf P w K mg base N S.nd qual st f cdv A outer s H E).A.guards = some [] → Room k (fmOf P w K mg base N S.nd qual st f cdv A outer s H E).A → ∀ ds d, g ds d →
      GSs (fmOf P w K mg base N S.nd qual st f cdv A outer s H E) (defBody st) (initE N.length ds) { nx := fun _ => d = .non, rt := fun _ d' => d' = d }) : FnG P w K mg base (k + 1) f fd ps (spD g) := by
  refine Fun.okG F S (fun vs H Q E h => ?_) fun cdv A outer s H vs Q E gd hr h => ?_
  · obtain ⟨F, ds, d, _, r, hg, _⟩ := h
    rw [r.length, hl ds d hg]
  · obtain ⟨F1, ds, d, e, r, hg, q⟩ := h
    refine ⟨aSs (fmOf P w K mg base N S.nd qual st f cdv A outer s H E) (defBody st), aSs_ok (X := fmOf P w K mg base N S.nd qual st f cdv A outer s H E) (), ?_⟩
    refine body cdv A outer s H E gd hr ds d hg H F1 F1 H _ _ ⟨Ex.refl H, Ex.refl F1, e, fun a h => .inl h⟩ (repE_init r) ⟨fun F2 H2 σ2 ρ2 I2 e2 r2 k => ?_, fun F2 H2 σ2 ρ2 v d' I2 e2 r2 rv k => ?_, fun F2 H2 σ2 ρ2 I2 e2 r2 k => k.elim, fun F2 H2 σ2 ρ2 I2 e2 r2 k => k.elim⟩
    · subst k
      exact q .non F2 H2 ⟨I2.bh, e2, I2.fh, I2.new⟩ .non
    · subst k
      exact q v F2 H2 ⟨I2.bh, e2, I2.fh, I2.new⟩ rv
end
section
variable {X : Fm} {ρ : Env} {e : Expr} {es : List Expr} {pos p : Pos} {ds : List D} {k : Nat} {x : Str} {ps : List Str} {d : D}
theorem g_callD {f : List D → D → Prop} (O : OwnG X.P X.w X.K X.mg X.base k x ps (spD f)) (gd : X.A.guards = some []) (hr : Room k X.A) (h : GA X (e :: es) ρ ds) (hf : f ds d)
    (hg : ∀ j, Gl (X.Y j) x := by intro _; rfl) (hd : (x == ("__debug__" : Str)) = false := by decide) (st : noStars (e :: es) = true := by rfl) : GE X (.Call (.Name x p) (e :: es) [] pos) ρ d := by
  obtain ⟨fA, fd, F, hm, hk, hb⟩ := O.ex
  have st' : noStar e = true ∧ noStars es = true := by simpa [noStars] using st
  refine ge_by (fun j => pe_callG F gd hr (hg j) hm hk hb (aA_ok j) hd (star_of st'.1) (stars_any st'.2)) fun B F H σ ex r Q q => ?_
  refine h B F H σ ex r _ fun vs F2 H2 g rv => ?_
  exact ⟨F2, ds, d, g.fh, rv, hf, fun v F3 H3 g3 rv3 => q v F3 H3 (g.trans g3) rv3⟩
/-- a drawing call of this kind with the drawer of a slot -/
theorem gx_callGV {f : Nat → List D → Nat → (D → Prop) → Prop} {n n' : Nat} {R : D → Prop} {gi : Nat} {gA : Addr} {gx : Str} {gp : Pos} (O : OwnG X.P X.w X.K X.mg X.base k x ps (spG f)) (gd : X.A.guards = some []) (hr : Room k X.A) (hgen : ρ[gi]? = some (some (.gen gA n))) (h : GA X es ρ ds) (hf : f n ds n' R)
    (hn : X.N[gi]? = some gx := by rfl) (hv : ∀ j, Vis (X.Y j).env.scope gx := by intro _; first | exact Or.inl rfl | exact Or.inr (Or.inl rfl) | exact Or.inr (Or.inr rfl))
    (hg : ∀ j, Gl (X.Y j) x := by intro _; rfl) (hd : (x == ("__debug__" : Str)) = false := by decide) (hd2 : (gx == ("__debug__" : Str)) = false := by decide) (hcd : (gx == ("__classdict__" : Str)) = false := by decide) (st : noStars es = true := by rfl) :
    GX X (.Call (.Name x p) (.Name gx gp :: es) [] pos) ρ (fun ρ2 d => ρ2 = ρ.set gi (some (.gen gA n')) ∧ R d) := by
  obtain ⟨fA, fd, F, hm, hk, hb⟩ := O.ex
  refine gx_by (fun j => pe_callG F gd hr (hg j) hm hk hb (pa_cons (pe_var (by rw [X.hN j]; exact hn) (hv j) hd2 hcd) (aA_ok j) (star_of rfl)) hd (star_of rfl) (stars_any st)) fun B F0 F H σ I r Q q => ?_
  have hgi : gi < ρ.length := (List.getElem?_eq_some_iff.mp hgen).1
  obtain ⟨hs, hF, hB, a0, b0, c0, hH, ok⟩ := r.gen hgen
  refine ⟨.ref gA, hs, ?_⟩
  refine h B F H σ I.fh r _ fun vs F2 H2 g rv => ?_
  have r2 := r.grow g
  have I2 := I.grow g
  obtain ⟨_, hF2, _, a1, b1, c1, hH2, ok2⟩ := r2.gen hgen
  refine ⟨gA, vs, F2, ds, n, n', R, a1, b1, c1, rfl, hH2, ok2, hF2, g.fh, rv, hf, fun v F3 H3 d a' b' c' kk ff fh nw hg' ok' rv3 rd => ?_⟩
  have hF3 : F3 gA = none := by
    cases z : F3 gA with
    | none => rfl
    | some u =>
      rcases nw gA (by rw [z]; simp) with w | w
      · exact absurd hF2 w
      · rw [hH2] at w; cases w
  have I3 : In0 B F0 F3 H3 := by
    refine ⟨fun x u hx => kk x u (fun z => by rw [z, hB] at hx; cases hx) (I2.bh x u hx), I2.ff.trans ff, fh, fun x hx => ?_⟩
    rcases nw x hx with z | z
    · exact I2.new x z
    · exact .inr (fresh_back I2.bh z)
  have other : ∀ i l, i ≠ gi → Sl.at (ρ.getD i none) = some l → H3 l = H2 l ∧ F3 l = none := fun i l hi hl => by
    have hne : l ≠ gA := fun z => hi (r2.apart i gi l hl (by
      simp only [List.getD, hgen, Option.getD_some]
      rw [z]; rfl))
    obtain ⟨f2, _, xs, h2⟩ := (r2.ok i).held hl
    refine ⟨(kk l _ hne h2).trans h2.symm, ?_⟩
    cases z : F3 l with
    | none => rfl
    | some u =>
      rcases nw l (by rw [z]; simp) with w | w
      · exact absurd f2 w
      · rw [h2] at w; cases w
  have hlen := r2.len
  have r3 : RepE B F3 H3 σ (ρ.set gi (some (.gen gA n'))) := by
    refine ⟨by simp [hlen], fun i => ?_, fun i j l h1 h2 => ?_⟩
    · rw [getD_set _ _ _ _ _ hgi]
      by_cases z : i = gi
      · rw [if_pos z]
        subst z
        exact ⟨by simp [List.getD, hs], hF3, hB, a', b', c', hg', ok'⟩
      · rw [if_neg z]
        exact (r2.ok i).keep ff fun l hl => other i l z hl
    · have back : ∀ i, Sl.at ((ρ.set gi (some (.gen gA n'))).getD i none) = Sl.at (ρ.getD i none) := fun i => by
        rw [getD_set _ _ _ _ _ hgi]
        by_cases z : i = gi
        · rw [if_pos z]; subst z; simp [List.getD, hgen, Sl.at]
        · rw [if_neg z]
      rw [back] at h1 h2
      exact r2.apart i j l h1 h2
  exact q v F3 H3 _ d I3 (g.ff.trans ff) r3 rv3 ⟨rfl, rd⟩
end
end Cv
end
section
set_option Elab.async false
set_option linter.all false
set_option maxRecDepth 100000
set_option maxHeartbeats 4000000
namespace Cv
open PySem L2 Evl
section
variable {X : Fm} {ρ : Env} {P : Post} {a b : Expr} {pos : Pos}
/-- a, b = x, y with plain names, by values that may draw -/
theorem s_par2X (k m : Nat) {x y : Str} {px py pt : Pos} {kt k2 pt2} (h : GX X a ρ fun ρ1 d1 => GX X b ρ1 fun ρ2 d2 => P.nx ((ρ2.set k (some (.sh d1))).set m (some (.sh d2))) ∧ k < ρ2.length ∧ m < ρ2.length)
    (hkm : k ≠ m := by decide) (hnk : X.N[k]? = some x := by rfl) (hnm : X.N[m]? = some y := by rfl)
    (hx : ∀ j, (X.Y j).env.scope.names.lookup x = some .local := by intro _; rfl) (hy : ∀ j, (X.Y j).env.scope.names.lookup y = some .local := by intro _; rfl)
    (hw : ∀ j, swappedStores [.Tuple [.Name x px, .Name y py] kt pt] (.Tuple [a, b] k2 pt2) (X.Y j).env = pure (some [x, y]) := by intro _; rfl)
    (hs : ∀ j, swapsWithSole [.Tuple [.Name x px, .Name y py] kt pt] (.Tuple [a, b] k2 pt2) pos.line (X.Y j).env = pure false := by intro _; rfl) (st : noStars [a, b] = true := by rfl) :
    GS X (.Assign [.Tuple [.Name x px, .Name y py] kt pt] (.Tuple [a, b] k2 pt2) pos) ρ P := by
  have st' : noStar a = true ∧ noStar b = true := by simpa [noStars] using st
  refine gs_by (fun j => ps_par (X.calm j) (by rw [X.hN j]; exact X.nd) (by rw [X.hN j]; exact hnk) (by rw [X.hN j]; exact hnm) hkm (hx j) (hy j) (pa_cons (aE_ok j) (pa_cons (aE_ok j) pa_nil (star_of st'.2)) (star_of st'.1)) (hw j) (hs j)) fun B F0 F H σ D' I r f => ?_
  refine h B F0 F H σ I r _ fun v F2 H2 ρ1 d1 I2 e2 r2 rv k2 => k2 B F0 F2 H2 σ I2 r2 _ fun u F3 H3 ρ2 d2 I3 e3 r3 ru ⟨q, l1, l2⟩ => ⟨v, u, rfl, ?_⟩
  exact f.nx F3 H3 _ _ I3 (e2.trans e3) ((r3.setSh l1 (rv.mono e3)).setSh (by simpa using l2) ru) q
end
end Cv
end
section
set_option Elab.async false
set_option linter.all false
set_option maxRecDepth 100000
set_option maxHeartbeats 4000000
namespace Cv
open PySem L2 Evl
def topS (i : Nat) : Stmt := PySem.Challenge.pw_curveheads_k83_whole_slopes_over_all_pri.main.body.getD i (.Pass ⟨0, 0, 0, 0⟩)
def pol {p : Nat} (A : Pol p) : D := L A.l
section
variable {P : Program} {w : World} {K : PySem.W.Frag} {mg : Str → Option Value} {base : Heap} {f : Addr} {fd : FuncData}
abbrev s_trimmed : Stmt := topS 16
theorem sc_trimmed : FnScope ["p", "numbers", "found", "number"] ["p", "numbers"] (defScope s_trimmed) := ⟨rfl, rfl, rfl, by decide +kernel, rfl, by decide +kernel, by decide +kernel⟩
def f_trimmed (ds : List D) (d : D) : Prop := ∃ (p : Nat) (_ : Pr p) (ns : List Int), ds = [.int p, L ns] ∧ ns.length ≤ 50000 ∧ d = pol (Pol.of ns : Pol p)
theorem dtz_nil_iff : ∀ (ms : List Int), dtz ms = [] ↔ ∀ x ∈ ms, x = 0
  | [] => by simp [dtz]
  | x :: r => by
    have ih := dtz_nil_iff r
    unfold dtz
    cases e : dtz r with
    | nil =>
      rw [e] at ih
      by_cases hx : x = 0
      · simp [hx]; simpa using ih
      · simp [hx]
    | cons y s =>
      rw [e] at ih
      simp at ih ⊢
      intro _
      obtain ⟨z, h1, h2⟩ := ih
      exact ⟨z, h1, h2⟩
theorem dtz_snoc0 : ∀ (ms : List Int), dtz (ms ++ [0]) = dtz ms
  | [] => by simp [dtz]
  | x :: r => by
    show dtz (x :: (r ++ [0])) = dtz (x :: r)
    unfold dtz
    rw [dtz_snoc0 r]
theorem dtz_snoc : ∀ (ms : List Int) (y : Int), y ≠ 0 → dtz (ms ++ [y]) = ms ++ [y]
  | [], y, h => by simp [dtz, h]
  | x :: r, y, h => by
    show dtz (x :: (r ++ [y])) = x :: (r ++ [y])
    unfold dtz
    rw [dtz_snoc r y h]
    cases e : r ++ [y] with
    | nil => simp at e
    | cons z s => rfl
theorem snoc_of {ms : List Int} (h : ms ≠ []) : ∃ r y, ms = r ++ [y] := ⟨ms.dropLast, ms.getLast h, (List.dropLast_concat_getLast h).symm⟩
theorem ok_trimmed (bu : BuAll mg) (F : Fun K "trimmed" "trimmed" s_trimmed f fd) : FnOk P w K mg base CX0 1 f fd ["p", "numbers"] (spD f_trimmed) := by
  refine fn_D f_trimmed F sc_trimmed (by rintro ds d ⟨p, _, ns, rfl, _, _⟩; rfl) fun cdv A outer s H E hr ds d hf => ?_
  obtain ⟨p, ip, ns, rfl, hl, rfl⟩ := hf
  refine ss_cons (s_setLcN 2 (dn_lcI [("number", 3)] (fun _ => blkOk_by (N := ["p", "numbers", "found", "number"]) (sc := defScope s_trimmed) (by decide +kernel)) (i_listI (g_var 1)) (by omega) (fun i => ns.getD i 0 % (p : Int)) [3] _ (fun i hi => tg_name) (by decide) (fun i hi => g_mod (g_toInt bu (g_var 3)) (g_var 0) (Pr.posI p)) (by intro _ _; rfl) (ms := modL p ns) (range_map_getD ns (· % (p : Int))).symm) fun l => ?_)
  refine ss_cons (s_while (fun m ρ1 => ∃ ms : List Int, m = ms.length ∧ dtz ms = dtz (modL p ns) ∧ ρ1 = [some (.sh (.int p)), some (.sh (L ns)), some (.own l (ms.map .int)), none]) _ ⟨_, rfl, rfl, rfl⟩ ?_)
  rintro m ρ1 ⟨ms, rfl, hms, rfl⟩
  by_cases hne : ms = []
  · subst hne
    refine ⟨_, t_w (w_and (t_neOwn 2 hr g_nilI) (fun z => absurd z (by simp)) (c := true)), fun z => absurd z (by simp), fun _ => ?_⟩
    refine ss_freeze 2 ?_
    refine ss_one (s_ret (g_var 2) ?_)
    show L [] = L (dtz (modL p ns))
    rw [← hms]; rfl
  · obtain ⟨r, y, rfl⟩ := snoc_of hne
    have hat : atI ((r ++ [y]).map D.int) (-1) = some (.int y) := by
      rw [List.map_append]; exact atI_last _ _
    refine ⟨_, t_w (w_and (t_neOwn 2 hr g_nilI) (fun _ => w_and1 (t_eqI (g_ixOwn 2 (g_neg g_int) hat) g_int))), fun z => ?_, fun z => ?_⟩
    · have hy : y = 0 := by
        simp at z; exact z
      subst hy
      refine ss_one (s_pop 2 (ds := (r ++ [0]).map D.int) (by simp) ?_)
      refine ⟨r.length, by simp, r, rfl, ?_, ?_⟩
      · rw [← hms, dtz_snoc0]
      · show [some (Sl.sh (D.int p)), some (Sl.sh (L ns)), some (Sl.own l ((r ++ [0]).map D.int).dropLast), none] = _
        rw [List.map_append]
        simp
    · have hy : y ≠ 0 := by
        simp at z; exact z
      refine ss_freeze 2 ?_
      refine ss_one (s_ret (g_var 2) ?_)
      show L (r ++ [y]) = L (dtz (modL p ns))
      rw [← hms, dtz_snoc r y hy]
end
end Cv
end
section
set_option Elab.async false
set_option linter.all false
set_option maxRecDepth 100000
set_option maxHeartbeats 4000000
namespace Cv
open PySem L2 Evl
section
variable {P : Program} {w : World} {K : PySem.W.Frag} {mg : Str → Option Value} {base : Heap} {f : Addr} {fd : FuncData} {k : Nat}
theorem Own.mono {j x ps sp} (O : Own P w K mg base j x ps sp) (h : j ≤ k) : Own P w K mg base k x ps sp := by
  obtain ⟨fA, fd, F, h1, h2, h3⟩ := O.ex
  exact ⟨fA, fd, F.mono h, h1, h2, h3⟩
theorem OwnM.mono {j C x ps sp} (O : OwnM P w K mg base j C x ps sp) (h : j ≤ k) : OwnM P w K mg base k C x ps sp := by
  obtain ⟨fA, fd, F, h1, h2⟩ := O.ex
  exact ⟨fA, fd, F.mono h, h1, h2⟩
abbrev OTrimmed (P w K mg base k) := Own P w K mg base k "trimmed" ["p", "numbers"] (spD f_trimmed)
theorem f_trimmed_of {p : Nat} [Pr p] (ns : List Int) (h : ns.length ≤ 50000) {A : Pol p} (e : Pol.of ns = A) : f_trimmed [.int p, L ns] (pol A) := ⟨p, inferInstance, ns, rfl, h, by rw [e]⟩

/-! inverse -/
abbrev s_inverse : Stmt := topS 15
theorem sc_inverse : FnScope ["p", "number", "low"] ["p", "number"] (defScope s_inverse) := ⟨rfl, rfl, rfl, by decide +kernel, rfl, by decide +kernel, by decide +kernel⟩
def f_inverse (ds : List D) (d : D) : Prop := ∃ (p : Nat) (_ : Pr p) (x : Int), ds = [.int p, .int x] ∧ x % (p : Int) ≠ 0 ∧ d = .int (inv p x)
theorem inv_pick {p : Nat} [Pr p] {x : Int} (h : x % (p : Int) ≠ 0) : atI (resD (fun i => decide ((1 + (i : Int)) * x % (p : Int) = 1)) (fun i => .int (1 + (i : Int))) (p - 1)) 0 = some (.int (inv p x)) := by
  obtain ⟨h1, h2, h3⟩ := inv_spec h
  unfold resD
  have mem : ((inv p x).toNat - 1) ∈ (List.range (p - 1)).filter fun (i : Nat) => decide ((1 + (i : Int)) * x % (p : Int) = 1) := by
    rw [List.mem_filter, List.mem_range]
    refine ⟨by omega, ?_⟩
    have : (1 + (((inv p x).toNat - 1 : Nat) : Int)) = inv p x := by omega
    rw [this]; simpa using h3
  cases e : (List.range (p - 1)).filter fun (i : Nat) => decide ((1 + (i : Int)) * x % (p : Int) = 1) with
  | nil => rw [e] at mem; simp at mem
  | cons y r =>
    have hy : y ∈ (List.range (p - 1)).filter fun (i : Nat) => decide ((1 + (i : Int)) * x % (p : Int) = 1) := by rw [e]; simp
    rw [List.mem_filter, List.mem_range] at hy
    have := inv_unique (p := p) (x := x) (y := 1 + (y : Int)) (by omega) (by omega) (by simpa using hy.2)
    rw [← this]
    exact atI_nat rfl
theorem ok_inverse (bu : BuAll mg) (F : Fun K "inverse" "inverse" s_inverse f fd) : FnOk P w K mg base CX0 1 f fd ["p", "number"] (spD f_inverse) := by
  refine fn_D f_inverse F sc_inverse (by rintro ds d ⟨p, _, ns, rfl, _, _⟩; rfl) fun cdv A outer s H E hr ds d hf => ?_
  obtain ⟨p, ip, x, rfl, hx, rfl⟩ := hf
  have hp := Pr.le13 p
  have hp3 := Pr.ge3 p
  refine ss_one (s_ret (g_ixL (i := 0) (g_lc (dn_lc [("low", 2)] (fun _ => blkOk_by (N := ["p", "number", "low"]) (sc := defScope s_inverse) (by decide +kernel)) ((i_range2 bu g_int (g_var 0) (by omega) (by omega)).num (n' := p - 1) (by omega)) (by omega) (tb := fun i => decide ((1 + (i : Int)) * x % (p : Int) = 1)) (f := fun i => .int (1 + (i : Int))) [2] _ (fun i hi => tg_name) (by decide) (fun i hi => ts_one (t_eqI (g_mod (g_mul (g_var 2) (g_var 1) (.inl (by omega))) (g_var 0) (Pr.posI p)) g_int)) (fun i hi _ => g_var 2) (by intro _ _; rfl))) g_int (inv_pick hx)) rfl)

/-! added -/
abbrev s_added : Stmt := topS 17
theorem sc_added : FnScope ["p", "one", "other", "size", "low", "high", "at"] ["p", "one", "other"] (defScope s_added) := ⟨rfl, rfl, rfl, by decide +kernel, rfl, by decide +kernel, by decide +kernel⟩
def f_added (ds : List D) (d : D) : Prop := ∃ (p : Nat) (_ : Pr p) (A B : Pol p), ds = [.int p, pol A, pol B] ∧ A.l.length ≤ 20000 ∧ B.l.length ≤ 20000 ∧ d = pol (A + B)
theorem ok_added (bu : BuAll mg) (O : OTrimmed P w K mg base k) (F : Fun K "added" "added" s_added f fd) : FnOk P w K mg base CX0 (k + 1) f fd ["p", "one", "other"] (spD f_added) := by
  refine fn_D f_added F sc_added (by rintro ds d ⟨p, _, A, B, rfl, _⟩; rfl) fun cdv A' outer s H E hr ds d hf => ?_
  obtain ⟨p, ip, A, B, rfl, hA, hB, rfl⟩ := hf
  refine ss_cons (s_set 3 (g_max2 bu (g_lenI bu (g_var 1)) (g_lenI bu (g_var 2))) ?_)
  have e1 : (max (A.l.length : Int) (B.l.length : Int) - (A.l.length : Int)).toNat = max A.l.length B.l.length - A.l.length := by omega
  have e2 : (max (A.l.length : Int) (B.l.length : Int) - (B.l.length : Int)).toNat = max A.l.length B.l.length - B.l.length := by omega
  refine ss_cons (s_asg (g_tup (a_cons ((g_catI (g_var 1) (de_of_dn (g_repI g_int (g_sub (g_var 3) (g_lenI bu (g_var 1))) (by omega))) (by simp; omega)).to (d' := L (A.l ++ List.replicate (max A.l.length B.l.length - A.l.length) 0)) (by rw [e1])) (a_cons ((g_catI (g_var 2) (de_of_dn (g_repI g_int (g_sub (g_var 3) (g_lenI bu (g_var 2))) (by omega))) (by simp; omega)).to (d' := L (B.l ++ List.replicate (max A.l.length B.l.length - B.l.length) 0)) (by rw [e2])) a_nil))) (tg_tup (tgs_cons (tg_name (i := 4)) (tgs_cons (tg_name (i := 5)) tgs_nil))) ?_)
  refine ss_one (s_ret (g_call O hr (a_cons (g_var 0) (a_cons (g_lc (dn_lcI [("at", 6)] (fun _ => blkOk_by (N := ["p", "one", "other", "size", "low", "high", "at"]) (sc := defScope s_added) (by decide +kernel)) ((i_range1 bu (g_var 3)).num (n' := max A.l.length B.l.length) (by omega)) (by omega) _ [6] _ (fun i hi => tg_name) (by decide) (fun i hi => (g_add (g_ixI (n := i) (g_var 4) (g_var 6) (by omega) (by simp; omega)) (g_ixI (n := i) (g_var 5) (g_var 6) (by omega) (by simp; omega)))) (by intro _ _; rfl) rfl)) a_nil)) (f_trimmed_of _ (by simp; omega) (of_pad A B _ rfl))) rfl)

/-! negated, lessened, scaled -/
abbrev s_negated : Stmt := topS 18
theorem sc_negated : FnScope ["p", "one", "number"] ["p", "one"] (defScope s_negated) := ⟨rfl, rfl, rfl, by decide +kernel, rfl, by decide +kernel, by decide +kernel⟩
def f_negated (ds : List D) (d : D) : Prop := ∃ (p : Nat) (_ : Pr p) (A : Pol p), ds = [.int p, pol A] ∧ A.l.length ≤ 20000 ∧ d = pol (-A)
theorem ok_negated (bu : BuAll mg) (O : OTrimmed P w K mg base k) (F : Fun K "negated" "negated" s_negated f fd) : FnOk P w K mg base CX0 (k + 1) f fd ["p", "one"] (spD f_negated) := by
  refine fn_D f_negated F sc_negated (by rintro ds d ⟨p, _, A, rfl, _⟩; rfl) fun cdv A' outer s H E hr ds d hf => ?_
  obtain ⟨p, ip, A, rfl, hA, rfl⟩ := hf
  refine ss_one (s_ret (g_call O hr (a_cons (g_var 0) (a_cons (g_lc (dn_lcI [("number", 2)] (fun _ => blkOk_by (N := ["p", "one", "number"]) (sc := defScope s_negated) (by decide +kernel)) (i_listI (g_var 1)) (by omega) (fun i => 0 - A.l.getD i 0) [2] _ (fun i hi => tg_name) (by decide) (fun i hi => (g_sub g_int (g_var 2))) (by intro _ _; rfl) (ms := A.l.map fun x => 0 - x) (range_map_getD A.l (fun x => 0 - x)).symm)) a_nil)) (f_trimmed_of _ (by simp; omega) (of_neg0 A))) rfl)
abbrev s_scaled : Stmt := topS 20
theorem sc_scaled : FnScope ["p", "one", "number", "item"] ["p", "one", "number"] (defScope s_scaled) := ⟨rfl, rfl, rfl, by decide +kernel, rfl, by decide +kernel, by decide +kernel⟩
def f_scaled (ds : List D) (d : D) : Prop := ∃ (p : Nat) (_ : Pr p) (A : Pol p) (x : Int), ds = [.int p, pol A, .int x] ∧ A.l.length ≤ 20000 ∧ 0 ≤ x ∧ x < 20000 ∧ d = pol (Pol.C x * A)
theorem ok_scaled (bu : BuAll mg) (O : OTrimmed P w K mg base k) (F : Fun K "scaled" "scaled" s_scaled f fd) : FnOk P w K mg base CX0 (k + 1) f fd ["p", "one", "number"] (spD f_scaled) := by
  refine fn_D f_scaled F sc_scaled (by rintro ds d ⟨p, _, A, x, rfl, _⟩; rfl) fun cdv A' outer s H E hr ds d hf => ?_
  obtain ⟨p, ip, A, x, rfl, hA, h0, h1, rfl⟩ := hf
  refine ss_one (s_ret (g_call O hr (a_cons (g_var 0) (a_cons (g_lc (dn_lcI [("item", 3)] (fun _ => blkOk_by (N := ["p", "one", "number", "item"]) (sc := defScope s_scaled) (by decide +kernel)) (i_listI (g_var 1)) (by omega) (fun i => A.l.getD i 0 * x) [3] _ (fun i hi => tg_name) (by decide) (fun i hi => (g_mul (g_var 3) (g_var 2) (.inr (by omega)))) (by intro _ _; rfl) (ms := A.l.map fun y => y * x) (range_map_getD A.l (fun y => y * x)).symm)) a_nil)) (f_trimmed_of _ (by simp; omega) (of_scale A x))) rfl)
abbrev s_lessened : Stmt := topS 19
theorem sc_lessened : FnScope ["p", "one", "other"] ["p", "one", "other"] (defScope s_lessened) := ⟨rfl, rfl, rfl, by decide +kernel, rfl, by decide +kernel, by decide +kernel⟩
def f_lessened (ds : List D) (d : D) : Prop := ∃ (p : Nat) (_ : Pr p) (A B : Pol p), ds = [.int p, pol A, pol B] ∧ A.l.length ≤ 20000 ∧ B.l.length ≤ 20000 ∧ d = pol (A - B)
theorem ok_lessened (bu : BuAll mg) (O1 : Own P w K mg base k "added" ["p", "one", "other"] (spD f_added)) (O2 : Own P w K mg base k "negated" ["p", "one"] (spD f_negated)) (F : Fun K "lessened" "lessened" s_lessened f fd) : FnOk P w K mg base CX0 (k + 1) f fd ["p", "one", "other"] (spD f_lessened) := by
  refine fn_D f_lessened F sc_lessened (by rintro ds d ⟨p, _, A, B, rfl, _⟩; rfl) fun cdv A' outer s H E hr ds d hf => ?_
  obtain ⟨p, ip, A, B, rfl, hA, hB, rfl⟩ := hf
  have := len_neg B
  unfold Pol.len at this
  exact ss_one (s_ret (g_call O1 hr (a_cons (g_var 0) (a_cons (g_var 1) (a_cons (g_call O2 hr (a_cons (g_var 0) (a_cons (g_var 2) a_nil)) ⟨p, ip, B, rfl, hB, rfl⟩) a_nil))) ⟨p, ip, A, -B, rfl, hA, by omega, rfl⟩) (by
    show pol (A + -B) = pol (A - B)
    congr 1))
end
end Cv
end
section
set_option Elab.async false
set_option linter.all false
set_option maxRecDepth 100000
set_option maxHeartbeats 4000000
namespace Cv
open PySem L2 Evl
theorem own_at {ms : List Int} {z : Int} {n : Nat} (h : n < ms.length) (hz : z = n) : atI (ms.map D.int) z = some (.int (cf ms n)) := by
  rw [hz]
  exact atI_nat (by rw [List.getElem?_map, List.getElem?_eq_getElem h, cf_lt h]; rfl)
theorem own_ix {ms : List Int} {z : Int} {n : Nat} (h : n < ms.length) (hz : z = n) : ixN (ms.map D.int).length z = some n := by
  rw [hz]; exact ixN_nat (by simpa using h)
theorem own_set (ms : List Int) (n : Nat) (v : Int) : (ms.map D.int).set n (.int v) = (ms.set n v).map D.int := by rw [List.map_set]
section
variable {P : Program} {w : World} {K : PySem.W.Frag} {mg : Str → Option Value} {base : Heap} {f : Addr} {fd : FuncData} {k : Nat}
theorem cf_sm16 {p : Nat} [Pr p] (A : Pol p) (n : Nat) : -(2 ^ 64) < cf A.l n ∧ cf A.l n < 2 ^ 64 := by
  have := A.cf_rng n
  have := Pr.le13 p
  omega
/-! multiplied -/
abbrev s_multiplied : Stmt := topS 21
theorem sc_multiplied : FnScope ["p", "one", "other", "found", "at", "low", "place", "high"] ["p", "one", "other"] (defScope s_multiplied) := ⟨rfl, rfl, rfl, by decide +kernel, rfl, by decide +kernel, by decide +kernel⟩
def f_multiplied (ds : List D) (d : D) : Prop := ∃ (p : Nat) (_ : Pr p) (A B : Pol p), ds = [.int p, pol A, pol B] ∧ A.l.length ≤ 20000 ∧ B.l.length ≤ 20000 ∧ d = pol (A * B)
/-- the rows of the product as far as (i, j) -/
def Row {p : Nat} (A B : Pol p) (i j : Nat) (ms : List Int) : Prop := ms.length = A.l.length + B.l.length ∧ ∀ n, cf ms n = cf (mulL (A.l.take i) B.l) n + (if i ≤ n ∧ n < i + j then cf A.l i * cf B.l (n - i) else 0)
theorem Row.start {p : Nat} (A B : Pol p) {m : Nat} (h : m = A.l.length + B.l.length) : Row A B 0 0 (List.replicate m 0) := ⟨by simp [h], fun n => by
  rw [cf_rep0, if_neg (by omega), List.take_zero]; simp [mulL]⟩
theorem Row.next {p : Nat} {A B : Pol p} {i : Nat} {ms : List Int} (h : Row A B i B.l.length ms) : Row A B (i + 1) 0 ms := ⟨h.1, fun n => by
  rw [h.2 n, cf_row, if_neg (by omega : ¬ (i + 1 ≤ n ∧ n < i + 1 + 0))]
  by_cases g : i ≤ n
  · rw [if_pos g]
    by_cases g2 : n < i + B.l.length
    · rw [if_pos ⟨g, g2⟩]; omega
    · rw [if_neg (fun z => g2 z.2), cf_ge (l := B.l) (by omega)]; simp
  · rw [if_neg g, if_neg (fun z => g z.1)]; omega⟩
theorem Row.skip {p : Nat} {A B : Pol p} {i : Nat} {ms : List Int} (h : Row A B i 0 ms) (z : cf A.l i = 0) : Row A B (i + 1) 0 ms := ⟨h.1, fun n => by
  rw [h.2 n, cf_row, z, if_neg (by omega : ¬ (i + 1 ≤ n ∧ n < i + 1 + 0)), if_neg (by omega : ¬ (i ≤ n ∧ n < i + 0))]
  simp⟩
theorem Row.step {p : Nat} {A B : Pol p} {i j : Nat} {ms : List Int} (h : Row A B i j ms) (hi : i < A.l.length) (hj : j < B.l.length) : Row A B i (j + 1) (ms.set (i + j) (cf ms (i + j) + cf A.l i * cf B.l j)) := ⟨by simp [h.1], fun n => by
  rw [cf_set _ _ _ _ (by rw [h.1]; omega)]
  by_cases e : n = i + j
  · subst e
    rw [if_pos rfl, h.2, if_neg (by omega), if_pos (by omega), Nat.add_sub_cancel_left]; omega
  · rw [if_neg e, h.2 n]
    by_cases g : i ≤ n ∧ n < i + j
    · rw [if_pos g, if_pos (by omega)]
    · rw [if_neg g, if_neg (by omega)]⟩
theorem Row.done {p : Nat} [Pr p] {A B : Pol p} {ms : List Int} (h : Row A B A.l.length 0 ms) : (Pol.of ms : Pol p) = A * B := of_mulRows A B ms fun n => by
  rw [h.2 n, if_neg (by omega)]; omega
theorem ok_multiplied (bu : BuAll mg) (O : OTrimmed P w K mg base k) (F : Fun K "multiplied" "multiplied" s_multiplied f fd) : FnOk P w K mg base CX0 (k + 1) f fd ["p", "one", "other"] (spD f_multiplied) := by
  refine fn_D f_multiplied F sc_multiplied (by rintro ds d ⟨p, _, A, B, rfl, _⟩; rfl) fun cdv A' outer s H E hr ds d hf => ?_
  obtain ⟨p, ip, A, B, rfl, hA, hB, rfl⟩ := hf
  refine ss_cons (s_setN 3 (g_repI g_int (g_add (g_lenI bu (g_var 1)) (g_lenI bu (g_var 2))) (by omega)) fun l => ?_)
  refine ss_cons (s_for (i_enumI bu (g_var 1)) (fun i ρ1 => ∃ ms a b c e, Row A B i 0 ms ∧ ρ1 = [some (.sh (.int p)), some (.sh (pol A)), some (.sh (pol B)), some (.own l (ms.map .int)), a, b, c, e]) ⟨_, _, _, _, _, Row.start A B (by omega), rfl⟩ ?_ ?_)
  · rintro i ρ1 hi ⟨ms, a, b, c, e, row, rfl⟩
    refine ⟨[4, 5], _, tg_tup (tgs_cons (tg_name (i := 4)) (tgs_cons (tg_name (i := 5)) tgs_nil)), ?_⟩
    refine ss_one (s_for (i_enumI bu (g_var 2)) (fun j ρ1 => ∃ ms c e, Row A B i j ms ∧ ρ1 = [some (.sh (.int p)), some (.sh (pol A)), some (.sh (pol B)), some (.own l (ms.map .int)), some (.sh (.int (i : Int))), some (.sh (.int (A.l.getD i 0))), c, e]) ⟨ms, c, e, row, rfl⟩ ?_ ?_)
    · rintro j ρ1 hj ⟨ms, c, e, row, rfl⟩
      refine ⟨[6, 7], _, tg_tup (tgs_cons (tg_name (i := 6)) (tgs_cons (tg_name (i := 7)) tgs_nil)), ?_⟩
      have hl := row.1
      refine ss_one (s_setI 3 (g_add (g_ixOwn 3 (g_add (g_var 4) (g_var 6)) (own_at (ms := ms) (n := i + j) (by omega) (by omega))) (g_mul (g_var 5) (g_var 7) (.inl (by rw [cf_getD]; exact cf_sm16 A i)))) (g_add (g_var 4) (g_var 6)) (own_ix (ms := ms) (n := i + j) (by omega) (by omega)) ?_)
      refine ⟨_, some (.sh (.int (j : Int))), some (.sh (.int (B.l.getD j 0))), row.step hi hj, ?_⟩
      rw [own_set, cf_getD, cf_getD]; rfl
    · rintro ρ1 ⟨ms, c, e, row, rfl⟩
      exact ⟨_, _, _, _, _, row.next, rfl⟩
  · rintro ρ1 ⟨ms, a, b, c, e, row, rfl⟩
    refine ss_freeze 3 ?_
    refine ss_one (s_ret (g_call O hr (a_cons (g_var 0) (a_cons (g_var 3) a_nil)) (f_trimmed_of ms (by rw [row.1]; omega) row.done)) rfl)
abbrev OMul (P w K mg base k) := Own P w K mg base k "multiplied" ["p", "one", "other"] (spD f_multiplied)
theorem mul_len20 {p : Nat} [Pr p] (A B : Pol p) : (A * B).l.length ≤ A.l.length + B.l.length := len_mul_le' A B
/-! power_of -/
abbrev s_power_of : Stmt := topS 22
theorem sc_power_of : FnScope ["p", "one", "count", "found", "turn"] ["p", "one", "count"] (defScope s_power_of) := ⟨rfl, rfl, rfl, by decide +kernel, rfl, by decide +kernel, by decide +kernel⟩
def f_power_of (ds : List D) (d : D) : Prop := ∃ (p : Nat) (_ : Pr p) (A : Pol p) (n : Nat), ds = [.int p, pol A, .int (n : Int)] ∧ A.l.length ≤ 1000 ∧ n ≤ 14 ∧ d = pol (A ^ n)
theorem len_pow {p : Nat} [Pr p] (A : Pol p) : ∀ n : Nat, (A ^ n).l.length ≤ A.l.length * n + 1
  | 0 => by
    have : A ^ 0 = 1 := by grind
    rw [this, one_l]; simp
  | n + 1 => by
    have : A ^ (n + 1) = A ^ n * A := by grind
    have h1 := len_pow A n
    have h2 := mul_len20 (A ^ n) A
    rw [this, Nat.mul_add]; omega
theorem ok_power_of (bu : BuAll mg) (O : OMul P w K mg base k) (F : Fun K "power_of" "power_of" s_power_of f fd) : FnOk P w K mg base CX0 (k + 1) f fd ["p", "one", "count"] (spD f_power_of) := by
  refine fn_D f_power_of F sc_power_of (by rintro ds d ⟨p, _, A, B, rfl, _⟩; rfl) fun cdv A' outer s H E hr ds d hf => ?_
  obtain ⟨p, ip, A, n, rfl, hA, hn, rfl⟩ := hf
  refine ss_cons (s_set 3 (g_lstI (aI_cons g_int aI_nil)) ?_)
  refine ss_cons (s_for ((i_range1 bu (g_var 2)).num (n' := n) (by omega)) (fun i ρ1 => ∃ a, ρ1 = [some (.sh (.int p)), some (.sh (pol A)), some (.sh (.int (n : Int))), some (.sh (pol (A ^ i))), a]) ⟨none, ?_⟩ ?_ ?_)
  · have : (A ^ 0 : Pol p) = 1 := by grind
    rw [this]; unfold pol; rw [one_l]; rfl
  · rintro i ρ1 hi ⟨a, rfl⟩
    refine ⟨[4], _, tg_name, ?_⟩
    have h1 := len_pow A i
    have h2 : A.l.length * i ≤ 1000 * 14 := Nat.mul_le_mul hA (by omega)
    refine ss_one (s_set 3 (g_call O hr (a_cons (g_var 0) (a_cons (g_var 3) (a_cons (g_var 1) a_nil))) ⟨p, ip, A ^ i, A, rfl, by omega, by omega, rfl⟩) ⟨some (.sh (.int (0 + (i : Int)))), ?_⟩)
    have : A ^ (i + 1) = A ^ i * A := by grind
    rw [this]; rfl
  · rintro ρ1 ⟨a, rfl⟩
    exact ss_one (s_ret (g_var 3) rfl)
end
end Cv
end
section
set_option Elab.async false
set_option linter.all false
set_option maxRecDepth 100000
set_option maxHeartbeats 4000000
namespace Cv
open PySem L2 Evl
section
variable {P : Program} {w : World} {K : PySem.W.Frag} {mg : Str → Option Value} {base : Heap} {f : Addr} {fd : FuncData} {k : Nat}
/-- a multiple of B taken off r as far as j -/
def Cut {p : Nat} (B : Pol p) (at' : Nat) (x : Int) (r : List Int) (j : Nat) (r' : List Int) : Prop := r'.length = r.length ∧ ∀ n, cf r' n = if at' ≤ n ∧ n < at' + j then (cf r n - x * cf B.l (n - at')) % (p : Int) else cf r n
theorem Cut.start {p : Nat} (B : Pol p) (at' : Nat) (x : Int) (r : List Int) : Cut B at' x r 0 r := ⟨rfl, fun n => by rw [if_neg (by omega)]⟩
theorem Cut.step {p : Nat} {B : Pol p} {at' j : Nat} {x : Int} {r r' : List Int} (h : Cut B at' x r j r') (hj : at' + j < r.length) : Cut B at' x r (j + 1) (r'.set (at' + j) ((cf r' (at' + j) - x * cf B.l j) % (p : Int))) := ⟨by simp [h.1], fun n => by
  rw [cf_set _ _ _ _ (by rw [h.1]; exact hj)]
  by_cases e : n = at' + j
  · subst e
    rw [if_pos rfl, if_pos (by omega), h.2, if_neg (by omega), Nat.add_sub_cancel_left]
  · rw [if_neg e, h.2 n]
    by_cases g : at' ≤ n ∧ n < at' + j
    · rw [if_pos g, if_pos (by omega)]
    · rw [if_neg g, if_neg (by omega)]⟩
theorem Cut.done {p : Nat} {B : Pol p} {at' : Nat} {x : Int} {r r' : List Int} (h : Cut B at' x r B.l.length r') (n : Nat) : cf r' n % (p : Int) = (cf r n - (if at' ≤ n then x * cf B.l (n - at') else 0)) % (p : Int) := by
  rw [h.2 n]
  by_cases g : at' ≤ n
  · rw [if_pos g]
    by_cases g2 : n < at' + B.l.length
    · rw [if_pos ⟨g, g2⟩, Int.emod_emod]
    · rw [if_neg (fun z => g2 z.2), cf_ge (l := B.l) (by omega)]; simp
  · rw [if_neg g, if_neg (fun z => g z.1)]; simp
theorem Cut.zero {p : Nat} {B : Pol p} {at' : Nat} {x : Int} {r : List Int} (h : x = 0) (n : Nat) : cf r n % (p : Int) = (cf r n - (if at' ≤ n then x * cf B.l (n - at') else 0)) % (p : Int) := by
  subst h
  by_cases g : at' ≤ n
  · rw [if_pos g]; simp
  · rw [if_neg g]; simp
/-- the division before turn i -/
structure Div {p : Nat} [Pr p] (A B : Pol p) (i : Nat) (q r : List Int) : Prop where
  pt : Part A B (A.l.length - i) q r
  z : ∀ n, n + B.l.length + i ≤ A.l.length → cf q n = 0
theorem Div.start {p : Nat} [Pr p] (A B : Pol p) {m : Nat} (h : m = A.l.length + 1 - B.l.length) : Div A B 0 (List.replicate m 0) A.l := by
  subst h
  exact ⟨Part.start A B, fun n _ => cf_rep0 _ _⟩
theorem Div.step {p : Nat} [Pr p] {A B : Pol p} {i at' : Nat} {q r r' : List Int} {x : Int} (D : Div A B i q r) (hB : B ≠ 0) (e : A.l.length = at' + B.l.length + i) (hx : x = cf r (at' + B.l.length - 1) * inv p B.lead % (p : Int)) (hl : r'.length = r.length)
    (h : ∀ n, cf r' n % (p : Int) = (cf r n - (if at' ≤ n then x * cf B.l (n - at') else 0)) % (p : Int)) : Div A B (i + 1) (q.set at' x) r' := by
  have e1 : A.l.length - i = at' + B.l.length := by omega
  have e2 : A.l.length - (i + 1) = at' + B.l.length - 1 := by omega
  have P := D.pt
  rw [e1] at P
  refine ⟨by rw [e2]; exact P.step hB (by omega) (by rw [D.z at' (by omega)]; rfl) hx hl h, fun n hn => ?_⟩
  rw [cf_set _ _ _ _ (by rw [P.lq]; omega), if_neg (by omega)]
  exact D.z n (by omega)
theorem Div.done {p : Nat} [Pr p] {A B : Pol p} {q r : List Int} (D : Div A B (A.l.length + 1 - B.l.length) q r) (hB : B ≠ 0) : quo A B = Pol.of q ∧ rem A B = Pol.of r :=
  D.pt.done hB (by have := len_pos hB; unfold Pol.len at this; omega)
theorem l_ne {p : Nat} [Pr p] {B : Pol p} (hB : B ≠ 0) : B.l ≠ [] := fun e => hB (eq_zero_iff.mpr e)
/-! parted -/
abbrev s_parted : Stmt := topS 23
theorem sc_parted : FnScope ["p", "one", "other", "rest", "quotient", "back", "at", "number", "place", "item"] ["p", "one", "other"] (defScope s_parted) := ⟨rfl, rfl, rfl, by decide +kernel, rfl, by decide +kernel, by decide +kernel⟩
def f_parted (ds : List D) (d : D) : Prop := ∃ (p : Nat) (_ : Pr p) (A B : Pol p), ds = [.int p, pol A, pol B] ∧ A.l.length ≤ 20000 ∧ B.l.length ≤ 20000 ∧ B ≠ 0 ∧ d = .tup [pol (quo A B), pol (rem A B)]
abbrev OInv (P w K mg base k) := Own P w K mg base k "inverse" ["p", "number"] (spD f_inverse)
theorem ok_parted (bu : BuAll mg) (O : OTrimmed P w K mg base k) (O2 : OInv P w K mg base k) (F : Fun K "parted" "parted" s_parted f fd) : FnOk P w K mg base CX0 (k + 1) f fd ["p", "one", "other"] (spD f_parted) := by
  refine fn_D f_parted F sc_parted (by rintro ds d ⟨p, _, A, B, rfl, _⟩; rfl) fun cdv A' outer s H E hr ds d hf => ?_
  obtain ⟨p, ip, A, B, rfl, hA, hB, hB0, rfl⟩ := hf
  have hb := l_ne hB0
  have hbl : 0 < B.l.length := List.length_pos_iff.mpr hb
  have hinv := inv_spec (lead_mod hB0)
  have hp := Pr.le13 p
  refine ss_cons (s_par3 3 4 5 (r_nw (gn_list bu (g_var 1))) (r_nw (g_repI g_int (g_max2 bu (g_add (g_sub (g_lenI bu (g_var 1)) (g_lenI bu (g_var 2))) g_int) g_int) (by omega))) (r_sh (g_call O2 hr (a_cons (g_var 0) (a_cons (g_lastI (g_var 2) hb) a_nil)) ⟨p, ip, B.lead, by rw [last_lead hb], lead_mod hB0, rfl⟩)) fun l1 l2 l3 => ?_)
  refine ss_cons (s_for ((i_down bu (g_sub (g_lenI bu (g_var 1)) (g_lenI bu (g_var 2))) (g_neg g_int) (g_neg g_int)).num (n' := A.l.length + 1 - B.l.length) (by omega)) (fun i ρ1 => ∃ q r a b c e, Div A B i q r ∧ ρ1 = [some (.sh (.int p)), some (.sh (pol A)), some (.sh (pol B)), some (.own l1 (r.map .int)), some (.own l2 (q.map .int)), some (.sh (.int (inv p B.lead))), a, b, c, e]) ⟨_, _, _, _, _, _, Div.start A B (m := (max ((A.l.length : Int) - (B.l.length : Int) + 1) 0).toNat) (by omega), rfl⟩ ?_ ?_)
  · rintro i ρ1 hi ⟨q, r, a, b, c, e, dv, rfl⟩
    have e0 : A.l.length = (A.l.length - B.l.length - i) + B.l.length + i := by omega
    generalize hat : A.l.length - B.l.length - i = at' at e0
    have e1 : (A.l.length : Int) - (B.l.length : Int) + (i : Int) * (-1) = (at' : Int) := by omega
    have hlr := dv.pt.lr
    have hlq := dv.pt.lq
    rw [e1]
    refine ⟨[6], _, tg_name, ?_⟩
    refine ss_cons (s_set 7 (g_mod (g_mul (g_ixOwn 3 (g_sub (g_add (g_var 6) (g_lenI bu (g_var 2))) g_int) (own_at (ms := r) (n := at' + B.l.length - 1) (by omega) (by omega))) (g_var 5) (.inr (by omega))) (g_var 0) (Pr.posI p)) ?_)
    generalize hx : cf r (at' + B.l.length - 1) * inv p B.lead % (p : Int) = x
    have hx0 : 0 ≤ x ∧ x < p := by rw [← hx]; exact ⟨Int.emod_nonneg _ (by have := Pr.posI p; omega), Int.emod_lt_of_pos _ (Pr.posI p)⟩
    refine ss_cons (s_setI 4 (g_var 7) (g_var 6) (own_ix (ms := q) (n := at') (by omega) (by omega)) ?_)
    rw [own_set]
    refine ss_one (s_for (i_enumI bu (g_var 2)) (fun j ρ1 => ∃ r' c e, Cut B at' x r j r' ∧ ρ1 = [some (.sh (.int p)), some (.sh (pol A)), some (.sh (pol B)), some (.own l1 (r'.map .int)), some (.own l2 ((q.set at' x).map .int)), some (.sh (.int (inv p B.lead))), some (.sh (.int (at' : Int))), some (.sh (.int x)), c, e]) ⟨r, c, e, Cut.start B at' x r, rfl⟩ ?_ ?_)
    · rintro j ρ1 hj ⟨r', c, e, cut, rfl⟩
      have hc := cut.1
      refine ⟨[8, 9], _, tg_tup (tgs_cons (tg_name (i := 8)) (tgs_cons (tg_name (i := 9)) tgs_nil)), ?_⟩
      refine ss_one (s_setI 3 (g_mod (g_sub (g_ixOwn 3 (g_add (g_var 6) (g_var 8)) (own_at (ms := r') (n := at' + j) (by omega) (by omega))) (g_mul (g_var 7) (g_var 9) (.inl (by omega)))) (g_var 0) (Pr.posI p)) (g_add (g_var 6) (g_var 8)) (own_ix (ms := r') (n := at' + j) (by omega) (by omega)) ?_)
      refine ⟨_, some (.sh (.int (j : Int))), some (.sh (.int (B.l.getD j 0))), cut.step (by omega), ?_⟩
      rw [own_set, cf_getD]; rfl
    · rintro ρ1 ⟨r', c, e, cut, rfl⟩
      exact ⟨_, _, _, _, _, _, dv.step hB0 e0 hx.symm cut.1 cut.done, rfl⟩
  · rintro ρ1 ⟨q, r, a, b, c, e, dv, rfl⟩
    refine ss_freeze 3 (ss_freeze 4 ?_)
    obtain ⟨d1, d2⟩ := dv.done hB0
    refine ss_one (s_ret (g_tup (a_cons (g_call O hr (a_cons (g_var 0) (a_cons (g_var 4) a_nil)) (f_trimmed_of q (by rw [dv.pt.lq]; omega) d1.symm)) (a_cons (g_call O hr (a_cons (g_var 0) (a_cons (g_var 3) a_nil)) (f_trimmed_of r (by rw [dv.pt.lr]; omega) d2.symm)) a_nil))) rfl)
abbrev OPart (P w K mg base k) := Own P w K mg base k "parted" ["p", "one", "other"] (spD f_parted)
/-! whole_part -/
abbrev s_whole_part : Stmt := topS 24
theorem sc_whole_part : FnScope ["p", "one", "other"] ["p", "one", "other"] (defScope s_whole_part) := ⟨rfl, rfl, rfl, by decide +kernel, rfl, by decide +kernel, by decide +kernel⟩
def f_whole_part (ds : List D) (d : D) : Prop := ∃ (p : Nat) (_ : Pr p) (A B : Pol p), ds = [.int p, pol A, pol B] ∧ A.l.length ≤ 20000 ∧ B.l.length ≤ 20000 ∧ B ≠ 0 ∧ d = pol (quo A B)
theorem ok_whole_part (bu : BuAll mg) (O : OPart P w K mg base k) (F : Fun K "whole_part" "whole_part" s_whole_part f fd) : FnOk P w K mg base CX0 (k + 1) f fd ["p", "one", "other"] (spD f_whole_part) := by
  refine fn_D f_whole_part F sc_whole_part (by rintro ds d ⟨p, _, A, B, rfl, _⟩; rfl) fun cdv A' outer s H E hr ds d hf => ?_
  obtain ⟨p, ip, A, B, rfl, hA, hB, hB0, rfl⟩ := hf
  exact ss_one (s_ret (g_ixT (i := 0) (g_call O hr (a_cons (g_var 0) (a_cons (g_var 1) (a_cons (g_var 2) a_nil))) ⟨p, ip, A, B, rfl, hA, hB, hB0, rfl⟩) g_int (d := pol (quo A B)) rfl) rfl)
end
end Cv
end
section
set_option Elab.async false
set_option linter.all false
set_option maxRecDepth 100000
set_option maxHeartbeats 4000000
namespace Cv
open PySem L2 Evl
section
variable {p : Nat} [Pr p]
/-! the factors of the greatest common part, as the loop makes them -/
noncomputable def egc : Nat → Pol p → Pol p → Pol p → Pol p → Pol p
  | 0, _, _, u, _ => u
  | n + 1, R, S, u, v => open Classical in if S = 0 then u else egc n S (rem R S) v (u - quo R S * v)
theorem egc_done (n : Nat) (R u v : Pol p) : egc n R 0 u v = u := by
  cases n with
  | zero => rfl
  | succ n => unfold egc; rw [if_pos rfl]
theorem egc_step {n : Nat} {R S u v : Pol p} (h : S ≠ 0) : egc (n + 1) R S u v = egc n S (rem R S) v (u - quo R S * v) := by
  conv => lhs; unfold egc
  rw [if_neg h]
noncomputable def lastR (A B : Pol p) : Pol p := egc B.len A B A B
noncomputable def bzU (A B : Pol p) : Pol p := Pol.C (inv p (lastR A B).lead) * egc B.len A B 1 0
noncomputable def bzV (A B : Pol p) : Pol p := Pol.C (inv p (lastR A B).lead) * egc B.len A B 0 1
theorem len_q {A B : Pol p} (hB : B ≠ 0) (hq : quo A B ≠ 0) : (quo A B).len + B.len ≤ A.len + 1 := by
  obtain ⟨e, hr⟩ := quo_rem A B hB
  have h1 := len_mul hq hB
  have h2 := len_pos hq
  have h3 := len_pos hB
  have h4 : quo A B * B = A - rem A B := by grind
  have h5 := len_sub A (rem A B)
  rw [← h4] at h5
  omega
structure Bd (M : Nat) (R S u v : Pol p) : Prop where
  a : v.len + R.len ≤ M
  b : u.len + S.len ≤ M
  c : v.len + S.len ≤ M
theorem Bd.step {M : Nat} {R S u v : Pol p} (h : Bd M R S u v) (hS : S ≠ 0) : Bd M S (rem R S) v (u - quo R S * v) := by
  obtain ⟨e, hr⟩ := quo_rem R S hS
  have key : (u - quo R S * v).len + S.len ≤ M := by
    have h1 := len_sub u (quo R S * v)
    by_cases hq : quo R S = 0
    · have : quo R S * v = 0 := by rw [hq]; grind
      rw [this, len_zero] at h1
      rw [this]
      have := h.b
      omega
    · have h2 := len_mul_le (quo R S) v
      have h3 := len_q hS hq
      have h4 := h.a
      have h5 := h.b
      have h6 := len_pos hq
      omega
  exact ⟨key, by have := h.c; omega, by omega⟩
theorem lead_zero : (0 : Pol p).lead = 0 := by unfold Pol.lead; rw [zero_l]; simp
theorem inv_zero : inv p 0 = 0 := by
  unfold inv
  rw [dif_neg (by simp)]
theorem pol0 : pol (0 : Pol p) = L [] := by unfold pol; rw [zero_l]
theorem pol1 : pol (1 : Pol p) = L [1] := by unfold pol; rw [one_l]
theorem ne_iff {A : Pol p} : A.l ≠ [] ↔ A ≠ 0 := not_congr eq_zero_iff.symm
end
section
variable {P : Program} {w : World} {K : PySem.W.Frag} {mg : Str → Option Value} {base : Heap} {f : Addr} {fd : FuncData} {k : Nat}
/-! common_with -/
abbrev s_common_with : Stmt := topS 25
theorem sc_common_with : FnScope ["p", "one", "other", "low", "high", "quotient", "rest", "left", "right", "back"] ["p", "one", "other"] (defScope s_common_with) := ⟨rfl, rfl, rfl, by decide +kernel, rfl, by decide +kernel, by decide +kernel⟩
def f_common_with (ds : List D) (d : D) : Prop := ∃ (p : Nat) (_ : Pr p) (A B : Pol p), ds = [.int p, pol A, pol B] ∧ A.l.length ≤ 5000 ∧ B.l.length ≤ 5000 ∧ d = .tup [pol (gcd A B), pol (bzU A B), pol (bzV A B)]
abbrev OLess (P w K mg base k) := Own P w K mg base k "lessened" ["p", "one", "other"] (spD f_lessened)
abbrev OScal (P w K mg base k) := Own P w K mg base k "scaled" ["p", "one", "number"] (spD f_scaled)
theorem ok_common_with (bu : BuAll mg) (OP : OPart P w K mg base k) (OL : OLess P w K mg base k) (OM : OMul P w K mg base k) (OI : OInv P w K mg base k) (OS : OScal P w K mg base k) (F : Fun K "common_with" "common_with" s_common_with f fd) : FnOk P w K mg base CX0 (k + 1) f fd ["p", "one", "other"] (spD f_common_with) := by
  refine fn_D f_common_with F sc_common_with (by rintro ds d ⟨p, _, A, B, rfl, _⟩; rfl) fun cdv A' outer s H E hr ds d hf => ?_
  obtain ⟨p, ip, A, B, rfl, hA, hB, rfl⟩ := hf
  have hp := Pr.le13 p
  refine ss_cons (s_par2 3 4 (r_sh (d := .tup [pol A, pol (1 : Pol p), pol (0 : Pol p)]) (g_tup (a_cons (g_list bu (g_var 1)) (a_cons (DE.to (g_lstI (aI_cons g_int aI_nil)) pol1.symm) (a_cons (DE.to (g_lstI aI_nil) pol0.symm) a_nil))))) (r_sh (d := .tup [pol B, pol (0 : Pol p), pol (1 : Pol p)]) (g_tup (a_cons (g_list bu (g_var 2)) (a_cons (DE.to (g_lstI aI_nil) pol0.symm) (a_cons (DE.to (g_lstI (aI_cons g_int aI_nil)) pol1.symm) a_nil))))) fun _ _ => ?_)
  have hAl : A.len = A.l.length := rfl
  have hBl : B.len = B.l.length := rfl
  refine ss_cons (s_while (fun m ρ1 => ∃ (R S u0 u1 v0 v1 : Pol p) (n : Nat) (a b c d e : Option Sl), m = S.len ∧ S.len ≤ n ∧ gcd R S = gcd A B ∧ R.len ≤ 5000 ∧ S.len ≤ 5000 ∧ Bd 10001 R S u0 u1 ∧ Bd 10001 R S v0 v1 ∧ egc n R S R S = lastR A B ∧ egc n R S u0 u1 = egc B.len A B 1 0 ∧ egc n R S v0 v1 = egc B.len A B 0 1 ∧ ρ1 = [some (.sh (.int p)), some (.sh (pol A)), some (.sh (pol B)), some (.sh (.tup [pol R, pol u0, pol v0])), some (.sh (.tup [pol S, pol u1, pol v1])), a, b, c, d, e]) _ ⟨A, B, 1, 0, 0, 1, B.len, none, none, none, none, none, rfl, Nat.le_refl _, rfl, hA, hB, ⟨by rw [len_zero]; omega, by rw [len_one]; omega, by rw [len_zero]; omega⟩, ⟨by rw [len_one]; omega, by rw [len_zero]; omega, by rw [len_one]; omega⟩, rfl, rfl, rfl, rfl⟩ ?_)
  rintro m ρ1 ⟨R, S, u0, u1, v0, v1, n, a, b, c, d, e, rfl, hn, hg, hR, hS, bu', bv', e1, e2, e3, rfl⟩
  refine ⟨_, t_neL hr (g_ixT (i := 0) (g_var 4) g_int (d := pol S) rfl) g_nilI, fun z => ?_, fun z => ?_⟩
  · have hS0 : S ≠ 0 := ne_iff.mp (by simpa using z)
    obtain ⟨er, hrl⟩ := quo_rem R S hS0
    have hlen := len_pos hS0
    obtain ⟨n', rfl⟩ : ∃ n', n = n' + 1 := ⟨n - 1, by omega⟩
    have hq := len_quo R S hS0
    have hu1 := bu'.a
    have hu0 := bu'.b
    have hv1 := bv'.a
    have hv0 := bv'.b
    have m1 := len_mul_le' (quo R S) u1
    have m2 := len_mul_le' (quo R S) v1
    unfold Pol.len at *
    refine ss_cons (s_asg (g_call OP hr (a_cons (g_var 0) (a_cons (g_ixT (i := 0) (g_var 3) g_int (d := pol R) rfl) (a_cons (g_ixT (i := 0) (g_var 4) g_int (d := pol S) rfl) a_nil))) ⟨p, ip, R, S, rfl, by omega, by omega, hS0, rfl⟩) (tg_tup (tgs_cons (tg_name (i := 5)) (tgs_cons (tg_name (i := 6)) tgs_nil))) ?_)
    refine ss_cons (s_set 7 (g_call OL hr (a_cons (g_var 0) (a_cons (g_ixT (i := 1) (g_var 3) g_int (d := pol u0) rfl) (a_cons (g_call OM hr (a_cons (g_var 0) (a_cons (g_var 5) (a_cons (g_ixT (i := 1) (g_var 4) g_int (d := pol u1) rfl) a_nil))) ⟨p, ip, quo R S, u1, rfl, by omega, by omega, rfl⟩) a_nil))) ⟨p, ip, u0, quo R S * u1, rfl, by omega, by omega, rfl⟩) ?_)
    refine ss_cons (s_set 8 (g_call OL hr (a_cons (g_var 0) (a_cons (g_ixT (i := 2) (g_var 3) g_int (d := pol v0) rfl) (a_cons (g_call OM hr (a_cons (g_var 0) (a_cons (g_var 5) (a_cons (g_ixT (i := 2) (g_var 4) g_int (d := pol v1) rfl) a_nil))) ⟨p, ip, quo R S, v1, rfl, by omega, by omega, rfl⟩) a_nil))) ⟨p, ip, v0, quo R S * v1, rfl, by omega, by omega, rfl⟩) ?_)
    refine ss_one (s_par2 3 4 (r_sh (g_var 4)) (r_sh (g_tup (a_cons (g_var 6) (a_cons (g_var 7) (a_cons (g_var 8) a_nil))))) fun _ _ => ?_)
    refine ⟨(rem R S).l.length, by omega, S, rem R S, u1, u0 - quo R S * u1, v1, v0 - quo R S * v1, n', _, _, _, _, e, rfl, by omega, ?_, by omega, by omega, bu'.step hS0, bv'.step hS0, ?_, ?_, ?_, rfl⟩
    · rw [← hg]; exact (gcd_step er).symm
    · rw [egc_step hS0] at e1
      rw [← e1]
      congr 1
      grind
    · rw [egc_step hS0] at e2; exact e2
    · rw [egc_step hS0] at e3; exact e3
  · have hS0 : S = 0 := eq_zero_iff.mpr (by simpa using z)
    subst hS0
    rw [egc_done] at e1 e2 e3
    rw [gcd_zero] at hg
    have dd : D.tup [pol (gcd A B), pol (bzU A B), pol (bzV A B)] = .tup [pol (Pol.C (inv p R.lead) * R), pol (Pol.C (inv p R.lead) * u0), pol (Pol.C (inv p R.lead) * v0)] := by
      unfold bzU bzV
      rw [← e1, ← e2, ← e3, ← hg]; rfl
    rw [dd]
    refine ss_cons (s_if (t_eqL hr (g_ixT (i := 0) (g_var 3) g_int (d := pol R) rfl) g_nilI) (fun z => ?_) fun z => ?_)
    · have hR0 : R = 0 := eq_zero_iff.mpr (by simpa using z)
      subst hR0
      have zz : ∀ X : Pol p, Pol.C (inv p (0 : Pol p).lead) * X = 0 := fun X => by
        rw [lead_zero, inv_zero, C_zero]; grind
      rw [zz, zz, zz, pol0]
      exact ss_one (s_ret (g_tup (a_cons g_nilI (a_cons g_nilI (a_cons g_nilI a_nil)))) rfl)
    · have hR0 : R ≠ 0 := ne_iff.mp (by simpa using z)
      have hb := l_ne hR0
      have hinv := inv_spec (lead_mod hR0)
      refine ss_nil ?_
      have hu0 := bu'.b
      have hv0 := bv'.b
      unfold Pol.len at hu0 hv0 hR
      refine ss_cons (s_set 9 (g_call OI hr (a_cons (g_var 0) (a_cons (g_lastI (g_ixT (i := 0) (g_var 3) g_int (d := pol R) rfl) hb) a_nil)) ⟨p, ip, R.lead, by rw [last_lead hb], lead_mod hR0, rfl⟩) ?_)
      exact ss_one (s_ret (g_tup (a_cons (g_call OS hr (a_cons (g_var 0) (a_cons (g_ixT (i := 0) (g_var 3) g_int (d := pol R) rfl) (a_cons (g_var 9) a_nil))) ⟨p, ip, R, _, rfl, by omega, by omega, by omega, rfl⟩) (a_cons (g_call OS hr (a_cons (g_var 0) (a_cons (g_ixT (i := 1) (g_var 3) g_int (d := pol u0) rfl) (a_cons (g_var 9) a_nil))) ⟨p, ip, u0, _, rfl, by omega, by omega, by omega, rfl⟩) (a_cons (g_call OS hr (a_cons (g_var 0) (a_cons (g_ixT (i := 2) (g_var 3) g_int (d := pol v0) rfl) (a_cons (g_var 9) a_nil))) ⟨p, ip, v0, _, rfl, by omega, by omega, by omega, rfl⟩) a_nil)))) rfl)
abbrev OComW (P w K mg base k) := Own P w K mg base k "common_with" ["p", "one", "other"] (spD f_common_with)
/-! common_of -/
abbrev s_common_of : Stmt := topS 26
theorem sc_common_of : FnScope ["p", "one", "other"] ["p", "one", "other"] (defScope s_common_of) := ⟨rfl, rfl, rfl, by decide +kernel, rfl, by decide +kernel, by decide +kernel⟩
def f_common_of (ds : List D) (d : D) : Prop := ∃ (p : Nat) (_ : Pr p) (A B : Pol p), ds = [.int p, pol A, pol B] ∧ A.l.length ≤ 5000 ∧ B.l.length ≤ 5000 ∧ d = pol (gcd A B)
theorem ok_common_of (bu : BuAll mg) (O : OComW P w K mg base k) (F : Fun K "common_of" "common_of" s_common_of f fd) : FnOk P w K mg base CX0 (k + 1) f fd ["p", "one", "other"] (spD f_common_of) := by
  refine fn_D f_common_of F sc_common_of (by rintro ds d ⟨p, _, A, B, rfl, _⟩; rfl) fun cdv A' outer s H E hr ds d hf => ?_
  obtain ⟨p, ip, A, B, rfl, hA, hB, rfl⟩ := hf
  exact ss_one (s_ret (g_ixT (i := 0) (g_call O hr (a_cons (g_var 0) (a_cons (g_var 1) (a_cons (g_var 2) a_nil))) ⟨p, ip, A, B, rfl, hA, hB, rfl⟩) g_int (d := pol (gcd A B)) rfl) rfl)
abbrev OCom (P w K mg base k) := Own P w K mg base k "common_of" ["p", "one", "other"] (spD f_common_of)
/-! slope_of -/
abbrev s_slope_of : Stmt := topS 27
theorem sc_slope_of : FnScope ["p", "one", "at", "number"] ["p", "one"] (defScope s_slope_of) := ⟨rfl, rfl, rfl, by decide +kernel, rfl, by decide +kernel, by decide +kernel⟩
def slope {p : Nat} [Pr p] (A : Pol p) : Pol p := Pol.of (((List.range A.l.length).map fun (i : Nat) => (i : Int) * A.l.getD i 0).drop 1)
theorem slope_len {p : Nat} [Pr p] (A : Pol p) : (slope A).l.length ≤ A.l.length := Nat.le_trans (len_of _) (by simp)
def f_slope_of (ds : List D) (d : D) : Prop := ∃ (p : Nat) (_ : Pr p) (A : Pol p), ds = [.int p, pol A] ∧ A.l.length ≤ 5000 ∧ d = pol (slope A)
theorem ok_slope_of (bu : BuAll mg) (O : OTrimmed P w K mg base k) (F : Fun K "slope_of" "slope_of" s_slope_of f fd) : FnOk P w K mg base CX0 (k + 1) f fd ["p", "one"] (spD f_slope_of) := by
  refine fn_D f_slope_of F sc_slope_of (by rintro ds d ⟨p, _, A, rfl, _⟩; rfl) fun cdv A' outer s H E hr ds d hf => ?_
  obtain ⟨p, ip, A, rfl, hA, rfl⟩ := hf
  exact ss_one (s_ret (g_call O hr (a_cons (g_var 0) (a_cons (DE.to (g_sl (g_lc (dn_lcI [("at", 2), ("number", 3)] (fun _ => blkOk_by (N := ["p", "one", "at", "number"]) (sc := defScope s_slope_of) (by decide +kernel)) (i_enumI bu (g_var 1)) (by omega) (fun i => (i : Int) * A.l.getD i 0) [2, 3] _ (fun i hi => (tg_tup (tgs_cons (tg_name (i := 2)) (tgs_cons (tg_name (i := 3)) tgs_nil)))) (by decide) (fun i hi => (g_mul (g_var 2) (g_var 3) (.inr (by rw [cf_getD]; exact cf_sm16 A i)))) (by intro _ _; rfl) rfl)) (o_some g_int) o_none) (d' := L (((List.range A.l.length).map fun (i : Nat) => (i : Int) * A.l.getD i 0).drop 1)) (by
    rw [cutD_from1]; unfold L; rw [List.map_drop])) a_nil)) (f_trimmed_of _ (by simp; omega) rfl)) rfl)
end
end Cv
end
section
set_option autoImplicit false
set_option maxRecDepth 100000
namespace Cv
section
variable {p : Nat} [Pr p]
/-! ### every p-th number, and back -/
def evr (A : Pol p) (i : Nat) : Pol p := Pol.of (stepL A.l i p)
theorem cf_evr (A : Pol p) (i m : Nat) : cf (evr A i).l m = cf A.l (i + m * p) := by
  unfold evr
  rw [Pol.cf_of, cf_get, stepL_get _ _ _ (Pr.pos p), ← cf_get, A.cf_mod]
theorem len_evr (A : Pol p) (i : Nat) : (evr A i).len ≤ A.len / p + 1 := len_le.mpr fun m hm => by
  rw [cf_evr]
  refine cf_ge ?_
  have h1 : A.len < p * (A.len / p + 1) := Nat.lt_mul_div_succ _ (Pr.pos p)
  have h2 : p * (A.len / p + 1) ≤ m * p := by rw [Nat.mul_comm m p]; exact Nat.mul_le_mul_left p hm
  unfold Pol.len at *
  omega
/-- A at x^p -/
def stretch (A : Pol p) : Pol p := Pol.of ((List.range (p * A.l.length)).map fun n => if n % p = 0 then cf A.l (n / p) else 0)
theorem cf_stretch (A : Pol p) (n : Nat) : cf (stretch A).l n = if n % p = 0 then cf A.l (n / p) else 0 := by
  unfold stretch
  rw [Pol.cf_of, cf_range]
  by_cases h : n < p * A.l.length
  · rw [if_pos h]
    by_cases h2 : n % p = 0
    · rw [if_pos h2, A.cf_mod]
    · rw [if_neg h2]; rfl
  · rw [if_neg h]
    have : A.l.length ≤ n / p := (Nat.le_div_iff_mul_le (Pr.pos p)).mpr (by rw [Nat.mul_comm]; omega)
    rw [cf_ge this]
    split <;> rfl
theorem len_stretch (A : Pol p) : (stretch A).len ≤ p * A.len := Nat.le_trans (len_of _) (by simp [Pol.len])
/-- a list that is stretched A -/
theorem stretch_list (A : Pol p) (ms : List Int) (hl : ms.length = if A.l = [] then 0 else p * (A.l.length - 1) + 1) (h : ∀ n, cf ms n = if n % p = 0 then cf A.l (n / p) else 0) : ms = (stretch A).l := by
  refine top_ext (fun hne => ?_) (stretch A).top fun n => by rw [h n, cf_stretch]
  have hA : A.l ≠ [] := fun e => hne (List.length_eq_zero_iff.mp (by rw [hl, if_pos e]))
  rw [if_neg hA] at hl
  have e1 : ms.length - 1 = p * (A.l.length - 1) := by omega
  rw [e1, h, if_pos (Nat.mul_mod_right _ _), Nat.mul_div_cancel_left _ (Pr.pos p)]
  exact A.top hA
end
end Cv
end
section
set_option linter.all false
set_option maxRecDepth 100000
set_option maxHeartbeats 4000000
namespace Cv
section
variable {p : Nat} [ip : Pr p]
/-! ### the arithmetic of functions, by triples -/
def plusT (t u : Tri p) : Tri p := (t.1 * u.2.2 + u.1 * t.2.2, t.2.1 * u.2.2 + u.2.1 * t.2.2, t.2.2 * u.2.2)
def negT (t : Tri p) : Tri p := (-t.1, -t.2.1, t.2.2)
def turnT (t : Tri p) : Tri p := (t.1, -t.2.1, t.2.2)
def mulT (g : Pol p) (t u : Tri p) : Tri p := (t.1 * u.1 + t.2.1 * u.2.1 * g, t.1 * u.2.1 + t.2.1 * u.1, t.2.2 * u.2.2)
def normP (g : Pol p) (t : Tri p) : Pol p := t.1 * t.1 - t.2.1 * t.2.1 * g
def backT (g : Pol p) (t : Tri p) : Tri p := (t.1 * t.2.2, -(t.2.1 * t.2.2), normP g t)
def normT (g : Pol p) (t : Tri p) : Tri p := (normP g t, 0, t.2.2 * t.2.2)
def traceT (t : Tri p) : Tri p := (Pol.C 2 * t.1, 0, t.2.2)
def slopeT (g : Pol p) (t : Tri p) : Tri p :=
  ((slope t.1 * t.2.2 - t.1 * slope t.2.2) * (Pol.C 2 * g), (slope t.2.1 * t.2.2 - t.2.1 * slope t.2.2) * (Pol.C 2 * g) + t.2.1 * slope g * t.2.2, t.2.2 * t.2.2 * (Pol.C 2 * g))
theorem same_refl (t : Tri p) : Same t t := ⟨rfl, rfl⟩
theorem same_plus {s t u v : Tri p} (a : Same s t) (b : Same u v) : Same (plusT s u) (plusT t v) := by
  obtain ⟨a1, a2⟩ := a
  obtain ⟨b1, b2⟩ := b
  unfold Same plusT
  simp only
  constructor <;> grind
theorem same_neg {s t : Tri p} (a : Same s t) : Same (negT s) (negT t) := by
  obtain ⟨a1, a2⟩ := a
  unfold Same negT
  simp only
  constructor <;> grind
theorem same_turn {s t : Tri p} (a : Same s t) : Same (turnT s) (turnT t) := by
  obtain ⟨a1, a2⟩ := a
  unfold Same turnT
  simp only
  constructor <;> grind
theorem same_mul {g : Pol p} {s t u v : Tri p} (a : Same s t) (b : Same u v) : Same (mulT g s u) (mulT g t v) := by
  obtain ⟨a1, a2⟩ := a
  obtain ⟨b1, b2⟩ := b
  unfold Same mulT
  simp only
  constructor <;> grind
theorem same_back {g : Pol p} {s t : Tri p} (ht : t.2.2 ≠ 0) (a : Same s t) : Same (backT g s) (backT g t) := by
  obtain ⟨a1, a2⟩ := a
  unfold Same backT normP
  simp only
  constructor
  · refine mul_cancel (mul_ne_zero ht ht) ?_
    grind
  · refine mul_cancel (mul_ne_zero ht ht) ?_
    grind
theorem same_norm {g : Pol p} {s t : Tri p} (a : Same s t) : Same (normT g s) (normT g t) := by
  obtain ⟨a1, a2⟩ := a
  unfold Same normT normP
  simp only
  constructor <;> grind
theorem same_trace {s t : Tri p} (a : Same s t) : Same (traceT s) (traceT t) := by
  obtain ⟨a1, a2⟩ := a
  unfold Same traceT
  simp only
  constructor <;> grind
/-! ### slopes of polynomials -/
theorem cf_slope (A : Pol p) (n : Nat) : cf (slope A).l n = ((n : Int) + 1) * cf A.l (n + 1) % (p : Int) := by
  unfold slope
  rw [Pol.cf_of, cf_drop, cf_range]
  by_cases h : 1 + n < A.l.length
  · rw [if_pos h, cf_getD, Nat.add_comm 1 n]; rfl
  · rw [if_neg h, cf_ge (l := A.l) (by omega)]; simp
theorem slope_add (A B : Pol p) : slope (A + B) = slope A + slope B := Pol.ext fun n => by
  rw [cf_slope, cf_addP, cf_addP, cf_slope, cf_slope, Int.mul_emod, Int.emod_emod, ← Int.mul_emod, Int.mul_add, ← Int.add_emod]
theorem slope_C (x : Int) (A : Pol p) : slope (Pol.C x * A) = Pol.C x * slope A := Pol.ext fun n => by
  rw [cf_slope, cf_C, cf_C, cf_slope, Int.mul_emod, Int.emod_emod, ← Int.mul_emod]
  rw [Int.mul_emod x, Int.emod_emod, ← Int.mul_emod]
  congr 1
  rw [← Int.mul_assoc, ← Int.mul_assoc, Int.mul_comm _ x]
theorem slope_X (A : Pol p) : slope (Pol.X * A) = A + Pol.X * slope A := Pol.ext fun n => by
  rw [cf_slope, cf_addP, cf_X]
  cases n with
  | zero => rw [cf_X0]; simp
  | succ n =>
    rw [cf_X, cf_slope, Int.add_emod, Int.emod_emod, ← Int.add_emod]
    congr 1
    have : ((n + 1 : Nat) : Int) + 1 = 1 + ((n : Int) + 1) := by omega
    rw [this, Int.add_mul, Int.one_mul]
theorem slope_mul (A B : Pol p) : slope (A * B) = slope A * B + A * slope B := by
  refine Pol.rec_X (P := fun A => ∀ B : Pol p, slope (A * B) = slope A * B + A * slope B) (fun B => ?_) (fun x A ih B => ?_) A B
  · have z : slope (0 : Pol p) = 0 := by
      have := slope_C 0 (0 : Pol p)
      rw [C_zero] at this
      have e : (0 : Pol p) * 0 = 0 := by grind
      rw [e] at this
      rw [this]; grind
    have e : (0 : Pol p) * B = 0 := by grind
    rw [e, z]; grind
  · have e : (Pol.C x + Pol.X * A) * B = Pol.C x * B + Pol.X * (A * B) := by grind
    have c1 : slope (Pol.C x : Pol p) = 0 := by
      have := slope_C x (1 : Pol p)
      have e1 : (Pol.C x : Pol p) * 1 = Pol.C x := by grind
      rw [e1] at this
      rw [this]
      have : slope (1 : Pol p) = 0 := Pol.ext fun n => by rw [cf_slope, one_l, zero_l]; simp
      rw [this]; grind
    rw [e, slope_add, slope_C, slope_X, ih B, slope_add, c1, slope_X]; grind
theorem same_slope {g : Pol p} {s t : Tri p} (ht : t.2.2 ≠ 0) (a : Same s t) : Same (slopeT g s) (slopeT g t) := by
  obtain ⟨a1, a2⟩ := a
  have d1 := congrArg slope a1
  have d2 := congrArg slope a2
  rw [slope_mul, slope_mul] at d1 d2
  unfold Same slopeT
  simp only
  constructor
  · refine mul_cancel ht ?_
    grind
  · refine mul_cancel ht ?_
    grind
/-! ### powers -/
def powT (g : Pol p) (t : Tri p) : Nat → Tri p
  | 0 => (1, 0, 1)
  | n + 1 => mulT g (powT g t n) t
theorem mulT_assoc (g : Pol p) (s t u : Tri p) : mulT g (mulT g s t) u = mulT g s (mulT g t u) := by
  unfold mulT
  simp only [Prod.mk.injEq]
  refine ⟨?_, ?_, ?_⟩ <;> grind
theorem mulT_comm (g : Pol p) (s t : Tri p) : mulT g s t = mulT g t s := by
  unfold mulT
  simp only [Prod.mk.injEq]
  refine ⟨?_, ?_, ?_⟩ <;> grind
theorem powT_add (g : Pol p) (t : Tri p) (i : Nat) : ∀ j, powT g t (i + j) = mulT g (powT g t i) (powT g t j)
  | 0 => by
    show powT g t i = mulT g (powT g t i) (1, 0, 1)
    unfold mulT
    refine Prod.ext ?_ (Prod.ext ?_ ?_) <;> simp only <;> grind
  | j + 1 => by
    show mulT g (powT g t (i + j)) t = mulT g (powT g t i) (mulT g (powT g t j) t)
    rw [powT_add g t i j, mulT_assoc]
theorem same_pow {g : Pol p} {s t : Tri p} (a : Same s t) : ∀ n, Same (powT g s n) (powT g t n)
  | 0 => same_refl _
  | n + 1 => same_mul (same_pow a n) a
theorem powT_bottom (g : Pol p) (t : Tri p) : ∀ n, (powT g t n).2.2 = t.2.2 ^ n
  | 0 => by
    show (1 : Pol p) = _
    grind
  | n + 1 => by
    show (powT g t n).2.2 * t.2.2 = _
    rw [powT_bottom g t n]; grind
/-- the p-th power -/
theorem powT_p (g : Pol p) (t : Tri p) : powT g t p = (t.1 ^ p, t.2.1 ^ p * g ^ ((p - 1) / 2), t.2.2 ^ p) := by
  obtain ⟨a, b, c⟩ := t
  rcases ip.is with rfl | rfl | rfl | rfl | rfl
  · refine Prod.ext ?_ (Prod.ext ?_ ?_) <;> simp only [powT, mulT] <;> grind
  · refine Prod.ext ?_ (Prod.ext ?_ ?_) <;> simp only [powT, mulT] <;> grind
  · refine Prod.ext ?_ (Prod.ext ?_ ?_) <;> simp only [powT, mulT] <;> grind
  · refine Prod.ext ?_ (Prod.ext ?_ ?_) <;> simp only [powT, mulT] <;> grind
  · refine Prod.ext ?_ (Prod.ext ?_ ?_) <;> simp only [powT, mulT] <;> grind
end
end Cv
end
section
set_option linter.all false
set_option maxRecDepth 100000
set_option maxHeartbeats 4000000
namespace Cv
section
variable {p : Nat} [ip : Pr p]
/-! ### powers -/
theorem pow_zero' (A : Pol p) : A ^ 0 = 1 := by grind
theorem pow_succ' (A : Pol p) (n : Nat) : A ^ (n + 1) = A ^ n * A := by grind
theorem mul_pow' (A B : Pol p) : ∀ n : Nat, (A * B) ^ n = A ^ n * B ^ n
  | 0 => by rw [pow_zero', pow_zero', pow_zero']; grind
  | n + 1 => by rw [pow_succ', pow_succ', pow_succ', mul_pow' A B n]; grind
theorem pow_p (A : Pol p) : A ^ p = A * A ^ (p - 1) := by
  obtain ⟨q, rfl⟩ : ∃ q, p = q + 1 := ⟨p - 1, by have := Pr.pos p; omega⟩
  rw [pow_succ', Nat.add_sub_cancel]; grind
theorem frob_add (A B : Pol p) : (A + B) ^ p = A ^ p + B ^ p := by
  rcases ip.is with rfl | rfl | rfl | rfl | rfl
  · grind
  · grind
  · grind
  · grind
  · grind
theorem C_pow (x : Int) : ∀ n : Nat, (Pol.C x : Pol p) ^ n = Pol.C (x ^ n)
  | 0 => by rw [pow_zero', Int.pow_zero]; rfl
  | n + 1 => by rw [pow_succ', C_pow x n, C_mul, Int.pow_succ]
theorem frob_C (x : Int) : (Pol.C x : Pol p) ^ p = Pol.C x := by
  have e : (Pol.C x : Pol p) = Pol.C (x % (p : Int)) := C_mod (Int.emod_emod _ _).symm
  rw [e, C_pow]
  refine C_mod ?_
  have h0 : 0 ≤ x % (p : Int) := Int.emod_nonneg _ (by have := Pr.posI p; omega)
  have h1 : x % (p : Int) < p := Int.emod_lt_of_pos _ (Pr.posI p)
  generalize x % (p : Int) = r at *
  rcases ip.is with rfl | rfl | rfl | rfl | rfl
  · have : r = 0 ∨ r = 1 ∨ r = 2 := by omega
    rcases this with rfl | rfl | rfl <;> decide
  · have : r = 0 ∨ r = 1 ∨ r = 2 ∨ r = 3 ∨ r = 4 := by omega
    rcases this with rfl | rfl | rfl | rfl | rfl <;> decide
  · have : r = 0 ∨ r = 1 ∨ r = 2 ∨ r = 3 ∨ r = 4 ∨ r = 5 ∨ r = 6 := by omega
    rcases this with rfl | rfl | rfl | rfl | rfl | rfl | rfl <;> decide
  · have : r = 0 ∨ r = 1 ∨ r = 2 ∨ r = 3 ∨ r = 4 ∨ r = 5 ∨ r = 6 ∨ r = 7 ∨ r = 8 ∨ r = 9 ∨ r = 10 := by omega
    rcases this with rfl | rfl | rfl | rfl | rfl | rfl | rfl | rfl | rfl | rfl | rfl <;> decide
  · have : r = 0 ∨ r = 1 ∨ r = 2 ∨ r = 3 ∨ r = 4 ∨ r = 5 ∨ r = 6 ∨ r = 7 ∨ r = 8 ∨ r = 9 ∨ r = 10 ∨ r = 11 ∨ r = 12 := by omega
    rcases this with rfl | rfl | rfl | rfl | rfl | rfl | rfl | rfl | rfl | rfl | rfl | rfl | rfl <;> decide
/-! ### A at x^p is A^p -/
theorem stretch_CX (x : Int) (A : Pol p) : stretch (Pol.C x + Pol.X * A) = Pol.C x + (Pol.X : Pol p) ^ p * stretch A := Pol.ext fun n => by
  have hp := Pr.pos p
  have hR : cf (Pol.C x + (Pol.X : Pol p) ^ p * stretch A).l n = (cf (Pol.C x : Pol p).l n + if p ≤ n then cf (stretch A).l (n - p) else 0) % (p : Int) := by rw [cf_addP, cf_Xn]
  rw [cf_stretch, hR]
  rcases Nat.eq_zero_or_pos n with rfl | hn
  · rw [if_pos (Nat.zero_mod p), Nat.zero_div, if_neg (by omega), cf_addP, cf_X0]
  · obtain ⟨m, rfl⟩ : ∃ m, n = m + 1 := ⟨n - 1, by omega⟩
    rw [cf_C1, cf_stretch]
    by_cases h : (m + 1) % p = 0
    · rw [if_pos h]
      have hle : p ≤ m + 1 := Nat.le_of_not_lt fun z => by rw [Nat.mod_eq_of_lt z] at h; omega
      have hd : (m + 1) / p = (m + 1 - p) / p + 1 := by
        rw [Nat.div_eq_sub_div hp hle]
      have hm : (m + 1 - p) % p = 0 := by
        rw [← Nat.mod_eq_sub_mod hle]; exact h
      rw [hd, cf_addP, cf_C1, cf_X, if_pos hle, if_pos hm]
    · rw [if_neg h]
      by_cases hle : p ≤ m + 1
      · have hm : ¬ (m + 1 - p) % p = 0 := by rw [← Nat.mod_eq_sub_mod hle]; exact h
        rw [if_pos hle, if_neg hm]; rfl
      · rw [if_neg hle]; rfl
theorem stretch_zero : stretch (0 : Pol p) = 0 := Pol.ext fun n => by
  rw [cf_stretch, zero_l]
  split <;> simp
theorem stretch_pow (A : Pol p) : stretch A = A ^ p := by
  refine Pol.rec_X (P := fun A => stretch A = A ^ p) ?_ (fun x A ih => ?_) A
  · show stretch (0 : Pol p) = 0 ^ p
    rw [stretch_zero, pow_p]; grind
  · show stretch _ = _
    rw [stretch_CX, ih, frob_add, frob_C, mul_pow']
/-! ### every p-th number -/
theorem evr_add (A B : Pol p) (i : Nat) : evr (A + B) i = evr A i + evr B i := Pol.ext fun n => by
  rw [cf_evr, cf_addP, cf_addP, cf_evr, cf_evr]
theorem evr_C (x : Int) (A : Pol p) (i : Nat) : evr (Pol.C x * A) i = Pol.C x * evr A i := Pol.ext fun n => by
  rw [cf_evr, cf_C, cf_C, cf_evr]
theorem evr_X (A : Pol p) {i : Nat} (hi : i < p) : evr ((Pol.X : Pol p) ^ p * A) i = Pol.X * evr A i := Pol.ext fun n => by
  rw [cf_evr, cf_Xn]
  cases n with
  | zero => rw [cf_X0, if_neg (by omega)]
  | succ n =>
    have e : (n + 1) * p = n * p + p := Nat.succ_mul n p
    rw [cf_X, cf_evr, if_pos (by omega)]
    congr 1; omega
theorem evr_frob (K A : Pol p) {i : Nat} (hi : i < p) : evr (K ^ p * A) i = K * evr A i := by
  refine Pol.rec_X (P := fun K => ∀ A : Pol p, evr (K ^ p * A) i = K * evr A i) (fun A => ?_) (fun x K ih A => ?_) K A
  · have e : (0 : Pol p) ^ p * A = Pol.C 0 * A := by rw [pow_p, C_zero]; grind
    rw [e, evr_C, C_zero]
  · have e : (Pol.C x + Pol.X * K) ^ p * A = Pol.C x * A + (Pol.X : Pol p) ^ p * (K ^ p * A) := by
      rw [frob_add, frob_C, mul_pow']; grind
    rw [e, evr_add, evr_C, evr_X _ hi, ih]; grind
end
end Cv
end
section
set_option linter.all false
set_option maxRecDepth 100000
set_option maxHeartbeats 4000000
namespace Cv
section
variable {p : Nat} [ip : Pr p]
/-! ### the norm is not nought -/
theorem norm_ne {g : Pol p} {t : Tri p} (hg : g ≠ 0) (even : g.l.length % 2 = 0) (h : ¬ (t.1 = 0 ∧ t.2.1 = 0)) : normP g t ≠ 0 := fun e => by
  have e1 : t.1 * t.1 = t.2.1 * t.2.1 * g := by
    unfold normP at e
    grind
  by_cases hb : t.2.1 = 0
  · refine h ⟨?_, hb⟩
    have z : t.1 * t.1 = 0 := by rw [e1, hb]; grind
    exact (mul_eq_zero z).elim id id
  · by_cases ha : t.1 = 0
    · have z : t.2.1 * t.2.1 * g = 0 := by rw [← e1, ha]; grind
      exact mul_ne_zero (mul_ne_zero hb hb) hg z
    · have l1 := len_mul ha ha
      have l2 := len_mul hb hb
      have l3 := len_mul (mul_ne_zero hb hb) hg
      have p1 := len_pos ha
      have p2 := len_pos hb
      have p3 := len_pos hg
      rw [e1] at l1
      unfold Pol.len at *
      omega
/-! ### roots of fractions -/
/-- every power of x in it is one of x^p -/
def Flat (A : Pol p) : Prop := ∀ n, n % p ≠ 0 → cf A.l n = 0
theorem flat_stretch (A : Pol p) : Flat (stretch A) := fun n h => by rw [cf_stretch, if_neg h]
theorem flat_eq {A : Pol p} (h : Flat A) : A = stretch (evr A 0) := Pol.ext fun n => by
  rw [cf_stretch]
  by_cases q : n % p = 0
  · rw [if_pos q, cf_evr, Nat.zero_add]
    congr 1
    have := Nat.div_add_mod n p
    rw [q, Nat.add_zero, Nat.mul_comm] at this
    exact this.symm
  · rw [if_neg q, h n q]
theorem evr_stretch0 (A : Pol p) : evr (stretch A) 0 = A := Pol.ext fun n => by
  rw [cf_evr, cf_stretch, Nat.zero_add, if_pos (Nat.mul_mod_left n p), Nat.mul_div_cancel n (Pr.pos p)]
/-- the least form of a fraction of p-th powers -/
theorem least_pth {a c : Pol p} (hc : c ≠ 0) : least ((a ^ p, 0, c ^ p) : Tri p) = ((least (a, 0, c)).1 ^ p, 0, (least (a, 0, c)).2.2 ^ p) := by
  have hL := least_least (t := ((a, 0, c) : Tri p)) hc
  obtain ⟨K, hK, e1, e2, e3⟩ := least_fac (t := ((a, 0, c) : Tri p)) hc
  generalize least ((a, 0, c) : Tri p) = s at *
  simp only at e1 e2 e3
  have hs2 : s.2.1 = 0 := (mul_eq_zero e2.symm).resolve_left hK
  obtain ⟨u, v, w, bz⟩ := hL.bz
  have hp : Least ((s.1 ^ p, 0, s.2.2 ^ p) : Tri p) := ⟨monic_pow hL.mon p, u ^ p, 0, w ^ p, by
    have e : (1 : Pol p) ^ p = (u * s.1 + w * s.2.2) ^ p := by rw [bz, hs2]; congr 1; grind
    have one : ∀ n : Nat, (1 : Pol p) ^ n = 1 := fun n => by
      induction n with
      | zero => exact pow_zero' _
      | succ n ih => rw [pow_succ', ih]; grind
    rw [one, frob_add, mul_pow', mul_pow'] at e
    simp only
    rw [e]; grind⟩
  rw [← least_self hp]
  refine least_eq (pow_ne_zero hc p) (pow_ne_zero hL.mon.1 p) ⟨?_, ?_⟩
  · simp only
    rw [e1, e3, mul_pow', mul_pow']; grind
  · simp only
    grind
theorem no_root {E : Pol p} (hE : E ≠ 0) {Z : Pol p} (e : stretch Z = (Pol.X : Pol p) ^ 1 * stretch E) : False := by
  have h3 := Pr.ge3 p
  refine hE (Pol.ext fun n => ?_)
  have c1 : cf (stretch Z).l (1 + n * p) = 0 := by
    rw [cf_stretch, if_neg (by rw [Nat.add_mul_mod_self_right, Nat.mod_eq_of_lt (by omega)]; omega)]
  rw [e, cf_Xn, if_pos (by omega), Nat.add_sub_cancel_left, cf_stretch, if_pos (Nat.mul_mod_left n p), Nat.mul_div_cancel n (Pr.pos p)] at c1
  rw [c1, zero_l]; simp
/-- x times a p-th power, told as a fraction, is no p-th power -/
theorem no_root_frac {t1 t3 : Pol p} (h1 : t1 ≠ 0) (h3 : t3 ≠ 0) (f1 : Flat (least ((Pol.X * t1 ^ p, 0, t3 ^ p) : Tri p)).1) (f3 : Flat (least ((Pol.X * t1 ^ p, 0, t3 ^ p) : Tri p)).2.2) : False := by
  have hb : ((Pol.X * t1 ^ p, 0, t3 ^ p) : Tri p).2.2 ≠ 0 := pow_ne_zero h3 p
  obtain ⟨s1, _⟩ := least_same hb
  have hne := least_ne hb
  generalize least ((Pol.X * t1 ^ p, 0, t3 ^ p) : Tri p) = s at *
  simp only at s1
  have e1 := flat_eq f1
  have e3 := flat_eq f3
  have hE : evr s.2.2 0 ≠ 0 := fun z => hne (by rw [e3, z, stretch_zero])
  refine no_root (Z := evr s.1 0 * t3) (E := t1 * evr s.2.2 0) (mul_ne_zero h1 hE) ?_
  have x1 : (Pol.X : Pol p) ^ 1 = Pol.X := by grind
  rw [x1, stretch_pow, stretch_pow, mul_pow', mul_pow', ← stretch_pow (evr s.1 0), ← e1, ← stretch_pow (evr s.2.2 0), ← e3, s1]
  grind
end
end Cv
end
section
set_option linter.all false
set_option maxRecDepth 100000
set_option maxHeartbeats 4000000
namespace Cv
section
variable {p : Nat} [ip : Pr p]
/-! ### a + b y with y * y = g: a ring -/
structure Fn (g : Pol p) where
  a : Pol p
  b : Pol p
variable {g : Pol p}
theorem Fn.ext' {x y : Fn g} (h : x.a = y.a) (k : x.b = y.b) : x = y := by
  cases x; cases y; simp only at h k; rw [h, k]
def Fn.pow (x : Fn g) : Nat → Fn g
  | 0 => ⟨1, 0⟩
  | n + 1 => ⟨(Fn.pow x n).a * x.a + (Fn.pow x n).b * x.b * g, (Fn.pow x n).a * x.b + (Fn.pow x n).b * x.a⟩
instance : Add (Fn g) := ⟨fun x y => ⟨x.a + y.a, x.b + y.b⟩⟩
instance : Mul (Fn g) := ⟨fun x y => ⟨x.a * y.a + x.b * y.b * g, x.a * y.b + x.b * y.a⟩⟩
instance : Neg (Fn g) := ⟨fun x => ⟨-x.a, -x.b⟩⟩
instance : Sub (Fn g) := ⟨fun x y => ⟨x.a + -y.a, x.b + -y.b⟩⟩
instance : NatCast (Fn g) := ⟨fun n => ⟨(n : Pol p), 0⟩⟩
instance : IntCast (Fn g) := ⟨fun n => ⟨(n : Pol p), 0⟩⟩
instance (n : Nat) : OfNat (Fn g) n := ⟨⟨(OfNat.ofNat n : Pol p), 0⟩⟩
instance : HPow (Fn g) Nat (Fn g) := ⟨Fn.pow⟩
instance : SMul Nat (Fn g) := ⟨fun n x => ⟨(n : Pol p), 0⟩ * x⟩
instance : SMul Int (Fn g) := ⟨fun n x => ⟨(n : Pol p), 0⟩ * x⟩
theorem fa_add (x y : Fn g) : (x + y).a = x.a + y.a := rfl
theorem fb_add (x y : Fn g) : (x + y).b = x.b + y.b := rfl
theorem fa_mul (x y : Fn g) : (x * y).a = x.a * y.a + x.b * y.b * g := rfl
theorem fb_mul (x y : Fn g) : (x * y).b = x.a * y.b + x.b * y.a := rfl
theorem fa_neg (x : Fn g) : (-x).a = -x.a := rfl
theorem fb_neg (x : Fn g) : (-x).b = -x.b := rfl
theorem fa_sub (x y : Fn g) : (x - y).a = x.a - y.a := rfl
theorem fb_sub (x y : Fn g) : (x - y).b = x.b - y.b := rfl
theorem fa_nat (n : Nat) : ((OfNat.ofNat n : Fn g)).a = (OfNat.ofNat n : Pol p) := rfl
theorem fb_nat (n : Nat) : ((OfNat.ofNat n : Fn g)).b = 0 := rfl
theorem fa_cast (n : Nat) : ((n : Fn g)).a = (n : Pol p) := rfl
theorem fb_cast (n : Nat) : ((n : Fn g)).b = 0 := rfl
theorem fa_one : (1 : Fn g).a = 1 := rfl
theorem fb_one : (1 : Fn g).b = 0 := rfl
theorem fa_zero : (0 : Fn g).a = 0 := rfl
theorem fb_zero : (0 : Fn g).b = 0 := rfl
theorem nat_ofNat (n : Nat) : (OfNat.ofNat n : Pol p) = (n : Pol p) := rfl
theorem fn_comm (x y : Fn g) : x * y = y * x := Fn.ext' (by rw [fa_mul, fa_mul]; grind) (by rw [fb_mul, fb_mul]; grind)
theorem fn_one (x : Fn g) : x * 1 = x := Fn.ext' (by rw [fa_mul, fa_one, fb_one]; grind) (by rw [fb_mul, fa_one, fb_one]; grind)
theorem fn_zero (x : Fn g) : x * 0 = 0 := Fn.ext' (by rw [fa_mul, fa_zero, fb_zero]; grind) (by rw [fb_mul, fa_zero, fb_zero]; grind)
theorem fn_dist (x y z : Fn g) : x * (y + z) = x * y + x * z := Fn.ext' (by rw [fa_mul, fa_add, fb_add, fa_add, fa_mul, fa_mul]; grind) (by rw [fb_mul, fa_add, fb_add, fb_add, fb_mul, fb_mul]; grind)
instance : Lean.Grind.CommRing (Fn g) where
  add_zero x := Fn.ext' (by rw [fa_add, fa_zero]; grind) (by rw [fb_add, fb_zero]; grind)
  add_comm x y := Fn.ext' (by rw [fa_add, fa_add]; grind) (by rw [fb_add, fb_add]; grind)
  add_assoc x y z := Fn.ext' (by rw [fa_add, fa_add, fa_add, fa_add]; grind) (by rw [fb_add, fb_add, fb_add, fb_add]; grind)
  mul_assoc x y z := Fn.ext' (by simp only [fa_mul, fb_mul]; grind) (by simp only [fa_mul, fb_mul]; grind)
  mul_comm := fn_comm
  mul_one := fn_one
  one_mul x := by rw [fn_comm]; exact fn_one x
  left_distrib := fn_dist
  right_distrib x y z := by rw [fn_comm, fn_dist, fn_comm z x, fn_comm z y]
  zero_mul x := by rw [fn_comm]; exact fn_zero x
  mul_zero := fn_zero
  pow_zero x := rfl
  pow_succ x n := rfl
  ofNat_succ n := Fn.ext' (by rw [fa_add, fa_one, fa_nat, fa_nat]; exact Lean.Grind.Semiring.ofNat_succ n) (by rw [fb_add, fb_one, fb_nat, fb_nat]; grind)
  ofNat_eq_natCast n := rfl
  nsmul_eq_natCast_mul n x := rfl
  neg_add_cancel x := Fn.ext' (by rw [fa_add, fa_neg, fa_zero]; grind) (by rw [fb_add, fb_neg, fb_zero]; grind)
  sub_eq_add_neg x y := rfl
  neg_zsmul i x := by
    have e : ((-i : Int) : Pol p) = -((i : Int) : Pol p) := Lean.Grind.Ring.intCast_neg i
    refine Fn.ext' ?_ ?_
    · show ((-i : Int) : Pol p) * x.a + 0 * x.b * g = -(((i : Int) : Pol p) * x.a + 0 * x.b * g)
      rw [e]; grind
    · show ((-i : Int) : Pol p) * x.b + 0 * x.a = -(((i : Int) : Pol p) * x.b + 0 * x.a)
      rw [e]; grind
  zsmul_natCast_eq_nsmul n x := rfl
  intCast_ofNat n := rfl
  intCast_neg i := Fn.ext' (by
    show ((-i : Int) : Pol p) = -((i : Int) : Pol p)
    exact Lean.Grind.Ring.intCast_neg i) (by
    show (0 : Pol p) = -0
    grind)
instance : Lean.Grind.IsCharP (Fn g) p where
  ofNat_ext_iff {x y} := by
    constructor
    · intro h
      have h2 := congrArg Fn.a h
      exact (Lean.Grind.IsCharP.ofNat_ext_iff (α := Pol p) p).mp h2
    · intro h
      refine Fn.ext' ?_ rfl
      exact (Lean.Grind.IsCharP.ofNat_ext_iff (α := Pol p) p).mpr h
example (x y : Fn g) : (x + y) * (x - y) = x * x - y * y := by grind
/-- a polynomial as a function -/
def inF (g A : Pol p) : Fn g := ⟨A, 0⟩
theorem inF_mul (A B : Pol p) : inF g (A * B) = inF g A * inF g B := Fn.ext' (by rw [fa_mul]; unfold inF; simp only; grind) (by rw [fb_mul]; unfold inF; simp only; grind)
theorem inF_pow (A : Pol p) : ∀ n : Nat, inF g (A ^ n) = inF g A ^ n
  | 0 => by
    have e : A ^ 0 = 1 := by grind
    rw [e]; rfl
  | n + 1 => by
    have e : A ^ (n + 1) = A ^ n * A := by grind
    have e2 : inF g A ^ (n + 1) = inF g A ^ n * inF g A := by grind
    rw [e, inF_mul, inF_pow A n, e2]
theorem inF_cancel {A : Pol p} (h : A ≠ 0) {x y : Fn g} (e : inF g A * x = inF g A * y) : x = y := by
  have e1 := congrArg Fn.a e
  have e2 := congrArg Fn.b e
  rw [fa_mul, fa_mul] at e1
  rw [fb_mul, fb_mul] at e2
  refine Fn.ext' (mul_cancel h ?_) (mul_cancel h ?_)
  · unfold inF at e1; simp only at e1; grind
  · unfold inF at e2; simp only at e2; grind
/-! ### sums -/
def sumR {R : Type} [Lean.Grind.CommRing R] (f : Nat → R) : Nat → R
  | 0 => 0
  | n + 1 => sumR f n + f n
def bin : Nat → Nat → Nat
  | _, 0 => 1
  | 0, _ + 1 => 0
  | n + 1, k + 1 => bin n k + bin n (k + 1)
theorem bin_big : ∀ n k, n < k → bin n k = 0
  | 0, 0, h => by omega
  | 0, k + 1, _ => rfl
  | n + 1, 0, h => by omega
  | n + 1, k + 1, h => by
    show bin n k + bin n (k + 1) = 0
    rw [bin_big n k (by omega), bin_big n (k + 1) (by omega)]
theorem bin_zero (n : Nat) : bin n 0 = 1 := by cases n <;> rfl
section
variable {R : Type} [Lean.Grind.CommRing R]
local instance castOf : NatCast R := Lean.Grind.Semiring.natCast
theorem sumR_congr {f h : Nat → R} : ∀ n, (∀ i, i < n → f i = h i) → sumR f n = sumR h n
  | 0, _ => rfl
  | n + 1, e => by
    show sumR f n + f n = sumR h n + h n
    rw [sumR_congr n fun i hi => e i (by omega), e n (by omega)]
theorem sumR_add (f h : Nat → R) : ∀ n, sumR (fun i => f i + h i) n = sumR f n + sumR h n
  | 0 => by
    show (0 : R) = 0 + 0
    grind
  | n + 1 => by
    show sumR (fun i => f i + h i) n + (f n + h n) = sumR f n + f n + (sumR h n + h n)
    rw [sumR_add f h n]; grind
theorem sumR_mul (c : R) (f : Nat → R) : ∀ n, sumR (fun i => c * f i) n = c * sumR f n
  | 0 => by
    show (0 : R) = c * 0
    grind
  | n + 1 => by
    show sumR (fun i => c * f i) n + c * f n = c * (sumR f n + f n)
    rw [sumR_mul c f n]; grind
theorem cast_add (a b : Nat) : ((a + b : Nat) : R) = (a : R) + (b : R) := Lean.Grind.Semiring.natCast_add a b
theorem pascal (f : Nat → R) (n : Nat) : ∀ m, sumR (fun i => (bin (n + 1) i : R) * f i) (m + 1) = sumR (fun i => (bin n i : R) * f (i + 1)) m + sumR (fun i => (bin n i : R) * f i) (m + 1)
  | 0 => by
    show (0 : R) + (bin (n + 1) 0 : R) * f 0 = 0 + (0 + (bin n 0 : R) * f 0)
    rw [bin_zero, bin_zero]; grind
  | m + 1 => by
    show sumR (fun i => (bin (n + 1) i : R) * f i) (m + 1) + ((bin n m + bin n (m + 1) : Nat) : R) * f (m + 1) = sumR (fun i => (bin n i : R) * f (i + 1)) m + (bin n m : R) * f (m + 1) + (sumR (fun i => (bin n i : R) * f i) (m + 1) + (bin n (m + 1) : R) * f (m + 1))
    rw [pascal f n m, cast_add]; grind
/-- what lowers weights -/
structure Der (d : Nat → R → R) : Prop where
  add : ∀ k x y, d k (x + y) = d k x + d k y
  mul : ∀ i j x y, d (i + j) (x * y) = d i x * y + x * d j y
  one : d 0 1 = 0
variable {d : Nat → R → R}
theorem Der.zero (D : Der d) (k : Nat) : d k 0 = 0 := by
  have h := D.add k 0 0
  have e : (0 : R) + 0 = 0 := by grind
  rw [e] at h
  grind
theorem Der.cast (D : Der d) : ∀ n : Nat, d 0 (n : R) = 0
  | 0 => by
    have e : ((0 : Nat) : R) = 0 := by grind
    rw [e]; exact D.zero 0
  | n + 1 => by
    have e : ((n + 1 : Nat) : R) = (n : R) + 1 := by
      have := cast_add (R := R) n 1
      rw [this]; grind
    rw [e, D.add, D.cast n, D.one]; grind
theorem Der.scal (D : Der d) (n k : Nat) (x : R) : d k ((n : R) * x) = (n : R) * d k x := by
  have h := D.mul 0 k (n : R) x
  rw [Nat.zero_add] at h
  rw [h, D.cast]; grind
theorem Der.neg (D : Der d) (k : Nat) (x : R) : d k (-x) = -d k x := by
  have h := D.add k x (-x)
  have e : x + -x = 0 := by grind
  rw [e, D.zero] at h
  grind
theorem Der.sum (D : Der d) (k : Nat) (f : Nat → R) : ∀ n, d k (sumR f n) = sumR (fun i => d k (f i)) n
  | 0 => D.zero k
  | n + 1 => by
    show d k (sumR f n + f n) = _
    rw [D.add, D.sum k f n]; rfl
/-- the two chains -/
theorem chain (D : Der d) (W : R) (N M : Nat → R) (n0 : N 0 = 1) (ns : ∀ k, N (k + 1) = d k (N k) - W * N k) (m0 : M 0 = W) (ms : ∀ k, M (k + 1) = d (k + 1) (M k)) : ∀ n, N (n + 1) = -sumR (fun i => (bin n i : R) * (M i * N (n - i))) (n + 1)
  | 0 => by
    rw [ns, n0, D.one]
    show (0 : R) - W * 1 = -(0 + (bin 0 0 : R) * (M 0 * N (0 - 0)))
    rw [bin_zero, m0, n0]; grind
  | n + 1 => by
    have ih := chain D W N M n0 ns m0 ms n
    have e1 : d (n + 1) (N (n + 1)) = -(sumR (fun i => (bin n i : R) * (M (i + 1) * N (n + 1 - (i + 1)))) (n + 1) + sumR (fun i => (bin n i : R) * (M i * N (n + 1 - i))) (n + 1) + W * sumR (fun i => (bin n i : R) * (M i * N (n - i))) (n + 1)) := by
      rw [ih, D.neg, D.sum, ← sumR_mul, ← sumR_add, ← sumR_add]
      congr 1
      refine sumR_congr _ fun i hi => ?_
      have hw : n + 1 = (i + 1) + (n - i) := by omega
      have hs : n + 1 - (i + 1) = n - i := by omega
      have ht : n + 1 - i = (n - i) + 1 := by omega
      rw [D.scal, hs, ht]
      have hd : d (n + 1) (M i * N (n - i)) = d (i + 1) (M i) * N (n - i) + M i * d (n - i) (N (n - i)) := by
        have := D.mul (i + 1) (n - i) (M i) (N (n - i))
        rw [← hw] at this
        exact this
      rw [hd, ms, ns (n - i)]
      grind
    rw [ns (n + 1), e1]
    have e2 := pascal (fun i => M i * N (n + 1 - i)) n (n + 1)
    have e3 : sumR (fun i => (bin n i : R) * (M i * N (n + 1 - i))) (n + 1 + 1) = sumR (fun i => (bin n i : R) * (M i * N (n + 1 - i))) (n + 1) := by
      show sumR (fun i => (bin n i : R) * (M i * N (n + 1 - i))) (n + 1) + (bin n (n + 1) : R) * (M (n + 1) * N (n + 1 - (n + 1))) = _
      rw [bin_big n (n + 1) (by omega)]; grind
    rw [e3] at e2
    rw [e2, ih]
    grind
end
end
end Cv
end
section
set_option linter.all false
set_option maxRecDepth 100000
set_option maxHeartbeats 40000000
namespace Cv
section
variable {R : Type} [Lean.Grind.CommRing R]
local instance castOf2 : NatCast R := Lean.Grind.Semiring.natCast
theorem lit (n : Nat) : (n : R) = OfNat.ofNat n := (Lean.Grind.Semiring.ofNat_eq_natCast n).symm

theorem bell3 [Lean.Grind.IsCharP R 3] (N M : Nat → R) (n0 : N 0 = 1) (h : ∀ n, N (n + 1) = -sumR (fun i => (bin n i : R) * (M i * N (n - i))) (n + 1)) : N 3 = -(M 2 + M 0 ^ 3) := by
  have e1 : N 1 = -(1 * (M 0 * N 0)) := by
    have e := h 0
    simp only [sumR] at e
    have b0 : ((bin 0 0 : Nat) : R) = 1 := lit 1
    rw [b0] at e
    simp only [Nat.sub_zero, Nat.sub_self, Nat.reduceSub] at e
    rw [e]
    grind
  have e2 : N 2 = -(1 * (M 0 * N 1) + 1 * (M 1 * N 0)) := by
    have e := h 1
    simp only [sumR] at e
    have b0 : ((bin 1 0 : Nat) : R) = 1 := lit 1
    have b1 : ((bin 1 1 : Nat) : R) = 1 := lit 1
    rw [b0, b1] at e
    simp only [Nat.sub_zero, Nat.sub_self, Nat.reduceSub] at e
    rw [e]
    grind
  have e3 : N 3 = -(1 * (M 0 * N 2) + 2 * (M 1 * N 1) + 1 * (M 2 * N 0)) := by
    have e := h 2
    simp only [sumR] at e
    have b0 : ((bin 2 0 : Nat) : R) = 1 := lit 1
    have b1 : ((bin 2 1 : Nat) : R) = 2 := lit 2
    have b2 : ((bin 2 2 : Nat) : R) = 1 := lit 1
    rw [b0, b1, b2] at e
    simp only [Nat.sub_zero, Nat.sub_self, Nat.reduceSub] at e
    rw [e]
    grind
  clear h
  generalize M 0 = m0 at *
  generalize M 1 = m1 at *
  generalize M 2 = m2 at *
  have q1 : N 1 = 2 * m0 := by
    rw [e1, n0]
    clear n0 e1 e2 e3
    grind
  have q2 : N 2 = m0 ^ 2 + 2 * m1 := by
    rw [e2, n0, q1]
    clear n0 e1 e2 e3 q1
    grind
  have q3 : N 3 = 2 * m0 ^ 3 + 2 * m2 := by
    rw [e3, n0, q1, q2]
    clear n0 e1 e2 e3 q1 q2
    grind
  rw [q3]
  clear n0 e1 e2 e3 q1 q2 q3
  grind
theorem bell5 [Lean.Grind.IsCharP R 5] (N M : Nat → R) (n0 : N 0 = 1) (h : ∀ n, N (n + 1) = -sumR (fun i => (bin n i : R) * (M i * N (n - i))) (n + 1)) : N 5 = -(M 4 + M 0 ^ 5) := by
  have e1 : N 1 = -(1 * (M 0 * N 0)) := by
    have e := h 0
    simp only [sumR] at e
    have b0 : ((bin 0 0 : Nat) : R) = 1 := lit 1
    rw [b0] at e
    simp only [Nat.sub_zero, Nat.sub_self, Nat.reduceSub] at e
    rw [e]
    grind
  have e2 : N 2 = -(1 * (M 0 * N 1) + 1 * (M 1 * N 0)) := by
    have e := h 1
    simp only [sumR] at e
    have b0 : ((bin 1 0 : Nat) : R) = 1 := lit 1
    have b1 : ((bin 1 1 : Nat) : R) = 1 := lit 1
    rw [b0, b1] at e
    simp only [Nat.sub_zero, Nat.sub_self, Nat.reduceSub] at e
    rw [e]
    grind
  have e3 : N 3 = -(1 * (M 0 * N 2) + 2 * (M 1 * N 1) + 1 * (M 2 * N 0)) := by
    have e := h 2
    simp only [sumR] at e
    have b0 : ((bin 2 0 : Nat) : R) = 1 := lit 1
    have b1 : ((bin 2 1 : Nat) : R) = 2 := lit 2
    have b2 : ((bin 2 2 : Nat) : R) = 1 := lit 1
    rw [b0, b1, b2] at e
    simp only [Nat.sub_zero, Nat.sub_self, Nat.reduceSub] at e
    rw [e]
    grind
  have e4 : N 4 = -(1 * (M 0 * N 3) + 3 * (M 1 * N 2) + 3 * (M 2 * N 1) + 1 * (M 3 * N 0)) := by
    have e := h 3
    simp only [sumR] at e
    have b0 : ((bin 3 0 : Nat) : R) = 1 := lit 1
    have b1 : ((bin 3 1 : Nat) : R) = 3 := lit 3
    have b2 : ((bin 3 2 : Nat) : R) = 3 := lit 3
    have b3 : ((bin 3 3 : Nat) : R) = 1 := lit 1
    rw [b0, b1, b2, b3] at e
    simp only [Nat.sub_zero, Nat.sub_self, Nat.reduceSub] at e
    rw [e]
    grind
  have e5 : N 5 = -(1 * (M 0 * N 4) + 4 * (M 1 * N 3) + 6 * (M 2 * N 2) + 4 * (M 3 * N 1) + 1 * (M 4 * N 0)) := by
    have e := h 4
    simp only [sumR] at e
    have b0 : ((bin 4 0 : Nat) : R) = 1 := lit 1
    have b1 : ((bin 4 1 : Nat) : R) = 4 := lit 4
    have b2 : ((bin 4 2 : Nat) : R) = 6 := lit 6
    have b3 : ((bin 4 3 : Nat) : R) = 4 := lit 4
    have b4 : ((bin 4 4 : Nat) : R) = 1 := lit 1
    rw [b0, b1, b2, b3, b4] at e
    simp only [Nat.sub_zero, Nat.sub_self, Nat.reduceSub] at e
    rw [e]
    grind
  clear h
  generalize M 0 = m0 at *
  generalize M 1 = m1 at *
  generalize M 2 = m2 at *
  generalize M 3 = m3 at *
  generalize M 4 = m4 at *
  have q1 : N 1 = 4 * m0 := by
    rw [e1, n0]
    clear n0 e1 e2 e3 e4 e5
    grind
  have q2 : N 2 = m0 ^ 2 + 4 * m1 := by
    rw [e2, n0, q1]
    clear n0 e1 e2 e3 e4 e5 q1
    grind
  have q3 : N 3 = 3 * m0 * m1 + 4 * m0 ^ 3 + 4 * m2 := by
    rw [e3, n0, q1, q2]
    clear n0 e1 e2 e3 e4 e5 q1 q2
    grind
  have q4 : N 4 = 4 * m0 * m2 + 4 * m0 ^ 2 * m1 + m0 ^ 4 + 3 * m1 ^ 2 + 4 * m3 := by
    rw [e4, n0, q1, q2, q3]
    clear n0 e1 e2 e3 e4 e5 q1 q2 q3
    grind
  have q5 : N 5 = 4 * m0 ^ 5 + 4 * m4 := by
    rw [e5, n0, q1, q2, q3, q4]
    clear n0 e1 e2 e3 e4 e5 q1 q2 q3 q4
    grind
  rw [q5]
  clear n0 e1 e2 e3 e4 e5 q1 q2 q3 q4 q5
  grind
theorem bell7 [Lean.Grind.IsCharP R 7] (N M : Nat → R) (n0 : N 0 = 1) (h : ∀ n, N (n + 1) = -sumR (fun i => (bin n i : R) * (M i * N (n - i))) (n + 1)) : N 7 = -(M 6 + M 0 ^ 7) := by
  have e1 : N 1 = -(1 * (M 0 * N 0)) := by
    have e := h 0
    simp only [sumR] at e
    have b0 : ((bin 0 0 : Nat) : R) = 1 := lit 1
    rw [b0] at e
    simp only [Nat.sub_zero, Nat.sub_self, Nat.reduceSub] at e
    rw [e]
    grind
  have e2 : N 2 = -(1 * (M 0 * N 1) + 1 * (M 1 * N 0)) := by
    have e := h 1
    simp only [sumR] at e
    have b0 : ((bin 1 0 : Nat) : R) = 1 := lit 1
    have b1 : ((bin 1 1 : Nat) : R) = 1 := lit 1
    rw [b0, b1] at e
    simp only [Nat.sub_zero, Nat.sub_self, Nat.reduceSub] at e
    rw [e]
    grind
  have e3 : N 3 = -(1 * (M 0 * N 2) + 2 * (M 1 * N 1) + 1 * (M 2 * N 0)) := by
    have e := h 2
    simp only [sumR] at e
    have b0 : ((bin 2 0 : Nat) : R) = 1 := lit 1
    have b1 : ((bin 2 1 : Nat) : R) = 2 := lit 2
    have b2 : ((bin 2 2 : Nat) : R) = 1 := lit 1
    rw [b0, b1, b2] at e
    simp only [Nat.sub_zero, Nat.sub_self, Nat.reduceSub] at e
    rw [e]
    grind
  have e4 : N 4 = -(1 * (M 0 * N 3) + 3 * (M 1 * N 2) + 3 * (M 2 * N 1) + 1 * (M 3 * N 0)) := by
    have e := h 3
    simp only [sumR] at e
    have b0 : ((bin 3 0 : Nat) : R) = 1 := lit 1
    have b1 : ((bin 3 1 : Nat) : R) = 3 := lit 3
    have b2 : ((bin 3 2 : Nat) : R) = 3 := lit 3
    have b3 : ((bin 3 3 : Nat) : R) = 1 := lit 1
    rw [b0, b1, b2, b3] at e
    simp only [Nat.sub_zero, Nat.sub_self, Nat.reduceSub] at e
    rw [e]
    grind
  have e5 : N 5 = -(1 * (M 0 * N 4) + 4 * (M 1 * N 3) + 6 * (M 2 * N 2) + 4 * (M 3 * N 1) + 1 * (M 4 * N 0)) := by
    have e := h 4
    simp only [sumR] at e
    have b0 : ((bin 4 0 : Nat) : R) = 1 := lit 1
    have b1 : ((bin 4 1 : Nat) : R) = 4 := lit 4
    have b2 : ((bin 4 2 : Nat) : R) = 6 := lit 6
    have b3 : ((bin 4 3 : Nat) : R) = 4 := lit 4
    have b4 : ((bin 4 4 : Nat) : R) = 1 := lit 1
    rw [b0, b1, b2, b3, b4] at e
    simp only [Nat.sub_zero, Nat.sub_self, Nat.reduceSub] at e
    rw [e]
    grind
  have e6 : N 6 = -(1 * (M 0 * N 5) + 5 * (M 1 * N 4) + 10 * (M 2 * N 3) + 10 * (M 3 * N 2) + 5 * (M 4 * N 1) + 1 * (M 5 * N 0)) := by
    have e := h 5
    simp only [sumR] at e
    have b0 : ((bin 5 0 : Nat) : R) = 1 := lit 1
    have b1 : ((bin 5 1 : Nat) : R) = 5 := lit 5
    have b2 : ((bin 5 2 : Nat) : R) = 10 := lit 10
    have b3 : ((bin 5 3 : Nat) : R) = 10 := lit 10
    have b4 : ((bin 5 4 : Nat) : R) = 5 := lit 5
    have b5 : ((bin 5 5 : Nat) : R) = 1 := lit 1
    rw [b0, b1, b2, b3, b4, b5] at e
    simp only [Nat.sub_zero, Nat.sub_self, Nat.reduceSub] at e
    rw [e]
    grind
  have e7 : N 7 = -(1 * (M 0 * N 6) + 6 * (M 1 * N 5) + 15 * (M 2 * N 4) + 20 * (M 3 * N 3) + 15 * (M 4 * N 2) + 6 * (M 5 * N 1) + 1 * (M 6 * N 0)) := by
    have e := h 6
    simp only [sumR] at e
    have b0 : ((bin 6 0 : Nat) : R) = 1 := lit 1
    have b1 : ((bin 6 1 : Nat) : R) = 6 := lit 6
    have b2 : ((bin 6 2 : Nat) : R) = 15 := lit 15
    have b3 : ((bin 6 3 : Nat) : R) = 20 := lit 20
    have b4 : ((bin 6 4 : Nat) : R) = 15 := lit 15
    have b5 : ((bin 6 5 : Nat) : R) = 6 := lit 6
    have b6 : ((bin 6 6 : Nat) : R) = 1 := lit 1
    rw [b0, b1, b2, b3, b4, b5, b6] at e
    simp only [Nat.sub_zero, Nat.sub_self, Nat.reduceSub] at e
    rw [e]
    grind
  clear h
  generalize M 0 = m0 at *
  generalize M 1 = m1 at *
  generalize M 2 = m2 at *
  generalize M 3 = m3 at *
  generalize M 4 = m4 at *
  generalize M 5 = m5 at *
  generalize M 6 = m6 at *
  have q1 : N 1 = 6 * m0 := by
    rw [e1, n0]
    clear n0 e1 e2 e3 e4 e5 e6 e7
    grind
  have q2 : N 2 = m0 ^ 2 + 6 * m1 := by
    rw [e2, n0, q1]
    clear n0 e1 e2 e3 e4 e5 e6 e7 q1
    grind
  have q3 : N 3 = 3 * m0 * m1 + 6 * m0 ^ 3 + 6 * m2 := by
    rw [e3, n0, q1, q2]
    clear n0 e1 e2 e3 e4 e5 e6 e7 q1 q2
    grind
  have q4 : N 4 = 4 * m0 * m2 + m0 ^ 2 * m1 + m0 ^ 4 + 3 * m1 ^ 2 + 6 * m3 := by
    rw [e4, n0, q1, q2, q3]
    clear n0 e1 e2 e3 e4 e5 e6 e7 q1 q2 q3
    grind
  have q5 : N 5 = 6 * m0 * m1 ^ 2 + 5 * m0 * m3 + 4 * m0 ^ 2 * m2 + 3 * m0 ^ 3 * m1 + 6 * m0 ^ 5 + 3 * m1 * m2 + 6 * m4 := by
    rw [e5, n0, q1, q2, q3, q4]
    clear n0 e1 e2 e3 e4 e5 e6 e7 q1 q2 q3 q4
    grind
  have q6 : N 6 = 3 * m0 * m1 * m2 + 6 * m0 * m4 + 3 * m0 ^ 2 * m1 ^ 2 + 6 * m0 ^ 2 * m3 + 6 * m0 ^ 3 * m2 + 6 * m0 ^ 4 * m1 + m0 ^ 6 + m1 * m3 + 6 * m1 ^ 3 + 3 * m2 ^ 2 + 6 * m5 := by
    rw [e6, n0, q1, q2, q3, q4, q5]
    clear n0 e1 e2 e3 e4 e5 e6 e7 q1 q2 q3 q4 q5
    grind
  have q7 : N 7 = 6 * m0 ^ 7 + 6 * m6 := by
    rw [e7, n0, q1, q2, q3, q4, q5, q6]
    clear n0 e1 e2 e3 e4 e5 e6 e7 q1 q2 q3 q4 q5 q6
    grind
  rw [q7]
  clear n0 e1 e2 e3 e4 e5 e6 e7 q1 q2 q3 q4 q5 q6 q7
  grind
theorem bell11 [Lean.Grind.IsCharP R 11] (N M : Nat → R) (n0 : N 0 = 1) (h : ∀ n, N (n + 1) = -sumR (fun i => (bin n i : R) * (M i * N (n - i))) (n + 1)) : N 11 = -(M 10 + M 0 ^ 11) := by
  have e1 : N 1 = -(1 * (M 0 * N 0)) := by
    have e := h 0
    simp only [sumR] at e
    have b0 : ((bin 0 0 : Nat) : R) = 1 := lit 1
    rw [b0] at e
    simp only [Nat.sub_zero, Nat.sub_self, Nat.reduceSub] at e
    rw [e]
    grind
  have e2 : N 2 = -(1 * (M 0 * N 1) + 1 * (M 1 * N 0)) := by
    have e := h 1
    simp only [sumR] at e
    have b0 : ((bin 1 0 : Nat) : R) = 1 := lit 1
    have b1 : ((bin 1 1 : Nat) : R) = 1 := lit 1
    rw [b0, b1] at e
    simp only [Nat.sub_zero, Nat.sub_self, Nat.reduceSub] at e
    rw [e]
    grind
  have e3 : N 3 = -(1 * (M 0 * N 2) + 2 * (M 1 * N 1) + 1 * (M 2 * N 0)) := by
    have e := h 2
    simp only [sumR] at e
    have b0 : ((bin 2 0 : Nat) : R) = 1 := lit 1
    have b1 : ((bin 2 1 : Nat) : R) = 2 := lit 2
    have b2 : ((bin 2 2 : Nat) : R) = 1 := lit 1
    rw [b0, b1, b2] at e
    simp only [Nat.sub_zero, Nat.sub_self, Nat.reduceSub] at e
    rw [e]
    grind
  have e4 : N 4 = -(1 * (M 0 * N 3) + 3 * (M 1 * N 2) + 3 * (M 2 * N 1) + 1 * (M 3 * N 0)) := by
    have e := h 3
    simp only [sumR] at e
    have b0 : ((bin 3 0 : Nat) : R) = 1 := lit 1
    have b1 : ((bin 3 1 : Nat) : R) = 3 := lit 3
    have b2 : ((bin 3 2 : Nat) : R) = 3 := lit 3
    have b3 : ((bin 3 3 : Nat) : R) = 1 := lit 1
    rw [b0, b1, b2, b3] at e
    simp only [Nat.sub_zero, Nat.sub_self, Nat.reduceSub] at e
    rw [e]
    grind
  have e5 : N 5 = -(1 * (M 0 * N 4) + 4 * (M 1 * N 3) + 6 * (M 2 * N 2) + 4 * (M 3 * N 1) + 1 * (M 4 * N 0)) := by
    have e := h 4
    simp only [sumR] at e
    have b0 : ((bin 4 0 : Nat) : R) = 1 := lit 1
    have b1 : ((bin 4 1 : Nat) : R) = 4 := lit 4
    have b2 : ((bin 4 2 : Nat) : R) = 6 := lit 6
    have b3 : ((bin 4 3 : Nat) : R) = 4 := lit 4
    have b4 : ((bin 4 4 : Nat) : R) = 1 := lit 1
    rw [b0, b1, b2, b3, b4] at e
    simp only [Nat.sub_zero, Nat.sub_self, Nat.reduceSub] at e
    rw [e]
    grind
  have e6 : N 6 = -(1 * (M 0 * N 5) + 5 * (M 1 * N 4) + 10 * (M 2 * N 3) + 10 * (M 3 * N 2) + 5 * (M 4 * N 1) + 1 * (M 5 * N 0)) := by
    have e := h 5
    simp only [sumR] at e
    have b0 : ((bin 5 0 : Nat) : R) = 1 := lit 1
    have b1 : ((bin 5 1 : Nat) : R) = 5 := lit 5
    have b2 : ((bin 5 2 : Nat) : R) = 10 := lit 10
    have b3 : ((bin 5 3 : Nat) : R) = 10 := lit 10
    have b4 : ((bin 5 4 : Nat) : R) = 5 := lit 5
    have b5 : ((bin 5 5 : Nat) : R) = 1 := lit 1
    rw [b0, b1, b2, b3, b4, b5] at e
    simp only [Nat.sub_zero, Nat.sub_self, Nat.reduceSub] at e
    rw [e]
    grind
  have e7 : N 7 = -(1 * (M 0 * N 6) + 6 * (M 1 * N 5) + 15 * (M 2 * N 4) + 20 * (M 3 * N 3) + 15 * (M 4 * N 2) + 6 * (M 5 * N 1) + 1 * (M 6 * N 0)) := by
    have e := h 6
    simp only [sumR] at e
    have b0 : ((bin 6 0 : Nat) : R) = 1 := lit 1
    have b1 : ((bin 6 1 : Nat) : R) = 6 := lit 6
    have b2 : ((bin 6 2 : Nat) : R) = 15 := lit 15
    have b3 : ((bin 6 3 : Nat) : R) = 20 := lit 20
    have b4 : ((bin 6 4 : Nat) : R) = 15 := lit 15
    have b5 : ((bin 6 5 : Nat) : R) = 6 := lit 6
    have b6 : ((bin 6 6 : Nat) : R) = 1 := lit 1
    rw [b0, b1, b2, b3, b4, b5, b6] at e
    simp only [Nat.sub_zero, Nat.sub_self, Nat.reduceSub] at e
    rw [e]
    grind
  have e8 : N 8 = -(1 * (M 0 * N 7) + 7 * (M 1 * N 6) + 21 * (M 2 * N 5) + 35 * (M 3 * N 4) + 35 * (M 4 * N 3) + 21 * (M 5 * N 2) + 7 * (M 6 * N 1) + 1 * (M 7 * N 0)) := by
    have e := h 7
    simp only [sumR] at e
    have b0 : ((bin 7 0 : Nat) : R) = 1 := lit 1
    have b1 : ((bin 7 1 : Nat) : R) = 7 := lit 7
    have b2 : ((bin 7 2 : Nat) : R) = 21 := lit 21
    have b3 : ((bin 7 3 : Nat) : R) = 35 := lit 35
    have b4 : ((bin 7 4 : Nat) : R) = 35 := lit 35
    have b5 : ((bin 7 5 : Nat) : R) = 21 := lit 21
    have b6 : ((bin 7 6 : Nat) : R) = 7 := lit 7
    have b7 : ((bin 7 7 : Nat) : R) = 1 := lit 1
    rw [b0, b1, b2, b3, b4, b5, b6, b7] at e
    simp only [Nat.sub_zero, Nat.sub_self, Nat.reduceSub] at e
    rw [e]
    grind
  have e9 : N 9 = -(1 * (M 0 * N 8) + 8 * (M 1 * N 7) + 28 * (M 2 * N 6) + 56 * (M 3 * N 5) + 70 * (M 4 * N 4) + 56 * (M 5 * N 3) + 28 * (M 6 * N 2) + 8 * (M 7 * N 1) + 1 * (M 8 * N 0)) := by
    have e := h 8
    simp only [sumR] at e
    have b0 : ((bin 8 0 : Nat) : R) = 1 := lit 1
    have b1 : ((bin 8 1 : Nat) : R) = 8 := lit 8
    have b2 : ((bin 8 2 : Nat) : R) = 28 := lit 28
    have b3 : ((bin 8 3 : Nat) : R) = 56 := lit 56
    have b4 : ((bin 8 4 : Nat) : R) = 70 := lit 70
    have b5 : ((bin 8 5 : Nat) : R) = 56 := lit 56
    have b6 : ((bin 8 6 : Nat) : R) = 28 := lit 28
    have b7 : ((bin 8 7 : Nat) : R) = 8 := lit 8
    have b8 : ((bin 8 8 : Nat) : R) = 1 := lit 1
    rw [b0, b1, b2, b3, b4, b5, b6, b7, b8] at e
    simp only [Nat.sub_zero, Nat.sub_self, Nat.reduceSub] at e
    rw [e]
    grind
  have e10 : N 10 = -(1 * (M 0 * N 9) + 9 * (M 1 * N 8) + 36 * (M 2 * N 7) + 84 * (M 3 * N 6) + 126 * (M 4 * N 5) + 126 * (M 5 * N 4) + 84 * (M 6 * N 3) + 36 * (M 7 * N 2) + 9 * (M 8 * N 1) + 1 * (M 9 * N 0)) := by
    have e := h 9
    simp only [sumR] at e
    have b0 : ((bin 9 0 : Nat) : R) = 1 := lit 1
    have b1 : ((bin 9 1 : Nat) : R) = 9 := lit 9
    have b2 : ((bin 9 2 : Nat) : R) = 36 := lit 36
    have b3 : ((bin 9 3 : Nat) : R) = 84 := lit 84
    have b4 : ((bin 9 4 : Nat) : R) = 126 := lit 126
    have b5 : ((bin 9 5 : Nat) : R) = 126 := lit 126
    have b6 : ((bin 9 6 : Nat) : R) = 84 := lit 84
    have b7 : ((bin 9 7 : Nat) : R) = 36 := lit 36
    have b8 : ((bin 9 8 : Nat) : R) = 9 := lit 9
    have b9 : ((bin 9 9 : Nat) : R) = 1 := lit 1
    rw [b0, b1, b2, b3, b4, b5, b6, b7, b8, b9] at e
    simp only [Nat.sub_zero, Nat.sub_self, Nat.reduceSub] at e
    rw [e]
    grind
  have e11 : N 11 = -(1 * (M 0 * N 10) + 10 * (M 1 * N 9) + 45 * (M 2 * N 8) + 120 * (M 3 * N 7) + 210 * (M 4 * N 6) + 252 * (M 5 * N 5) + 210 * (M 6 * N 4) + 120 * (M 7 * N 3) + 45 * (M 8 * N 2) + 10 * (M 9 * N 1) + 1 * (M 10 * N 0)) := by
    have e := h 10
    simp only [sumR] at e
    have b0 : ((bin 10 0 : Nat) : R) = 1 := lit 1
    have b1 : ((bin 10 1 : Nat) : R) = 10 := lit 10
    have b2 : ((bin 10 2 : Nat) : R) = 45 := lit 45
    have b3 : ((bin 10 3 : Nat) : R) = 120 := lit 120
    have b4 : ((bin 10 4 : Nat) : R) = 210 := lit 210
    have b5 : ((bin 10 5 : Nat) : R) = 252 := lit 252
    have b6 : ((bin 10 6 : Nat) : R) = 210 := lit 210
    have b7 : ((bin 10 7 : Nat) : R) = 120 := lit 120
    have b8 : ((bin 10 8 : Nat) : R) = 45 := lit 45
    have b9 : ((bin 10 9 : Nat) : R) = 10 := lit 10
    have b10 : ((bin 10 10 : Nat) : R) = 1 := lit 1
    rw [b0, b1, b2, b3, b4, b5, b6, b7, b8, b9, b10] at e
    simp only [Nat.sub_zero, Nat.sub_self, Nat.reduceSub] at e
    rw [e]
    grind
  clear h
  generalize M 0 = m0 at *
  generalize M 1 = m1 at *
  generalize M 2 = m2 at *
  generalize M 3 = m3 at *
  generalize M 4 = m4 at *
  generalize M 5 = m5 at *
  generalize M 6 = m6 at *
  generalize M 7 = m7 at *
  generalize M 8 = m8 at *
  generalize M 9 = m9 at *
  generalize M 10 = m10 at *
  have q1 : N 1 = 10 * m0 := by
    rw [e1, n0]
    clear n0 e1 e2 e3 e4 e5 e6 e7 e8 e9 e10 e11
    grind
  have q2 : N 2 = m0 ^ 2 + 10 * m1 := by
    rw [e2, n0, q1]
    clear n0 e1 e2 e3 e4 e5 e6 e7 e8 e9 e10 e11 q1
    grind
  have q3 : N 3 = 3 * m0 * m1 + 10 * m0 ^ 3 + 10 * m2 := by
    rw [e3, n0, q1, q2]
    clear n0 e1 e2 e3 e4 e5 e6 e7 e8 e9 e10 e11 q1 q2
    grind
  have q4 : N 4 = 4 * m0 * m2 + 5 * m0 ^ 2 * m1 + m0 ^ 4 + 3 * m1 ^ 2 + 10 * m3 := by
    rw [e4, n0, q1, q2, q3]
    clear n0 e1 e2 e3 e4 e5 e6 e7 e8 e9 e10 e11 q1 q2 q3
    grind
  have q5 : N 5 = 7 * m0 * m1 ^ 2 + 5 * m0 * m3 + m0 ^ 2 * m2 + 10 * m0 ^ 3 * m1 + 10 * m0 ^ 5 + 10 * m1 * m2 + 10 * m4 := by
    rw [e5, n0, q1, q2, q3, q4]
    clear n0 e1 e2 e3 e4 e5 e6 e7 e8 e9 e10 e11 q1 q2 q3 q4
    grind
  have q6 : N 6 = 6 * m0 * m1 * m2 + 6 * m0 * m4 + m0 ^ 2 * m1 ^ 2 + 7 * m0 ^ 2 * m3 + 9 * m0 ^ 3 * m2 + 7 * m0 ^ 4 * m1 + m0 ^ 6 + 4 * m1 * m3 + 7 * m1 ^ 3 + 10 * m2 ^ 2 + 10 * m5 := by
    rw [e6, n0, q1, q2, q3, q4, q5]
    clear n0 e1 e2 e3 e4 e5 e6 e7 e8 e9 e10 e11 q1 q2 q3 q4 q5
    grind
  have q7 : N 7 = 5 * m0 * m1 * m3 + 6 * m0 * m1 ^ 3 + 7 * m0 * m2 ^ 2 + 7 * m0 * m5 + m0 ^ 2 * m1 * m2 + m0 ^ 2 * m4 + 5 * m0 ^ 3 * m1 ^ 2 + 2 * m0 ^ 3 * m3 + 9 * m0 ^ 4 * m2 + 10 * m0 ^ 5 * m1 + 10 * m0 ^ 7 + 10 * m1 * m4 + 5 * m1 ^ 2 * m2 + 2 * m2 * m3 + 10 * m6 := by
    rw [e7, n0, q1, q2, q3, q4, q5, q6]
    clear n0 e1 e2 e3 e4 e5 e6 e7 e8 e9 e10 e11 q1 q2 q3 q4 q5 q6
    grind
  have q8 : N 8 = 8 * m0 * m1 * m4 + 4 * m0 * m1 ^ 2 * m2 + 6 * m0 * m2 * m3 + 8 * m0 * m6 + 2 * m0 ^ 2 * m1 * m3 + 9 * m0 ^ 2 * m1 ^ 3 + 5 * m0 ^ 2 * m2 ^ 2 + 5 * m0 ^ 2 * m5 + m0 ^ 3 * m1 * m2 + m0 ^ 3 * m4 + m0 ^ 4 * m1 ^ 2 + 7 * m0 ^ 4 * m3 + m0 ^ 5 * m2 + 5 * m0 ^ 6 * m1 + m0 ^ 8 + 6 * m1 * m2 ^ 2 + 6 * m1 * m5 + 10 * m1 ^ 2 * m3 + 6 * m1 ^ 4 + m2 * m4 + 2 * m3 ^ 2 + 10 * m7 := by
    rw [e8, n0, q1, q2, q3, q4, q5, q6, q7]
    clear n0 e1 e2 e3 e4 e5 e6 e7 e8 e9 e10 e11 q1 q2 q3 q4 q5 q6 q7
    grind
  have q9 : N 9 = m0 * m1 * m2 ^ 2 + m0 * m1 * m5 + 9 * m0 * m1 ^ 2 * m3 + m0 * m1 ^ 4 + 2 * m0 * m2 * m4 + 4 * m0 * m3 ^ 2 + 9 * m0 * m7 + 8 * m0 ^ 2 * m1 * m4 + 4 * m0 ^ 2 * m1 ^ 2 * m2 + 6 * m0 ^ 2 * m2 * m3 + 8 * m0 ^ 2 * m6 + 5 * m0 ^ 3 * m1 * m3 + 6 * m0 ^ 3 * m1 ^ 3 + 7 * m0 ^ 3 * m2 ^ 2 + 7 * m0 ^ 3 * m5 + 6 * m0 ^ 4 * m1 * m2 + 6 * m0 ^ 4 * m4 + 7 * m0 ^ 5 * m1 ^ 2 + 5 * m0 ^ 5 * m3 + 4 * m0 ^ 6 * m2 + 3 * m0 ^ 7 * m1 + 10 * m0 ^ 9 + 5 * m1 * m2 * m3 + 3 * m1 * m6 + 7 * m1 ^ 2 * m4 + 6 * m1 ^ 3 * m2 + 7 * m2 * m5 + 6 * m2 ^ 3 + 5 * m3 * m4 + 10 * m8 := by
    rw [e9, n0, q1, q2, q3, q4, q5, q6, q7, q8]
    clear n0 e1 e2 e3 e4 e5 e6 e7 e8 e9 e10 e11 q1 q2 q3 q4 q5 q6 q7 q8
    grind
  have q10 : N 10 = 5 * m0 * m1 * m2 * m3 + 3 * m0 * m1 * m6 + 7 * m0 * m1 ^ 2 * m4 + 6 * m0 * m1 ^ 3 * m2 + 7 * m0 * m2 * m5 + 6 * m0 * m2 ^ 3 + 5 * m0 * m3 * m4 + 10 * m0 * m8 + 6 * m0 ^ 2 * m1 * m2 ^ 2 + 6 * m0 ^ 2 * m1 * m5 + 10 * m0 ^ 2 * m1 ^ 2 * m3 + 6 * m0 ^ 2 * m1 ^ 4 + m0 ^ 2 * m2 * m4 + 2 * m0 ^ 2 * m3 ^ 2 + 10 * m0 ^ 2 * m7 + 10 * m0 ^ 3 * m1 * m4 + 5 * m0 ^ 3 * m1 ^ 2 * m2 + 2 * m0 ^ 3 * m2 * m3 + 10 * m0 ^ 3 * m6 + 4 * m0 ^ 4 * m1 * m3 + 7 * m0 ^ 4 * m1 ^ 3 + 10 * m0 ^ 4 * m2 ^ 2 + 10 * m0 ^ 4 * m5 + 10 * m0 ^ 5 * m1 * m2 + 10 * m0 ^ 5 * m4 + 3 * m0 ^ 6 * m1 ^ 2 + 10 * m0 ^ 6 * m3 + 10 * m0 ^ 7 * m2 + 10 * m0 ^ 8 * m1 + m0 ^ 10 + 10 * m1 * m2 * m4 + 9 * m1 * m3 ^ 2 + m1 * m7 + 8 * m1 ^ 2 * m2 ^ 2 + 8 * m1 ^ 2 * m5 + 4 * m1 ^ 3 * m3 + m1 ^ 5 + 10 * m2 * m6 + m2 ^ 2 * m3 + m3 * m5 + 5 * m4 ^ 2 + 10 * m9 := by
    rw [e10, n0, q1, q2, q3, q4, q5, q6, q7, q8, q9]
    clear n0 e1 e2 e3 e4 e5 e6 e7 e8 e9 e10 e11 q1 q2 q3 q4 q5 q6 q7 q8 q9
    grind
  have q11 : N 11 = 10 * m0 ^ 11 + 10 * m10 := by
    rw [e11, n0, q1, q2, q3, q4, q5, q6, q7, q8, q9, q10]
    clear n0 e1 e2 e3 e4 e5 e6 e7 e8 e9 e10 e11 q1 q2 q3 q4 q5 q6 q7 q8 q9 q10
    grind
  rw [q11]
  clear n0 e1 e2 e3 e4 e5 e6 e7 e8 e9 e10 e11 q1 q2 q3 q4 q5 q6 q7 q8 q9 q10 q11
  grind
theorem bell13 [Lean.Grind.IsCharP R 13] (N M : Nat → R) (n0 : N 0 = 1) (h : ∀ n, N (n + 1) = -sumR (fun i => (bin n i : R) * (M i * N (n - i))) (n + 1)) : N 13 = -(M 12 + M 0 ^ 13) := by
  have e1 : N 1 = -(1 * (M 0 * N 0)) := by
    have e := h 0
    simp only [sumR] at e
    have b0 : ((bin 0 0 : Nat) : R) = 1 := lit 1
    rw [b0] at e
    simp only [Nat.sub_zero, Nat.sub_self, Nat.reduceSub] at e
    rw [e]
    grind
  have e2 : N 2 = -(1 * (M 0 * N 1) + 1 * (M 1 * N 0)) := by
    have e := h 1
    simp only [sumR] at e
    have b0 : ((bin 1 0 : Nat) : R) = 1 := lit 1
    have b1 : ((bin 1 1 : Nat) : R) = 1 := lit 1
    rw [b0, b1] at e
    simp only [Nat.sub_zero, Nat.sub_self, Nat.reduceSub] at e
    rw [e]
    grind
  have e3 : N 3 = -(1 * (M 0 * N 2) + 2 * (M 1 * N 1) + 1 * (M 2 * N 0)) := by
    have e := h 2
    simp only [sumR] at e
    have b0 : ((bin 2 0 : Nat) : R) = 1 := lit 1
    have b1 : ((bin 2 1 : Nat) : R) = 2 := lit 2
    have b2 : ((bin 2 2 : Nat) : R) = 1 := lit 1
    rw [b0, b1, b2] at e
    simp only [Nat.sub_zero, Nat.sub_self, Nat.reduceSub] at e
    rw [e]
    grind
  have e4 : N 4 = -(1 * (M 0 * N 3) + 3 * (M 1 * N 2) + 3 * (M 2 * N 1) + 1 * (M 3 * N 0)) := by
    have e := h 3
    simp only [sumR] at e
    have b0 : ((bin 3 0 : Nat) : R) = 1 := lit 1
    have b1 : ((bin 3 1 : Nat) : R) = 3 := lit 3
    have b2 : ((bin 3 2 : Nat) : R) = 3 := lit 3
    have b3 : ((bin 3 3 : Nat) : R) = 1 := lit 1
    rw [b0, b1, b2, b3] at e
    simp only [Nat.sub_zero, Nat.sub_self, Nat.reduceSub] at e
    rw [e]
    grind
  have e5 : N 5 = -(1 * (M 0 * N 4) + 4 * (M 1 * N 3) + 6 * (M 2 * N 2) + 4 * (M 3 * N 1) + 1 * (M 4 * N 0)) := by
    have e := h 4
    simp only [sumR] at e
    have b0 : ((bin 4 0 : Nat) : R) = 1 := lit 1
    have b1 : ((bin 4 1 : Nat) : R) = 4 := lit 4
    have b2 : ((bin 4 2 : Nat) : R) = 6 := lit 6
    have b3 : ((bin 4 3 : Nat) : R) = 4 := lit 4
    have b4 : ((bin 4 4 : Nat) : R) = 1 := lit 1
    rw [b0, b1, b2, b3, b4] at e
    simp only [Nat.sub_zero, Nat.sub_self, Nat.reduceSub] at e
    rw [e]
    grind
  have e6 : N 6 = -(1 * (M 0 * N 5) + 5 * (M 1 * N 4) + 10 * (M 2 * N 3) + 10 * (M 3 * N 2) + 5 * (M 4 * N 1) + 1 * (M 5 * N 0)) := by
    have e := h 5
    simp only [sumR] at e
    have b0 : ((bin 5 0 : Nat) : R) = 1 := lit 1
    have b1 : ((bin 5 1 : Nat) : R) = 5 := lit 5
    have b2 : ((bin 5 2 : Nat) : R) = 10 := lit 10
    have b3 : ((bin 5 3 : Nat) : R) = 10 := lit 10
    have b4 : ((bin 5 4 : Nat) : R) = 5 := lit 5
    have b5 : ((bin 5 5 : Nat) : R) = 1 := lit 1
    rw [b0, b1, b2, b3, b4, b5] at e
    simp only [Nat.sub_zero, Nat.sub_self, Nat.reduceSub] at e
    rw [e]
    grind
  have e7 : N 7 = -(1 * (M 0 * N 6) + 6 * (M 1 * N 5) + 15 * (M 2 * N 4) + 20 * (M 3 * N 3) + 15 * (M 4 * N 2) + 6 * (M 5 * N 1) + 1 * (M 6 * N 0)) := by
    have e := h 6
    simp only [sumR] at e
    have b0 : ((bin 6 0 : Nat) : R) = 1 := lit 1
    have b1 : ((bin 6 1 : Nat) : R) = 6 := lit 6
    have b2 : ((bin 6 2 : Nat) : R) = 15 := lit 15
    have b3 : ((bin 6 3 : Nat) : R) = 20 := lit 20
    have b4 : ((bin 6 4 : Nat) : R) = 15 := lit 15
    have b5 : ((bin 6 5 : Nat) : R) = 6 := lit 6
    have b6 : ((bin 6 6 : Nat) : R) = 1 := lit 1
    rw [b0, b1, b2, b3, b4, b5, b6] at e
    simp only [Nat.sub_zero, Nat.sub_self, Nat.reduceSub] at e
    rw [e]
    grind
  have e8 : N 8 = -(1 * (M 0 * N 7) + 7 * (M 1 * N 6) + 21 * (M 2 * N 5) + 35 * (M 3 * N 4) + 35 * (M 4 * N 3) + 21 * (M 5 * N 2) + 7 * (M 6 * N 1) + 1 * (M 7 * N 0)) := by
    have e := h 7
    simp only [sumR] at e
    have b0 : ((bin 7 0 : Nat) : R) = 1 := lit 1
    have b1 : ((bin 7 1 : Nat) : R) = 7 := lit 7
    have b2 : ((bin 7 2 : Nat) : R) = 21 := lit 21
    have b3 : ((bin 7 3 : Nat) : R) = 35 := lit 35
    have b4 : ((bin 7 4 : Nat) : R) = 35 := lit 35
    have b5 : ((bin 7 5 : Nat) : R) = 21 := lit 21
    have b6 : ((bin 7 6 : Nat) : R) = 7 := lit 7
    have b7 : ((bin 7 7 : Nat) : R) = 1 := lit 1
    rw [b0, b1, b2, b3, b4, b5, b6, b7] at e
    simp only [Nat.sub_zero, Nat.sub_self, Nat.reduceSub] at e
    rw [e]
    grind
  have e9 : N 9 = -(1 * (M 0 * N 8) + 8 * (M 1 * N 7) + 28 * (M 2 * N 6) + 56 * (M 3 * N 5) + 70 * (M 4 * N 4) + 56 * (M 5 * N 3) + 28 * (M 6 * N 2) + 8 * (M 7 * N 1) + 1 * (M 8 * N 0)) := by
    have e := h 8
    simp only [sumR] at e
    have b0 : ((bin 8 0 : Nat) : R) = 1 := lit 1
    have b1 : ((bin 8 1 : Nat) : R) = 8 := lit 8
    have b2 : ((bin 8 2 : Nat) : R) = 28 := lit 28
    have b3 : ((bin 8 3 : Nat) : R) = 56 := lit 56
    have b4 : ((bin 8 4 : Nat) : R) = 70 := lit 70
    have b5 : ((bin 8 5 : Nat) : R) = 56 := lit 56
    have b6 : ((bin 8 6 : Nat) : R) = 28 := lit 28
    have b7 : ((bin 8 7 : Nat) : R) = 8 := lit 8
    have b8 : ((bin 8 8 : Nat) : R) = 1 := lit 1
    rw [b0, b1, b2, b3, b4, b5, b6, b7, b8] at e
    simp only [Nat.sub_zero, Nat.sub_self, Nat.reduceSub] at e
    rw [e]
    grind
  have e10 : N 10 = -(1 * (M 0 * N 9) + 9 * (M 1 * N 8) + 36 * (M 2 * N 7) + 84 * (M 3 * N 6) + 126 * (M 4 * N 5) + 126 * (M 5 * N 4) + 84 * (M 6 * N 3) + 36 * (M 7 * N 2) + 9 * (M 8 * N 1) + 1 * (M 9 * N 0)) := by
    have e := h 9
    simp only [sumR] at e
    have b0 : ((bin 9 0 : Nat) : R) = 1 := lit 1
    have b1 : ((bin 9 1 : Nat) : R) = 9 := lit 9
    have b2 : ((bin 9 2 : Nat) : R) = 36 := lit 36
    have b3 : ((bin 9 3 : Nat) : R) = 84 := lit 84
    have b4 : ((bin 9 4 : Nat) : R) = 126 := lit 126
    have b5 : ((bin 9 5 : Nat) : R) = 126 := lit 126
    have b6 : ((bin 9 6 : Nat) : R) = 84 := lit 84
    have b7 : ((bin 9 7 : Nat) : R) = 36 := lit 36
    have b8 : ((bin 9 8 : Nat) : R) = 9 := lit 9
    have b9 : ((bin 9 9 : Nat) : R) = 1 := lit 1
    rw [b0, b1, b2, b3, b4, b5, b6, b7, b8, b9] at e
    simp only [Nat.sub_zero, Nat.sub_self, Nat.reduceSub] at e
    rw [e]
    grind
  have e11 : N 11 = -(1 * (M 0 * N 10) + 10 * (M 1 * N 9) + 45 * (M 2 * N 8) + 120 * (M 3 * N 7) + 210 * (M 4 * N 6) + 252 * (M 5 * N 5) + 210 * (M 6 * N 4) + 120 * (M 7 * N 3) + 45 * (M 8 * N 2) + 10 * (M 9 * N 1) + 1 * (M 10 * N 0)) := by
    have e := h 10
    simp only [sumR] at e
    have b0 : ((bin 10 0 : Nat) : R) = 1 := lit 1
    have b1 : ((bin 10 1 : Nat) : R) = 10 := lit 10
    have b2 : ((bin 10 2 : Nat) : R) = 45 := lit 45
    have b3 : ((bin 10 3 : Nat) : R) = 120 := lit 120
    have b4 : ((bin 10 4 : Nat) : R) = 210 := lit 210
    have b5 : ((bin 10 5 : Nat) : R) = 252 := lit 252
    have b6 : ((bin 10 6 : Nat) : R) = 210 := lit 210
    have b7 : ((bin 10 7 : Nat) : R) = 120 := lit 120
    have b8 : ((bin 10 8 : Nat) : R) = 45 := lit 45
    have b9 : ((bin 10 9 : Nat) : R) = 10 := lit 10
    have b10 : ((bin 10 10 : Nat) : R) = 1 := lit 1
    rw [b0, b1, b2, b3, b4, b5, b6, b7, b8, b9, b10] at e
    simp only [Nat.sub_zero, Nat.sub_self, Nat.reduceSub] at e
    rw [e]
    grind
  have e12 : N 12 = -(1 * (M 0 * N 11) + 11 * (M 1 * N 10) + 55 * (M 2 * N 9) + 165 * (M 3 * N 8) + 330 * (M 4 * N 7) + 462 * (M 5 * N 6) + 462 * (M 6 * N 5) + 330 * (M 7 * N 4) + 165 * (M 8 * N 3) + 55 * (M 9 * N 2) + 11 * (M 10 * N 1) + 1 * (M 11 * N 0)) := by
    have e := h 11
    simp only [sumR] at e
    have b0 : ((bin 11 0 : Nat) : R) = 1 := lit 1
    have b1 : ((bin 11 1 : Nat) : R) = 11 := lit 11
    have b2 : ((bin 11 2 : Nat) : R) = 55 := lit 55
    have b3 : ((bin 11 3 : Nat) : R) = 165 := lit 165
    have b4 : ((bin 11 4 : Nat) : R) = 330 := lit 330
    have b5 : ((bin 11 5 : Nat) : R) = 462 := lit 462
    have b6 : ((bin 11 6 : Nat) : R) = 462 := lit 462
    have b7 : ((bin 11 7 : Nat) : R) = 330 := lit 330
    have b8 : ((bin 11 8 : Nat) : R) = 165 := lit 165
    have b9 : ((bin 11 9 : Nat) : R) = 55 := lit 55
    have b10 : ((bin 11 10 : Nat) : R) = 11 := lit 11
    have b11 : ((bin 11 11 : Nat) : R) = 1 := lit 1
    rw [b0, b1, b2, b3, b4, b5, b6, b7, b8, b9, b10, b11] at e
    simp only [Nat.sub_zero, Nat.sub_self, Nat.reduceSub] at e
    rw [e]
    grind
  have e13 : N 13 = -(1 * (M 0 * N 12) + 12 * (M 1 * N 11) + 66 * (M 2 * N 10) + 220 * (M 3 * N 9) + 495 * (M 4 * N 8) + 792 * (M 5 * N 7) + 924 * (M 6 * N 6) + 792 * (M 7 * N 5) + 495 * (M 8 * N 4) + 220 * (M 9 * N 3) + 66 * (M 10 * N 2) + 12 * (M 11 * N 1) + 1 * (M 12 * N 0)) := by
    have e := h 12
    simp only [sumR] at e
    have b0 : ((bin 12 0 : Nat) : R) = 1 := lit 1
    have b1 : ((bin 12 1 : Nat) : R) = 12 := lit 12
    have b2 : ((bin 12 2 : Nat) : R) = 66 := lit 66
    have b3 : ((bin 12 3 : Nat) : R) = 220 := lit 220
    have b4 : ((bin 12 4 : Nat) : R) = 495 := lit 495
    have b5 : ((bin 12 5 : Nat) : R) = 792 := lit 792
    have b6 : ((bin 12 6 : Nat) : R) = 924 := lit 924
    have b7 : ((bin 12 7 : Nat) : R) = 792 := lit 792
    have b8 : ((bin 12 8 : Nat) : R) = 495 := lit 495
    have b9 : ((bin 12 9 : Nat) : R) = 220 := lit 220
    have b10 : ((bin 12 10 : Nat) : R) = 66 := lit 66
    have b11 : ((bin 12 11 : Nat) : R) = 12 := lit 12
    have b12 : ((bin 12 12 : Nat) : R) = 1 := lit 1
    rw [b0, b1, b2, b3, b4, b5, b6, b7, b8, b9, b10, b11, b12] at e
    simp only [Nat.sub_zero, Nat.sub_self, Nat.reduceSub] at e
    rw [e]
    grind
  clear h
  generalize M 0 = m0 at *
  generalize M 1 = m1 at *
  generalize M 2 = m2 at *
  generalize M 3 = m3 at *
  generalize M 4 = m4 at *
  generalize M 5 = m5 at *
  generalize M 6 = m6 at *
  generalize M 7 = m7 at *
  generalize M 8 = m8 at *
  generalize M 9 = m9 at *
  generalize M 10 = m10 at *
  generalize M 11 = m11 at *
  generalize M 12 = m12 at *
  have q1 : N 1 = 12 * m0 := by
    rw [e1, n0]
    clear n0 e1 e2 e3 e4 e5 e6 e7 e8 e9 e10 e11 e12 e13
    grind
  have q2 : N 2 = m0 ^ 2 + 12 * m1 := by
    rw [e2, n0, q1]
    clear n0 e1 e2 e3 e4 e5 e6 e7 e8 e9 e10 e11 e12 e13 q1
    grind
  have q3 : N 3 = 3 * m0 * m1 + 12 * m0 ^ 3 + 12 * m2 := by
    rw [e3, n0, q1, q2]
    clear n0 e1 e2 e3 e4 e5 e6 e7 e8 e9 e10 e11 e12 e13 q1 q2
    grind
  have q4 : N 4 = 4 * m0 * m2 + 7 * m0 ^ 2 * m1 + m0 ^ 4 + 3 * m1 ^ 2 + 12 * m3 := by
    rw [e4, n0, q1, q2, q3]
    clear n0 e1 e2 e3 e4 e5 e6 e7 e8 e9 e10 e11 e12 e13 q1 q2 q3
    grind
  have q5 : N 5 = 11 * m0 * m1 ^ 2 + 5 * m0 * m3 + 3 * m0 ^ 2 * m2 + 10 * m0 ^ 3 * m1 + 12 * m0 ^ 5 + 10 * m1 * m2 + 12 * m4 := by
    rw [e5, n0, q1, q2, q3, q4]
    clear n0 e1 e2 e3 e4 e5 e6 e7 e8 e9 e10 e11 e12 e13 q1 q2 q3 q4
    grind
  have q6 : N 6 = 5 * m0 * m1 * m2 + 6 * m0 * m4 + 6 * m0 ^ 2 * m1 ^ 2 + 11 * m0 ^ 2 * m3 + 7 * m0 ^ 3 * m2 + 11 * m0 ^ 4 * m1 + m0 ^ 6 + 2 * m1 * m3 + 11 * m1 ^ 3 + 10 * m2 ^ 2 + 12 * m5 := by
    rw [e6, n0, q1, q2, q3, q4, q5]
    clear n0 e1 e2 e3 e4 e5 e6 e7 e8 e9 e10 e11 e12 e13 q1 q2 q3 q4 q5
    grind
  have q7 : N 7 = 12 * m0 * m1 * m3 + m0 * m1 ^ 3 + 8 * m0 * m2 ^ 2 + 7 * m0 * m5 + 2 * m0 ^ 2 * m1 * m2 + 5 * m0 ^ 2 * m4 + 12 * m0 ^ 3 * m1 ^ 2 + 9 * m0 ^ 3 * m3 + 4 * m0 ^ 4 * m2 + 8 * m0 ^ 5 * m1 + 12 * m0 ^ 7 + 8 * m1 * m4 + 12 * m1 ^ 2 * m2 + 9 * m2 * m3 + 12 * m6 := by
    rw [e7, n0, q1, q2, q3, q4, q5, q6]
    clear n0 e1 e2 e3 e4 e5 e6 e7 e8 e9 e10 e11 e12 e13 q1 q2 q3 q4 q5 q6
    grind
  have q8 : N 8 = m0 * m1 * m4 + 8 * m0 * m1 ^ 2 * m2 + 6 * m0 * m2 * m3 + 8 * m0 * m6 + 4 * m0 ^ 2 * m1 * m3 + 9 * m0 ^ 2 * m1 ^ 3 + 7 * m0 ^ 2 * m2 ^ 2 + 11 * m0 ^ 2 * m5 + 12 * m0 ^ 3 * m1 * m2 + 4 * m0 ^ 3 * m4 + 2 * m0 ^ 4 * m1 ^ 2 + 8 * m0 ^ 4 * m3 + 4 * m0 ^ 5 * m2 + 11 * m0 ^ 6 * m1 + m0 ^ 8 + 6 * m1 * m2 ^ 2 + 2 * m1 * m5 + 11 * m1 ^ 2 * m3 + m1 ^ 4 + 4 * m2 * m4 + 9 * m3 ^ 2 + 12 * m7 := by
    rw [e8, n0, q1, q2, q3, q4, q5, q6, q7]
    clear n0 e1 e2 e3 e4 e5 e6 e7 e8 e9 e10 e11 e12 e13 q1 q2 q3 q4 q5 q6 q7
    grind
  have q9 : N 9 = 11 * m0 * m1 * m2 ^ 2 + 8 * m0 * m1 * m5 + 5 * m0 * m1 ^ 2 * m3 + 4 * m0 * m1 ^ 4 + 3 * m0 * m2 * m4 + 10 * m0 * m3 ^ 2 + 9 * m0 * m7 + 2 * m0 ^ 2 * m1 * m4 + 3 * m0 ^ 2 * m1 ^ 2 * m2 + 12 * m0 ^ 2 * m2 * m3 + 3 * m0 ^ 2 * m6 + m0 ^ 3 * m1 * m3 + 12 * m0 ^ 3 * m1 ^ 3 + 5 * m0 ^ 3 * m2 ^ 2 + 6 * m0 ^ 3 * m5 + 12 * m0 ^ 4 * m1 * m2 + 4 * m0 ^ 4 * m4 + 12 * m0 ^ 5 * m1 ^ 2 + 9 * m0 ^ 5 * m3 + 7 * m0 ^ 6 * m2 + 10 * m0 ^ 7 * m1 + 12 * m0 ^ 9 + m1 * m2 * m3 + 10 * m1 * m6 + 12 * m1 ^ 2 * m4 + 12 * m1 ^ 3 * m2 + 6 * m2 * m5 + 6 * m2 ^ 3 + 9 * m3 * m4 + 12 * m8 := by
    rw [e9, n0, q1, q2, q3, q4, q5, q6, q7, q8]
    clear n0 e1 e2 e3 e4 e5 e6 e7 e8 e9 e10 e11 e12 e13 q1 q2 q3 q4 q5 q6 q7 q8
    grind
  have q10 : N 10 = 3 * m0 * m1 * m2 * m3 + 4 * m0 * m1 * m6 + 10 * m0 * m1 ^ 2 * m4 + 10 * m0 * m1 ^ 3 * m2 + 5 * m0 * m2 * m5 + 5 * m0 * m2 ^ 3 + m0 * m3 * m4 + 10 * m0 * m8 + 10 * m0 ^ 2 * m1 * m2 ^ 2 + 12 * m0 ^ 2 * m1 * m5 + m0 ^ 2 * m1 ^ 2 * m3 + 6 * m0 ^ 2 * m1 ^ 4 + 11 * m0 ^ 2 * m2 * m4 + 2 * m0 ^ 2 * m3 ^ 2 + 7 * m0 ^ 2 * m7 + 2 * m0 ^ 3 * m1 * m4 + 3 * m0 ^ 3 * m1 ^ 2 * m2 + 12 * m0 ^ 3 * m2 * m3 + 3 * m0 ^ 3 * m6 + 4 * m0 ^ 4 * m1 * m3 + 9 * m0 ^ 4 * m1 ^ 3 + 7 * m0 ^ 4 * m2 ^ 2 + 11 * m0 ^ 4 * m5 + 2 * m0 ^ 5 * m1 * m2 + 5 * m0 ^ 5 * m4 + 6 * m0 ^ 6 * m1 ^ 2 + 11 * m0 ^ 6 * m3 + 3 * m0 ^ 7 * m2 + 7 * m0 ^ 8 * m1 + m0 ^ 10 + 2 * m1 * m2 * m4 + 11 * m1 * m3 ^ 2 + 6 * m1 * m7 + 8 * m1 ^ 2 * m2 ^ 2 + 7 * m1 ^ 2 * m5 + 4 * m1 ^ 3 * m3 + 4 * m1 ^ 5 + 3 * m2 * m6 + 6 * m2 ^ 2 * m3 + 2 * m3 * m5 + 9 * m4 ^ 2 + 12 * m9 := by
    rw [e10, n0, q1, q2, q3, q4, q5, q6, q7, q8, q9]
    clear n0 e1 e2 e3 e4 e5 e6 e7 e8 e9 e10 e11 e12 e13 q1 q2 q3 q4 q5 q6 q7 q8 q9
    grind
  have q11 : N 11 = 4 * m0 * m1 * m2 * m4 + 9 * m0 * m1 * m3 ^ 2 + 12 * m0 * m1 * m7 + 3 * m0 * m1 ^ 2 * m2 ^ 2 + m0 * m1 ^ 2 * m5 + 8 * m0 * m1 ^ 3 * m3 + 8 * m0 * m1 ^ 5 + 6 * m0 * m2 * m6 + 12 * m0 * m2 ^ 2 * m3 + 4 * m0 * m3 * m5 + 5 * m0 * m4 ^ 2 + 11 * m0 * m9 + 3 * m0 ^ 2 * m1 * m2 * m3 + 4 * m0 ^ 2 * m1 * m6 + 10 * m0 ^ 2 * m1 ^ 2 * m4 + 10 * m0 ^ 2 * m1 ^ 3 * m2 + 5 * m0 ^ 2 * m2 * m5 + 5 * m0 ^ 2 * m2 ^ 3 + m0 ^ 2 * m3 * m4 + 10 * m0 ^ 2 * m8 + 11 * m0 ^ 3 * m1 * m2 ^ 2 + 8 * m0 ^ 3 * m1 * m5 + 5 * m0 ^ 3 * m1 ^ 2 * m3 + 4 * m0 ^ 3 * m1 ^ 4 + 3 * m0 ^ 3 * m2 * m4 + 10 * m0 ^ 3 * m3 ^ 2 + 9 * m0 ^ 3 * m7 + m0 ^ 4 * m1 * m4 + 8 * m0 ^ 4 * m1 ^ 2 * m2 + 6 * m0 ^ 4 * m2 * m3 + 8 * m0 ^ 4 * m6 + 12 * m0 ^ 5 * m1 * m3 + m0 ^ 5 * m1 ^ 3 + 8 * m0 ^ 5 * m2 ^ 2 + 7 * m0 ^ 5 * m5 + 5 * m0 ^ 6 * m1 * m2 + 6 * m0 ^ 6 * m4 + 11 * m0 ^ 7 * m1 ^ 2 + 5 * m0 ^ 7 * m3 + 4 * m0 ^ 8 * m2 + 3 * m0 ^ 9 * m1 + 12 * m0 ^ 11 + 8 * m1 * m2 * m5 + 8 * m1 * m2 ^ 3 + 12 * m1 * m3 * m4 + 3 * m1 * m8 + 5 * m1 ^ 2 * m2 * m3 + 11 * m1 ^ 2 * m6 + m1 ^ 3 * m4 + 4 * m1 ^ 4 * m2 + 10 * m2 * m3 ^ 2 + 9 * m2 * m7 + 8 * m2 ^ 2 * m4 + 5 * m3 * m6 + 7 * m4 * m5 + 12 * m10 := by
    rw [e11, n0, q1, q2, q3, q4, q5, q6, q7, q8, q9, q10]
    clear n0 e1 e2 e3 e4 e5 e6 e7 e8 e9 e10 e11 e12 e13 q1 q2 q3 q4 q5 q6 q7 q8 q9 q10
    grind
  have q12 : N 12 = 8 * m0 * m1 * m2 * m5 + 8 * m0 * m1 * m2 ^ 3 + 12 * m0 * m1 * m3 * m4 + 3 * m0 * m1 * m8 + 5 * m0 * m1 ^ 2 * m2 * m3 + 11 * m0 * m1 ^ 2 * m6 + m0 * m1 ^ 3 * m4 + 4 * m0 * m1 ^ 4 * m2 + 10 * m0 * m2 * m3 ^ 2 + 9 * m0 * m2 * m7 + 8 * m0 * m2 ^ 2 * m4 + 5 * m0 * m3 * m6 + 7 * m0 * m4 * m5 + 12 * m0 * m10 + 2 * m0 ^ 2 * m1 * m2 * m4 + 11 * m0 ^ 2 * m1 * m3 ^ 2 + 6 * m0 ^ 2 * m1 * m7 + 8 * m0 ^ 2 * m1 ^ 2 * m2 ^ 2 + 7 * m0 ^ 2 * m1 ^ 2 * m5 + 4 * m0 ^ 2 * m1 ^ 3 * m3 + 4 * m0 ^ 2 * m1 ^ 5 + 3 * m0 ^ 2 * m2 * m6 + 6 * m0 ^ 2 * m2 ^ 2 * m3 + 2 * m0 ^ 2 * m3 * m5 + 9 * m0 ^ 2 * m4 ^ 2 + 12 * m0 ^ 2 * m9 + m0 ^ 3 * m1 * m2 * m3 + 10 * m0 ^ 3 * m1 * m6 + 12 * m0 ^ 3 * m1 ^ 2 * m4 + 12 * m0 ^ 3 * m1 ^ 3 * m2 + 6 * m0 ^ 3 * m2 * m5 + 6 * m0 ^ 3 * m2 ^ 3 + 9 * m0 ^ 3 * m3 * m4 + 12 * m0 ^ 3 * m8 + 6 * m0 ^ 4 * m1 * m2 ^ 2 + 2 * m0 ^ 4 * m1 * m5 + 11 * m0 ^ 4 * m1 ^ 2 * m3 + m0 ^ 4 * m1 ^ 4 + 4 * m0 ^ 4 * m2 * m4 + 9 * m0 ^ 4 * m3 ^ 2 + 12 * m0 ^ 4 * m7 + 8 * m0 ^ 5 * m1 * m4 + 12 * m0 ^ 5 * m1 ^ 2 * m2 + 9 * m0 ^ 5 * m2 * m3 + 12 * m0 ^ 5 * m6 + 2 * m0 ^ 6 * m1 * m3 + 11 * m0 ^ 6 * m1 ^ 3 + 10 * m0 ^ 6 * m2 ^ 2 + 12 * m0 ^ 6 * m5 + 10 * m0 ^ 7 * m1 * m2 + 12 * m0 ^ 7 * m4 + 3 * m0 ^ 8 * m1 ^ 2 + 12 * m0 ^ 8 * m3 + 12 * m0 ^ 9 * m2 + 12 * m0 ^ 10 * m1 + m0 ^ 12 + 10 * m1 * m2 * m6 + 7 * m1 * m2 ^ 2 * m3 + 11 * m1 * m3 * m5 + 4 * m1 * m4 ^ 2 + m1 * m9 + 12 * m1 ^ 2 * m2 * m4 + m1 ^ 2 * m3 ^ 2 + 10 * m1 ^ 2 * m7 + 6 * m1 ^ 3 * m2 ^ 2 + 2 * m1 ^ 3 * m5 + 12 * m1 ^ 4 * m3 + 8 * m1 ^ 6 + 9 * m2 * m3 * m4 + 12 * m2 * m8 + 3 * m2 ^ 2 * m5 + 8 * m2 ^ 4 + m3 * m7 + 10 * m3 ^ 3 + 12 * m4 * m6 + 7 * m5 ^ 2 + 12 * m11 := by
    rw [e12, n0, q1, q2, q3, q4, q5, q6, q7, q8, q9, q10, q11]
    clear n0 e1 e2 e3 e4 e5 e6 e7 e8 e9 e10 e11 e12 e13 q1 q2 q3 q4 q5 q6 q7 q8 q9 q10 q11
    grind
  have q13 : N 13 = 12 * m0 ^ 13 + 12 * m12 := by
    rw [e13, n0, q1, q2, q3, q4, q5, q6, q7, q8, q9, q10, q11, q12]
    clear n0 e1 e2 e3 e4 e5 e6 e7 e8 e9 e10 e11 e12 e13 q1 q2 q3 q4 q5 q6 q7 q8 q9 q10 q11 q12
    grind
  rw [q13]
  clear n0 e1 e2 e3 e4 e5 e6 e7 e8 e9 e10 e11 e12 e13 q1 q2 q3 q4 q5 q6 q7 q8 q9 q10 q11 q12 q13
  grind
end
end Cv
end
section
set_option linter.all false
set_option maxRecDepth 100000
set_option maxHeartbeats 4000000
namespace Cv
section
variable {p : Nat} [ip : Pr p] {g e q : Pol p}
/-! ### the derivation, by weights -/
noncomputable def half2 (p : Nat) [Pr p] : Pol p := Pol.C (inv p 2)
theorem two_half : (2 : Pol p) * half2 p = 1 := by
  have h : (2 : Int) % (p : Int) ≠ 0 := by
    rcases ip.is with rfl | rfl | rfl | rfl | rfl <;> decide
  have := C_inv (p := p) h
  have e : (Pol.C 2 : Pol p) = 2 := rfl
  rw [e] at this
  unfold half2
  grind
/-- k-th weight: e ^ (k + 1) times the slope of x / e ^ k -/
noncomputable def dW (e q : Pol p) (k : Nat) (x : Fn g) : Fn g := ⟨e * slope x.a - (k : Pol p) * slope e * x.a, e * slope x.b + x.b * slope g * (half2 p * q) - (k : Pol p) * slope e * x.b⟩
theorem slope_zero : slope (0 : Pol p) = 0 := by
  have := slope_C 0 (0 : Pol p)
  rw [C_zero] at this
  have e : (0 : Pol p) * 0 = 0 := by grind
  rw [e] at this
  rw [this]; grind
theorem slope_one : slope (1 : Pol p) = 0 := Pol.ext fun n => by rw [cf_slope, one_l, zero_l]; simp
theorem natP_add (i j : Nat) : ((i + j : Nat) : Pol p) = (i : Pol p) + (j : Pol p) := Lean.Grind.Semiring.natCast_add i j
theorem der_dW (he : e = g * q) : Der (dW (g := g) e q) := ⟨fun k x y => Fn.ext' (by
    unfold dW
    simp only [fa_add]
    rw [slope_add]; grind) (by
    unfold dW
    simp only [fb_add]
    rw [slope_add]; grind), fun i j x y => by
    have h2 := two_half (p := p)
    refine Fn.ext' ?_ ?_
    · unfold dW
      simp only [fa_mul, fa_add, fb_mul]
      rw [slope_add, slope_mul, slope_mul, slope_mul, natP_add, he]
      rw [slope_mul g q]
      grind
    · unfold dW
      simp only [fa_mul, fb_add, fb_mul]
      rw [slope_add, slope_mul, slope_mul, natP_add, he]
      rw [slope_mul g q]
      grind, Fn.ext' (by
    unfold dW
    simp only [fa_one, fa_zero]
    rw [slope_one]
    have : ((0 : Nat) : Pol p) = 0 := rfl
    rw [this]; grind) (by
    unfold dW
    simp only [fb_one, fb_zero]
    rw [slope_zero]
    have : ((0 : Nat) : Pol p) = 0 := rfl
    rw [this]; grind)⟩
theorem d_weight : dW (g := g) e q 1 (inF g e) = 0 := Fn.ext' (by
    unfold dW inF
    simp only [fa_zero]
    have : ((1 : Nat) : Pol p) = 1 := rfl
    rw [this]; grind) (by
    unfold dW inF
    simp only [fb_zero]
    rw [slope_zero]; grind)
theorem d_inF (U : Pol p) : dW (g := g) e q 0 (inF g U) = inF g e * inF g (slope U) := Fn.ext' (by
    unfold dW
    rw [fa_mul]
    unfold inF
    simp only
    have : ((0 : Nat) : Pol p) = 0 := rfl
    rw [this]; grind) (by
    unfold dW
    rw [fb_mul]
    unfold inF
    simp only
    rw [slope_zero]; grind)
section
variable {d : Nat → Fn g → Fn g}
theorem fpow_zero (x : Fn g) : x ^ 0 = 1 := by grind
theorem fpow_succ (x : Fn g) (n : Nat) : x ^ (n + 1) = x ^ n * x := by grind
theorem fpow_add (x : Fn g) (i : Nat) : ∀ j, x ^ (i + j) = x ^ i * x ^ j
  | 0 => by rw [Nat.add_zero, fpow_zero]; grind
  | j + 1 => by rw [← Nat.add_assoc, fpow_succ, fpow_succ, fpow_add x i j]; grind
theorem fpow_mul (x y : Fn g) : ∀ n : Nat, (x * y) ^ n = x ^ n * y ^ n
  | 0 => by rw [fpow_zero, fpow_zero, fpow_zero]; grind
  | n + 1 => by rw [fpow_succ, fpow_succ, fpow_succ, fpow_mul x y n]; grind
theorem natF_add (i j : Nat) : ((i + j : Nat) : Fn g) = (i : Fn g) + (j : Fn g) := Lean.Grind.Semiring.natCast_add i j
theorem natF_p : ((p : Nat) : Fn g) = 0 := Fn.ext' (by
  show (Pol.C (p : Int) : Pol p) = Pol.C 0
  exact C_eq.mpr (by simp)) rfl
theorem d_pow (D : Der d) (x : Fn g) : ∀ n : Nat, d 0 (x ^ (n + 1)) = ((n + 1 : Nat) : Fn g) * (x ^ n * d 0 x)
  | 0 => by
    have e1 : x ^ (0 + 1) = x := by grind
    have e2 : ((0 + 1 : Nat) : Fn g) = 1 := rfl
    rw [e1, e2, fpow_zero]; grind
  | n + 1 => by
    have h := D.mul 0 0 (x ^ (n + 1)) x
    rw [fpow_succ x (n + 1)]
    rw [show (0 + 0 : Nat) = 0 from rfl] at h
    rw [h, d_pow D x n, natF_add (n + 1) 1, fpow_succ x n]
    have e2 : ((1 : Nat) : Fn g) = 1 := rfl
    rw [e2]; grind
theorem d_pth (D : Der d) (x : Fn g) : d 0 (x ^ p) = 0 := by
  have h := d_pow D x (p - 1)
  rw [Nat.sub_add_cancel (Pr.pos p), natF_p] at h
  rw [h]; grind
theorem d_const (D : Der d) {c : Fn g} (hc : d 0 c = 0) (k : Nat) (x : Fn g) : d k (c * x) = c * d k x := by
  have h := D.mul 0 k c x
  rw [Nat.zero_add, hc] at h
  rw [h]; grind
def chN (d : Nat → Fn g → Fn g) (W : Fn g) : Nat → Fn g
  | 0 => 1
  | k + 1 => d k (chN d W k) - W * chN d W k
def chM (d : Nat → Fn g → Fn g) (W : Fn g) : Nat → Fn g
  | 0 => W
  | k + 1 => d (k + 1) (chM d W k)
def chE (d : Nat → Fn g → Fn g) (V : Fn g) : Nat → Fn g
  | 0 => V
  | k + 1 => d k (chE d V k)
theorem chE_const (D : Der d) {c : Fn g} (hc : d 0 c = 0) (V : Fn g) : ∀ k, chE d (c * V) k = c * chE d V k
  | 0 => rfl
  | k + 1 => by
    show d k (chE d (c * V) k) = c * d k (chE d V k)
    rw [chE_const D hc V k, d_const D hc]
theorem chE_add (D : Der d) (U V : Fn g) : ∀ k, chE d (U + V) k = chE d U k + chE d V k
  | 0 => rfl
  | k + 1 => by
    show d k (chE d (U + V) k) = d k (chE d U k) + d k (chE d V k)
    rw [chE_add D U V k, D.add]
theorem bellN (D : Der d) (W : Fn g) : chN d W p = -(chM d W (p - 1) + W ^ p) := by
  have h := chain D W (chN d W) (chM d W) rfl (fun _ => rfl) rfl (fun _ => rfl)
  rcases ip.is with rfl | rfl | rfl | rfl | rfl
  · exact bell3 _ _ rfl h
  · exact bell5 _ _ rfl h
  · exact bell7 _ _ rfl h
  · exact bell11 _ _ rfl h
  · exact bell13 _ _ rfl h
end
/-! ### the slope taken p - 1 times -/
noncomputable def slI : Nat → Pol p → Pol p
  | 0, U => U
  | k + 1, U => slope (slI k U)
def rise : Nat → Nat → Int
  | _, 0 => 1
  | n, k + 1 => ((n : Int) + 1) * rise (n + 1) k
theorem cf_slI (U : Pol p) : ∀ k n, cf (slI k U).l n = rise n k * cf U.l (n + k) % (p : Int)
  | 0, n => by
    show cf U.l n = 1 * cf U.l (n + 0) % (p : Int)
    rw [Int.one_mul, Nat.add_zero, U.cf_mod]
  | k + 1, n => by
    show cf (slope (slI k U)).l n = ((n : Int) + 1) * rise (n + 1) k * cf U.l (n + (k + 1)) % (p : Int)
    rw [cf_slope, cf_slI U k (n + 1), Int.mul_emod, Int.emod_emod, ← Int.mul_emod, Int.mul_assoc]
    have : n + 1 + k = n + (k + 1) := by omega
    rw [this]
theorem rise_mod : ∀ k n m : Nat, n % p = m % p → rise n k % (p : Int) = rise m k % (p : Int)
  | 0, _, _, _ => rfl
  | k + 1, n, m, h => by
    have h1 : (n + 1) % p = (m + 1) % p := by rw [Nat.add_mod, h, ← Nat.add_mod]
    have ih := rise_mod k (n + 1) (m + 1) h1
    show ((n : Int) + 1) * rise (n + 1) k % (p : Int) = ((m : Int) + 1) * rise (m + 1) k % (p : Int)
    exact emod_mul (by exact_mod_cast h1) ih
theorem rise_p (n : Nat) : rise n (p - 1) % (p : Int) = if n % p = 0 then (p : Int) - 1 else 0 := by
  rw [rise_mod (p - 1) n (n % p) (by rw [Nat.mod_mod])]
  have hlt := Nat.mod_lt n (Pr.pos p)
  generalize n % p = r at *
  rcases ip.is with rfl | rfl | rfl | rfl | rfl
  · revert r; decide
  · revert r; decide
  · revert r; decide
  · revert r; decide
  · revert r; decide
theorem slI_p (U : Pol p) : slI (p - 1) U = -(evr U (p - 1)) ^ p := by
  rw [← stretch_pow]
  refine Pol.ext fun n => ?_
  have hp := Pr.pos p
  rw [cf_slI, cf_negP, cf_stretch, Int.mul_emod, rise_p]
  by_cases h : n % p = 0
  · rw [if_pos h, if_pos h, cf_evr]
    have e1 : p - 1 + n / p * p = n + (p - 1) := by
      have := Nat.div_add_mod n p
      rw [h, Nat.add_zero, Nat.mul_comm] at this
      omega
    rw [e1, Int.mul_emod, Int.emod_emod, ← Int.mul_emod]
    generalize cf U.l (n + (p - 1)) = c
    have : ((p : Int) - 1) * c = -c + (p : Int) * c := by rw [Int.sub_mul]; omega
    rw [this, Int.add_mul_emod_self_left]
  · rw [if_neg h, if_neg h]; simp
/-! ### what is made of a divided slope -/
def FY (g : Pol p) : Fn g := ⟨0, 1⟩
theorem FY_sq : FY g * FY g = inF g g := Fn.ext' (by rw [fa_mul]; unfold FY inF; simp only; grind) (by rw [fb_mul]; unfold FY inF; simp only; grind)
theorem FY_odd : ∀ k : Nat, FY g ^ (2 * k + 1) = inF g g ^ k * FY g
  | 0 => by rw [fpow_zero]; grind
  | k + 1 => by
    have : 2 * (k + 1) + 1 = (2 * k + 1) + 1 + 1 := by omega
    rw [this, fpow_succ, fpow_succ, FY_odd k, fpow_succ, ← FY_sq]; grind
theorem fn_frob (x y : Fn g) : (x + y) ^ p = x ^ p + y ^ p := by
  rcases ip.is with rfl | rfl | rfl | rfl | rfl
  · grind
  · grind
  · grind
  · grind
  · grind
theorem fn_of (A B : Pol p) : (⟨A, B⟩ : Fn g) = inF g A + inF g B * FY g := Fn.ext' (by rw [fa_add, fa_mul]; unfold FY inF; simp only; grind) (by rw [fb_add, fb_mul]; unfold FY inF; simp only; grind)
theorem fpow_eq (x : Fn g) {n m : Nat} (h : n = m) : x ^ n = x ^ m := by rw [h]
theorem inF_neg (A : Pol p) : inF g (-A) = -inF g A := Fn.ext' rfl (by rw [fb_neg]; unfold inF; simp only; grind)
theorem d_wpow (D : Der (dW (g := g) e q)) : ∀ k, dW e q k (inF g e ^ k) = 0
  | 0 => by rw [fpow_zero]; exact D.one
  | k + 1 => by
    rw [fpow_succ, D.mul k 1, d_wpow D k, d_weight]; grind
theorem chE_inF (D : Der (dW (g := g) e q)) (U : Pol p) : ∀ k, chE (dW e q) (inF g U) k = inF g e ^ k * inF g (slI k U)
  | 0 => by
    show inF g U = _ * inF g U
    rw [fpow_zero]; grind
  | k + 1 => by
    show dW e q k (chE (dW e q) (inF g U) k) = _
    have h := D.mul k 0 (inF g e ^ k) (inF g (slI k U))
    rw [Nat.add_zero, d_wpow D k, d_inF] at h
    rw [chE_inF D U k, h, fpow_succ]
    show 0 * _ + _ * (_ * inF g (slope (slI k U))) = _ * inF g (slope (slI k U))
    grind
/-- what a function that is its own descent gives: the chain ends -/
theorem chain_end {a b c : Pol p} {s : Pol p} (hg : g ≠ 0) (he : e = g * q) (he2 : e = s * c) (h0 : e ≠ 0) (d1 : evr (a * c ^ (p - 1)) (p - 1) = a) (d2 : evr (b * c ^ (p - 1) * g ^ ((p + 1) / 2)) (p - 1) = b * g) :
    chN (dW e q) (⟨s * a, s * b⟩ : Fn g) p = 0 := by
  have D := der_dW (g := g) he
  have hp3 := Pr.ge3 p
  have hodd : p = 2 * ((p - 1) / 2) + 1 := by rcases ip.is with rfl | rfl | rfl | rfl | rfl <;> rfl
  have hsum : (p - 1) / 2 + (p + 1) / 2 = p := by rcases ip.is with rfl | rfl | rfl | rfl | rfl <;> rfl
  have hp1 : p = p - 1 + 1 := by omega
  generalize hW : (⟨s * a, s * b⟩ : Fn g) = W
  have eW : W = inF g s * (inF g a + inF g b * FY g) := by rw [← hW, fn_of, inF_mul, inF_mul]; grind
  have eE : inF g e = inF g s * inF g c := by rw [he2, inF_mul]
  have yp : FY g ^ p = inF g g ^ ((p - 1) / 2) * FY g := (fpow_eq _ hodd).trans (FY_odd _)
  have gp : inF g g ^ p = inF g g ^ ((p - 1) / 2) * inF g g ^ ((p + 1) / 2) := by rw [← fpow_add, hsum]
  have ep : inF g e ^ p = inF g e ^ (p - 1) * inF g e := (fpow_eq _ hp1).trans (fpow_succ _ _)
  have sp : inF g s ^ p = inF g s ^ (p - 1) * inF g s := (fpow_eq _ hp1).trans (fpow_succ _ _)
  have cS : dW e q 0 (inF g s ^ p) = 0 := d_pth D _
  have cG : dW e q 0 (inF g g ^ p) = 0 := d_pth D _
  have cY : dW e q 0 (FY g ^ p) = 0 := d_pth D _
  have cE : dW e q 0 (inF g e ^ p) = 0 := d_pth D _
  -- the slope taken p - 1 times
  have key : inF g g ^ p * (inF g e ^ (p - 1) * W) = inF g s ^ p * (inF g g ^ p * inF g (a * c ^ (p - 1)) + FY g ^ p * inF g (b * c ^ (p - 1) * g ^ ((p + 1) / 2))) := by
    rw [inF_mul, inF_mul, inF_mul, inF_pow, inF_pow, eW, eE, fpow_mul, sp, yp, gp]
    grind
  have fin : chE (dW e q) (inF g e ^ (p - 1) * W) (p - 1) = -(inF g e ^ (p - 1) * W ^ p) := by
    have h := congrArg (fun x => chE (dW e q) x (p - 1)) key
    rw [chE_const D cG, chE_const D cS, chE_add D, chE_const D cG, chE_const D cY, chE_inF D, chE_inF D, slI_p, slI_p, d1, d2, inF_neg, inF_neg, inF_pow, inF_pow, inF_mul] at h
    have hgp : g ^ p ≠ 0 := pow_ne_zero hg p
    refine inF_cancel hgp ?_
    rw [inF_pow, h, eW, fpow_mul (inF g s), fn_frob, fpow_mul (inF g b), fpow_mul (inF g b)]
    grind
  have lift : ∀ k, inF g e ^ p * chM (dW e q) W k = inF g e * chE (dW e q) (inF g e ^ (p - 1) * W) k := by
    intro k
    induction k with
    | zero =>
      show inF g e ^ p * W = inF g e * (inF g e ^ (p - 1) * W)
      rw [ep]; grind
    | succ k ih =>
      show inF g e ^ p * dW e q (k + 1) (chM (dW e q) W k) = inF g e * dW e q k (chE (dW e q) (inF g e ^ (p - 1) * W) k)
      rw [← d_const D cE, ih]
      have h := D.mul 1 k (inF g e) (chE (dW e q) (inF g e ^ (p - 1) * W) k)
      rw [d_weight, Nat.add_comm 1 k] at h
      rw [h]; grind
  have hM : chM (dW e q) W (p - 1) = -(W ^ p) := by
    have h := lift (p - 1)
    rw [fin] at h
    refine inF_cancel (pow_ne_zero h0 p) ?_
    rw [inF_pow, h, ep]; grind
  rw [bellN D W, hM]
  grind
end
end Cv
end
section
set_option linter.all false
set_option maxRecDepth 100000
set_option maxHeartbeats 4000000
namespace Cv
section
variable {p : Nat} [ip : Pr p] {g e q : Pol p}
theorem slope_pow (e : Pol p) : ∀ k : Nat, slope (e ^ k) * e = (k : Pol p) * (e ^ k * slope e)
  | 0 => by
    have e1 : e ^ 0 = 1 := by grind
    have e2 : ((0 : Nat) : Pol p) = 0 := rfl
    rw [e1, e2, slope_one]; grind
  | k + 1 => by
    have e1 : e ^ (k + 1) = e ^ k * e := by grind
    have e2 : ((1 : Nat) : Pol p) = 1 := rfl
    have ih := slope_pow e k
    rw [e1, slope_mul, natP_add, e2]
    generalize slope (e ^ k) = u at *
    grind
/-- where the chain ends, the slope is the function times the told one -/
theorem same_end {a b c s l m : Pol p} {k : Nat} (hg : g ≠ 0) (he : e = g * q) (he2 : e = s * c) (h0 : e ≠ 0) (h : dW e q k (⟨l, m⟩ : Fn g) = (⟨s * a, s * b⟩ : Fn g) * ⟨l, m⟩) : Same (slopeT g (l, m, e ^ k)) (mulT g (a, b, c) (l, m, e ^ k)) := by
  have h1 := congrArg Fn.a h
  have h2 := congrArg Fn.b h
  rw [fa_mul] at h1
  rw [fb_mul] at h2
  unfold dW at h1 h2
  simp only at h1 h2
  have h3 := slope_pow e k
  have h4 := two_half (p := p)
  have e2 : (Pol.C 2 : Pol p) = 2 := rfl
  unfold Same slopeT mulT
  simp only
  rw [e2]
  generalize slope (e ^ k) = E' at *
  generalize e ^ k = E at *
  generalize slope e = e' at *
  generalize slope l = l' at *
  generalize slope m = m' at *
  generalize slope g = g' at *
  generalize half2 p = hh at *
  constructor
  · refine mul_cancel h0 ?_
    have k1 : e * (l' * E - l * E') = E * (s * a * l + s * b * m * g) := by grind
    calc e * ((l' * E - l * E') * (2 * g) * (c * E)) = e * (l' * E - l * E') * (2 * g) * (c * E) := by grind
      _ = E * (s * a * l + s * b * m * g) * (2 * g) * (c * E) := by rw [k1]
      _ = (s * c) * ((a * l + b * m * g) * (E * E * (2 * g))) := by grind
      _ = e * ((a * l + b * m * g) * (E * E * (2 * g))) := by rw [← he2]
  · refine mul_cancel h0 ?_
    have k1 : e * (m' * E - m * E') = E * (s * a * m + s * b * l - m * g' * (hh * q)) := by grind
    calc e * (((m' * E - m * E') * (2 * g) + m * g' * E) * (c * E)) = (e * (m' * E - m * E') * (2 * g) + e * m * g' * E) * (c * E) := by grind
      _ = (E * (s * a * m + s * b * l - m * g' * (hh * q)) * (2 * g) + g * q * m * g' * E) * (c * E) := by rw [k1, ← he]
      _ = (s * c) * ((a * m + b * l) * (E * E * (2 * g))) := by grind
      _ = e * ((a * m + b * l) * (E * E * (2 * g))) := by rw [← he2]
theorem Same.trans2 {s t u : Tri p} (ht : t.2.2 ≠ 0) (a : Same s t) (b : Same t u) : Same s u := by
  obtain ⟨a1, a2⟩ := a
  obtain ⟨b1, b2⟩ := b
  constructor
  · refine mul_cancel ht ?_
    grind
  · refine mul_cancel ht ?_
    grind
theorem Same.symm2 {s t : Tri p} (a : Same s t) : Same t s := ⟨a.1.symm, a.2.symm⟩
/-- .. told of the least form -/
theorem same_end_least {a b c s l m : Pol p} {k : Nat} (hg : g ≠ 0) (he : e = g * q) (he2 : e = s * c) (h0 : e ≠ 0) (h : dW e q k (⟨l, m⟩ : Fn g) = (⟨s * a, s * b⟩ : Fn g) * ⟨l, m⟩) : Same (slopeT g (least (l, m, e ^ k))) (mulT g (a, b, c) (least (l, m, e ^ k))) := by
  have hk : ((l, m, e ^ k) : Tri p).2.2 ≠ 0 := pow_ne_zero h0 k
  have hc : c ≠ 0 := fun z => h0 (by rw [he2, z]; grind)
  have s1 := least_same hk
  have two : (Pol.C 2 : Pol p) ≠ 0 := C_ne (by rcases ip.is with rfl | rfl | rfl | rfl | rfl <;> decide)
  refine Same.trans2 (t := slopeT g (l, m, e ^ k)) (mul_ne_zero (mul_ne_zero hk hk) (mul_ne_zero two hg)) (same_slope hk s1) ?_
  exact Same.trans2 (t := mulT g (a, b, c) (l, m, e ^ k)) (mul_ne_zero hc hk) (same_end hg he he2 h0 h) (same_mul (same_refl _) s1.symm2)
end
end Cv
end
section
set_option Elab.async false
set_option linter.all false
set_option maxRecDepth 100000
set_option maxHeartbeats 4000000
namespace Cv
open PySem L2 Evl
/-- the facts of the text that the walk needs -/
structure ObT (K : PySem.W.Frag) (C : Addr) : Prop where
  cl : Cls K C
  ha : PySem.W.findIn K (.ref C) "__class__" = some (some (.builtin "object.__class__"))
  hn : PySem.W.specialIn K (.builtin "object.__class__") "__get__" = some (some (.builtin "getset_descriptor.__get__"))
  ht : PySem.W.takesIn K (.builtin "object.__class__") = some true
  hm : PySem.W.mroIn K C (.type "object") = some true
theorem ObT.ty {K : PySem.W.Frag} {C : Addr} (o : ObT K C) (fs : List (Str × D)) : TyD K (.obj C fs) (.ref C) := .obj o.cl o.ha o.hn o.ht o.hm
theorem kit_self (K : PySem.W.Frag) (t : Value) : PySem.W.kitOne K t t = some true := by
  unfold PySem.W.kitOne
  rw [if_pos (by simp)]
structure KF (K : PySem.W.Frag) (mg : Str → Option Value) (Cc Cf aP : Addr) : Prop where
  bu : BuAll mg
  oc : ObT K Cc
  of : ObT K Cf
  c1 : NoAttr K Cc "_prime"
  c2 : NoAttr K Cc "_polynomial"
  f1 : NoAttr K Cf "_curve"
  f2 : NoAttr K Cf "_parts"
  ib : PySem.W.kitOne K (.type "int") (.type "bool") = some false
  mC : mg "Curve" = some (.ref Cc)
  mF : mg "Function" = some (.ref Cf)
  mP : mg "PRIMES" = some (.ref aP)
  hP : ∀ H, SqT K H aP (([3, 5, 7, 11, 13] : List Int).map V.int)
  mM : ∃ t, mg "MOST_POWER" = some (.int 60 t)
def curveD (Cc : Addr) {p : Nat} (f : Pol p) : D := .obj Cc [("_prime", .int p), ("_polynomial", pol f)]
def triD {p : Nat} (t : Tri p) : D := .lst [pol t.1, pol t.2.1, pol t.2.2]
def funD (Cf : Addr) (c : D) {p : Nat} (t : Tri p) : D := .obj Cf [("_curve", c), ("_parts", triD t)]
structure GoodC {p : Nat} [Pr p] (f : Pol p) : Prop where
  len : f.l.length = 2 ∨ f.l.length = 4 ∨ f.l.length = 6 ∨ f.l.length = 8
  lead : f.lead = 1
  sq : gcd f (slope f) = 1
theorem GoodC.ne {p : Nat} [Pr p] {f : Pol p} (h : GoodC f) : f ≠ 0 := fun e => by
  have := h.len
  rw [e, zero_l] at this
  simp at this
theorem bu_bool {X : Fm} (h : BuAll X.mg) : BuN X "bool" (.type "bool") := ⟨h.bool, by decide +kernel, by decide, by decide⟩
theorem pr_mem (p : Nat) [h : Pr p] : (p : Int) ∈ ([3, 5, 7, 11, 13] : List Int) := by
  have := h.is
  simp; omega
theorem g_isN {X : Fm} {ρ : Env} {a : Expr} {pos : Pos} {d : D} {k p2} (ha : GE X a ρ d) : GE X (.Compare a [.Is] [.Constant .none k p2] pos) ρ (.bl d.isNon) :=
  ge_by (fun _ => pe_cmpR op_isN (aE_ok _) pe_non (nomark _)) fun B F H σ e r Q q => ha B F H σ e r _ fun v F2 H2 g rv => ⟨rfl, by rw [rv.isNon]; exact q _ F2 H2 g (.bl _)⟩
section
variable {P : Program} {w : World} {K : PySem.W.Frag} {mg : Str → Option Value} {base : Heap} {f : Addr} {fd : FuncData} {k : Nat} {Cc Cf aP : Addr}
abbrev s_is_whole : Stmt := topS 10
theorem sc_is_whole : FnScope ["value"] ["value"] (defScope s_is_whole) := ⟨rfl, rfl, rfl, by decide +kernel, rfl, by decide +kernel, by decide +kernel⟩
def f_is_whole (ds : List D) (d : D) : Prop := ∃ i, ds = [.int i] ∧ d = .bl true
theorem ok_is_whole (T : KF K mg Cc Cf aP) (F : Fun K "is_whole" "is_whole" s_is_whole f fd) : FnOk P w K mg base CX0 1 f fd ["value"] (spD f_is_whole) := by
  refine fn_D f_is_whole F sc_is_whole (by rintro ds d ⟨p, rfl, _⟩; rfl) fun cdv A outer s H E hr ds d hf => ?_
  obtain ⟨i, rfl, rfl⟩ := hf
  exact ss_one (s_ret (g_and (k := true) (c := true) (g_isi T.bu (g_var 0) (c_ty (bu_int T.bu)) (.ty "int") (.int i) (kit_self _ _)) (fun z => (g_one (g_not (k := false) (g_isi T.bu (g_var 0) (c_ty (bu_bool T.bu)) (.ty "bool") (.int i) T.ib))))) rfl)
abbrev OWh (P w K mg base k) := Own P w K mg base k "is_whole" ["value"] (spD f_is_whole)
abbrev s_is_between : Stmt := topS 11
theorem sc_is_between : FnScope ["value", "low", "high"] ["value", "low", "high"] (defScope s_is_between) := ⟨rfl, rfl, rfl, by decide +kernel, rfl, by decide +kernel, by decide +kernel⟩
def f_is_between (ds : List D) (d : D) : Prop := ∃ i l h, ds = [.int i, .int l, .int h] ∧ l ≤ i ∧ i ≤ h ∧ d = .bl true
theorem ok_is_between (T : KF K mg Cc Cf aP) (O : OWh P w K mg base k) (F : Fun K "is_between" "is_between" s_is_between f fd) : FnOk P w K mg base CX0 (k + 1) f fd ["value", "low", "high"] (spD f_is_between) := by
  refine fn_D f_is_between F sc_is_between (by rintro ds d ⟨i, l, h, rfl, _⟩; rfl) fun cdv A outer s H E hr ds d hf => ?_
  obtain ⟨i, l, h, rfl, h1, h2, rfl⟩ := hf
  have e1 : decide (l ≤ i) = true := decide_eq_true h1
  have e2 : decide (i ≤ h) = true := decide_eq_true h2
  exact ss_one (s_ret (g_and (k := true) (c := true) (g_call O hr (a_cons (g_var 0) a_nil) ⟨i, rfl, rfl⟩) (fun z => (g_and (k := true) (c := true) ((g_geI (g_var 0) (g_var 1)).to (by rw [e1])) (fun z => (g_one (g_or (k := false) (c := true) ((g_isN (d := .int h) (g_var 2)).to rfl) (fun z => (g_one ((g_leI (g_var 0) (g_var 2)).to (by rw [e2])))))))))) rfl)
abbrev OBe (P w K mg base k) := Own P w K mg base k "is_between" ["value", "low", "high"] (spD f_is_between)
abbrev s_check_prime : Stmt := topS 12
theorem sc_check_prime : FnScope ["p"] ["p"] (defScope s_check_prime) := ⟨rfl, rfl, rfl, by decide +kernel, rfl, by decide +kernel, by decide +kernel⟩
def f_check_prime (ds : List D) (d : D) : Prop := ∃ (p : Nat) (_ : Pr p), ds = [.int p] ∧ d = .non
theorem ok_check_prime (T : KF K mg Cc Cf aP) (O : OWh P w K mg base k) (F : Fun K "check_prime" "check_prime" s_check_prime f fd) : FnOk P w K mg base CX0 (k + 1) f fd ["p"] (spD f_check_prime) := by
  refine fn_D f_check_prime F sc_check_prime (by rintro ds d ⟨p, _, rfl, _⟩; rfl) fun cdv A outer s H E hr ds d hf => ?_
  obtain ⟨p, ip, rfl, rfl⟩ := hf
  refine ss_one (s_if (k := false) (t_w (w_or (k := false) (c := false) (t_not (k := true) (t_val (g_call O hr (a_cons (g_var 0) a_nil) ⟨_, rfl, rfl⟩))) (fun z => (w_or1 ((t_notInK (g_var 0) T.mP T.hP).to (by rw [decide_eq_true (pr_mem p)]; rfl)))))) (fun z => absurd z (by decide)) (fun z => ss_nil rfl))
abbrev OCp (P w K mg base k) := Own P w K mg base k "check_prime" ["p"] (spD f_check_prime)
abbrev s_is_poly_list : Stmt := topS 13
theorem sc_is_poly_list : FnScope ["p", "value", "number"] ["p", "value"] (defScope s_is_poly_list) := ⟨rfl, rfl, rfl, by decide +kernel, rfl, by decide +kernel, by decide +kernel⟩
def f_is_poly_list (ds : List D) (d : D) : Prop := ∃ (p : Nat) (_ : Pr p) (A : Pol p), ds = [.int p, pol A] ∧ A.l.length ≤ 61 ∧ d = .bl true
theorem resD_none {tb : Nat → Bool} {f : Nat → D} (n : Nat) (h : ∀ i, tb i = false) : resD tb f n = [] := by
  unfold resD
  rw [List.filter_eq_nil_iff.mpr fun a _ => by rw [h a]; decide]; rfl
theorem ok_is_poly_list (T : KF K mg Cc Cf aP) (O : OBe P w K mg base k) (F : Fun K "is_poly_list" "is_poly_list" s_is_poly_list f fd) : FnOk P w K mg base CX0 (k + 1) f fd ["p", "value"] (spD f_is_poly_list) := by
  refine fn_D f_is_poly_list F sc_is_poly_list (by rintro ds d ⟨p, _, A, rfl, _⟩; rfl) fun cdv A' outer s H E hr ds d hf => ?_
  obtain ⟨p, ip, A, rfl, hA, rfl⟩ := hf
  obtain ⟨t, hM⟩ := T.mM
  have e1 : decide ((60 : Int) + 1 < (A.l.length : Int)) = false := decide_eq_false (by omega)
  refine ss_cons (s_if (k := false) (t_w (w_or (k := false) (c := false) (t_not (k := true) (t_val (g_isi T.bu (g_var 1) (c_ty (bu_list T.bu)) (.ty "list") (.lst _) (kit_self _ _)))) (fun z => (w_or1 ((t_gtI (g_lenI T.bu (g_var 1)) (g_add (g_globI hM) g_int)).to e1))))) (fun z => absurd z (by decide)) (fun z => ss_nil ?_))
  refine ss_cons (s_if (k := false) (t_neL hr (ns := []) ((g_lc (dn_lc [("number", 2)] (fun _ => blkOk_by (N := ["p", "value", "number"]) (sc := defScope s_is_poly_list) (by decide +kernel)) (i_listI (g_var 1)) (by omega) (tb := fun _ => false) (f := fun _ => .non) [2] _ (fun i hi => tg_name) (by decide) (fun i hi => ts_one (t_not (k := true) (t_val (g_call O hr (a_cons (g_var 2) (a_cons g_int (a_cons (g_sub (g_var 0) g_int) a_nil))) ⟨_, _, _, rfl, by rw [cf_getD]; exact (A.cf_rng i).1, by rw [cf_getD]; have := (A.cf_rng i).2; omega, rfl⟩)))) (fun i hi z => absurd z (by decide)) (by intro _ _; rfl))).to (by rw [resD_none _ (fun _ => rfl)]; rfl)) (g_lstI aI_nil)) (fun z => absurd z (by decide)) (fun z => ss_nil ?_))
  by_cases h : A.l = []
  · have e2 : decide (A.l = []) = true := decide_eq_true h
    refine ss_one (s_ret (g_or (k := true) (c := true) ((g_eqL hr (g_var 1) g_nilI).to (by rw [e2])) (fun z => absurd z (by decide))) rfl)
  · have e2 : decide (A.l = []) = false := decide_eq_false h
    have e3 : decide (A.l.getLast h = 0) = false := decide_eq_false (by rw [last_lead h]; exact lead_ne (ne_iff.mp h))
    refine ss_one (s_ret (g_or (k := false) (c := true) ((g_eqL hr (g_var 1) g_nilI).to (by rw [e2])) (fun z => g_one ((g_neI (g_lastI (g_var 1) h) g_int).to (by rw [e3]; rfl)))) rfl)
abbrev OPl (P w K mg base k) := Own P w K mg base k "is_poly_list" ["p", "value"] (spD f_is_poly_list)
abbrev s_check_poly : Stmt := topS 14
theorem sc_check_poly : FnScope ["p", "value"] ["p", "value"] (defScope s_check_poly) := ⟨rfl, rfl, rfl, by decide +kernel, rfl, by decide +kernel, by decide +kernel⟩
def f_check_poly (ds : List D) (d : D) : Prop := ∃ (p : Nat) (_ : Pr p) (A : Pol p), ds = [.int p, pol A] ∧ A.l.length ≤ 61 ∧ d = .non
theorem ok_check_poly (T : KF K mg Cc Cf aP) (O : OPl P w K mg base k) (F : Fun K "check_poly" "check_poly" s_check_poly f fd) : FnOk P w K mg base CX0 (k + 1) f fd ["p", "value"] (spD f_check_poly) := by
  refine fn_D f_check_poly F sc_check_poly (by rintro ds d ⟨p, _, A, rfl, _⟩; rfl) fun cdv A' outer s H E hr ds d hf => ?_
  obtain ⟨p, ip, A, rfl, hA, rfl⟩ := hf
  exact ss_one (s_if (k := false) (t_not (k := true) (t_val (g_call O hr (a_cons (g_var 0) (a_cons (g_var 1) a_nil)) ⟨p, ip, A, rfl, hA, rfl⟩))) (fun z => absurd z (by decide)) (fun z => ss_nil rfl))
abbrev OCk (P w K mg base k) := Own P w K mg base k "check_poly" ["p", "value"] (spD f_check_poly)
abbrev s_is_curve_poly : Stmt := topS 30
theorem sc_is_curve_poly : FnScope ["p", "value"] ["p", "value"] (defScope s_is_curve_poly) := ⟨rfl, rfl, rfl, by decide +kernel, rfl, by decide +kernel, by decide +kernel⟩
def f_is_curve_poly (ds : List D) (d : D) : Prop := ∃ (p : Nat) (_ : Pr p) (A : Pol p), ds = [.int p, pol A] ∧ GoodC A ∧ d = .bl true
theorem ok_is_curve_poly (T : KF K mg Cc Cf aP) (O : OPl P w K mg base k) (O2 : OCom P w K mg base k) (O3 : Own P w K mg base k "slope_of" ["p", "one"] (spD f_slope_of)) (F : Fun K "is_curve_poly" "is_curve_poly" s_is_curve_poly f fd) : FnOk P w K mg base CX0 (k + 1) f fd ["p", "value"] (spD f_is_curve_poly) := by
  refine fn_D f_is_curve_poly F sc_is_curve_poly (by rintro ds d ⟨p, _, A, rfl, _⟩; rfl) fun cdv A' outer s H E hr ds d hf => ?_
  obtain ⟨p, ip, A, rfl, g, rfl⟩ := hf
  have hl := g.len
  have hb := l_ne g.ne
  have hs := slope_len A
  have e1 : decide ((A.l.length : Int) ∈ ([2, 4, 6, 8] : List Int)) = true := decide_eq_true (by simp; omega)
  have e2 : decide (A.l.getLast hb = 1) = true := decide_eq_true (by rw [last_lead hb]; exact g.lead)
  have e3 : decide ((gcd A (slope A)).l = [1]) = true := decide_eq_true (by rw [g.sq, one_l])
  refine ss_cons (s_if (k := false) (t_w (w_or (k := false) (c := false) (t_not (k := true) (t_val (g_call O hr (a_cons (g_var 0) (a_cons (g_var 1) a_nil)) ⟨p, ip, A, rfl, by omega, rfl⟩))) (fun z => (w_or (k := false) (c := false) ((t_notInL (g_lenI T.bu (g_var 1)) (g_lstI (aI_cons g_int (aI_cons g_int (aI_cons g_int (aI_cons g_int aI_nil)))))).to (by rw [e1]; rfl)) (fun z => (w_or1 ((t_neI (g_lastI (g_var 1) hb) g_int).to (by rw [e2]; rfl)))))))) (fun z => absurd z (by decide)) (fun z => ss_nil ?_))
  exact ss_one (s_ret ((g_eqL hr (g_call O2 hr (a_cons (g_var 0) (a_cons (g_var 1) (a_cons (g_call O3 hr (a_cons (g_var 0) (a_cons (g_var 1) a_nil)) ⟨p, ip, A, rfl, by omega, rfl⟩) a_nil))) ⟨p, ip, A, slope A, rfl, by omega, by omega, rfl⟩) (g_lstI (aI_cons g_int aI_nil))).to (by rw [e3])) rfl)
abbrev OCv (P w K mg base k) := Own P w K mg base k "is_curve_poly" ["p", "value"] (spD f_is_curve_poly)
end
end Cv
end
section
set_option Elab.async false
set_option linter.all false
set_option maxRecDepth 100000
set_option maxHeartbeats 4000000
namespace Cv
open PySem L2 Evl
section
variable {P : Program} {w : World} {K : PySem.W.Frag} {mg : Str → Option Value} {base : Heap} {f : Addr} {fd : FuncData} {k : Nat} {Cc Cf aP : Addr}
/-! Curve -/
abbrev s_cInit : Stmt := inClass (topS 29) 0
abbrev s_cPrime : Stmt := inClass (topS 29) 1
abbrev s_cPoly : Stmt := inClass (topS 29) 2
abbrev s_cEq : Stmt := inClass (topS 29) 4
theorem sc_cInit : FnScope ["self", "p", "f"] ["self", "p", "f"] (defScope s_cInit) := ⟨rfl, rfl, rfl, by decide +kernel, rfl, by decide +kernel, by decide +kernel⟩
theorem sc_cPrime : FnScope ["self"] ["self"] (defScope s_cPrime) := ⟨rfl, rfl, rfl, by decide +kernel, rfl, by decide +kernel, by decide +kernel⟩
theorem sc_cPoly : FnScope ["self"] ["self"] (defScope s_cPoly) := ⟨rfl, rfl, rfl, by decide +kernel, rfl, by decide +kernel, by decide +kernel⟩
theorem sc_cEq : FnScope ["self", "other"] ["self", "other"] (defScope s_cEq) := ⟨rfl, rfl, rfl, by decide +kernel, rfl, by decide +kernel, by decide +kernel⟩
def f_cInit (ds : List D) (fs : List (Str × D)) : Prop := ∃ (p : Nat) (_ : Pr p) (A : Pol p), ds = [.int p, pol A] ∧ GoodC A ∧ fs = [(("_prime" : Str), .int p), (("_polynomial" : Str), pol A)]
theorem ok_cInit (T : KF K mg Cc Cf aP) (O : OCp P w K mg base k) (O2 : OCv P w K mg base k) (F : Fun K "__init__" "Curve.__init__" s_cInit f fd) : FnOk P w K mg base CX0 (k + 1) f fd ["self", "p", "f"] (spI Cc f_cInit) := by
  refine fn_I f_cInit F sc_cInit (by rintro ds d ⟨p, _, A, rfl, _⟩; rfl) fun cdv A' outer s H E hr xA ds fs hf => ?_
  obtain ⟨p, ip, A, rfl, g, rfl⟩ := hf
  refine ss_cons (s_drop (g_call O hr (a_cons (g_var 1) a_nil) ⟨p, ip, rfl, rfl⟩) ?_)
  refine ss_cons (s_if (k := false) (t_not (k := true) (t_val (g_call O2 hr (a_cons (g_var 1) (a_cons (g_var 2) a_nil)) ⟨p, ip, A, rfl, g, rfl⟩))) (fun z => absurd z (by decide)) (fun z => ss_nil ?_))
  refine ss_cons (s_fld 0 (fs := []) (g_var 1) ?_ T.oc.cl T.c1)
  exact ss_one (s_fld 0 (fs := [("_prime", .int p)]) (g_list T.bu (g_var 2)) rfl T.oc.cl T.c2)
def f_cPrime (Cc : Addr) (ds : List D) (d : D) : Prop := ∃ (p : Nat) (A : Pol p), ds = [curveD Cc A] ∧ d = .int p
theorem ok_cPrime (T : KF K mg Cc Cf aP) (F : Fun K "prime" "Curve.prime" s_cPrime f fd) : FnOk P w K mg base CX0 1 f fd ["self"] (spD (f_cPrime Cc)) := by
  refine fn_D (f_cPrime Cc) F sc_cPrime (by rintro ds d ⟨p, A, rfl, _⟩; rfl) fun cdv A' outer s H E hr ds d hf => ?_
  obtain ⟨p, A, rfl, rfl⟩ := hf
  exact ss_one (s_ret (g_fld (g_var 0) rfl T.oc.cl T.c1) rfl)
def f_cPoly (Cc : Addr) (ds : List D) (d : D) : Prop := ∃ (p : Nat) (A : Pol p), ds = [curveD Cc A] ∧ d = pol A
theorem ok_cPoly (T : KF K mg Cc Cf aP) (F : Fun K "polynomial" "Curve.polynomial" s_cPoly f fd) : FnOk P w K mg base CX0 1 f fd ["self"] (spD (f_cPoly Cc)) := by
  refine fn_D (f_cPoly Cc) F sc_cPoly (by rintro ds d ⟨p, A, rfl, _⟩; rfl) fun cdv A' outer s H E hr ds d hf => ?_
  obtain ⟨p, A, rfl, rfl⟩ := hf
  exact ss_one (s_ret (g_list T.bu (ds := A.l.map .int) (g_fld (d := pol A) (g_var 0) rfl T.oc.cl T.c2)) rfl)
def goodD (Cc : Addr) (c : D) : Prop := ∃ (p : Nat) (A : Pol p), c = curveD Cc A
theorem ok_cEq (T : KF K mg Cc Cf aP) (F : Fun K "__eq__" "Curve.__eq__" s_cEq f fd) : FnOk P w K mg base CX0 1 f fd ["self", "other"] (spD fun ds d => ∃ c, goodD Cc c ∧ ds = [c, c] ∧ d = .bl true) := by
  refine fn_D _ F sc_cEq (by rintro ds d ⟨c, _, rfl, _⟩; rfl) fun cdv A' outer s H E hr ds d hf => ?_
  obtain ⟨c, ⟨p, A, rfl⟩, rfl, rfl⟩ := hf
  refine ss_cons (s_if (k := false) (t_not (k := true) (t_val (g_isi T.bu (d := curveD Cc A) (g_var 1) (c_own T.mC) (.own Cc) (T.oc.ty _) (kit_self _ _)))) (fun z => absurd z (by decide)) (fun z => ss_nil ?_))
  exact ss_one (s_ret (g_and (k := true) (c := true) ((g_eqI (i := (p : Int)) (j := (p : Int)) (g_fld (d := .int p) (g_var 0) rfl T.oc.cl T.c1) (g_fld (d := .int p) (g_var 1) rfl T.oc.cl T.c1)).to (by rw [decide_eq_true rfl])) (fun z => g_one ((g_eqL hr (ns := A.l) (ms := A.l) (g_fld (d := pol A) (g_var 0) rfl T.oc.cl T.c2) (g_fld (d := pol A) (g_var 1) rfl T.oc.cl T.c2)).to (by rw [decide_eq_true rfl])))) rfl)
def f_check_curve (Cc : Addr) (ds : List D) (d : D) : Prop := ∃ (p : Nat) (A : Pol p), ds = [curveD Cc A] ∧ d = .non
/-- the methods of Curve, for callers -/
structure MC (P : Program) (w : World) (K : PySem.W.Frag) (mg : Str → Option Value) (base : Heap) (k : Nat) (Cc : Addr) : Prop where
  prime : OwnM P w K mg base k Cc "prime" ["self"] (spD (f_cPrime Cc))
  poly : OwnM P w K mg base k Cc "polynomial" ["self"] (spD (f_cPoly Cc))
section
variable {X : Fm} {ρ : Env} {o : Expr} {pos apos : Pos} {p : Nat} {A : Pol p}
theorem g_prime {pl : X.ι → Sem Bool} (M : MC X.P X.w X.K X.mg X.base k Cc) (T : KF X.K X.mg Cc Cf aP) (hr : Room k X.A) (h : GE X o ρ (curveD Cc A))
    (ht : ∀ j, eval (.Call (.Attribute o "prime" apos) [] [] pos) (X.Y j).env = (do
      let q ← eval o (X.Y j).env
      standAt apos.atName
      let (q1, q2) ← holding [q] (getMethod q "prime" (pl j))
      callWith pos q1 q2 (backTo pos (starEach [] (X.Y j).env)) (backToKw pos (keywordEach [] (X.Y j).env))) := by intro _; rfl) : GE X (.Call (.Attribute o "prime" apos) [] [] pos) ρ (.int p) :=
  g_meth0 M.prime hr T.oc.cl h rfl ⟨p, A, rfl, rfl⟩ ht
theorem g_poly {pl : X.ι → Sem Bool} (M : MC X.P X.w X.K X.mg X.base k Cc) (T : KF X.K X.mg Cc Cf aP) (hr : Room k X.A) (h : GE X o ρ (curveD Cc A))
    (ht : ∀ j, eval (.Call (.Attribute o "polynomial" apos) [] [] pos) (X.Y j).env = (do
      let q ← eval o (X.Y j).env
      standAt apos.atName
      let (q1, q2) ← holding [q] (getMethod q "polynomial" (pl j))
      callWith pos q1 q2 (backTo pos (starEach [] (X.Y j).env)) (backToKw pos (keywordEach [] (X.Y j).env))) := by intro _; rfl) : GE X (.Call (.Attribute o "polynomial" apos) [] [] pos) ρ (pol A) :=
  g_meth0 M.poly hr T.oc.cl h rfl ⟨p, A, rfl, rfl⟩ ht
end
/-! least_parts -/
abbrev OWp (P w K mg base k) := Own P w K mg base k "whole_part" ["p", "one", "other"] (spD f_whole_part)
abbrev s_least_parts : Stmt := topS 33
theorem sc_least_parts : FnScope ["p", "top", "side", "bottom", "common", "parts", "back", "part"] ["p", "top", "side", "bottom"] (defScope s_least_parts) := ⟨rfl, rfl, rfl, by decide +kernel, rfl, by decide +kernel, by decide +kernel⟩
def f_least_parts (ds : List D) (d : D) : Prop := ∃ (p : Nat) (_ : Pr p) (t : Tri p), ds = [.int p, pol t.1, pol t.2.1, pol t.2.2] ∧ t.1.l.length ≤ 5000 ∧ t.2.1.l.length ≤ 5000 ∧ t.2.2.l.length ≤ 5000 ∧ t.2.2 ≠ 0 ∧ d = triD (least t)
/-- three in a row -/
def pick {α : Type} (a b c : α) : Nat → α
  | 0 => a
  | 1 => b
  | _ => c
theorem pick_getD (a b c : D) : ∀ i, i < 3 → [a, b, c].getD i .non = pick a b c i
  | 0, _ => rfl
  | 1, _ => rfl
  | 2, _ => rfl
  | i + 3, h => by omega
theorem pick_res (a b c : D) : resD (fun _ => true) (pick a b c) 3 = [a, b, c] := rfl
theorem pick_map {α β : Type} (f : α → β) (a b c : α) : ∀ i, f (pick a b c i) = pick (f a) (f b) (f c) i
  | 0 => rfl
  | 1 => rfl
  | i + 2 => rfl
theorem pick_all {α : Type} {Q : α → Prop} {a b c : α} (h1 : Q a) (h2 : Q b) (h3 : Q c) : ∀ i, Q (pick a b c i)
  | 0 => h1
  | 1 => h2
  | i + 2 => h3
theorem ok_least_parts (T : KF K mg Cc Cf aP) (OG : OCom P w K mg base k) (OW : OWp P w K mg base k) (OI : OInv P w K mg base k) (OS : OScal P w K mg base k) (F : Fun K "least_parts" "least_parts" s_least_parts f fd) : FnOk P w K mg base CX0 (k + 1) f fd ["p", "top", "side", "bottom"] (spD f_least_parts) := by
  refine fn_D f_least_parts F sc_least_parts (by rintro ds d ⟨p, _, t, rfl, _⟩; rfl) fun cdv A' outer s H E hr ds d hf => ?_
  obtain ⟨p, ip, ⟨A, B, C⟩, rfl, hA, hB, hC, h0, rfl⟩ := hf
  simp only at hA hB hC h0
  have bu := T.bu
  have hp := Pr.le13 p
  have lg := len_gcd A B
  have lg3 := len_gcdR (A := gcd A B) h0
  have hg := gcd3_ne (t := (A, B, C)) h0
  have hg' : gcd (gcd A B) C ≠ 0 := hg
  obtain ⟨d1, d2, d3⟩ := gcd3_dvd (A, B, C)
  have e3 : C = quo C (gcd (gcd A B) C) * gcd (gcd A B) C := quo_dvd d3
  have hq : quo C (gcd (gcd A B) C) ≠ 0 := fun z => h0 (by rw [e3, z]; grind)
  have hb := l_ne hq
  have hinv := inv_spec (lead_mod hq)
  have q1 := len_quo A _ hg'
  have q2 := len_quo B _ hg'
  have q3 := len_quo C _ hg'
  unfold Pol.len at lg lg3 q1 q2 q3
  have hd : triD (least (A, B, C)) = .lst [pol (Pol.C (inv p (quo C (gcd (gcd A B) C)).lead) * quo A (gcd (gcd A B) C)), pol (Pol.C (inv p (quo C (gcd (gcd A B) C)).lead) * quo B (gcd (gcd A B) C)), pol (Pol.C (inv p (quo C (gcd (gcd A B) C)).lead) * quo C (gcd (gcd A B) C))] := rfl
  rw [hd]
  generalize hG : gcd (gcd A B) C = G at *
  refine ss_cons (s_set 4 (g_call OG hr (a_cons (g_var 0) (a_cons (g_call OG hr (a_cons (g_var 0) (a_cons (g_var 1) (a_cons (g_var 2) a_nil))) ⟨p, ip, A, B, rfl, by omega, by omega, rfl⟩) (a_cons (g_var 3) a_nil))) ⟨p, ip, gcd A B, C, rfl, by omega, by omega, by rw [hG]⟩) ?_)
  refine ss_cons (s_setLc 5 ((dn_lc [("part", 7)] (fun _ => blkOk_by (N := ["p", "top", "side", "bottom", "common", "parts", "back", "part"]) (sc := defScope s_least_parts) (by decide +kernel)) ((i_tup (g_tup (a_cons (g_var 1) (a_cons (g_var 2) (a_cons (g_var 3) a_nil))))).src (src' := pick (pol A) (pol B) (pol C)) (pick_getD _ _ _)) (of_decide_eq_true rfl) (tb := fun _ => true) (f := fun i => pol (quo (pick A B C i) G)) [7] _ (fun i hi => tg_name) (by decide) (fun i hi => ts_nil) (fun i hi _ => (g_call OW hr (a_cons (g_var 0) (a_cons (g_var 7) (a_cons (g_var 4) a_nil))) ⟨p, ip, pick A B C i, G, by rw [pick_map (pol (p := p))], pick_all (Q := fun X : Pol p => X.l.length ≤ 20000) (by omega) (by omega) (by omega) i, by omega, hg', rfl⟩)) (by intro _ _; rfl)).to (d' := [pol (quo A G), pol (quo B G), pol (quo C G)]) rfl) ?_)
  refine ss_cons (s_set 6 (g_call OI hr (a_cons (g_var 0) (a_cons (g_lastI (ns := (quo C G).l) (g_ixL (i := 2) (d := pol (quo C G)) (g_var 5) g_int rfl) hb) a_nil)) ⟨p, ip, (quo C G).lead, by rw [last_lead hb], lead_mod hq, rfl⟩) ?_)
  refine ss_one (s_ret (g_lc ((dn_lc [("part", 7)] (fun _ => blkOk_by (N := ["p", "top", "side", "bottom", "common", "parts", "back", "part"]) (sc := defScope s_least_parts) (by decide +kernel)) ((i_list (ds := [pol (quo A G), pol (quo B G), pol (quo C G)]) (g_var 5)).src (src' := pick (pol (quo A G)) (pol (quo B G)) (pol (quo C G))) (pick_getD _ _ _)) (of_decide_eq_true rfl) (tb := fun _ => true) (f := fun i => pol (Pol.C (inv p (quo C G).lead) * pick (quo A G) (quo B G) (quo C G) i)) [7] _ (fun i hi => tg_name) (by decide) (fun i hi => ts_nil) (fun i hi _ => (g_call OS hr (a_cons (g_var 0) (a_cons (g_var 7) (a_cons (g_var 6) a_nil))) ⟨p, ip, pick (quo A G) (quo B G) (quo C G) i, _, by rw [pick_map (pol (p := p))], pick_all (Q := fun X : Pol p => X.l.length ≤ 20000) (by omega) (by omega) (by omega) i, by omega, by omega, rfl⟩)) (by intro _ _; rfl)))) rfl)
abbrev OLp (P w K mg base k) := Own P w K mg base k "least_parts" ["p", "top", "side", "bottom"] (spD f_least_parts)
end
end Cv
end
section
set_option Elab.async false
set_option linter.all false
set_option maxRecDepth 100000
set_option maxHeartbeats 4000000
namespace Cv
open PySem L2 Evl
section
variable {P : Program} {w : World} {K : PySem.W.Frag} {mg : Str → Option Value} {base : Heap} {f : Addr} {fd : FuncData} {k : Nat} {Cc Cf aP : Addr}
/-! Function -/
abbrev s_fInit : Stmt := inClass (topS 32) 0
abbrev s_fCurve : Stmt := inClass (topS 32) 1
abbrev s_fTop : Stmt := inClass (topS 32) 2
abbrev s_fSide : Stmt := inClass (topS 32) 3
abbrev s_fBottom : Stmt := inClass (topS 32) 4
theorem sc_fInit : FnScope ["self", "curve", "top", "side", "bottom", "part"] ["self", "curve", "top", "side", "bottom"] (defScope s_fInit) := ⟨rfl, rfl, rfl, by decide +kernel, rfl, by decide +kernel, by decide +kernel⟩
theorem sc_fCurve : FnScope ["self"] ["self"] (defScope s_fCurve) := ⟨rfl, rfl, rfl, by decide +kernel, rfl, by decide +kernel, by decide +kernel⟩
theorem sc_fTop : FnScope ["self"] ["self"] (defScope s_fTop) := ⟨rfl, rfl, rfl, by decide +kernel, rfl, by decide +kernel, by decide +kernel⟩
theorem sc_fSide : FnScope ["self"] ["self"] (defScope s_fSide) := ⟨rfl, rfl, rfl, by decide +kernel, rfl, by decide +kernel, by decide +kernel⟩
theorem sc_fBottom : FnScope ["self"] ["self"] (defScope s_fBottom) := ⟨rfl, rfl, rfl, by decide +kernel, rfl, by decide +kernel, by decide +kernel⟩
def f_fInit (Cc : Addr) (ds : List D) (fs : List (Str × D)) : Prop := ∃ (p : Nat) (_ : Pr p) (g : Pol p) (t : Tri p), ds = [curveD Cc g, pol t.1, pol t.2.1, pol t.2.2] ∧ t.1.l.length ≤ 61 ∧ t.2.1.l.length ≤ 61 ∧ t.2.2.l.length ≤ 61 ∧ t.2.2 ≠ 0 ∧ fs = [(("_curve" : Str), curveD Cc g), (("_parts" : Str), triD (least t))]
theorem ok_fInit (T : KF K mg Cc Cf aP) (O : OCk P w K mg base k) (M : MC P w K mg base k Cc) (OL : OLp P w K mg base k) (F : Fun K "__init__" "Function.__init__" s_fInit f fd) : FnOk P w K mg base CX0 (k + 1) f fd ["self", "curve", "top", "side", "bottom"] (spI Cf (f_fInit Cc)) := by
  refine fn_I (f_fInit Cc) F sc_fInit (by rintro ds d ⟨p, _, A, t, rfl, _⟩; rfl) fun cdv A' outer s H E hr xA ds fs hf => ?_
  obtain ⟨p, ip, g, ⟨A, B, C⟩, rfl, hA, hB, hC, h0, rfl⟩ := hf
  simp only at hA hB hC h0
  have e1 : decide (C.l = []) = false := decide_eq_false (l_ne h0)
  refine ss_cons (s_if (k := false) (t_not (k := true) (t_val (g_isi T.bu (d := curveD Cc g) (g_var 1) (c_own T.mC) (.own Cc) (T.oc.ty _) (kit_self _ _)))) (fun z => absurd z (by decide)) (fun z => ss_nil ?_))
  refine ss_cons (s_for ((i_tup (g_tup (a_cons (g_var 2) (a_cons (g_var 3) (a_cons (g_var 4) a_nil))))).src (src' := pick (pol A) (pol B) (pol C)) (pick_getD _ _ _)) (fun i ρ1 => ∃ a, ρ1 = [some (.ob xA Cf []), some (.sh (curveD Cc g)), some (.sh (pol A)), some (.sh (pol B)), some (.sh (pol C)), a]) ⟨none, rfl⟩ ?_ ?_)
  · rintro i ρ1 hi ⟨a, rfl⟩
    refine ⟨[5], _, tg_name, ?_⟩
    exact ss_one (s_drop (g_call O hr (a_cons (g_prime M T hr (g_var 1)) (a_cons (g_var 5) a_nil)) ⟨p, ip, pick A B C i, by rw [pick_map (pol (p := p))], pick_all (Q := fun X : Pol p => X.l.length ≤ 61) hA hB hC i, rfl⟩) ⟨_, rfl⟩)
  · rintro ρ1 ⟨a, rfl⟩
    refine ss_cons (s_if (k := false) ((t_eqL hr (g_var 4) g_nilI).to e1) (fun z => absurd z (by decide)) (fun z => ss_nil ?_))
    refine ss_cons (s_fld 0 (fs := []) (g_var 1) ?_ T.of.cl T.f1)
    exact ss_one (s_fld 0 (fs := [("_curve", curveD Cc g)]) (g_call OL hr (a_cons (g_prime M T hr (g_var 1)) (a_cons (g_var 2) (a_cons (g_var 3) (a_cons (g_var 4) a_nil)))) ⟨p, ip, (A, B, C), rfl, by simp only; omega, by simp only; omega, by simp only; omega, h0, rfl⟩) rfl T.of.cl T.f2)
def f_fCurve (Cf : Addr) (ds : List D) (d : D) : Prop := ∃ (p : Nat) (c : D) (t : Tri p), ds = [funD Cf c t] ∧ d = c
def f_fTop (Cf : Addr) (ds : List D) (d : D) : Prop := ∃ (p : Nat) (c : D) (t : Tri p), ds = [funD Cf c t] ∧ d = pol t.1
def f_fSide (Cf : Addr) (ds : List D) (d : D) : Prop := ∃ (p : Nat) (c : D) (t : Tri p), ds = [funD Cf c t] ∧ d = pol t.2.1
def f_fBottom (Cf : Addr) (ds : List D) (d : D) : Prop := ∃ (p : Nat) (c : D) (t : Tri p), ds = [funD Cf c t] ∧ d = pol t.2.2
theorem ok_fCurve (T : KF K mg Cc Cf aP) (F : Fun K "curve" "Function.curve" s_fCurve f fd) : FnOk P w K mg base CX0 1 f fd ["self"] (spD (f_fCurve Cf)) := by
  refine fn_D (f_fCurve Cf) F sc_fCurve (by rintro ds d ⟨p, c, t, rfl, _⟩; rfl) fun cdv A' outer s H E hr ds d hf => ?_
  obtain ⟨p, c, t, rfl, rfl⟩ := hf
  exact ss_one (s_ret (g_fld (g_var 0) rfl T.of.cl T.f1) rfl)
theorem ok_fTop (T : KF K mg Cc Cf aP) (F : Fun K "top" "Function.top" s_fTop f fd) : FnOk P w K mg base CX0 1 f fd ["self"] (spD (f_fTop Cf)) := by
  refine fn_D (f_fTop Cf) F sc_fTop (by rintro ds d ⟨p, c, t, rfl, _⟩; rfl) fun cdv A' outer s H E hr ds d hf => ?_
  obtain ⟨p, c, t, rfl, rfl⟩ := hf
  exact ss_one (s_ret (g_list T.bu (ds := t.1.l.map .int) (g_ixL (i := 0) (d := pol t.1) (ds := [pol t.1, pol t.2.1, pol t.2.2]) (g_fld (d := triD t) (g_var 0) rfl T.of.cl T.f2) g_int rfl)) rfl)
theorem ok_fSide (T : KF K mg Cc Cf aP) (F : Fun K "side" "Function.side" s_fSide f fd) : FnOk P w K mg base CX0 1 f fd ["self"] (spD (f_fSide Cf)) := by
  refine fn_D (f_fSide Cf) F sc_fSide (by rintro ds d ⟨p, c, t, rfl, _⟩; rfl) fun cdv A' outer s H E hr ds d hf => ?_
  obtain ⟨p, c, t, rfl, rfl⟩ := hf
  exact ss_one (s_ret (g_list T.bu (ds := t.2.1.l.map .int) (g_ixL (i := 1) (d := pol t.2.1) (ds := [pol t.1, pol t.2.1, pol t.2.2]) (g_fld (d := triD t) (g_var 0) rfl T.of.cl T.f2) g_int rfl)) rfl)
theorem ok_fBottom (T : KF K mg Cc Cf aP) (F : Fun K "bottom" "Function.bottom" s_fBottom f fd) : FnOk P w K mg base CX0 1 f fd ["self"] (spD (f_fBottom Cf)) := by
  refine fn_D (f_fBottom Cf) F sc_fBottom (by rintro ds d ⟨p, c, t, rfl, _⟩; rfl) fun cdv A' outer s H E hr ds d hf => ?_
  obtain ⟨p, c, t, rfl, rfl⟩ := hf
  exact ss_one (s_ret (g_list T.bu (ds := t.2.2.l.map .int) (g_ixL (i := 2) (d := pol t.2.2) (ds := [pol t.1, pol t.2.1, pol t.2.2]) (g_fld (d := triD t) (g_var 0) rfl T.of.cl T.f2) g_int rfl)) rfl)
/-- the methods of Function, for callers -/
structure MF (P : Program) (w : World) (K : PySem.W.Frag) (mg : Str → Option Value) (base : Heap) (k : Nat) (Cf : Addr) : Prop where
  curve : OwnM P w K mg base k Cf "curve" ["self"] (spD (f_fCurve Cf))
  top : OwnM P w K mg base k Cf "top" ["self"] (spD (f_fTop Cf))
  side : OwnM P w K mg base k Cf "side" ["self"] (spD (f_fSide Cf))
  bottom : OwnM P w K mg base k Cf "bottom" ["self"] (spD (f_fBottom Cf))
section
variable {X : Fm} {ρ : Env} {o : Expr} {pos apos : Pos} {p : Nat} {c : D} {t : Tri p}
theorem g_fcurve {pl : X.ι → Sem Bool} (M : MF X.P X.w X.K X.mg X.base k Cf) (T : KF X.K X.mg Cc Cf aP) (hr : Room k X.A) (h : GE X o ρ (funD Cf c t))
    (ht : ∀ j, eval (.Call (.Attribute o "curve" apos) [] [] pos) (X.Y j).env = (do
      let q ← eval o (X.Y j).env
      standAt apos.atName
      let (q1, q2) ← holding [q] (getMethod q "curve" (pl j))
      callWith pos q1 q2 (backTo pos (starEach [] (X.Y j).env)) (backToKw pos (keywordEach [] (X.Y j).env))) := by intro _; rfl) : GE X (.Call (.Attribute o "curve" apos) [] [] pos) ρ c :=
  g_meth0 M.curve hr T.of.cl h rfl ⟨p, c, t, rfl, rfl⟩ ht
theorem g_top {pl : X.ι → Sem Bool} (M : MF X.P X.w X.K X.mg X.base k Cf) (T : KF X.K X.mg Cc Cf aP) (hr : Room k X.A) (h : GE X o ρ (funD Cf c t))
    (ht : ∀ j, eval (.Call (.Attribute o "top" apos) [] [] pos) (X.Y j).env = (do
      let q ← eval o (X.Y j).env
      standAt apos.atName
      let (q1, q2) ← holding [q] (getMethod q "top" (pl j))
      callWith pos q1 q2 (backTo pos (starEach [] (X.Y j).env)) (backToKw pos (keywordEach [] (X.Y j).env))) := by intro _; rfl) : GE X (.Call (.Attribute o "top" apos) [] [] pos) ρ (pol t.1) :=
  g_meth0 M.top hr T.of.cl h rfl ⟨p, c, t, rfl, rfl⟩ ht
theorem g_side {pl : X.ι → Sem Bool} (M : MF X.P X.w X.K X.mg X.base k Cf) (T : KF X.K X.mg Cc Cf aP) (hr : Room k X.A) (h : GE X o ρ (funD Cf c t))
    (ht : ∀ j, eval (.Call (.Attribute o "side" apos) [] [] pos) (X.Y j).env = (do
      let q ← eval o (X.Y j).env
      standAt apos.atName
      let (q1, q2) ← holding [q] (getMethod q "side" (pl j))
      callWith pos q1 q2 (backTo pos (starEach [] (X.Y j).env)) (backToKw pos (keywordEach [] (X.Y j).env))) := by intro _; rfl) : GE X (.Call (.Attribute o "side" apos) [] [] pos) ρ (pol t.2.1) :=
  g_meth0 M.side hr T.of.cl h rfl ⟨p, c, t, rfl, rfl⟩ ht
theorem g_bottom {pl : X.ι → Sem Bool} (M : MF X.P X.w X.K X.mg X.base k Cf) (T : KF X.K X.mg Cc Cf aP) (hr : Room k X.A) (h : GE X o ρ (funD Cf c t))
    (ht : ∀ j, eval (.Call (.Attribute o "bottom" apos) [] [] pos) (X.Y j).env = (do
      let q ← eval o (X.Y j).env
      standAt apos.atName
      let (q1, q2) ← holding [q] (getMethod q "bottom" (pl j))
      callWith pos q1 q2 (backTo pos (starEach [] (X.Y j).env)) (backToKw pos (keywordEach [] (X.Y j).env))) := by intro _; rfl) : GE X (.Call (.Attribute o "bottom" apos) [] [] pos) ρ (pol t.2.2) :=
  g_meth0 M.bottom hr T.of.cl h rfl ⟨p, c, t, rfl, rfl⟩ ht
end
/-! made, parts_of, check_function -/
abbrev OFun (P w K mg base k Cc Cf) := OwnC P w K mg base k "Function" Cf ["self", "curve", "top", "side", "bottom"] (f_fInit Cc)
abbrev s_made : Stmt := topS 34
theorem sc_made : FnScope ["curve", "top", "side", "bottom", "found"] ["curve", "top", "side", "bottom"] (defScope s_made) := ⟨rfl, rfl, rfl, by decide +kernel, rfl, by decide +kernel, by decide +kernel⟩
def f_made (Cc Cf : Addr) (ds : List D) (d : D) : Prop := ∃ (p : Nat) (_ : Pr p) (g : Pol p) (t : Tri p), ds = [curveD Cc g, pol t.1, pol t.2.1, pol t.2.2] ∧ t.1.l.length ≤ 5000 ∧ t.2.1.l.length ≤ 5000 ∧ t.2.2.l.length ≤ 5000 ∧ t.2.2 ≠ 0 ∧ d = funD Cf (curveD Cc g) (least t)
theorem ok_made (T : KF K mg Cc Cf aP) (O : OFun P w K mg base k Cc Cf) (M : MC P w K mg base k Cc) (OL : OLp P w K mg base k) (F : Fun K "made" "made" s_made f fd) : FnOk P w K mg base CX0 (k + 1) f fd ["curve", "top", "side", "bottom"] (spD (f_made Cc Cf)) := by
  refine fn_D (f_made Cc Cf) F sc_made (by rintro ds d ⟨p, _, g, t, rfl, _⟩; rfl) fun cdv A' outer s H E hr ds d hf => ?_
  obtain ⟨p, ip, g, t, rfl, hA, hB, hC, h0, rfl⟩ := hf
  refine ss_cons (s_setM 4 (fs := [("_curve", curveD Cc g), ("_parts", triD (least ((0, 0, 1) : Tri p)))]) (gm_make O hr (a_cons (g_var 0) (a_cons (DE.to g_nilI pol0.symm) (a_cons (DE.to g_nilI pol0.symm) (a_cons (DE.to (g_lstI (aI_cons g_int aI_nil)) pol1.symm) a_nil)))) ⟨p, ip, g, (0, 0, 1), rfl, by simp only; rw [zero_l]; simp, by simp only; rw [zero_l]; simp, by simp only; rw [one_l]; simp, one_ne_zero, rfl⟩) fun l => ?_)
  refine ss_cons (s_fld 4 (fs := [("_curve", curveD Cc g), ("_parts", triD (least ((0, 0, 1) : Tri p)))]) (g_call OL hr (a_cons (g_prime M T hr (g_var 0)) (a_cons (g_var 1) (a_cons (g_var 2) (a_cons (g_var 3) a_nil)))) ⟨p, ip, t, rfl, hA, hB, hC, h0, rfl⟩) ?_ T.of.cl T.f2)
  refine ss_freezeM 4 (C := Cf) (l := l) (fs := [("_curve", curveD Cc g), ("_parts", triD (least t))]) ?_
  exact ss_one (s_ret (g_var 4) rfl)
abbrev OMade (P w K mg base k Cc Cf) := Own P w K mg base k "made" ["curve", "top", "side", "bottom"] (spD (f_made Cc Cf))
abbrev s_parts_of : Stmt := topS 35
theorem sc_parts_of : FnScope ["function", "curve"] ["function"] (defScope s_parts_of) := ⟨rfl, rfl, rfl, by decide +kernel, rfl, by decide +kernel, by decide +kernel⟩
def f_parts_of (Cc Cf : Addr) (ds : List D) (d : D) : Prop := ∃ (p : Nat) (g : Pol p) (t : Tri p), ds = [funD Cf (curveD Cc g) t] ∧ d = .tup [.int p, pol g, pol t.1, pol t.2.1, pol t.2.2]
theorem ok_parts_of (T : KF K mg Cc Cf aP) (M : MC P w K mg base k Cc) (N : MF P w K mg base k Cf) (F : Fun K "parts_of" "parts_of" s_parts_of f fd) : FnOk P w K mg base CX0 (k + 1) f fd ["function"] (spD (f_parts_of Cc Cf)) := by
  refine fn_D (f_parts_of Cc Cf) F sc_parts_of (by rintro ds d ⟨p, g, t, rfl, _⟩; rfl) fun cdv A' outer s H E hr ds d hf => ?_
  obtain ⟨p, g, t, rfl, rfl⟩ := hf
  refine ss_cons (s_set 1 (g_fcurve N T hr (c := curveD Cc g) (t := t) (g_var 0)) ?_)
  exact ss_one (s_ret (g_tup (a_cons (g_prime M T hr (A := g) (g_var 1)) (a_cons (g_poly M T hr (A := g) (g_var 1)) (a_cons (g_top N T hr (c := curveD Cc g) (t := t) (g_var 0)) (a_cons (g_side N T hr (c := curveD Cc g) (t := t) (g_var 0)) (a_cons (g_bottom N T hr (c := curveD Cc g) (t := t) (g_var 0)) a_nil)))))) rfl)
abbrev OPo (P w K mg base k Cc Cf) := Own P w K mg base k "parts_of" ["function"] (spD (f_parts_of Cc Cf))
abbrev s_check_function : Stmt := topS 37
theorem sc_check_function : FnScope ["function"] ["function"] (defScope s_check_function) := ⟨rfl, rfl, rfl, by decide +kernel, rfl, by decide +kernel, by decide +kernel⟩
def f_check_function (Cf : Addr) (ds : List D) (d : D) : Prop := ∃ (p : Nat) (c : D) (t : Tri p), ds = [funD Cf c t] ∧ d = .non
theorem ok_check_function (T : KF K mg Cc Cf aP) (F : Fun K "check_function" "check_function" s_check_function f fd) : FnOk P w K mg base CX0 1 f fd ["function"] (spD (f_check_function Cf)) := by
  refine fn_D _ F sc_check_function (by rintro ds d ⟨p, c, t, rfl, _⟩; rfl) fun cdv A' outer s H E hr ds d hf => ?_
  obtain ⟨p, c, t, rfl, rfl⟩ := hf
  exact ss_one (s_if (k := false) (t_not (k := true) (t_val (g_isi T.bu (d := funD Cf c t) (g_var 0) (c_own T.mF) (.own Cf) (T.of.ty _) (kit_self _ _)))) (fun z => absurd z (by decide)) (fun z => ss_nil rfl))
abbrev OCf (P w K mg base k Cf) := Own P w K mg base k "check_function" ["function"] (spD (f_check_function Cf))
end
end Cv
end
section
set_option Elab.async false
set_option linter.all false
set_option maxRecDepth 100000
set_option maxHeartbeats 4000000
namespace Cv
open PySem L2 Evl
section
variable {X : Fm} {ρ : Env} {a b c : Expr} {pos : Pos} {ds : List D} {k : Bool}
theorem gn_ifT (h : GT X c ρ k) (h1 : k = true → GN X a ρ ds) (h2 : k = false → GN X b ρ ds) : GN X (.IfExp c a b pos) ρ ds :=
  gn_by (fun j => pe_ifExp (aT_ok j) (aE_ok j) (aE_ok j)) fun B F H σ e r Q q => h B F H σ e r _ fun F2 H2 g => by
    cases k with
    | true => exact h1 rfl B F2 H2 σ g.fh (r.grow g) Q fun l xs F3 H3 g3 a1 a2 a3 a4 => q l xs F3 H3 (g.trans g3) a1 (fresh_back g.hh a2) a3 a4
    | false => exact h2 rfl B F2 H2 σ g.fh (r.grow g) Q fun l xs F3 H3 g3 a1 a2 a3 a4 => q l xs F3 H3 (g.trans g3) a1 (fresh_back g.hh a2) a3 a4
theorem map_getD {α : Type} (xs : List α) (g : α → D) (x0 : α) {i : Nat} (h : i < xs.length) : (xs.map g).getD i .non = g (xs.getD i x0) := by
  simp [List.getD, h]
end
section
variable {P : Program} {w : World} {K : PySem.W.Frag} {mg : Str → Option Value} {base : Heap} {f : Addr} {fd : FuncData} {k : Nat} {Cc Cf aP : Addr}
/-! every -/
abbrev s_every : Stmt := topS 39
theorem sc_every : FnScope ["p", "poly", "first"] ["p", "poly", "first"] (defScope s_every) := ⟨rfl, rfl, rfl, by decide +kernel, rfl, by decide +kernel, by decide +kernel⟩
def f_every (ds : List D) (d : D) : Prop := ∃ (p : Nat) (_ : Pr p) (A : Pol p) (i : Nat), ds = [.int p, pol A, .int (i : Int)] ∧ A.l.length ≤ 20000 ∧ d = pol (evr A i)
theorem ok_every (bu : BuAll mg) (O : OTrimmed P w K mg base k) (F : Fun K "every" "every" s_every f fd) : FnOk P w K mg base CX0 (k + 1) f fd ["p", "poly", "first"] (spD f_every) := by
  refine fn_D f_every F sc_every (by rintro ds d ⟨p, _, A, i, rfl, _⟩; rfl) fun cdv A' outer s H E hr ds d hf => ?_
  obtain ⟨p, ip, A, i, rfl, hA, rfl⟩ := hf
  have := stepL_len A.l i p (Pr.pos p)
  exact ss_one (s_ret (g_call O hr (a_cons (g_var 0) (a_cons (g_slSL (g_var 1) (g_var 2) (g_var 0) (Pr.pos p)) a_nil)) (f_trimmed_of _ (by omega) rfl)) rfl)
abbrev OEv (P w K mg base k) := Own P w K mg base k "every" ["p", "poly", "first"] (spD f_every)
/-! tops_over -/
abbrev s_tops_over : Stmt := topS 40
theorem sc_tops_over : FnScope ["function", "p", "f", "top", "side", "bottom", "rest"] ["function"] (defScope s_tops_over) := ⟨rfl, rfl, rfl, by decide +kernel, rfl, by decide +kernel, by decide +kernel⟩
def lowO {p : Nat} [Pr p] (t : Tri p) : Pol p := t.1 * t.2.2 ^ (p - 1)
def highO {p : Nat} [Pr p] (g : Pol p) (t : Tri p) : Pol p := t.2.1 * t.2.2 ^ (p - 1) * g ^ ((p + 1) / 2)
structure Sz {p : Nat} (g : Pol p) (t : Tri p) : Prop where
  g : g.l.length ≤ 8
  a : t.1.l.length ≤ 300
  b : t.2.1.l.length ≤ 300
  c : t.2.2.l.length ≤ 60
def f_tops_over (Cc Cf : Addr) (ds : List D) (d : D) : Prop := ∃ (p : Nat) (_ : Pr p) (g : Pol p) (t : Tri p), ds = [funD Cf (curveD Cc g) t] ∧ Sz g t ∧ d = .tup [pol (lowO t), pol (highO g t)]
theorem pow_sz {p : Nat} [Pr p] (A : Pol p) {n m b : Nat} (hA : A.l.length ≤ m) (hn : n ≤ b) : (A ^ n).l.length ≤ m * b + 1 := Nat.le_trans (len_pow A n) (Nat.succ_le_succ (Nat.mul_le_mul hA hn))
theorem low_len {p : Nat} [Pr p] {g : Pol p} {t : Tri p} (S : Sz g t) : (lowO t).l.length ≤ 1100 ∧ (highO g t).l.length ≤ 1200 := by
  have hp := Pr.le13 p
  have h1 := pow_sz t.2.2 (n := p - 1) (b := 12) S.c (by omega)
  have h2 := pow_sz g (n := (p + 1) / 2) (b := 7) S.g (by omega)
  have h3 := mul_len20 t.1 (t.2.2 ^ (p - 1))
  have h4 := mul_len20 t.2.1 (t.2.2 ^ (p - 1))
  have h5 := mul_len20 (t.2.1 * t.2.2 ^ (p - 1)) (g ^ ((p + 1) / 2))
  have := S.a
  have := S.b
  unfold lowO highO
  omega
abbrev OPw (P w K mg base k) := Own P w K mg base k "power_of" ["p", "one", "count"] (spD f_power_of)
theorem ok_tops_over (OO : OPo P w K mg base k Cc Cf) (OP : OPw P w K mg base k) (OM : OMul P w K mg base k) (F : Fun K "tops_over" "tops_over" s_tops_over f fd) : FnOk P w K mg base CX0 (k + 1) f fd ["function"] (spD (f_tops_over Cc Cf)) := by
  refine fn_D (f_tops_over Cc Cf) F sc_tops_over (by rintro ds d ⟨p, _, A, i, rfl, _⟩; rfl) fun cdv A' outer s H E hr ds d hf => ?_
  obtain ⟨p, ip, g, ⟨A, B, C⟩, rfl, S, rfl⟩ := hf
  have hp := Pr.le13 p
  have hp3 := Pr.ge3 p
  have hA := S.a
  have hB := S.b
  have hC := S.c
  have hg := S.g
  simp only at hA hB hC
  have h1 := pow_sz C (n := p - 1) (b := 12) hC (by omega)
  have h2 := pow_sz g (n := (p + 1) / 2) (b := 7) hg (by omega)
  have h4 := mul_len20 B (C ^ (p - 1))
  have e1 : (p : Int) - 1 = ((p - 1 : Nat) : Int) := by omega
  have e2 : ((p : Int) + 1) / 2 = (((p + 1) / 2 : Nat) : Int) := by omega
  refine ss_cons (s_asg (g_call OO hr (a_cons (g_var 0) a_nil) ⟨p, g, (A, B, C), rfl, rfl⟩) (tg_tup (tgs_cons (tg_name (i := 1)) (tgs_cons (tg_name (i := 2)) (tgs_cons (tg_name (i := 3)) (tgs_cons (tg_name (i := 4)) (tgs_cons (tg_name (i := 5)) tgs_nil)))))) ?_)
  refine ss_cons (s_set 6 (g_call OP hr (a_cons (g_var 1) (a_cons (g_var 5) (a_cons (DE.to (g_sub (g_var 1) g_int) (by rw [e1])) a_nil))) ⟨p, ip, C, p - 1, rfl, by omega, by omega, rfl⟩) ?_)
  exact ss_one (s_ret (g_tup (a_cons (g_call OM hr (a_cons (g_var 1) (a_cons (g_var 3) (a_cons (g_var 6) a_nil))) ⟨p, ip, A, C ^ (p - 1), rfl, by omega, by omega, rfl⟩) (a_cons (g_call OM hr (a_cons (g_var 1) (a_cons (g_call OM hr (a_cons (g_var 1) (a_cons (g_var 4) (a_cons (g_var 6) a_nil))) ⟨p, ip, B, C ^ (p - 1), rfl, by omega, by omega, rfl⟩) (a_cons (g_call OP hr (a_cons (g_var 1) (a_cons (g_var 2) (a_cons (DE.to (g_fdiv (g_add (g_var 1) g_int) g_int ⟨by decide, by decide⟩) (by rw [e2])) a_nil))) ⟨p, ip, g, (p + 1) / 2, rfl, by omega, by omega, rfl⟩) a_nil))) ⟨p, ip, B * C ^ (p - 1), g ^ ((p + 1) / 2), rfl, by omega, by omega, rfl⟩) a_nil))) rfl)
abbrev OTo (P w K mg base k Cc Cf) := Own P w K mg base k "tops_over" ["function"] (spD (f_tops_over Cc Cf))
/-! parts_by -/
abbrev s_parts_by : Stmt := topS 41
theorem sc_parts_by : FnScope ["function", "p", "f", "_", "bottom", "low", "high", "below", "found", "first", "tops"] ["function"] (defScope s_parts_by) := ⟨rfl, rfl, rfl, by decide +kernel, rfl, by decide +kernel, by decide +kernel⟩
/-- the i-th part, not yet in least form -/
def partT {p : Nat} [Pr p] (g : Pol p) (t : Tri p) (i : Nat) : Tri p := (evr (lowO t) i * g, evr (highO g t) i, t.2.2 * g)
def f_parts_by (Cc Cf : Addr) (ds : List D) (d : D) : Prop := ∃ (p : Nat) (_ : Pr p) (g : Pol p) (t : Tri p), ds = [funD Cf (curveD Cc g) t] ∧ Sz g t ∧ g ≠ 0 ∧ t.2.2 ≠ 0 ∧ d = .lst ((List.range p).map fun i => funD Cf (curveD Cc g) (least (partT g t i)))
theorem ok_parts_by (T : KF K mg Cc Cf aP) (OO : OPo P w K mg base k Cc Cf) (OT : OTo P w K mg base k Cc Cf) (OM : OMul P w K mg base k) (OE : OEv P w K mg base k) (OA : OMade P w K mg base k Cc Cf) (N : MF P w K mg base k Cf) (F : Fun K "parts_by" "parts_by" s_parts_by f fd) : FnOk P w K mg base CX0 (k + 1) f fd ["function"] (spD (f_parts_by Cc Cf)) := by
  refine fn_D (f_parts_by Cc Cf) F sc_parts_by (by rintro ds d ⟨p, _, A, i, rfl, _⟩; rfl) fun cdv A' outer s H E hr ds d hf => ?_
  obtain ⟨p, ip, g, t, rfl, S, hg0, ht0, rfl⟩ := hf
  have hp := Pr.le13 p
  obtain ⟨l1, l2⟩ := low_len S
  have hC := S.c
  have hg := S.g
  have h3 := mul_len20 t.2.2 g
  refine ss_cons (s_asg (g_call OO hr (a_cons (g_var 0) a_nil) ⟨p, g, t, rfl, rfl⟩) (tg_tup (tgs_cons (tg_name (i := 1)) (tgs_cons (tg_name (i := 2)) (tgs_cons (tg_name (i := 3)) (tgs_cons (tg_name (i := 3)) (tgs_cons (tg_name (i := 4)) tgs_nil)))))) ?_)
  refine ss_cons (s_asg (g_call OT hr (a_cons (g_var 0) a_nil) ⟨p, ip, g, t, rfl, S, rfl⟩) (tg_tup (tgs_cons (tg_name (i := 5)) (tgs_cons (tg_name (i := 6)) tgs_nil))) ?_)
  refine ss_cons (s_set 7 (g_call OM hr (a_cons (g_var 1) (a_cons (g_var 4) (a_cons (g_var 2) a_nil))) ⟨p, ip, t.2.2, g, rfl, by omega, by omega, rfl⟩) ?_)
  refine ss_cons (s_setN 8 (gn_lst a_nil) fun l => ?_)
  refine ss_cons (s_for ((i_range1 T.bu (g_var 1)).num (n' := p) (by omega)) (fun i ρ1 => ∃ a b, ρ1 = [some (.sh (funD Cf (curveD Cc g) t)), some (.sh (.int p)), some (.sh (pol g)), some (.sh (pol t.2.1)), some (.sh (pol t.2.2)), some (.sh (pol (lowO t))), some (.sh (pol (highO g t))), some (.sh (pol (t.2.2 * g))), some (.own l ((List.range i).map fun i => funD Cf (curveD Cc g) (least (partT g t i)))), a, b]) ⟨none, none, rfl⟩ ?_ ?_)
  · rintro i ρ1 hi ⟨a, b, rfl⟩
    refine ⟨[9], _, tg_name, ?_⟩
    have e1 : (0 : Int) + (i : Int) = ((i : Nat) : Int) := by omega
    rw [e1]
    have q1 := len_of (p := p) (stepL (lowO t).l i p)
    have q2 := len_of (p := p) (stepL (highO g t).l i p)
    have q3 := stepL_len (lowO t).l i p (Pr.pos p)
    have q4 := stepL_len (highO g t).l i p (Pr.pos p)
    have q5 : (evr (lowO t) i).l.length ≤ 1100 := by unfold evr; unfold Pol.len at q1; omega
    have q6 : (evr (highO g t) i).l.length ≤ 1200 := by unfold evr; unfold Pol.len at q2; omega
    have q7 := mul_len20 (evr (lowO t) i) g
    refine ss_cons (s_set 10 (g_call OM hr (a_cons (g_var 1) (a_cons (g_call OE hr (a_cons (g_var 1) (a_cons (g_var 5) (a_cons (g_var 9) a_nil))) ⟨p, ip, lowO t, i, rfl, by omega, rfl⟩) (a_cons (g_var 2) a_nil))) ⟨p, ip, evr (lowO t) i, g, rfl, by omega, by omega, rfl⟩) ?_)
    refine ss_one (s_app 8 (ds := (List.range i).map fun i => funD Cf (curveD Cc g) (least (partT g t i))) (g_call OA hr (a_cons (g_fcurve N T hr (c := curveD Cc g) (t := t) (g_var 0)) (a_cons (g_var 10) (a_cons (g_call OE hr (a_cons (g_var 1) (a_cons (g_var 6) (a_cons (g_var 9) a_nil))) ⟨p, ip, highO g t, i, rfl, by omega, rfl⟩) (a_cons (g_var 7) a_nil)))) ⟨p, ip, g, partT g t i, rfl, by unfold partT; simp only; omega, by unfold partT; simp only; omega, by unfold partT; simp only; omega, mul_ne_zero ht0 hg0, rfl⟩) ?_ (by simp; omega))
    refine ⟨some (.sh (.int (i : Int))), some (.sh (pol (evr (lowO t) i * g))), ?_⟩
    rw [List.range_succ, List.map_append]; rfl
  · rintro ρ1 ⟨a, b, rfl⟩
    refine ss_freeze 8 ?_
    exact ss_one (s_ret (g_var 8) rfl)
abbrev OPb (P w K mg base k Cc Cf) := Own P w K mg base k "parts_by" ["function"] (spD (f_parts_by Cc Cf))
/-! parts, descent_by, descent -/
abbrev s_descent_by : Stmt := topS 44
theorem sc_descent_by : FnScope ["function"] ["function"] (defScope s_descent_by) := ⟨rfl, rfl, rfl, by decide +kernel, rfl, by decide +kernel, by decide +kernel⟩
def f_descent (Cc Cf : Addr) (ds : List D) (d : D) : Prop := ∃ (p : Nat) (_ : Pr p) (g : Pol p) (t : Tri p), ds = [funD Cf (curveD Cc g) t] ∧ Sz g t ∧ g ≠ 0 ∧ t.2.2 ≠ 0 ∧ d = funD Cf (curveD Cc g) (least (partT g t (p - 1)))
theorem range_last {p : Nat} [Pr p] (h : Nat → D) : atI ((List.range p).map h) (-1) = some (h (p - 1)) := by
  obtain ⟨q, rfl⟩ : ∃ q, p = q + 1 := ⟨p - 1, by have := Pr.pos p; omega⟩
  rw [List.range_succ, List.map_append]
  exact atI_last _ _
theorem ok_descent_by (OB : OPb P w K mg base k Cc Cf) (F : Fun K "descent_by" "descent_by" s_descent_by f fd) : FnOk P w K mg base CX0 (k + 1) f fd ["function"] (spD (f_descent Cc Cf)) := by
  refine fn_D (f_descent Cc Cf) F sc_descent_by (by rintro ds d ⟨p, _, A, i, rfl, _⟩; rfl) fun cdv A' outer s H E hr ds d hf => ?_
  obtain ⟨p, ip, g, t, rfl, S, hg0, ht0, rfl⟩ := hf
  exact ss_one (s_ret (g_ixL (g_call OB hr (a_cons (g_var 0) a_nil) ⟨p, ip, g, t, rfl, S, hg0, ht0, rfl⟩) (g_neg g_int) (range_last _)) rfl)
end
end Cv
end
section
set_option Elab.async false
set_option linter.all false
set_option maxRecDepth 100000
set_option maxHeartbeats 4000000
namespace Cv
open PySem L2 Evl
section
variable {P : Program} {w : World} {K : PySem.W.Frag} {mg : Str → Option Value} {base : Heap} {f : Addr} {fd : FuncData} {k : Nat} {Cc Cf aP : Addr}
/-! stretched -/
abbrev s_stretched : Stmt := topS 42
theorem sc_stretched : FnScope ["p", "poly", "found", "at", "number"] ["p", "poly"] (defScope s_stretched) := ⟨rfl, rfl, rfl, by decide +kernel, rfl, by decide +kernel, by decide +kernel⟩
def f_stretched (ds : List D) (d : D) : Prop := ∃ (p : Nat) (_ : Pr p) (A : Pol p), ds = [.int p, pol A] ∧ A.l.length ≤ 1500 ∧ d = pol (stretch A)
theorem mul_mod_eq {p : Nat} (hp : 0 < p) (n i : Nat) : (n % p = 0 ∧ n / p = i) ↔ n = p * i := by
  constructor
  · rintro ⟨h1, h2⟩
    have := Nat.div_add_mod n p
    rw [h1, h2] at this
    omega
  · rintro rfl
    exact ⟨Nat.mul_mod_right _ _, Nat.mul_div_cancel_left _ hp⟩
theorem ok_stretched (bu : BuAll mg) (F : Fun K "stretched" "stretched" s_stretched f fd) : FnOk P w K mg base CX0 (k + 1) f fd ["p", "poly"] (spD f_stretched) := by
  refine fn_D f_stretched F sc_stretched (by rintro ds d ⟨p, _, A, rfl, _⟩; rfl) fun cdv A' outer s H E hr ds d hf => ?_
  obtain ⟨p, ip, A, rfl, hA, rfl⟩ := hf
  have hp := Pr.le13 p
  have hp3 := Pr.ge3 p
  have hm : p * (A.l.length - 1) ≤ 13 * 1500 := Nat.mul_le_mul hp (by omega)
  have key : ∀ l, GSs (fmOf P w K mg base ["p", "poly", "found", "at", "number"] sc_stretched.nd "stretched" s_stretched f cdv A' outer s H E) ((defBody s_stretched).drop 1) [some (.sh (.int p)), some (.sh (pol A)), some (.own l ((List.replicate (if A.l = [] then 0 else p * (A.l.length - 1) + 1) (0 : Int)).map .int)), none, none] { nx := fun _ => pol (stretch A) = .non, rt := fun _ d' => d' = pol (stretch A) } := fun l => by
    refine ss_cons (s_for (i_enumI bu (g_var 1)) (fun i ρ1 => ∃ (ms : List Int) (a b : Option Sl), ms.length = (if A.l = [] then 0 else p * (A.l.length - 1) + 1) ∧ (∀ n, cf ms n = if n % p = 0 ∧ n / p < i then cf A.l (n / p) else 0) ∧ ρ1 = [some (.sh (.int p)), some (.sh (pol A)), some (.own l (ms.map .int)), a, b]) ⟨_, none, none, by simp, fun n => by rw [cf_rep0, if_neg (fun z => absurd z.2 (Nat.not_lt_zero _))], rfl⟩ ?_ ?_)
    · rintro i ρ1 hi ⟨ms, a, b, hl, hc, rfl⟩
      refine ⟨[3, 4], _, tg_tup (tgs_cons (tg_name (i := 3)) (tgs_cons (tg_name (i := 4)) tgs_nil)), ?_⟩
      have hne : A.l ≠ [] := fun e => by rw [e] at hi; simp at hi
      rw [if_neg hne] at hl
      have hpi : p * i < ms.length := by
        have : p * i ≤ p * (A.l.length - 1) := Nat.mul_le_mul_left p (by omega)
        omega
      refine ss_one (s_setI 2 (g_var 4) (g_mul (g_var 0) (g_var 3) (.inl (by omega))) (own_ix (ms := ms) (n := p * i) hpi (by simp)) ?_)
      refine ⟨ms.set (p * i) (A.l.getD i 0), some (.sh (.int (i : Int))), some (.sh (.int (A.l.getD i 0))), by simp [hl, hne], fun n => ?_, by rw [own_set]; rfl⟩
      rw [cf_set _ _ _ _ hpi, cf_getD]
      by_cases e : n = p * i
      · obtain ⟨e1, e2⟩ := (mul_mod_eq (Pr.pos p) n i).mpr e
        rw [if_pos e, if_pos ⟨e1, by omega⟩, e2]
      · rw [if_neg e, hc n]
        have : ¬ (n % p = 0 ∧ n / p = i) := fun z => e ((mul_mod_eq (Pr.pos p) n i).mp z)
        by_cases g : n % p = 0 ∧ n / p < i
        · rw [if_pos g, if_pos ⟨g.1, by omega⟩]
        · rw [if_neg g, if_neg (fun z => by
            rcases Nat.lt_or_ge (n / p) i with h | h
            · exact g ⟨z.1, h⟩
            · exact this ⟨z.1, by omega⟩)]
    · rintro ρ1 ⟨ms, a, b, hl, hc, rfl⟩
      refine ss_freeze 2 ?_
      refine ss_one (s_ret (g_var 2) ?_)
      have : ms = (stretch A).l := stretch_list A ms hl fun n => by
        rw [hc n]
        by_cases h : n % p = 0
        · by_cases h2 : n / p < A.l.length
          · rw [if_pos ⟨h, h2⟩, if_pos h]
          · rw [if_neg (fun z => h2 z.2), if_pos h, cf_ge (by omega)]
        · rw [if_neg (fun z => h z.1), if_neg h]
      show L ms = pol (stretch A)
      rw [this]; rfl
  by_cases h : A.l = []
  · have e1 : decide (A.l = []) = true := decide_eq_true h
    refine ss_cons (s_setN 2 (gn_ifT (k := false) (ds := ((List.replicate (if A.l = [] then 0 else p * (A.l.length - 1) + 1) (0 : Int)).map .int)) ((t_neL hr (g_var 1) g_nilI).to (by rw [e1]; rfl)) (fun z => absurd z (by decide)) (fun z => (gn_lst a_nil).to (by rw [if_pos h]; rfl))) fun l => key l)
  · have e1 : decide (A.l = []) = false := decide_eq_false h
    have hlen : 0 < A.l.length := List.length_pos_iff.mpr h
    have e2 : ((p : Int) * ((A.l.length : Int) - 1) + 1).toNat = p * (A.l.length - 1) + 1 := by
      have : (p : Int) * ((A.l.length : Int) - 1) = ((p * (A.l.length - 1) : Nat) : Int) := by
        rw [Int.natCast_mul, Int.natCast_sub hlen]; rfl
      rw [this]; omega
    refine ss_cons (s_setN 2 (gn_ifT (k := true) (ds := ((List.replicate (if A.l = [] then 0 else p * (A.l.length - 1) + 1) (0 : Int)).map .int)) ((t_neL hr (g_var 1) g_nilI).to (by rw [e1]; rfl)) (fun z => (g_repI g_int (g_add (g_mul (g_var 0) (g_sub (g_lenI bu (g_var 1)) g_int) (.inl (by omega))) g_int) (by omega)).to (by rw [if_neg h, e2])) (fun z => absurd z (by decide))) fun l => key l)
abbrev OSt (P w K mg base k) := Own P w K mg base k "stretched" ["p", "poly"] (spD f_stretched)
/-! raised_by -/
def f_raised_by (ds : List D) (d : D) : Prop := ∃ (p : Nat) (_ : Pr p) (A : Pol p) (i : Nat), ds = [.int p, L (List.replicate i 0), pol A] ∧ A.l.length ≤ 20000 ∧ i ≤ 20 ∧ d = pol ((Pol.X : Pol p) ^ i * A)
abbrev ORa (P w K mg base k) := Own P w K mg base k "raised_by" ["p", "noughts", "poly"] (spD f_raised_by)
/-! shared_bottom -/
def t0 {p : Nat} [Pr p] : Tri p := (0, 0, 1)
noncomputable def sbot {p : Nat} [Pr p] (ts : List (Tri p)) : Nat → Pol p
  | 0 => 1
  | i + 1 => sbot ts i * quo (ts.getD i t0).2.2 (gcd (sbot ts i) (ts.getD i t0).2.2)
theorem getD_of {α : Type} {Q : α → Prop} {ts : List α} {x : α} (h : ∀ t ∈ ts, Q t) (hx : Q x) (i : Nat) : Q (ts.getD i x) := by
  rw [List.getD_eq_getElem?_getD]
  cases e : ts[i]? with
  | none => exact hx
  | some y => exact h y (List.mem_of_getElem? e)
structure Szs {p : Nat} [Pr p] (ts : List (Tri p)) : Prop where
  n : ts.length ≤ 13
  t : ∀ t ∈ ts, t.1.l.length ≤ 24 ∧ t.2.1.l.length ≤ 24 ∧ t.2.2.l.length ≤ 24 ∧ t.2.2 ≠ 0
theorem Szs.at {p : Nat} [Pr p] {ts : List (Tri p)} (S : Szs ts) (i : Nat) : (ts.getD i t0).1.l.length ≤ 24 ∧ (ts.getD i t0).2.1.l.length ≤ 24 ∧ (ts.getD i t0).2.2.l.length ≤ 24 ∧ (ts.getD i t0).2.2 ≠ 0 :=
  getD_of S.t (by unfold t0; simp only; rw [zero_l, one_l]; exact ⟨by simp, by simp, by simp, one_ne_zero⟩) i
theorem sbot_len {p : Nat} [Pr p] {ts : List (Tri p)} (S : Szs ts) : ∀ i, (sbot ts i).l.length ≤ 24 * i + 1
  | 0 => by unfold sbot; rw [one_l]; simp
  | i + 1 => by
    have h1 := sbot_len S i
    obtain ⟨_, _, h2, h3⟩ := S.at i
    have h4 := len_quo (ts.getD i t0).2.2 (gcd (sbot ts i) (ts.getD i t0).2.2) (gcd_ne (.inr h3))
    have h5 := mul_len20 (sbot ts i) (quo (ts.getD i t0).2.2 (gcd (sbot ts i) (ts.getD i t0).2.2))
    unfold Pol.len at h4
    unfold sbot
    omega
def funsD (Cc Cf : Addr) {p : Nat} (g : Pol p) (ts : List (Tri p)) : List D := ts.map fun t => funD Cf (curveD Cc g) t
def f_shared_bottom (Cc Cf : Addr) (ds : List D) (d : D) : Prop := ∃ (p : Nat) (_ : Pr p) (g : Pol p) (ts : List (Tri p)), ds = [.lst (funsD Cc Cf g ts)] ∧ Szs ts ∧ d = pol (sbot ts ts.length)
theorem i_funs {X : Fm} {ρ : Env} {a tg : Expr} {p : Nat} [Pr p] {g : Pol p} {ts : List (Tri p)} (ha : GE X a ρ (.lst (funsD Cc Cf g ts))) : DI (aI X tg a) ρ ts.length (fun i => funD Cf (curveD Cc g) (ts.getD i t0)) :=
  ((i_list ha).num (by simp [funsD])).src fun i hi => map_getD ts (fun t => funD Cf (curveD Cc g) t) t0 hi
abbrev OSb (P w K mg base k Cc Cf) := Own P w K mg base k "shared_bottom" ["functions"] (spD (f_shared_bottom Cc Cf))
/-! sum_by_parts -/
/-- the parts put together over the bottom b -/
noncomputable def sumU {p : Nat} [Pr p] (b : Pol p) (h : Tri p → Pol p) (ts : List (Tri p)) : Nat → Pol p
  | 0 => 0
  | i + 1 => sumU b h ts i + (Pol.X : Pol p) ^ i * stretch (h (ts.getD i t0) * quo b (ts.getD i t0).2.2)
theorem len_raise {p : Nat} [Pr p] (B : Pol p) (i n : Nat) (h : B.l.length ≤ n) : ((Pol.X : Pol p) ^ i * stretch B).l.length ≤ i + 13 * n := by
  have h1 := len_Xn (stretch B) i
  have h2 := len_stretch B
  have h3 : p * B.l.length ≤ 13 * n := Nat.mul_le_mul (Pr.le13 p) h
  unfold Pol.len at h1 h2
  omega
theorem len_add20 {p : Nat} [Pr p] (A B : Pol p) (n : Nat) (h1 : A.l.length ≤ n) (h2 : B.l.length ≤ n) : (A + B).l.length ≤ n := by
  have := len_add A B
  unfold Pol.len at this
  omega
theorem quo_len2 {p : Nat} [Pr p] (A B : Pol p) (h : B ≠ 0) : (quo A B).l.length ≤ A.l.length := len_quo A B h
theorem sumU_len {p : Nat} [Pr p] {ts : List (Tri p)} (S : Szs ts) {b : Pol p} (hb : b.l.length ≤ 320) (h : Tri p → Pol p) (hh : ∀ i, (h (ts.getD i t0)).l.length ≤ 24) : ∀ i, i ≤ 13 → (sumU b h ts i).l.length ≤ 4500
  | 0, _ => by unfold sumU; rw [zero_l]; simp
  | i + 1, hi => by
    have h1 := sumU_len S hb h hh i (by omega)
    obtain ⟨_, _, _, h4⟩ := S.at i
    have h2 := quo_len2 b (ts.getD i t0).2.2 h4
    have h3 := mul_len20 (h (ts.getD i t0)) (quo b (ts.getD i t0).2.2)
    have h5 := hh i
    have h6 := len_raise (h (ts.getD i t0) * quo b (ts.getD i t0).2.2) i 344 (by omega)
    unfold sumU
    exact len_add20 _ _ _ h1 (by omega)
/-- what of_parts gives, not yet in least form -/
noncomputable def sumT {p : Nat} [Pr p] (g : Pol p) (ts : List (Tri p)) : Tri p := (sumU (sbot ts ts.length) (·.1) ts ts.length, sumU (sbot ts ts.length) (·.2.1) ts ts.length * g ^ ((p - 1) / 2), stretch (sbot ts ts.length))
theorem sbot_ne {p : Nat} [Pr p] {ts : List (Tri p)} (S : Szs ts) : ∀ i, sbot ts i ≠ 0
  | 0 => one_ne_zero
  | i + 1 => by
    obtain ⟨_, _, _, h4⟩ := S.at i
    refine mul_ne_zero (sbot_ne S i) fun z => h4 ?_
    rw [quo_dvd (gcd_is (sbot ts i) (ts.getD i t0).2.2).right, z]; grind
theorem stretch_ne {p : Nat} [Pr p] {A : Pol p} (h : A ≠ 0) : stretch A ≠ 0 := fun e => by
  have h1 := cf_stretch A (p * (A.len - 1))
  rw [if_pos (Nat.mul_mod_right _ _), Nat.mul_div_cancel_left _ (Pr.pos p), e, zero_l] at h1
  exact lead_ne h (by simpa [Pol.lead] using h1.symm)
def f_sum (Cc Cf : Addr) (ds : List D) (d : D) : Prop := ∃ (p : Nat) (_ : Pr p) (g : Pol p) (ts : List (Tri p)), ds = [curveD Cc g, .lst (funsD Cc Cf g ts)] ∧ g.l.length ≤ 8 ∧ ts.length = p ∧ Szs ts ∧ d = funD Cf (curveD Cc g) (least (sumT g ts))
abbrev OSum (P w K mg base k Cc Cf) := Own P w K mg base k "sum_by_parts" ["curve", "functions"] (spD (f_sum Cc Cf))
/-! of_parts -/
end
end Cv
end
section
set_option Elab.async false
set_option linter.all false
set_option maxRecDepth 100000
set_option maxHeartbeats 4000000
namespace Cv
open PySem L2 Evl
section
variable {P : Program} {w : World} {K : PySem.W.Frag} {mg : Str → Option Value} {base : Heap} {f : Addr} {fd : FuncData} {k : Nat} {Cc Cf aP : Addr}
/-! _law_trim -/
abbrev s_ltrim : Stmt := topS 57
theorem sc_ltrim : FnScope ["p", "numbers", "found", "number"] ["p", "numbers"] (defScope s_ltrim) := ⟨rfl, rfl, rfl, by decide +kernel, rfl, by decide +kernel, by decide +kernel⟩
theorem ok_ltrim (bu : BuAll mg) (F : Fun K "_law_trim" "_law_trim" s_ltrim f fd) : FnOk P w K mg base CX0 1 f fd ["p", "numbers"] (spD f_trimmed) := by
  refine fn_D f_trimmed F sc_ltrim (by rintro ds d ⟨p, _, ns, rfl, _, _⟩; rfl) fun cdv A outer s H E hr ds d hf => ?_
  obtain ⟨p, ip, ns, rfl, hl, rfl⟩ := hf
  refine ss_cons (s_setLcN 2 (dn_lcI [("number", 3)] (fun _ => blkOk_by (N := ["p", "numbers", "found", "number"]) (sc := defScope s_ltrim) (by decide +kernel)) (i_listI (g_var 1)) (by omega) (fun i => ns.getD i 0 % (p : Int)) [3] _ (fun i hi => tg_name) (by decide) (fun i hi => g_mod (g_toInt bu (g_var 3)) (g_var 0) (Pr.posI p)) (by intro _ _; rfl) (ms := modL p ns) (range_map_getD ns (· % (p : Int))).symm) fun l => ?_)
  refine ss_cons (s_while (fun m ρ1 => ∃ ms : List Int, m = ms.length ∧ dtz ms = dtz (modL p ns) ∧ ρ1 = [some (.sh (.int p)), some (.sh (L ns)), some (.own l (ms.map .int)), none]) _ ⟨_, rfl, rfl, rfl⟩ ?_)
  rintro m ρ1 ⟨ms, rfl, hms, rfl⟩
  by_cases hne : ms = []
  · subst hne
    refine ⟨_, t_w (w_and (t_neOwn 2 hr g_nilI) (fun z => absurd z (by simp)) (c := true)), fun z => absurd z (by simp), fun _ => ?_⟩
    refine ss_freeze 2 ?_
    refine ss_one (s_ret (g_var 2) ?_)
    show L [] = L (dtz (modL p ns))
    rw [← hms]; rfl
  · obtain ⟨r, y, rfl⟩ := snoc_of hne
    have hat : atI ((r ++ [y]).map D.int) ((((r ++ [y]).map D.int).length : Int) - 1) = some (.int y) := by
      have e : (((r ++ [y]).map D.int).length : Int) - 1 = (r.length : Int) := by simp
      rw [e]
      exact atI_nat (by simp)
    refine ⟨_, t_w (w_and (t_neOwn 2 hr g_nilI) (fun _ => w_and1 (t_eqI (g_ixOwn (ds := (r ++ [y]).map D.int) (l := l) 2 (g_sub (g_lenOwn (ds := (r ++ [y]).map D.int) (l := l) 2 bu) g_int) hat) g_int))), fun z => ?_, fun z => ?_⟩
    · have hy : y = 0 := by
        simp at z; exact z
      subst hy
      refine ss_one (s_pop 2 (ds := (r ++ [0]).map D.int) (by simp) ?_)
      refine ⟨r.length, by simp, r, rfl, ?_, ?_⟩
      · rw [← hms, dtz_snoc0]
      · show [some (Sl.sh (D.int p)), some (Sl.sh (L ns)), some (Sl.own l ((r ++ [0]).map D.int).dropLast), none] = _
        rw [List.map_append]
        simp
    · have hy : y ≠ 0 := by
        simp at z; exact z
      refine ss_freeze 2 ?_
      refine ss_one (s_ret (g_var 2) ?_)
      show L (r ++ [y]) = L (dtz (modL p ns))
      rw [← hms, dtz_snoc r y hy]
abbrev PTrim (P w K mg base k) := Own P w K mg base k "_law_trim" ["p", "numbers"] (spD f_trimmed)
/-! _law_plus -/
abbrev s_lplus : Stmt := topS 58
theorem sc_lplus : FnScope ["p", "one", "other", "size", "low", "high"] ["p", "one", "other"] (defScope s_lplus) := ⟨rfl, rfl, rfl, by decide +kernel, rfl, by decide +kernel, by decide +kernel⟩
theorem ok_lplus (bu : BuAll mg) (O : PTrim P w K mg base k) (F : Fun K "_law_plus" "_law_plus" s_lplus f fd) : FnOk P w K mg base CX0 (k + 1) f fd ["p", "one", "other"] (spD f_added) := by
  refine fn_D f_added F sc_lplus (by rintro ds d ⟨p, _, A, B, rfl, _⟩; rfl) fun cdv A' outer s H E hr ds d hf => ?_
  obtain ⟨p, ip, A, B, rfl, hA, hB, rfl⟩ := hf
  refine ss_cons (s_set 3 (g_max2 bu (g_lenI bu (g_var 1)) (g_lenI bu (g_var 2))) ?_)
  have e1 : (max (A.l.length : Int) (B.l.length : Int) - (A.l.length : Int)).toNat = max A.l.length B.l.length - A.l.length := by omega
  have e2 : (max (A.l.length : Int) (B.l.length : Int) - (B.l.length : Int)).toNat = max A.l.length B.l.length - B.l.length := by omega
  refine ss_one (s_ret (g_call O hr (a_cons (g_var 0) (a_cons (g_lc (dn_lcI [("low", 4), ("high", 5)] (fun _ => blkOk_by (N := ["p", "one", "other", "size", "low", "high"]) (sc := defScope s_lplus) (by decide +kernel)) ((i_zipI bu ((g_catI (g_var 1) (de_of_dn (g_repI g_int (g_sub (g_var 3) (g_lenI bu (g_var 1))) (by omega))) (by simp; omega)).to (d' := L (A.l ++ List.replicate (max A.l.length B.l.length - A.l.length) 0)) (by rw [e1])) ((g_catI (g_var 2) (de_of_dn (g_repI g_int (g_sub (g_var 3) (g_lenI bu (g_var 2))) (by omega))) (by simp; omega)).to (d' := L (B.l ++ List.replicate (max A.l.length B.l.length - B.l.length) 0)) (by rw [e2])) (by simp; omega)).num (n' := max A.l.length B.l.length) (by simp; omega)) (by omega) _ [4, 5] _ (fun i hi => (tg_tup (tgs_cons (tg_name (i := 4)) (tgs_cons (tg_name (i := 5)) tgs_nil)))) (by decide) (fun i hi => (g_add (g_var 4) (g_var 5))) (by intro _ _; rfl) rfl)) a_nil)) (f_trimmed_of _ (by simp; omega) (of_pad A B _ rfl))) rfl)
abbrev PPlus (P w K mg base k) := Own P w K mg base k "_law_plus" ["p", "one", "other"] (spD f_added)
/-! _law_scaled -/
abbrev s_lscaled : Stmt := topS 59
theorem sc_lscaled : FnScope ["p", "one", "number", "item"] ["p", "one", "number"] (defScope s_lscaled) := ⟨rfl, rfl, rfl, by decide +kernel, rfl, by decide +kernel, by decide +kernel⟩
theorem ok_lscaled (bu : BuAll mg) (O : PTrim P w K mg base k) (F : Fun K "_law_scaled" "_law_scaled" s_lscaled f fd) : FnOk P w K mg base CX0 (k + 1) f fd ["p", "one", "number"] (spD f_scaled) := by
  refine fn_D f_scaled F sc_lscaled (by rintro ds d ⟨p, _, A, x, rfl, _⟩; rfl) fun cdv A' outer s H E hr ds d hf => ?_
  obtain ⟨p, ip, A, x, rfl, hA, h0, h1, rfl⟩ := hf
  refine ss_one (s_ret (g_call O hr (a_cons (g_var 0) (a_cons (g_lc (dn_lcI [("item", 3)] (fun _ => blkOk_by (N := ["p", "one", "number", "item"]) (sc := defScope s_lscaled) (by decide +kernel)) (i_listI (g_var 1)) (by omega) (fun i => A.l.getD i 0 * x) [3] _ (fun i hi => tg_name) (by decide) (fun i hi => (g_mul (g_var 3) (g_var 2) (.inr (by omega)))) (by intro _ _; rfl) (ms := A.l.map fun y => y * x) (range_map_getD A.l (fun y => y * x)).symm)) a_nil)) (f_trimmed_of _ (by simp; omega) (of_scale A x))) rfl)
abbrev PScal (P w K mg base k) := Own P w K mg base k "_law_scaled" ["p", "one", "number"] (spD f_scaled)
/-! _law_times -/
abbrev s_ltimes : Stmt := topS 60
theorem sc_ltimes : FnScope ["p", "one", "other", "found", "at", "low", "place", "high"] ["p", "one", "other"] (defScope s_ltimes) := ⟨rfl, rfl, rfl, by decide +kernel, rfl, by decide +kernel, by decide +kernel⟩
theorem ok_ltimes (bu : BuAll mg) (O : PTrim P w K mg base k) (F : Fun K "_law_times" "_law_times" s_ltimes f fd) : FnOk P w K mg base CX0 (k + 1) f fd ["p", "one", "other"] (spD f_multiplied) := by
  refine fn_D f_multiplied F sc_ltimes (by rintro ds d ⟨p, _, A, B, rfl, _⟩; rfl) fun cdv A' outer s H E hr ds d hf => ?_
  obtain ⟨p, ip, A, B, rfl, hA, hB, rfl⟩ := hf
  refine ss_cons (s_setN 3 (g_repI g_int (g_add (g_lenI bu (g_var 1)) (g_lenI bu (g_var 2))) (by omega)) fun l => ?_)
  refine ss_cons (s_for (i_enumI bu (g_var 1)) (fun i ρ1 => ∃ ms a b c e, Row A B i 0 ms ∧ ρ1 = [some (.sh (.int p)), some (.sh (pol A)), some (.sh (pol B)), some (.own l (ms.map .int)), a, b, c, e]) ⟨_, _, _, _, _, Row.start A B (by omega), rfl⟩ ?_ ?_)
  · rintro i ρ1 hi ⟨ms, a, b, c, e, row, rfl⟩
    refine ⟨[4, 5], _, tg_tup (tgs_cons (tg_name (i := 4)) (tgs_cons (tg_name (i := 5)) tgs_nil)), ?_⟩
    refine ss_one (s_if (t_neI (g_var 5) g_int) (fun z => ?_) fun z => ?_)
    · refine ss_one (s_for (i_enumI bu (g_var 2)) (fun j ρ1 => ∃ ms c e, Row A B i j ms ∧ ρ1 = [some (.sh (.int p)), some (.sh (pol A)), some (.sh (pol B)), some (.own l (ms.map .int)), some (.sh (.int (i : Int))), some (.sh (.int (A.l.getD i 0))), c, e]) ⟨ms, c, e, row, rfl⟩ ?_ ?_)
      · rintro j ρ1 hj ⟨ms, c, e, row, rfl⟩
        refine ⟨[6, 7], _, tg_tup (tgs_cons (tg_name (i := 6)) (tgs_cons (tg_name (i := 7)) tgs_nil)), ?_⟩
        have hl := row.1
        refine ss_one (s_setI 3 (g_add (g_ixOwn 3 (g_add (g_var 4) (g_var 6)) (own_at (ms := ms) (n := i + j) (by omega) (by omega))) (g_mul (g_var 5) (g_var 7) (.inl (by rw [cf_getD]; exact cf_sm16 A i)))) (g_add (g_var 4) (g_var 6)) (own_ix (ms := ms) (n := i + j) (by omega) (by omega)) ?_)
        refine ⟨_, some (.sh (.int (j : Int))), some (.sh (.int (B.l.getD j 0))), row.step hi hj, ?_⟩
        rw [own_set, cf_getD, cf_getD]; rfl
      · rintro ρ1 ⟨ms, c, e, row, rfl⟩
        exact ⟨_, _, _, _, _, row.next, rfl⟩
    · have h0 : cf A.l i = 0 := by
        rw [← cf_getD]; simpa using z
      exact ss_nil ⟨ms, some (.sh (.int (i : Int))), some (.sh (.int (A.l.getD i 0))), c, e, row.skip h0, rfl⟩
  · rintro ρ1 ⟨ms, a, b, c, e, row, rfl⟩
    refine ss_freeze 3 ?_
    refine ss_one (s_ret (g_call O hr (a_cons (g_var 0) (a_cons (g_var 3) a_nil)) (f_trimmed_of ms (by rw [row.1]; omega) row.done)) rfl)
abbrev PMul (P w K mg base k) := Own P w K mg base k "_law_times" ["p", "one", "other"] (spD f_multiplied)
/-! _law_back -/
abbrev s_lback : Stmt := topS 61
theorem sc_lback : FnScope ["p", "number", "item"] ["p", "number"] (defScope s_lback) := ⟨rfl, rfl, rfl, by decide +kernel, rfl, by decide +kernel, by decide +kernel⟩
theorem ok_lback (bu : BuAll mg) (F : Fun K "_law_back" "_law_back" s_lback f fd) : FnOk P w K mg base CX0 1 f fd ["p", "number"] (spD f_inverse) := by
  refine fn_D f_inverse F sc_lback (by rintro ds d ⟨p, _, ns, rfl, _, _⟩; rfl) fun cdv A outer s H E hr ds d hf => ?_
  obtain ⟨p, ip, x, rfl, hx, rfl⟩ := hf
  have hp := Pr.le13 p
  have hp3 := Pr.ge3 p
  refine ss_one (s_ret (g_ixL (i := 0) (g_lc (dn_lc [("item", 2)] (fun _ => blkOk_by (N := ["p", "number", "item"]) (sc := defScope s_lback) (by decide +kernel)) ((i_range2 bu g_int (g_var 0) (by omega) (by omega)).num (n' := p - 1) (by omega)) (by omega) (tb := fun i => decide ((1 + (i : Int)) * x % (p : Int) = 1)) (f := fun i => .int (1 + (i : Int))) [2] _ (fun i hi => tg_name) (by decide) (fun i hi => ts_one (t_eqI (g_mod (g_toInt bu (g_mul (g_var 2) (g_var 1) (.inl (by omega)))) (g_var 0) (Pr.posI p)) g_int)) (fun i hi _ => g_var 2) (by intro _ _; rfl))) g_int (inv_pick hx)) rfl)
abbrev PInv (P w K mg base k) := Own P w K mg base k "_law_back" ["p", "number"] (spD f_inverse)
theorem g_topI {X : Fm} {ρ : Env} {a b : Expr} {pos : Pos} {p : Nat} [Pr p] {A : Pol p} {i : Int} (ha : GE X a ρ (pol A)) (hb : GE X b ρ (.int i)) (h : A ≠ 0) (hi : i = (A.l.length : Int) - 1) (hs : noSl b = true := by rfl) : GE X (.Subscript a b pos) ρ (.int A.lead) := by
  have hl := List.length_pos_iff.mpr (l_ne h)
  have := g_ixI (pos := pos) (ns := A.l) (n := A.l.length - 1) ha hb (by omega) (by omega) hs
  rw [cf_getD] at this
  exact this
/-! _law_parted -/
abbrev s_lparted : Stmt := topS 62
theorem sc_lparted : FnScope ["p", "one", "other", "rest", "quotient", "back", "at", "number", "place", "item"] ["p", "one", "other"] (defScope s_lparted) := ⟨rfl, rfl, rfl, by decide +kernel, rfl, by decide +kernel, by decide +kernel⟩
theorem ok_lparted (bu : BuAll mg) (O : PTrim P w K mg base k) (O2 : PInv P w K mg base k) (F : Fun K "_law_parted" "_law_parted" s_lparted f fd) : FnOk P w K mg base CX0 (k + 1) f fd ["p", "one", "other"] (spD f_parted) := by
  refine fn_D f_parted F sc_lparted (by rintro ds d ⟨p, _, A, B, rfl, _⟩; rfl) fun cdv A' outer s H E hr ds d hf => ?_
  obtain ⟨p, ip, A, B, rfl, hA, hB, hB0, rfl⟩ := hf
  have hb := l_ne hB0
  have hbl : 0 < B.l.length := List.length_pos_iff.mpr hb
  have hinv := inv_spec (lead_mod hB0)
  have hp := Pr.le13 p
  refine ss_cons (s_par3 3 4 5 (r_nw (gn_list bu (g_var 1))) (r_nw (g_repI g_int (g_max2 bu (g_add (g_sub (g_lenI bu (g_var 1)) (g_lenI bu (g_var 2))) g_int) g_int) (by omega))) (r_sh (g_call O2 hr (a_cons (g_var 0) (a_cons (g_topI (A := B) (g_var 2) (g_sub (g_lenI bu (g_var 2)) g_int) hB0 rfl) a_nil)) ⟨p, ip, B.lead, rfl, lead_mod hB0, rfl⟩)) fun l1 l2 l3 => ?_)
  refine ss_cons (s_for ((i_down bu (g_sub (g_lenI bu (g_var 1)) (g_lenI bu (g_var 2))) (g_neg g_int) (g_neg g_int)).num (n' := A.l.length + 1 - B.l.length) (by omega)) (fun i ρ1 => ∃ q r a b c e, Div A B i q r ∧ ρ1 = [some (.sh (.int p)), some (.sh (pol A)), some (.sh (pol B)), some (.own l1 (r.map .int)), some (.own l2 (q.map .int)), some (.sh (.int (inv p B.lead))), a, b, c, e]) ⟨_, _, _, _, _, _, Div.start A B (m := (max ((A.l.length : Int) - (B.l.length : Int) + 1) 0).toNat) (by omega), rfl⟩ ?_ ?_)
  · rintro i ρ1 hi ⟨q, r, a, b, c, e, dv, rfl⟩
    have e0 : A.l.length = (A.l.length - B.l.length - i) + B.l.length + i := by omega
    generalize hat : A.l.length - B.l.length - i = at' at e0
    have e1 : (A.l.length : Int) - (B.l.length : Int) + (i : Int) * (-1) = (at' : Int) := by omega
    have hlr := dv.pt.lr
    have hlq := dv.pt.lq
    rw [e1]
    refine ⟨[6], _, tg_name, ?_⟩
    refine ss_cons (s_set 7 (g_mod (g_toInt bu (g_mul (g_ixOwn 3 (g_sub (g_add (g_var 6) (g_lenI bu (g_var 2))) g_int) (own_at (ms := r) (n := at' + B.l.length - 1) (by omega) (by omega))) (g_var 5) (.inr (by omega)))) (g_var 0) (Pr.posI p)) ?_)
    generalize hx : cf r (at' + B.l.length - 1) * inv p B.lead % (p : Int) = x
    have hx0 : 0 ≤ x ∧ x < p := by rw [← hx]; exact ⟨Int.emod_nonneg _ (by have := Pr.posI p; omega), Int.emod_lt_of_pos _ (Pr.posI p)⟩
    refine ss_cons (s_setI 4 (g_var 7) (g_var 6) (own_ix (ms := q) (n := at') (by omega) (by omega)) ?_)
    rw [own_set]
    refine ss_one (s_if (t_neI (g_var 7) g_int) (fun z => ?_) fun z => ?_)
    · refine ss_one (s_for (i_enumI bu (g_var 2)) (fun j ρ1 => ∃ r' c e, Cut B at' x r j r' ∧ ρ1 = [some (.sh (.int p)), some (.sh (pol A)), some (.sh (pol B)), some (.own l1 (r'.map .int)), some (.own l2 ((q.set at' x).map .int)), some (.sh (.int (inv p B.lead))), some (.sh (.int (at' : Int))), some (.sh (.int x)), c, e]) ⟨r, c, e, Cut.start B at' x r, rfl⟩ ?_ ?_)
      · rintro j ρ1 hj ⟨r', c, e, cut, rfl⟩
        have hc := cut.1
        refine ⟨[8, 9], _, tg_tup (tgs_cons (tg_name (i := 8)) (tgs_cons (tg_name (i := 9)) tgs_nil)), ?_⟩
        refine ss_one (s_setI 3 (g_mod (g_toInt bu (g_sub (g_ixOwn 3 (g_add (g_var 6) (g_var 8)) (own_at (ms := r') (n := at' + j) (by omega) (by omega))) (g_mul (g_var 7) (g_var 9) (.inl (by omega))))) (g_var 0) (Pr.posI p)) (g_add (g_var 6) (g_var 8)) (own_ix (ms := r') (n := at' + j) (by omega) (by omega)) ?_)
        refine ⟨_, some (.sh (.int (j : Int))), some (.sh (.int (B.l.getD j 0))), cut.step (by omega), ?_⟩
        rw [own_set, cf_getD]; rfl
      · rintro ρ1 ⟨r', c, e, cut, rfl⟩
        exact ⟨_, _, _, _, _, _, dv.step hB0 e0 hx.symm cut.1 cut.done, rfl⟩
    · have h0 : x = 0 := by simpa using z
      exact ss_nil ⟨q.set at' x, r, some (.sh (.int (at' : Int))), some (.sh (.int x)), c, e, dv.step hB0 e0 hx.symm rfl (Cut.zero h0), rfl⟩
  · rintro ρ1 ⟨q, r, a, b, c, e, dv, rfl⟩
    refine ss_freeze 3 (ss_freeze 4 ?_)
    obtain ⟨d1, d2⟩ := dv.done hB0
    refine ss_one (s_ret (g_tup (a_cons (g_call O hr (a_cons (g_var 0) (a_cons (g_var 4) a_nil)) (f_trimmed_of q (by rw [dv.pt.lq]; omega) d1.symm)) (a_cons (g_call O hr (a_cons (g_var 0) (a_cons (g_var 3) a_nil)) (f_trimmed_of r (by rw [dv.pt.lr]; omega) d2.symm)) a_nil))) rfl)
abbrev PPart (P w K mg base k) := Own P w K mg base k "_law_parted" ["p", "one", "other"] (spD f_parted)
/-! _law_rest -/
abbrev s_lrest : Stmt := topS 63
theorem sc_lrest : FnScope ["p", "one", "other"] ["p", "one", "other"] (defScope s_lrest) := ⟨rfl, rfl, rfl, by decide +kernel, rfl, by decide +kernel, by decide +kernel⟩
def f_lrest (ds : List D) (d : D) : Prop := ∃ (p : Nat) (_ : Pr p) (A B : Pol p), ds = [.int p, pol A, pol B] ∧ A.l.length ≤ 20000 ∧ B.l.length ≤ 20000 ∧ B ≠ 0 ∧ d = pol (rem A B)
theorem ok_lrest (O : PPart P w K mg base k) (F : Fun K "_law_rest" "_law_rest" s_lrest f fd) : FnOk P w K mg base CX0 (k + 1) f fd ["p", "one", "other"] (spD f_lrest) := by
  refine fn_D f_lrest F sc_lrest (by rintro ds d ⟨p, _, A, B, rfl, _⟩; rfl) fun cdv A' outer s H E hr ds d hf => ?_
  obtain ⟨p, ip, A, B, rfl, hA, hB, hB0, rfl⟩ := hf
  exact ss_one (s_ret (g_ixT (i := 1) (g_call O hr (a_cons (g_var 0) (a_cons (g_var 1) (a_cons (g_var 2) a_nil))) ⟨p, ip, A, B, rfl, hA, hB, hB0, rfl⟩) g_int (d := pol (rem A B)) rfl) rfl)
/-! _law_common -/
abbrev s_lcommon : Stmt := topS 64
theorem sc_lcommon : FnScope ["p", "one", "other", "low", "high", "turn"] ["p", "one", "other"] (defScope s_lcommon) := ⟨rfl, rfl, rfl, by decide +kernel, rfl, by decide +kernel, by decide +kernel⟩
theorem ok_lcommon (bu : BuAll mg) (OR : Own P w K mg base k "_law_rest" ["p", "one", "other"] (spD f_lrest)) (OI : PInv P w K mg base k) (OS : PScal P w K mg base k) (F : Fun K "_law_common" "_law_common" s_lcommon f fd) : FnOk P w K mg base CX0 (k + 1) f fd ["p", "one", "other"] (spD f_common_of) := by
  refine fn_D f_common_of F sc_lcommon (by rintro ds d ⟨p, _, A, B, rfl, _⟩; rfl) fun cdv A' outer s H E hr ds d hf => ?_
  obtain ⟨p, ip, A, B, rfl, hA, hB, rfl⟩ := hf
  have hp := Pr.le13 p
  have fin : ∀ (R : Pol p) (a : Option Sl), gcd R 0 = gcd A B → R.len ≤ 5000 → GSs (fmOf P w K mg base ["p", "one", "other", "low", "high", "turn"] sc_lcommon.nd "_law_common" s_lcommon f cdv A' outer s H E) ((defBody s_lcommon).drop 2) [some (.sh (.int p)), some (.sh (pol A)), some (.sh (pol B)), some (.sh (pol R)), some (.sh (pol (0 : Pol p))), a] { nx := fun _ => pol (gcd A B) = .non, rt := fun _ d' => d' = pol (gcd A B) } := fun R a hg hR => by
    rw [gcd_zero] at hg
    rw [← hg]
    by_cases h : R = 0
    · subst h
      have e1 : decide ((0 : Pol p).l = []) = true := decide_eq_true zero_l
      have e2 : monic (0 : Pol p) = 0 := by unfold monic; grind
      rw [e2]
      exact ss_one (s_ret (g_ifT (k := false) ((t_neL hr (ns := (0 : Pol p).l) (g_var 3) g_nilI).to (by rw [e1]; rfl)) (fun z => absurd z (by decide)) (fun z => (DE.to g_nilI pol0.symm))) rfl)
    · have e1 : decide (R.l = []) = false := decide_eq_false (l_ne h)
      have hinv := inv_spec (lead_mod h)
      unfold Pol.len at hR
      exact ss_one (s_ret (g_ifT (k := true) (d := pol (monic R)) ((t_neL hr (g_var 3) g_nilI).to (by rw [e1]; rfl)) (fun z => (g_call OS hr (a_cons (g_var 0) (a_cons (g_var 3) (a_cons (g_call OI hr (a_cons (g_var 0) (a_cons (g_topI (A := R) (g_var 3) (g_sub (g_lenI bu (g_var 3)) g_int) h rfl) a_nil)) ⟨p, ip, R.lead, rfl, lead_mod h, rfl⟩) a_nil))) ⟨p, ip, R, inv p R.lead, rfl, by omega, by omega, by omega, rfl⟩)) (fun z => absurd z (by decide))) rfl)
  refine ss_cons (s_par2 3 4 (r_sh (d := pol A) (g_list bu (ds := A.l.map .int) (g_var 1))) (r_sh (d := pol B) (g_list bu (ds := B.l.map .int) (g_var 2))) fun _ _ => ?_)
  refine ss_cons (s_for ((i_range1 bu (g_add (g_add (g_lenI bu (g_var 1)) (g_lenI bu (g_var 2))) g_int)).num (n' := A.l.length + B.l.length + 2) (by omega)) (fun i ρ1 => ∃ (R S : Pol p) (a : Option Sl), gcd R S = gcd A B ∧ R.len ≤ 5000 ∧ (S = 0 ∨ S.len + i ≤ B.l.length) ∧ ρ1 = [some (.sh (.int p)), some (.sh (pol A)), some (.sh (pol B)), some (.sh (pol R)), some (.sh (pol S)), a]) ⟨A, B, none, rfl, hA, .inr (Nat.le_refl _), rfl⟩ ?_ ?_)
  · rintro i ρ1 hi ⟨R, S, a, hg, hR, hS, rfl⟩
    refine ⟨[5], _, tg_name, ?_⟩
    refine ss_cons (s_if (t_eqL hr (g_var 4) g_nilI) (fun z => ?_) fun z => ?_)
    · have h0 : S = 0 := eq_zero_iff.mpr (by simpa using z)
      subst h0
      exact ss_one (s_break (fin R _ hg hR))
    · have h0 : S ≠ 0 := ne_iff.mp (by simpa using z)
      have hS' := hS.resolve_left h0
      obtain ⟨er, hrl⟩ := quo_rem R S h0
      have hSl := len_pos h0
      refine ss_nil (ss_one (s_par2 3 4 (r_sh (g_var 4)) (r_sh (g_call OR hr (a_cons (g_var 0) (a_cons (g_var 3) (a_cons (g_var 4) a_nil))) ⟨p, ip, R, S, rfl, by unfold Pol.len at *; omega, by unfold Pol.len at *; omega, h0, rfl⟩)) fun _ _ => ?_))
      exact ⟨S, rem R S, some (.sh (.int (0 + (i : Int)))), by rw [← hg]; exact (gcd_step er).symm, by omega, .inr (by omega), rfl⟩
  · rintro ρ1 ⟨R, S, a, hg, hR, hS, rfl⟩
    have h0 : S = 0 := hS.elim id fun h => by omega
    subst h0
    exact fin R a hg hR
abbrev PCom (P w K mg base k) := Own P w K mg base k "_law_common" ["p", "one", "other"] (spD f_common_of)
end
end Cv
end
section
set_option Elab.async false
set_option linter.all false
set_option maxRecDepth 100000
set_option maxHeartbeats 4000000
namespace Cv
open PySem L2 Evl
section
variable {P : Program} {w : World} {K : PySem.W.Frag} {mg : Str → Option Value} {base : Heap} {f : Addr} {fd : FuncData} {k : Nat} {Cc Cf aP : Addr}
/-! _law_simple -/
abbrev s_lsimple : Stmt := topS 65
theorem sc_lsimple : FnScope ["p", "f", "at", "number"] ["p", "f"] (defScope s_lsimple) := ⟨rfl, rfl, rfl, by decide +kernel, rfl, by decide +kernel, by decide +kernel⟩
def f_lsimple (ds : List D) (d : D) : Prop := ∃ (p : Nat) (_ : Pr p) (A : Pol p), ds = [.int p, pol A] ∧ A.l.length ≤ 5000 ∧ d = .bl (decide ((gcd A (slope A)).l.length = 1))
theorem ok_lsimple (bu : BuAll mg) (O : PTrim P w K mg base k) (OC : PCom P w K mg base k) (F : Fun K "_law_simple" "_law_simple" s_lsimple f fd) : FnOk P w K mg base CX0 (k + 1) f fd ["p", "f"] (spD f_lsimple) := by
  refine fn_D f_lsimple F sc_lsimple (by rintro ds d ⟨p, _, A, rfl, _⟩; rfl) fun cdv A' outer s H E hr ds d hf => ?_
  obtain ⟨p, ip, A, rfl, hA, rfl⟩ := hf
  have hs := slope_len A
  have e1 : decide (((gcd A (slope A)).l.length : Int) = 1) = decide ((gcd A (slope A)).l.length = 1) := by
    by_cases h : (gcd A (slope A)).l.length = 1
    · rw [h]; rfl
    · rw [decide_eq_false h, decide_eq_false (by omega)]
  rw [← e1]
  exact ss_one (s_ret (g_eqI (g_lenI bu (ns := (gcd A (slope A)).l) (g_call (d := pol (gcd A (slope A))) OC hr (a_cons (g_var 0) (a_cons (g_var 1) (a_cons (g_call O hr (a_cons (g_var 0) (a_cons (DE.to (g_sl (g_lc (dn_lcI [("at", 2), ("number", 3)] (fun _ => blkOk_by (N := ["p", "f", "at", "number"]) (sc := defScope s_lsimple) (by decide +kernel)) (i_enumI bu (g_var 1)) (by omega) (fun i => (i : Int) * A.l.getD i 0) [2, 3] _ (fun i hi => (tg_tup (tgs_cons (tg_name (i := 2)) (tgs_cons (tg_name (i := 3)) tgs_nil)))) (by decide) (fun i hi => (g_mul (g_var 2) (g_var 3) (.inr (by rw [cf_getD]; exact cf_sm16 A i)))) (by intro _ _; rfl) rfl)) (o_some g_int) o_none) (d' := L (((List.range A.l.length).map fun (i : Nat) => (i : Int) * A.l.getD i 0).drop 1)) (by
    rw [cutD_from1]; unfold L; rw [List.map_drop])) a_nil)) (f_trimmed_of (A := slope A) _ (by simp; omega) rfl)) a_nil))) ⟨p, ip, A, slope A, rfl, by omega, by omega, rfl⟩)) g_int) rfl)
/-! _law_power -/
abbrev s_lpower : Stmt := topS 66
theorem sc_lpower : FnScope ["p", "one", "count", "found", "base", "left", "turn"] ["p", "one", "count"] (defScope s_lpower) := ⟨rfl, rfl, rfl, by decide +kernel, rfl, by decide +kernel, by decide +kernel⟩
theorem pow_add' {p : Nat} [Pr p] (A : Pol p) (i : Nat) : ∀ j, A ^ (i + j) = A ^ i * A ^ j
  | 0 => by
    have : A ^ 0 = 1 := by grind
    rw [this, Nat.add_zero]; grind
  | j + 1 => by
    have h := pow_add' A i j
    have e1 : A ^ (i + j + 1) = A ^ (i + j) * A := by grind
    have e2 : A ^ (j + 1) = A ^ j * A := by grind
    rw [show i + (j + 1) = i + j + 1 from rfl, e1, h, e2]; grind
theorem ok_lpower (bu : BuAll mg) (O : PMul P w K mg base k) (F : Fun K "_law_power" "_law_power" s_lpower f fd) : FnOk P w K mg base CX0 (k + 1) f fd ["p", "one", "count"] (spD f_power_of) := by
  refine fn_D f_power_of F sc_lpower (by rintro ds d ⟨p, _, A, B, rfl, _⟩; rfl) fun cdv A' outer s H E hr ds d hf => ?_
  obtain ⟨p, ip, A, n, rfl, hA, hn, rfl⟩ := hf
  have pw : ∀ e, e ≤ 14 → (A ^ e).l.length ≤ 14001 := fun e he => pow_sz A (m := 1000) (b := 14) hA he
  have one : A ^ 0 = 1 := by grind
  have one' : A ^ 1 = A := by grind
  refine ss_cons (s_par3 3 4 5 (r_sh (DE.to (g_lstI (aI_cons g_int aI_nil)) (d' := pol (A ^ 0)) (by rw [one]; exact pol1.symm))) (r_sh (DE.to (g_list bu (ds := A.l.map .int) (g_var 1)) (d' := pol (A ^ 1)) (by rw [one']; rfl))) (r_sh (g_var 2)) fun _ _ _ => ?_)
  refine ss_cons (s_for ((i_range1 bu g_int).num (n' := 20) rfl) (fun i ρ1 => ∃ (e b l : Nat) (a : Option Sl), e + b * l = n ∧ b ≤ 14 ∧ l * 2 ^ i ≤ n ∧ ρ1 = [some (.sh (.int p)), some (.sh (pol A)), some (.sh (.int (n : Int))), some (.sh (pol (A ^ e))), some (.sh (pol (A ^ b))), some (.sh (.int (l : Int))), a]) ⟨0, 1, n, none, by omega, by omega, by omega, rfl⟩ ?_ ?_)
  · rintro i ρ1 hi ⟨e, b, l, a, h1, h2, h3, rfl⟩
    refine ⟨[6], _, tg_name, ?_⟩
    refine ss_cons (s_if (t_eqI (g_var 5) g_int) (fun z => ?_) fun z => ?_)
    · have hl : l = 0 := by
        have : (l : Int) = 0 := by simpa using z
        omega
      subst hl
      have he : e = n := by omega
      subst he
      exact ss_one (s_break (ss_one (s_ret (g_var 3) rfl)))
    · have hl : 0 < l := by
        have : ¬ ((l : Int) = 0) := by simpa using z
        omega
      have hbl : b * 1 ≤ b * l := Nat.mul_le_mul_left b hl
      have he : e ≤ 14 := by omega
      have key : ∀ e' : Nat, e' ≤ 14 → e' + b * 2 * (l / 2) = n → ∀ a : Option Sl, GSs (fmOf P w K mg base ["p", "one", "count", "found", "base", "left", "turn"] sc_lpower.nd "_law_power" s_lpower f cdv A' outer s H E) (match (defBody s_lpower).getD 1 (.Pass ⟨0, 0, 0, 0⟩) with | .For _ _ body _ _ => body.drop 2 | _ => []) [some (.sh (.int p)), some (.sh (pol A)), some (.sh (.int (n : Int))), some (.sh (pol (A ^ e'))), some (.sh (pol (A ^ b))), some (.sh (.int (l : Int))), a] { nx := fun ρ1 => ∃ (e b l : Nat) (a : Option Sl), e + b * l = n ∧ b ≤ 14 ∧ l * 2 ^ (i + 1) ≤ n ∧ ρ1 = [some (.sh (.int p)), some (.sh (pol A)), some (.sh (.int (n : Int))), some (.sh (pol (A ^ e))), some (.sh (pol (A ^ b))), some (.sh (.int (l : Int))), a], rt := fun _ d' => d' = pol (A ^ n), bk := fun ρ1 => GSs (fmOf P w K mg base ["p", "one", "count", "found", "base", "left", "turn"] sc_lpower.nd "_law_power" s_lpower f cdv A' outer s H E) ((defBody s_lpower).drop 2) ρ1 { nx := fun _ => pol (A ^ n) = .non, rt := fun _ d' => d' = pol (A ^ n) }, ct := fun ρ1 => ∃ (e b l : Nat) (a : Option Sl), e + b * l = n ∧ b ≤ 14 ∧ l * 2 ^ (i + 1) ≤ n ∧ ρ1 = [some (.sh (.int p)), some (.sh (pol A)), some (.sh (.int (n : Int))), some (.sh (pol (A ^ e))), some (.sh (pol (A ^ b))), some (.sh (.int (l : Int))), a] } := fun e' he' hs a => by
        have e5 : (l : Int) / 2 = ((l / 2 : Nat) : Int) := by omega
        refine ss_cons (s_set 5 (DE.to (g_fdiv (g_toInt bu (g_var 5)) g_int ⟨by decide, by decide⟩) (by rw [e5])) ?_)
        have hpow : l / 2 * 2 ^ (i + 1) ≤ n := by
          have : l / 2 * 2 ^ (i + 1) = (l / 2 * 2) * 2 ^ i := by rw [Nat.pow_succ, Nat.mul_assoc, Nat.mul_comm (2 ^ i) 2]
          rw [this]
          exact Nat.le_trans (Nat.mul_le_mul_right _ (by omega)) h3
        by_cases hz : l / 2 = 0
        · refine ss_one (s_set 4 (g_ifT (k := false) ((t_gtI (g_var 5) g_int).to (by rw [hz]; rfl)) (fun z => absurd z (by decide)) (fun z => g_var 4)) ?_)
          exact ⟨e', b, l / 2, a, by rw [hz] at hs ⊢; omega, h2, hpow, rfl⟩
        · have hb2 : b * 2 * 1 ≤ b * 2 * (l / 2) := Nat.mul_le_mul_left _ (by omega)
          have sq : A ^ b * A ^ b = A ^ (b * 2) := by rw [← pow_add', Nat.mul_two]
          have := pw b h2
          refine ss_one (s_set 4 (g_ifT (k := true) (d := pol (A ^ (b * 2))) ((t_gtI (g_var 5) g_int).to (decide_eq_true (by omega))) (fun z => (g_call O hr (a_cons (g_var 0) (a_cons (g_var 4) (a_cons (g_var 4) a_nil))) ⟨p, ip, A ^ b, A ^ b, rfl, by omega, by omega, by rw [sq]⟩)) (fun z => absurd z (by decide))) ?_)
          exact ⟨e', b * 2, l / 2, a, hs, by omega, hpow, rfl⟩
      refine ss_nil (ss_cons (s_if (t_eqI (g_mod (g_toInt bu (g_var 5)) g_int (by decide)) g_int) (fun z => ?_) fun z => ?_))
      · have hodd : l % 2 = 1 := by
          have : (l : Int) % 2 = 1 := by simpa using z
          omega
        have := pw b h2
        have := pw e he
        have hs : e + b + b * 2 * (l / 2) = n := by
          have h5 : l = 2 * (l / 2) + 1 := by omega
          have h6 : b * l = b * 2 * (l / 2) + b := by
            conv => lhs; rw [h5]
            rw [Nat.mul_add, Nat.mul_one, Nat.mul_assoc]
          omega
        refine ss_one (s_set 3 (g_call O hr (a_cons (g_var 0) (a_cons (g_var 3) (a_cons (g_var 4) a_nil))) ⟨p, ip, A ^ e, A ^ b, rfl, by omega, by omega, by rw [← pow_add']⟩) ?_)
        exact key (e + b) (by omega) hs _
      · have heven : l % 2 = 0 := by
          have : ¬ ((l : Int) % 2 = 1) := by simpa using z
          omega
        have hs : e + b * 2 * (l / 2) = n := by
          have h5 : l = 2 * (l / 2) := by omega
          have h6 : b * l = b * 2 * (l / 2) := by
            conv => lhs; rw [h5]
            rw [Nat.mul_assoc]
          omega
        exact ss_nil (key e he hs _)
  · rintro ρ1 ⟨e, b, l, a, h1, h2, h3, rfl⟩
    have hl : l = 0 := by omega
    subst hl
    have he : e = n := by omega
    subst he
    exact ss_one (s_ret (g_var 3) rfl)
abbrev PPw (P w K mg base k) := Own P w K mg base k "_law_power" ["p", "one", "count"] (spD f_power_of)
/-! _law_shown -/
abbrev s_lshown : Stmt := topS 68
theorem sc_lshown : FnScope ["function"] ["function"] (defScope s_lshown) := ⟨rfl, rfl, rfl, by decide +kernel, rfl, by decide +kernel, by decide +kernel⟩
def f_lshown (Cf : Addr) (ds : List D) (d : D) : Prop := ∃ (p : Nat) (c : D) (t : Tri p), ds = [funD Cf c t] ∧ d = triD t
theorem ok_lshown (T : KF K mg Cc Cf aP) (N : MF P w K mg base k Cf) (F : Fun K "_law_shown" "_law_shown" s_lshown f fd) : FnOk P w K mg base CX0 (k + 1) f fd ["function"] (spD (f_lshown Cf)) := by
  refine fn_D (f_lshown Cf) F sc_lshown (by rintro ds d ⟨p, c, t, rfl, _⟩; rfl) fun cdv A' outer s H E hr ds d hf => ?_
  obtain ⟨p, c, t, rfl, rfl⟩ := hf
  exact ss_one (s_ret (g_lst (a_cons (g_top N T hr (c := c) (t := t) (g_var 0)) (a_cons (g_side N T hr (c := c) (t := t) (g_var 0)) (a_cons (g_bottom N T hr (c := c) (t := t) (g_var 0)) a_nil))) (of_decide_eq_true rfl)) rfl)
abbrev PSh (P w K mg base k Cf) := Own P w K mg base k "_law_shown" ["function"] (spD (f_lshown Cf))
/-! _law_least -/
def f_lleast (ds : List D) (d : D) : Prop := ∃ (p : Nat) (_ : Pr p) (t : Tri p), ds = [.int p, triD t] ∧ t.1.l.length ≤ 5000 ∧ t.2.1.l.length ≤ 5000 ∧ t.2.2.l.length ≤ 5000 ∧ t.2.2 ≠ 0 ∧ d = triD (least t)
abbrev PLe (P w K mg base k) := Own P w K mg base k "_law_least" ["p", "one"] (spD f_lleast)
end
end Cv
end
section
set_option Elab.async false
set_option linter.all false
set_option maxRecDepth 100000
set_option maxHeartbeats 4000000
namespace Cv
open PySem L2 Evl
section
variable {P : Program} {w : World} {K : PySem.W.Frag} {mg : Str → Option Value} {base : Heap} {f : Addr} {fd : FuncData} {k : Nat} {Cc Cf aP : Addr}
/-! _law_simple -/
/-! _law_shown -/
/-! _law_least -/
abbrev s_lleast : Stmt := topS 73
theorem sc_lleast : FnScope ["p", "parts", "common", "found", "back", "part"] ["p", "parts"] (defScope s_lleast) := ⟨rfl, rfl, rfl, by decide +kernel, rfl, by decide +kernel, by decide +kernel⟩
theorem ok_lleast (T : KF K mg Cc Cf aP) (OG : PCom P w K mg base k) (OW : PPart P w K mg base k) (OI : PInv P w K mg base k) (OS : PScal P w K mg base k) (F : Fun K "_law_least" "_law_least" s_lleast f fd) : FnOk P w K mg base CX0 (k + 1) f fd ["p", "parts"] (spD f_lleast) := by
  refine fn_D f_lleast F sc_lleast (by rintro ds d ⟨p, _, t, rfl, _⟩; rfl) fun cdv A' outer s H E hr ds d hf => ?_
  obtain ⟨p, ip, ⟨A, B, C⟩, rfl, hA, hB, hC, h0, rfl⟩ := hf
  simp only at hA hB hC h0
  have bu := T.bu
  have hp := Pr.le13 p
  have lg := len_gcd A B
  have lg3 := len_gcdR (A := gcd A B) h0
  have hg := gcd3_ne (t := (A, B, C)) h0
  have hg' : gcd (gcd A B) C ≠ 0 := hg
  obtain ⟨d1, d2, d3⟩ := gcd3_dvd (A, B, C)
  have e3 : C = quo C (gcd (gcd A B) C) * gcd (gcd A B) C := quo_dvd d3
  have hq : quo C (gcd (gcd A B) C) ≠ 0 := fun z => h0 (by rw [e3, z]; grind)
  have hb := l_ne hq
  have hinv := inv_spec (lead_mod hq)
  have q1 := len_quo A _ hg'
  have q2 := len_quo B _ hg'
  have q3 := len_quo C _ hg'
  unfold Pol.len at lg lg3 q1 q2 q3
  have hd : triD (least (A, B, C)) = .lst [pol (Pol.C (inv p (quo C (gcd (gcd A B) C)).lead) * quo A (gcd (gcd A B) C)), pol (Pol.C (inv p (quo C (gcd (gcd A B) C)).lead) * quo B (gcd (gcd A B) C)), pol (Pol.C (inv p (quo C (gcd (gcd A B) C)).lead) * quo C (gcd (gcd A B) C))] := rfl
  rw [hd]
  generalize hG : gcd (gcd A B) C = G at *
  refine ss_cons (s_set 2 (g_call OG hr (a_cons (g_var 0) (a_cons (g_call OG hr (a_cons (g_var 0) (a_cons (g_ixL (i := 0) (d := pol A) (ds := [pol A, pol B, pol C]) (g_var 1) g_int rfl) (a_cons (g_ixL (i := 1) (d := pol B) (ds := [pol A, pol B, pol C]) (g_var 1) g_int rfl) a_nil))) ⟨p, ip, A, B, rfl, by omega, by omega, rfl⟩) (a_cons (g_ixL (i := 2) (d := pol C) (ds := [pol A, pol B, pol C]) (g_var 1) g_int rfl) a_nil))) ⟨p, ip, gcd A B, C, rfl, by omega, by omega, by rw [hG]⟩) ?_)
  refine ss_cons (s_setLc 3 ((dn_lc [("part", 5)] (fun _ => blkOk_by (N := ["p", "parts", "common", "found", "back", "part"]) (sc := defScope s_lleast) (by decide +kernel)) ((i_list (ds := [pol A, pol B, pol C]) (g_var 1)).src (src' := pick (pol A) (pol B) (pol C)) (pick_getD _ _ _)) (of_decide_eq_true rfl) (tb := fun _ => true) (f := fun i => pol (quo (pick A B C i) G)) [5] _ (fun i hi => tg_name) (by decide) (fun i hi => ts_nil) (fun i hi _ => (g_ixT (i := 0) (d := pol (quo (pick A B C i) G)) (g_call OW hr (a_cons (g_var 0) (a_cons (g_var 5) (a_cons (g_var 2) a_nil))) ⟨p, ip, pick A B C i, G, by rw [pick_map (pol (p := p))], pick_all (Q := fun X : Pol p => X.l.length ≤ 20000) (by omega) (by omega) (by omega) i, by omega, hg', rfl⟩) g_int rfl)) (by intro _ _; rfl)).to (d' := [pol (quo A G), pol (quo B G), pol (quo C G)]) rfl) ?_)
  refine ss_cons (s_set 4 (g_call OI hr (a_cons (g_var 0) (a_cons (g_lastI (ns := (quo C G).l) (g_ixL (i := 2) (d := pol (quo C G)) (g_var 3) g_int rfl) hb) a_nil)) ⟨p, ip, (quo C G).lead, by rw [last_lead hb], lead_mod hq, rfl⟩) ?_)
  refine ss_one (s_ret (g_lc ((dn_lc [("part", 5)] (fun _ => blkOk_by (N := ["p", "parts", "common", "found", "back", "part"]) (sc := defScope s_lleast) (by decide +kernel)) ((i_list (ds := [pol (quo A G), pol (quo B G), pol (quo C G)]) (g_var 3)).src (src' := pick (pol (quo A G)) (pol (quo B G)) (pol (quo C G))) (pick_getD _ _ _)) (of_decide_eq_true rfl) (tb := fun _ => true) (f := fun i => pol (Pol.C (inv p (quo C G).lead) * pick (quo A G) (quo B G) (quo C G) i)) [5] _ (fun i hi => tg_name) (by decide) (fun i hi => ts_nil) (fun i hi _ => (g_call OS hr (a_cons (g_var 0) (a_cons (g_var 5) (a_cons (g_var 4) a_nil))) ⟨p, ip, pick (quo A G) (quo B G) (quo C G) i, _, by rw [pick_map (pol (p := p))], pick_all (Q := fun X : Pol p => X.l.length ≤ 20000) (by omega) (by omega) (by omega) i, by omega, by omega, rfl⟩)) (by intro _ _; rfl)))) rfl)
end
end Cv
end
section
set_option Elab.async false
set_option linter.all false
set_option maxRecDepth 100000
set_option maxHeartbeats 4000000
namespace Cv
open PySem L2 Evl
section
variable {P : Program} {w : World} {K : PySem.W.Frag} {mg : Str → Option Value} {base : Heap} {f : Addr} {fd : FuncData} {k : Nat} {Cc Cf aP : Addr}
/-! _law_hash -/
abbrev s_lhash : Stmt := topS 53
theorem sc_lhash : FnScope ["seed", "index", "mixed"] ["seed", "index"] (defScope s_lhash) := ⟨rfl, rfl, rfl, by decide +kernel, rfl, by decide +kernel, by decide +kernel⟩
def hash1 (s i : Int) : Int := (s * 1205177 + 16777681 * i * i + 191 * i + 71) % 2147483629
def hash2 (s i : Int) : Int := (hash1 s i * hash1 s i + 66533 * i + 32416187) % 2147483587
def hashI (s i : Int) : Int := hash2 s i * 69621 % 2147483647
theorem hash1_rng (s i : Int) : 0 ≤ hash1 s i ∧ hash1 s i < 2147483629 := ⟨Int.emod_nonneg _ (by decide), Int.emod_lt_of_pos _ (by decide)⟩
theorem hashI_rng (s i : Int) : 0 ≤ hashI s i ∧ hashI s i < 2147483647 := ⟨Int.emod_nonneg _ (by decide), Int.emod_lt_of_pos _ (by decide)⟩
def f_lhash (ds : List D) (d : D) : Prop := ∃ s i : Int, ds = [.int s, .int i] ∧ 0 ≤ i ∧ i < 1099511627776 ∧ d = .int (hashI s i)
theorem ok_lhash (bu : BuAll mg) (F : Fun K "_law_hash" "_law_hash" s_lhash f fd) : FnOk P w K mg base CX0 1 f fd ["seed", "index"] (spD f_lhash) := by
  refine fn_D f_lhash F sc_lhash (by rintro ds d ⟨s, i, rfl, _⟩; rfl) fun cdv A' outer s H E hr ds d hf => ?_
  obtain ⟨s, i, rfl, h0, h1, rfl⟩ := hf
  have h2 := hash1_rng s i
  refine ss_cons (s_set 2 (g_mod (g_toInt bu (g_add (g_add (g_add (g_mul (g_var 0) g_int (.inr (by decide))) (g_mul (g_mul g_int (g_var 1) (.inl (by decide))) (g_var 1) (.inr (by omega)))) (g_mul g_int (g_var 1) (.inl (by decide)))) g_int)) g_int (by decide)) ?_)
  refine ss_cons (s_set 2 (g_mod (g_toInt bu (g_add (g_add (g_mul (i := hash1 s i) (j := hash1 s i) (g_var 2) (g_var 2) (.inl (by omega))) (g_mul g_int (g_var 1) (.inl (by decide)))) g_int)) g_int (by decide)) ?_)
  exact ss_one (s_ret (g_mod (g_toInt bu (g_mul (i := hash2 s i) (g_var 2) g_int (.inr (by decide)))) g_int (by decide)) rfl)
abbrev PHs (P w K mg base k) := Own P w K mg base k "_law_hash" ["seed", "index"] (spD f_lhash)
/-! _law_random -/
abbrev s_lrandom : Stmt := topS 54
theorem sc_lrandom : FnScope ["generator", "bound", "drawn", "turn"] ["generator", "bound"] (defScope s_lrandom) := ⟨rfl, rfl, rfl, by decide +kernel, rfl, by decide +kernel, by decide +kernel⟩
def below (b : Int) (d : D) : Prop := ∃ x : Int, d = .int x ∧ 0 ≤ x ∧ x < b
def f_lrandom (n : Nat) (ds : List D) (n' : Nat) (R : D → Prop) : Prop := ∃ b : Int, ds = [.int b] ∧ 1 ≤ b ∧ b ≤ 1000 ∧ n ≤ 1000000 ∧ n' = n + 1 ∧ R = below b
theorem ok_lrandom (bu : BuAll mg) (O : PHs P w K mg base k) (F : Fun K "_law_random" "_law_random" s_lrandom f fd) : FnOk P w K mg base CX0 (k + 1) f fd ["generator", "bound"] (spG f_lrandom) := by
  refine fn_G f_lrandom F sc_lrandom (by rintro n ds n' R ⟨b, rfl, _⟩; rfl) fun cdv A' outer s H E hr gA n ds n' R hf => ?_
  obtain ⟨b, rfl, hb1, hb2, hn, rfl, rfl⟩ := hf
  refine ss_gen 0 (m := n + 1) (R := below b) rfl (fun ρ2 d h1 h2 => ⟨h2, n + 1, Nat.le_refl _, h1⟩) fun x y z ok => ?_
  obtain ⟨g1, g2, g3, g4, g5, g6⟩ := ok
  refine ss_cons (s_if (t_gtI (g_ixOwn 0 (ds := [.int x, .int y, .int z]) (l := gA) (d := .int x) g_int rfl) g_int) (fun q => ?_) fun q => ?_)
  · refine ss_cons (s_set 2 (g_mod (g_toInt bu (g_ixOwn 0 (ds := [.int x, .int y, .int z]) (l := gA) (d := .int x) g_int rfl)) (g_var 1) (by omega)) ?_)
    refine ss_cons (s_setI 0 (ds := [.int x, .int y, .int z]) (l := gA) (m := 0) (g_fdiv (g_ixOwn 0 (ds := [.int x, .int y, .int z]) (l := gA) (d := .int x) g_int rfl) (g_var 1) ⟨by omega, by omega⟩) g_int rfl ?_)
    refine ss_one (s_ret (g_var 2) ⟨⟨x % b, rfl, Int.emod_nonneg _ (by omega), Int.emod_lt_of_pos _ (by omega)⟩, x / b, y, z, rfl, Int.ediv_nonneg g1 (by omega), ?_, g3, g4, g5, by omega⟩)
    exact Int.lt_of_le_of_lt (Int.ediv_le_self b g1) g2
  · have hbits : Builtin.Int.intBits b ≤ 10 := PyProof.Rows.intBits_le (by omega)
    refine ss_nil (ss_cons (s_set 2 g_int ?_))
    refine ss_cons (s_for ((i_range1 bu (g_add g_int (g_fdiv (g_bits (g_var 1)) g_int ⟨by decide, by decide⟩)) (by omega) (by omega)).num (n' := 1) (by omega)) (fun i ρ1 => ∃ (c u : Int) (t : Option Sl), c = z + i ∧ ρ1 = [some (.own gA [.int x, .int y, .int c]), some (.sh (.int b)), some (.sh (.int u)), t]) ⟨z, 0, none, by omega, rfl⟩ ?_ ?_)
    · rintro i ρ1 hi ⟨c, u, t, hc, rfl⟩
      refine ⟨[3], _, tg_name, ?_⟩
      refine ss_cons (s_setI 0 (ds := [.int x, .int y, .int c]) (l := gA) (m := 2) (g_add (g_ixOwn 0 (ds := [.int x, .int y, .int c]) (l := gA) (d := .int c) g_int rfl) g_int) g_int rfl ?_)
      refine ss_one (s_set 2 (g_add (g_mul (g_var 2) g_int (.inr (by decide))) (g_call O hr (a_cons (g_ixOwn 0 (ds := [.int x, .int y, .int (c + 1)]) (l := gA) (d := .int y) g_int rfl) (a_cons (g_ixOwn 0 (ds := [.int x, .int y, .int (c + 1)]) (l := gA) (d := .int (c + 1)) g_int rfl) a_nil)) ⟨y, c + 1, rfl, by omega, by omega, rfl⟩)) ?_)
      exact ⟨c + 1, u * 2147483587 + hashI y (c + 1), some (.sh (.int (0 + (i : Int)))), by omega, rfl⟩
    · rintro ρ1 ⟨c, u, t, hc, rfl⟩
      exact ss_one (s_ret (g_mod (g_toInt bu (g_var 2)) (g_var 1) (by omega)) ⟨⟨u % b, rfl, Int.emod_nonneg _ (by omega), Int.emod_lt_of_pos _ (by omega)⟩, x, y, c, rfl, g1, g2, g3, g4, by omega, by omega⟩)
abbrev PRd (P w K mg base k) := Own P w K mg base k "_law_random" ["generator", "bound"] (spG f_lrandom)
/-! _law_cell, _law_generator -/
abbrev s_lcell : Stmt := topS 55
theorem sc_lcell : FnScope ["script", "index"] ["script", "index"] (defScope s_lcell) := ⟨rfl, rfl, rfl, by decide +kernel, rfl, by decide +kernel, by decide +kernel⟩
def cellI (ns : List Int) (i : Nat) : Int := if i < ns.length then ns.getD i 0 else (ns.take 1).sum % 1000003
def f_lcell (K : PySem.W.Frag) (ds : List D) (d : D) : Prop := ∃ (a : Addr) (ns : List Int) (i : Nat), ds = [scrD K a ns, .int (i : Int)] ∧ d = .int (cellI ns i)
theorem ok_lcell (bu : BuAll mg) (F : Fun K "_law_cell" "_law_cell" s_lcell f fd) : FnOk P w K mg base CX0 1 f fd ["script", "index"] (spD (f_lcell K)) := by
  refine fn_D (f_lcell K) F sc_lcell (by rintro ds d ⟨s, i, ns, rfl, _⟩; rfl) fun cdv A' outer s H E hr ds d hf => ?_
  obtain ⟨a, ns, i, rfl, rfl⟩ := hf
  by_cases h : i < ns.length
  · have e1 : cellI ns i = ns.getD i 0 := if_pos h
    rw [e1]
    refine ss_cons (s_if (k := true) ((t_ltI (g_var 1) (g_lenS bu (aS := a) (ns := ns) (g_var 0))).to (decide_eq_true (by omega))) (fun z => ?_) (fun z => absurd z (by decide)))
    exact ss_one (s_ret (g_ixS (aS := a) (ns := ns) (n := i) (g_var 0) (g_var 1) rfl h) rfl)
  · have e1 : cellI ns i = (ns.take 1).sum % 1000003 := if_neg h
    rw [e1]
    refine ss_cons (s_if (k := false) ((t_ltI (g_var 1) (g_lenS bu (aS := a) (ns := ns) (g_var 0))).to (decide_eq_false (by omega))) (fun z => absurd z (by decide)) (fun z => ss_nil ?_))
    exact ss_one (s_ret (g_mod (g_sum bu (g_slS (aS := a) (ns := ns) (g_var 0))) g_int (by decide)) rfl)
abbrev s_lgen : Stmt := topS 56
theorem sc_lgen : FnScope ["script", "index", "seed"] ["script", "index"] (defScope s_lgen) := ⟨rfl, rfl, rfl, by decide +kernel, rfl, by decide +kernel, by decide +kernel⟩
def genA (s : Int) : Int := max (s - 10 ^ (18 : Int).toNat) 0 % ((10 ^ (60 : Int).toNat) ^ (10 : Int).toNat)
def f_lgen (K : PySem.W.Frag) (ds es : List D) : Prop := ∃ (a : Addr) (ns : List Int) (i : Nat), ds = [scrD K a ns, .int (i : Int)] ∧ i ≤ 10 ∧ es = [.int (genA (cellI ns i)), .int (cellI ns i % 2147483647), .int (1000 * (i : Int))]
theorem gen_ok (s : Int) (i : Nat) : GenOk (1000 * i) (genA s) (s % 2147483647) (1000 * (i : Int)) := by
  have e : ((10 ^ (60 : Int).toNat) ^ (10 : Int).toNat : Int) = 10 ^ 600 := by decide +kernel
  have hp : (0 : Int) < 10 ^ 600 := by decide +kernel
  unfold genA
  rw [e]
  exact ⟨Int.emod_nonneg _ (by omega), Int.emod_lt_of_pos _ hp, Int.emod_nonneg _ (by decide), Int.emod_lt_of_pos _ (by decide), by omega, by omega⟩
theorem ok_lgen (bu : BuAll mg) (O : Own P w K mg base k "_law_cell" ["script", "index"] (spD (f_lcell K))) (F : Fun K "_law_generator" "_law_generator" s_lgen f fd) : FnOk P w K mg base CX0 (k + 1) f fd ["script", "index"] (spN (f_lgen K)) := by
  refine fn_N (f_lgen K) F sc_lgen rfl (by rintro ds es ⟨s, i, ns, rfl, _⟩; rfl) fun cdv A' outer s H E hr ds es hf => ?_
  obtain ⟨a, ns, i, rfl, hi, rfl⟩ := hf
  refine s_set 2 (g_call O hr (a_cons (g_var 0) (a_cons (g_var 1) a_nil)) ⟨a, ns, i, rfl, rfl⟩) ?_
  generalize cellI ns i = x
  refine gn_lst (a_cons (g_mod (g_toInt bu (g_max2 bu (g_sub (g_var 2) (g_pow g_int g_int ⟨by decide, by decide, by decide⟩)) g_int)) (g_powB (g_pow g_int g_int ⟨by decide, by decide, by decide⟩) g_int ⟨by decide, ?_⟩) (by decide +kernel)) (a_cons (g_mod (g_toInt bu (g_var 2)) g_int (by decide)) (a_cons (g_mul g_int (g_var 1) (.inl (by decide))) a_nil))) (of_decide_eq_true rfl)
  have : Builtin.Int.intBits ((10 : Int) ^ (60 : Int).toNat) ≤ 200 := PyProof.Rows.intBits_le (by decide +kernel)
  have e27 : (2 : Int) ^ 27 = 134217728 := by decide
  rw [e27]
  omega
abbrev PGn (P w K mg base k) := Own P w K mg base k "_law_generator" ["script", "index"] (spN (f_lgen K))
/-! _law_poly -/
def f_lpoly (n : Nat) (ds : List D) (n' : Nat) (R : D → Prop) : Prop := ∃ (p : Nat) (_ : Pr p) (m : Nat), ds = [.int p, .int (m : Int)] ∧ m ≤ 30 ∧ n ≤ 900000 ∧ n' = n + 60 ∧ R = fun d => ∃ A : Pol p, d = pol A ∧ A.l.length ≤ m + 1
abbrev PPo (P w K mg base k) := Own P w K mg base k "_law_poly" ["generator", "p", "most"] (spG f_lpoly)
end
end Cv
end
section
set_option Elab.async false
set_option linter.all false
set_option maxRecDepth 100000
set_option maxHeartbeats 4000000
namespace Cv
open PySem L2 Evl
section
variable {p : Nat} [Pr p]
theorem mono_of {xs : List Int} (h : ∀ x ∈ xs, 0 ≤ x ∧ x < (p : Int)) : ∃ A : Pol p, A.l = xs ++ [1] ∧ A.lead = 1 ∧ A ≠ 0 := by
  have h3 := Pr.ge3 p
  refine ⟨⟨xs ++ [1], fun x hx => ?_, fun _ => ?_⟩, rfl, ?_, fun e => ?_⟩
  · rcases List.mem_append.mp hx with q | q
    · exact h x q
    · have : x = 1 := by simpa using q
      omega
  · rw [cf_append, if_neg (by simp)]; simp
  · unfold Pol.lead Pol.len
    rw [cf_append, if_neg (by simp)]; simp
  · have := eq_zero_iff.mp e
    simp at this
theorem lead_prod {A B : Pol p} (hA : A ≠ 0) (hB : B ≠ 0) (h1 : A.lead = 1) (h2 : B.lead = 1) : (A * B).lead = 1 := by
  rw [lead_mul hA hB, h1, h2]; exact one_mod
theorem gcd_one_of {A B : Pol p} (hA : A ≠ 0) (h : (gcd A B).l.length = 1) : gcd A B = 1 := by
  have hm := gcd_monic (A := A) (B := B) (.inl hA)
  have e := len1 (A := gcd A B) (by unfold Pol.len; omega)
  have hl := hm.2
  unfold Pol.lead Pol.len at hl
  rw [h] at hl
  rw [e, show cf (gcd A B).l 0 = 1 from hl]; rfl
theorem gcd_right1 (A : Pol p) : gcd A 1 = 1 := by
  have g := gcd_is A 1
  refine dvd_antisymm (gcd_monic (.inr one_ne_zero)) monic_one g.right ⟨gcd A 1, by grind⟩
theorem slope_line {A : Pol p} {x : Int} (h : A.l = [x, 1]) : slope A = 1 := by
  unfold slope
  rw [h]
  show (Pol.of [(1 : Int) * 1] : Pol p) = 1
  rfl
theorem pick5 {x : Int} (h0 : 0 ≤ x) (h1 : x < 5) : ∃ (p : Nat) (_ : Pr p), atI ([.int 3, .int 5, .int 7, .int 11, .int 13] : List D) x = some (.int p) := by
  have : x = 0 ∨ x = 1 ∨ x = 2 ∨ x = 3 ∨ x = 4 := by omega
  rcases this with rfl | rfl | rfl | rfl | rfl
  · exact ⟨3, ⟨by omega⟩, rfl⟩
  · exact ⟨5, ⟨by omega⟩, rfl⟩
  · exact ⟨7, ⟨by omega⟩, rfl⟩
  · exact ⟨11, ⟨by omega⟩, rfl⟩
  · exact ⟨13, ⟨by omega⟩, rfl⟩
theorem pick7 {x : Int} (h0 : 0 ≤ x) (h1 : x < 7) : ∃ s : Nat, (s = 1 ∨ s = 3 ∨ s = 5 ∨ s = 7) ∧ atI ([.int 1, .int 3, .int 3, .int 5, .int 5, .int 7, .int 7] : List D) x = some (.int s) := by
  have : x = 0 ∨ x = 1 ∨ x = 2 ∨ x = 3 ∨ x = 4 ∨ x = 5 ∨ x = 6 := by omega
  rcases this with rfl | rfl | rfl | rfl | rfl | rfl | rfl
  · exact ⟨1, by omega, rfl⟩
  · exact ⟨3, by omega, rfl⟩
  · exact ⟨3, by omega, rfl⟩
  · exact ⟨5, by omega, rfl⟩
  · exact ⟨5, by omega, rfl⟩
  · exact ⟨7, by omega, rfl⟩
  · exact ⟨7, by omega, rfl⟩
end
section
variable {P : Program} {w : World} {K : PySem.W.Frag} {mg : Str → Option Value} {base : Heap} {f : Addr} {fd : FuncData} {k : Nat} {Cc Cf aP : Addr}
/-! _law_curve -/
abbrev s_lcurve : Stmt := topS 67
theorem sc_lcurve : FnScope ["generator", "p", "size", "turn", "f", "at"] ["generator"] (defScope s_lcurve) := ⟨rfl, rfl, rfl, by decide +kernel, rfl, by decide +kernel, by decide +kernel⟩
def someC (d : D) : Prop := ∃ (p : Nat) (_ : Pr p) (A : Pol p), GoodC A ∧ d = .tup [.int p, pol A]
def f_lcurve (n : Nat) (ds : List D) (n' : Nat) (R : D → Prop) : Prop := ds = [] ∧ n ≤ 100000 ∧ n' = n + 1000 ∧ R = someC
theorem ok_lcurve (bu : BuAll mg) (OR : PRd P w K mg base k) (OM : PMul P w K mg base k) (OS : Own P w K mg base k "_law_simple" ["p", "f"] (spD f_lsimple)) (F : Fun K "_law_curve" "_law_curve" s_lcurve f fd) : FnOk P w K mg base CX0 (k + 1) f fd ["generator"] (spG f_lcurve) := by
  refine fn_G f_lcurve F sc_lcurve (by rintro n ds n' R ⟨rfl, _⟩; rfl) fun cdv A' outer s H E hr gA n ds n' R hf => ?_
  obtain ⟨rfl, hn, rfl, rfl⟩ := hf
  refine ss_cons (s_asgX (ts := [1, 2]) (x_tup (xa_cons (x_ixL (dx_of (g_lst (ds := [.int 3, .int 5, .int 7, .int 11, .int 13]) (a_cons g_int (a_cons g_int (a_cons g_int (a_cons g_int (a_cons g_int a_nil)))))) (dx_mono (gx_callG (gi := 0) (n := n) (gA := gA) OR hr rfl (a_cons g_int a_nil) ⟨5, rfl, by omega, by omega, by omega, rfl, rfl⟩) ?_))))))
  rintro ρ2 d ⟨rfl, x, rfl, h0, h1⟩
  obtain ⟨p, ip, e1⟩ := pick5 h0 h1
  have hp := Pr.le13 p
  have hp3 := Pr.ge3 p
  refine ⟨_, x, .int p, rfl, rfl, e1, ?_⟩
  refine xa_cons (x_ixL (dx_of (g_lst (ds := [.int 1, .int 3, .int 3, .int 5, .int 5, .int 7, .int 7]) (a_cons g_int (a_cons g_int (a_cons g_int (a_cons g_int (a_cons g_int (a_cons g_int (a_cons g_int a_nil)))))))) (dx_mono (gx_callG (gi := 0) (n := n + 1) (gA := gA) OR hr rfl (a_cons g_int a_nil) ⟨7, rfl, by omega, by omega, by omega, rfl, rfl⟩) ?_)))
  rintro ρ3 d ⟨rfl, y, rfl, h2, h3⟩
  obtain ⟨z, hz, e2⟩ := pick7 h2 h3
  refine ⟨_, y, .int z, rfl, rfl, e2, xa_nil ⟨of_decide_eq_true rfl, _, tg_tup (tgs_cons (tg_name (i := 1)) (tgs_cons (tg_name (i := 2)) tgs_nil)), ?_⟩⟩
  have hz7 : z ≤ 7 := by omega
  have hz1 : 1 ≤ z := by omega
  refine ss_cons (s_for ((i_range1 bu g_int).num (n' := 12) rfl) (fun i ρ1 => ∃ (m : Nat) (a b : Option Sl), m ≤ n + 2 + 40 * i ∧ ρ1 = [some (.gen gA m), some (.sh (.int p)), some (.sh (.int (z : Int))), a, b, none]) ⟨n + 2, none, none, by omega, rfl⟩ ?_ ?_)
  · rintro i ρ1 hi ⟨m, a, b, hm, rfl⟩
    refine ⟨[3], _, tg_name, ?_⟩
    -- what is done with a choice of f
    have fin : ∀ (A : Pol p) (m' : Nat) (t : Option Sl), m' ≤ m + 30 → A.l.length = z + 1 → A.lead = 1 → A ≠ 0 → GSs (fmOf P w K mg base ["generator", "p", "size", "turn", "f", "at"] sc_lcurve.nd "_law_curve" s_lcurve f cdv A' outer s H E) (match (defBody s_lcurve).getD 1 (.Pass ⟨0, 0, 0, 0⟩) with | .For _ _ body _ _ => body.drop 2 | _ => []) [some (.gen gA m'), some (.sh (.int p)), some (.sh (.int (z : Int))), t, some (.sh (pol A)), none] { nx := fun ρ1 => ∃ (m : Nat) (a b : Option Sl), m ≤ n + 2 + 40 * (i + 1) ∧ ρ1 = [some (.gen gA m), some (.sh (.int p)), some (.sh (.int (z : Int))), a, b, none], rt := fun ρ2 d' => someC d' ∧ ∃ m, m ≤ n + 1000 ∧ ρ2[0]? = some (some (.gen gA m)), bk := fun ρ1 => GSs (fmOf P w K mg base ["generator", "p", "size", "turn", "f", "at"] sc_lcurve.nd "_law_curve" s_lcurve f cdv A' outer s H E) ((defBody s_lcurve).drop 2) ρ1 { nx := fun _ => False, rt := fun ρ2 d' => someC d' ∧ ∃ m, m ≤ n + 1000 ∧ ρ2[0]? = some (some (.gen gA m)) }, ct := fun ρ1 => ∃ (m : Nat) (a b : Option Sl), m ≤ n + 2 + 40 * (i + 1) ∧ ρ1 = [some (.gen gA m), some (.sh (.int p)), some (.sh (.int (z : Int))), a, b, none] } := fun A m' t hm' hl hA hA0 => by
      refine ss_one (s_if (t_val (g_call OS hr (a_cons (g_var 1) (a_cons (g_var 4) a_nil)) ⟨p, ip, A, rfl, by omega, rfl⟩)) (fun q => ?_) fun q => ss_nil ⟨m', t, _, by omega, rfl⟩)
      have hg := gcd_one_of hA0 (of_decide_eq_true q)
      exact ss_one (s_ret (g_tup (a_cons (g_var 1) (a_cons (g_var 4) a_nil))) ⟨⟨p, ip, A, ⟨by omega, hA, hg⟩, rfl⟩, m', by omega, rfl⟩)
    refine ss_cons (s_setX 4 (x_cat (x_lc (dx_lc (RI := fun ρ1 c src => ρ1 = [some (.gen gA m), some (.sh (.int p)), some (.sh (.int (z : Int))), some (.sh (.int (0 + (i : Int)))), b, none] ∧ c = z ∧ src = fun i => .int ((0 : Int) + (i : Int))) [("at", 5)] (fun _ => blkOk_by (N := ["generator", "p", "size", "turn", "f", "at"]) (sc := defScope s_lcurve) (by decide +kernel)) (ix_of (i_range1 bu (g_var 2)) ⟨rfl, by omega, rfl⟩) ?_ (by intro _ _; rfl)))))
    rintro ρ1 c src ⟨rfl, rfl, rfl⟩
    refine ⟨by omega, fun i' ρ acc => (∃ xs : List Int, acc = xs.map .int ∧ ∀ x ∈ xs, 0 ≤ x ∧ x < (p : Int)) ∧ ρ = [some (.gen gA (m + i')), some (.sh (.int p)), some (.sh (.int (c : Int))), some (.sh (.int (0 + (i : Int)))), b, none], ⟨⟨[], rfl, by simp⟩, rfl⟩, ?_, ?_⟩
    · rintro i' ρ2 acc hi' ⟨⟨xs, rfl, hx⟩, rfl⟩ hl
      refine ⟨[5], _, by decide, tg_name, dx_mono (gx_callG (gi := 0) (n := m + i') (gA := gA) OR hr rfl (a_cons (g_var 1) a_nil) ⟨(p : Int), rfl, by omega, by omega, by omega, rfl, rfl⟩) ?_⟩
      rintro ρ4 d ⟨rfl, x, rfl, g0, g1⟩
      refine ⟨⟨xs ++ [x], by rw [List.map_append]; rfl, fun u hu => ?_⟩, rfl⟩
      rcases List.mem_append.mp hu with q | q
      · exact hx u q
      · have : u = x := by simpa using q
        subst this; exact ⟨g0, g1⟩
    · rintro ρ2 acc ⟨⟨xs, rfl, hx⟩, rfl⟩ hl
      rw [List.length_map] at hl
      refine dx_of (g_lst (ds := [.int 1]) (a_cons g_int a_nil)) ⟨_, _, rfl, rfl, by simp; omega, ?_, Nat.le_of_ble_eq_true rfl⟩
      obtain ⟨A, eA, hA, hA0⟩ := mono_of hx
      have eL : (D.lst (xs.map D.int ++ [D.int 1])) = pol A := by unfold pol L; rw [eA, List.map_append]; rfl
      rw [eL]
      have hlA : A.l.length = c + 1 := by rw [eA]; simp [hl]
      refine ss_cons (s_ifX (xt_and (t_gtI (g_var 2) g_int) (fun q => xt_eqI (dx_mono (gx_callG (gi := 0) (n := m + c) (gA := gA) OR hr rfl (a_cons g_int a_nil) ⟨2, rfl, by omega, by omega, by omega, rfl, rfl⟩) ?_)) (fun q => ⟨fun z => absurd z (by decide), fun _ => ss_nil (fin A (m + c) _ (by omega) hlA hA hA0)⟩)))
      rintro ρ5 d ⟨rfl, y5, rfl, h50, h51⟩
      have hc1 : 1 < c := by
        have := of_decide_eq_true q
        omega
      refine dx_of g_int ⟨_, _, rfl, rfl, fun q2 => ?_, fun q2 => ss_nil (fin A (m + c + 1) _ (by omega) hlA hA hA0)⟩
      refine ss_one (s_setX 4 (x_call OM hr (xa_cons (dx_of (g_var 1) (xa_cons (x_cat (x_lc (dx_lc (RI := fun ρ1 c' src => ρ1 = [some (.gen gA (m + c + 1)), some (.sh (.int p)), some (.sh (.int (c : Int))), some (.sh (.int (0 + (i : Int)))), some (.sh (pol A)), none] ∧ c' = c - 1 ∧ src = fun i => .int ((0 : Int) + (i : Int))) [("at", 5)] (fun _ => blkOk_by (N := ["generator", "p", "size", "turn", "f", "at"]) (sc := defScope s_lcurve) (by decide +kernel)) (ix_of (i_range1 bu (g_sub (g_var 2) g_int)) ⟨rfl, by omega, rfl⟩) ?_ (by intro _ _; rfl)))))))))
      rintro ρ6 c' src ⟨rfl, hc', rfl⟩
      refine ⟨by omega, fun i' ρ acc => (∃ ys : List Int, acc = ys.map .int ∧ ∀ x ∈ ys, 0 ≤ x ∧ x < (p : Int)) ∧ ρ = [some (.gen gA (m + c + 1 + i')), some (.sh (.int p)), some (.sh (.int (c : Int))), some (.sh (.int (0 + (i : Int)))), some (.sh (pol A)), none], ⟨⟨[], rfl, by simp⟩, rfl⟩, ?_, ?_⟩
      · rintro i' ρ2 acc hi' ⟨⟨ys, rfl, hy⟩, rfl⟩ hl
        refine ⟨[5], _, by decide, tg_name, dx_mono (gx_callG (gi := 0) (n := m + c + 1 + i') (gA := gA) OR hr rfl (a_cons (g_var 1) a_nil) ⟨(p : Int), rfl, by omega, by omega, by omega, rfl, rfl⟩) ?_⟩
        rintro ρ4 d ⟨rfl, x, rfl, g0, g1⟩
        refine ⟨⟨ys ++ [x], by rw [List.map_append]; rfl, fun u hu => ?_⟩, rfl⟩
        rcases List.mem_append.mp hu with q | q
        · exact hy u q
        · have : u = x := by simpa using q
          subst this; exact ⟨g0, g1⟩
      · rintro ρ7 acc ⟨⟨ys, rfl, hy⟩, rfl⟩ hly
        rw [List.length_map] at hly
        refine dx_of (g_lst (ds := [.int 1]) (a_cons g_int a_nil)) ⟨_, _, rfl, rfl, by simp; omega, ?_⟩
        refine xa_cons (x_lst (xa_cons (dx_mono (gx_callG (gi := 0) (n := m + c + 1 + c') (gA := gA) OR hr rfl (a_cons (g_var 1) a_nil) ⟨(p : Int), rfl, by omega, by omega, by omega, rfl, rfl⟩) ?_)))
        rintro ρ8 d ⟨rfl, v, rfl, g0, g1⟩
        refine xa_cons (dx_of g_int (xa_nil ⟨of_decide_eq_true rfl, xa_nil ?_⟩))
        obtain ⟨B, eB, hB, hB0⟩ := mono_of hy
        obtain ⟨C, eC, hC, hC0⟩ := mono_of (p := p) (xs := [v]) (by simpa using ⟨g0, g1⟩)
        have eLB : (D.lst (ys.map D.int ++ [D.int 1])) = pol B := by unfold pol L; rw [eB, List.map_append]; rfl
        have eLC : (D.lst [D.int v, D.int 1]) = pol C := by unfold pol L; rw [eC]; rfl
        have lB : B.l.length = c' + 1 := by rw [eB]; simp [hly]
        have lC : C.l.length = 2 := by rw [eC]; rfl
        have lm := len_mul hB0 hC0
        unfold Pol.len at lm
        refine ⟨pol (B * C), ⟨p, ip, B, C, by rw [eLB, eLC], by omega, by omega, rfl⟩, ?_, Nat.le_of_ble_eq_true rfl⟩
        exact fin (B * C) (m + c + 1 + c' + 1) _ (by omega) (by omega) (lead_prod hB0 hC0 hB hC) (mul_ne_zero hB0 hC0)
  · rintro ρ1 ⟨m, a, b, hm, rfl⟩
    refine ss_one (s_retX (x_tup (xa_cons (dx_of (g_var 1) (xa_cons (x_lst (xa_cons (dx_mono (gx_callG (gi := 0) (n := m) (gA := gA) OR hr rfl (a_cons (g_var 1) a_nil) ⟨(p : Int), rfl, by omega, by omega, by omega, rfl, rfl⟩) ?_))))))))
    rintro ρ8 d ⟨rfl, v, rfl, g0, g1⟩
    refine xa_cons (dx_of g_int (xa_nil ⟨of_decide_eq_true rfl, xa_nil ⟨of_decide_eq_true rfl, ?_, m + 1, by omega, rfl⟩⟩))
    obtain ⟨C, eC, hC, hC0⟩ := mono_of (p := p) (xs := [v]) (by simpa using ⟨g0, g1⟩)
    have eLC : (D.lst [D.int v, D.int 1]) = pol C := by unfold pol L; rw [eC]; rfl
    refine ⟨p, ip, C, ⟨by left; rw [eC]; rfl, hC, ?_⟩, by rw [eLC]⟩
    rw [slope_line (x := v) (by rw [eC]; rfl)]
    exact gcd_right1 C
end
end Cv
end
section
set_option Elab.async false
set_option linter.all false
set_option maxRecDepth 100000
set_option maxHeartbeats 4000000
namespace Cv
open PySem L2 Evl
/-! ### polynomials with their lengths -/
def GP (X : Fm) (e : Expr) (ρ : Env) {p : Nat} (A : Pol p) (n : Nat) : Prop := GE X e ρ (pol A) ∧ A.l.length ≤ n
section
variable {X : Fm} {ρ : Env} {a b e q : Expr} {pos ps : Pos} {p : Nat} [ip : Pr p] {A B : Pol p} {m n k : Nat}
theorem gp_of (h : GE X e ρ (pol A)) (l : A.l.length ≤ n) : GP X e ρ A n := ⟨h, l⟩
theorem gp_mul (O : OMul X.P X.w X.K X.mg X.base k) (hr : Room k X.A) (hq : GE X q ρ (.int p)) (ha : GP X a ρ A m) (hb : GP X b ρ B n) (hm : m ≤ 20000 := by omega) (hn : n ≤ 20000 := by omega) (hg : ∀ j, Gl (X.Y j) "multiplied" := by intro _; rfl) (st : noStars [q, a, b] = true := by rfl) : GP X (.Call (.Name "multiplied" ps) [q, a, b] [] pos) ρ (A * B) (m + n) := by
  have s3 : noStar q = true ∧ noStar a = true ∧ noStar b = true := by simpa [noStars] using st
  have l1 := ha.2
  have l2 := hb.2
  have l3 := mul_len20 A B
  exact ⟨g_call O hr (a_cons hq (a_cons ha.1 (a_cons hb.1 a_nil s3.2.2) s3.2.1) s3.1) ⟨p, ip, A, B, rfl, by omega, by omega, rfl⟩ hg (by decide) st, by omega⟩
theorem gp_add (O : Own X.P X.w X.K X.mg X.base k "added" ["p", "one", "other"] (spD f_added)) (hr : Room k X.A) (hq : GE X q ρ (.int p)) (ha : GP X a ρ A m) (hb : GP X b ρ B n) (hm : m ≤ 20000 := by omega) (hn : n ≤ 20000 := by omega) (hg : ∀ j, Gl (X.Y j) "added" := by intro _; rfl) (st : noStars [q, a, b] = true := by rfl) : GP X (.Call (.Name "added" ps) [q, a, b] [] pos) ρ (A + B) (m + n) := by
  have s3 : noStar q = true ∧ noStar a = true ∧ noStar b = true := by simpa [noStars] using st
  have l1 := ha.2
  have l2 := hb.2
  have l3 := len_add A B
  unfold Pol.len at l3
  exact ⟨g_call O hr (a_cons hq (a_cons ha.1 (a_cons hb.1 a_nil s3.2.2) s3.2.1) s3.1) ⟨p, ip, A, B, rfl, by omega, by omega, rfl⟩ hg (by decide) st, by omega⟩
theorem gp_sub (O : OLess X.P X.w X.K X.mg X.base k) (hr : Room k X.A) (hq : GE X q ρ (.int p)) (ha : GP X a ρ A m) (hb : GP X b ρ B n) (hm : m ≤ 20000 := by omega) (hn : n ≤ 20000 := by omega) (hg : ∀ j, Gl (X.Y j) "lessened" := by intro _; rfl) (st : noStars [q, a, b] = true := by rfl) : GP X (.Call (.Name "lessened" ps) [q, a, b] [] pos) ρ (A - B) (m + n) := by
  have s3 : noStar q = true ∧ noStar a = true ∧ noStar b = true := by simpa [noStars] using st
  have l1 := ha.2
  have l2 := hb.2
  have l3 := len_sub A B
  unfold Pol.len at l3
  exact ⟨g_call O hr (a_cons hq (a_cons ha.1 (a_cons hb.1 a_nil s3.2.2) s3.2.1) s3.1) ⟨p, ip, A, B, rfl, by omega, by omega, rfl⟩ hg (by decide) st, by omega⟩
theorem gp_neg (O : Own X.P X.w X.K X.mg X.base k "negated" ["p", "one"] (spD f_negated)) (hr : Room k X.A) (hq : GE X q ρ (.int p)) (ha : GP X a ρ A m) (hm : m ≤ 20000 := by omega) (hg : ∀ j, Gl (X.Y j) "negated" := by intro _; rfl) (st : noStars [q, a] = true := by rfl) : GP X (.Call (.Name "negated" ps) [q, a] [] pos) ρ (-A) m := by
  have s3 : noStar q = true ∧ noStar a = true := by simpa [noStars] using st
  have l1 := ha.2
  have l3 := len_neg A
  unfold Pol.len at l3
  exact ⟨g_call O hr (a_cons hq (a_cons ha.1 a_nil s3.2) s3.1) ⟨p, ip, A, rfl, by omega, rfl⟩ hg (by decide) st, by omega⟩
theorem gp_scale {x : Int} (O : OScal X.P X.w X.K X.mg X.base k) (hr : Room k X.A) (hq : GE X q ρ (.int p)) (ha : GP X a ρ A m) (hb : GE X b ρ (.int x)) (h0 : 0 ≤ x := by omega) (h1 : x < 20000 := by omega) (hm : m ≤ 20000 := by omega) (hg : ∀ j, Gl (X.Y j) "scaled" := by intro _; rfl) (st : noStars [q, a, b] = true := by rfl) : GP X (.Call (.Name "scaled" ps) [q, a, b] [] pos) ρ (Pol.C x * A) m := by
  have s3 : noStar q = true ∧ noStar a = true ∧ noStar b = true := by simpa [noStars] using st
  have l1 := ha.2
  have l3 := len_C x A
  unfold Pol.len at l3
  exact ⟨g_call O hr (a_cons hq (a_cons ha.1 (a_cons hb a_nil s3.2.2) s3.2.1) s3.1) ⟨p, ip, A, x, rfl, by omega, h0, h1, rfl⟩ hg (by decide) st, by omega⟩
abbrev OSlp (P w K mg base k) := Own P w K mg base k "slope_of" ["p", "one"] (spD f_slope_of)
theorem gp_slope (O : OSlp X.P X.w X.K X.mg X.base k) (hr : Room k X.A) (hq : GE X q ρ (.int p)) (ha : GP X a ρ A m) (hm : m ≤ 5000 := by omega) (hg : ∀ j, Gl (X.Y j) "slope_of" := by intro _; rfl) (st : noStars [q, a] = true := by rfl) : GP X (.Call (.Name "slope_of" ps) [q, a] [] pos) ρ (slope A) m := by
  have s3 : noStar q = true ∧ noStar a = true := by simpa [noStars] using st
  have l1 := ha.2
  have l3 := slope_len A
  exact ⟨g_call O hr (a_cons hq (a_cons ha.1 a_nil s3.2) s3.1) ⟨p, ip, A, rfl, by omega, rfl⟩ hg (by decide) st, by omega⟩
theorem gp_nil : GP X (.List [] pos) ρ (0 : Pol p) 0 := ⟨DE.to g_nilI pol0.symm, by rw [zero_l]; simp⟩
theorem gp_one {k2 p2} : GP X (.List [.Constant (.int 1) k2 p2] pos) ρ (1 : Pol p) 1 := ⟨DE.to (g_lstI (aI_cons g_int aI_nil)) pol1.symm, by rw [one_l]; simp⟩
end
section
variable {X : Fm} {ρ : Env} {P : Post} {e : Expr} {p : Nat} {A : Pol p} {n : Nat}
theorem s_setP (i : Nat) {x : Str} {q pos : Pos} (he : GP X e ρ A n) (h : A.l.length ≤ n → P.nx (ρ.set i (some (.sh (pol A))))) (hi : i < ρ.length := by exact Nat.le_of_ble_eq_true rfl) (hn : X.N[i]? = some x := by rfl) (hx : ∀ j, Loc (X.Y j).env.scope x := by intro _; first | exact Or.inl rfl | exact Or.inr rfl)
    (hs : ∀ j, swapsWith e (some (.Name x q)) pos.line (X.Y j).env = pure false := by intro _; rfl) (hf : ∀ j, (X.Y j).fn x = true ∨ (X.Y j).env.scope.names.lookup x = some .local := by intro _; first | exact .inl rfl | exact .inr rfl) :
    GS X (.Assign [.Name x q] e pos) ρ P := s_set i he.1 (h he.2) hi hn hx hs hf
end
/-- lengths of a function's parts -/
structure Wd {p : Nat} [Pr p] (m : Nat) (t : Tri p) : Prop where
  a : t.1.l.length ≤ m
  b : t.2.1.l.length ≤ m
  c : t.2.2.l.length ≤ m
  ne : t.2.2 ≠ 0
theorem Wd.least {p : Nat} [Pr p] {m : Nat} {t : Tri p} (h : Wd m t) : Wd m (least t) := by
  obtain ⟨a, b, c⟩ := least_len h.ne
  unfold Pol.len at a b c
  exact ⟨by have := h.a; omega, by have := h.b; omega, by have := h.c; omega, least_ne h.ne⟩
section
variable {X : Fm} {ρ : Env} {o q1 q2 q3 : Expr} {pos ps : Pos} {p : Nat} [ip : Pr p] {g A B C : Pol p} {m n l k : Nat} {Cc Cf aP : Addr} {t : Tri p}
/-- made(..) -/
theorem g_made (O : OMade X.P X.w X.K X.mg X.base k Cc Cf) (hr : Room k X.A) (hc : GE X o ρ (curveD Cc g)) (h1 : GP X q1 ρ A m) (h2 : GP X q2 ρ B n) (h3 : GP X q3 ρ C l) (ne : C ≠ 0) (hm : m ≤ 5000 := by omega) (hn : n ≤ 5000 := by omega) (hl : l ≤ 5000 := by omega) (hg : ∀ j, Gl (X.Y j) "made" := by intro _; rfl) (st : noStars [o, q1, q2, q3] = true := by rfl) : GE X (.Call (.Name "made" ps) [o, q1, q2, q3] [] pos) ρ (funD Cf (curveD Cc g) (least (A, B, C))) := by
  have s3 : noStar o = true ∧ noStar q1 = true ∧ noStar q2 = true ∧ noStar q3 = true := by simpa [noStars] using st
  have l1 := h1.2
  have l2 := h2.2
  have l3 := h3.2
  exact g_call O hr (a_cons hc (a_cons h1.1 (a_cons h2.1 (a_cons h3.1 a_nil s3.2.2.2) s3.2.2.1) s3.2.1) s3.1) ⟨p, ip, g, (A, B, C), rfl, by simp only; omega, by simp only; omega, by simp only; omega, ne, rfl⟩ hg (by decide) st
end
section
variable {P : Program} {w : World} {K : PySem.W.Frag} {mg : Str → Option Value} {base : Heap} {f : Addr} {fd : FuncData} {k : Nat} {Cc Cf aP : Addr}
abbrev OAdd (P w K mg base k) := Own P w K mg base k "added" ["p", "one", "other"] (spD f_added)
abbrev ONeg (P w K mg base k) := Own P w K mg base k "negated" ["p", "one"] (spD f_negated)
/-! plus -/
def f_two (Cc Cf : Addr) (op : ∀ {p : Nat} [Pr p], Pol p → Tri p → Tri p → Tri p) (ds : List D) (d : D) : Prop := ∃ (p : Nat) (_ : Pr p) (g : Pol p) (t u : Tri p) (m n : Nat), ds = [funD Cf (curveD Cc g) t, funD Cf (curveD Cc g) u] ∧ g.l.length ≤ 8 ∧ Wd m t ∧ Wd n u ∧ m + n ≤ 2400 ∧ d = funD Cf (curveD Cc g) (least (op g t u))
end
end Cv
end
section
set_option Elab.async false
set_option linter.all false
set_option maxRecDepth 100000
set_option maxHeartbeats 4000000
namespace Cv
open PySem L2 Evl
section
variable {P : Program} {w : World} {K : PySem.W.Frag} {mg : Str → Option Value} {base : Heap} {f : Addr} {fd : FuncData} {k : Nat} {Cc Cf aP : Addr}
abbrev f_one (Cc Cf : Addr) (op : ∀ {p : Nat} [Pr p], Pol p → Tri p → Tri p) (ds : List D) (d : D) : Prop := ∃ (p : Nat) (_ : Pr p) (g : Pol p) (t : Tri p) (m : Nat), ds = [funD Cf (curveD Cc g) t] ∧ g.l.length ≤ 8 ∧ Wd m t ∧ m ≤ 1200 ∧ d = funD Cf (curveD Cc g) (least (op g t))
/-! opposite -/
/-! turned_about -/
/-! times -/
/-! norm_top -/
def f_norm_top (Cc Cf : Addr) (ds : List D) (d : D) : Prop := ∃ (p : Nat) (_ : Pr p) (g : Pol p) (t : Tri p) (m : Nat), ds = [funD Cf (curveD Cc g) t] ∧ g.l.length ≤ 8 ∧ Wd m t ∧ m ≤ 1200 ∧ d = pol (normP g t)
theorem normP_len {p : Nat} [Pr p] {g : Pol p} {t : Tri p} {m : Nat} (h : Wd m t) (hg : g.l.length ≤ 8) : (normP g t).l.length ≤ 2 * m + (2 * m + 8) := by
  have l1 := mul_len20 t.1 t.1
  have l2 := mul_len20 t.2.1 t.2.1
  have l3 := mul_len20 (t.2.1 * t.2.1) g
  have l4 := len_sub (t.1 * t.1) (t.2.1 * t.2.1 * g)
  have := h.a
  have := h.b
  unfold Pol.len at l4
  unfold normP
  omega
abbrev ONt (P w K mg base k Cc Cf) := Own P w K mg base k "norm_top" ["function"] (spD (f_norm_top Cc Cf))
/-! norm_of -/
/-! trace_of -/
/-! back_of -/
def f_back_of (Cc Cf : Addr) (ds : List D) (d : D) : Prop := ∃ (p : Nat) (_ : Pr p) (g : Pol p) (t : Tri p) (m : Nat), ds = [funD Cf (curveD Cc g) t] ∧ g.l.length ≤ 8 ∧ Wd m t ∧ m ≤ 1200 ∧ normP g t ≠ 0 ∧ d = funD Cf (curveD Cc g) (least (backT g t))
/-! slope_by -/
def f_slope_by (Cc Cf : Addr) (ds : List D) (d : D) : Prop := ∃ (p : Nat) (_ : Pr p) (g : Pol p) (t : Tri p) (m : Nat), ds = [funD Cf (curveD Cc g) t] ∧ g.l.length ≤ 8 ∧ g ≠ 0 ∧ Wd m t ∧ m ≤ 700 ∧ d = funD Cf (curveD Cc g) (least (slopeT g t))
theorem two_ne {p : Nat} [ip : Pr p] : (Pol.C 2 : Pol p) ≠ 0 := C_ne (by
  rcases ip.is with rfl | rfl | rfl | rfl | rfl <;> decide)
end
end Cv
end
section
set_option Elab.async false
set_option linter.all false
set_option maxRecDepth 100000
set_option maxHeartbeats 4000000
namespace Cv
open PySem L2 Evl
section
variable {p : Nat} [ip : Pr p]
theorem least_plus {s t : Tri p} (hs : s.2.2 ≠ 0) (ht : t.2.2 ≠ 0) : least (plusT (least s) (least t)) = least (plusT s t) :=
  least_eq (mul_ne_zero (least_ne hs) (least_ne ht)) (mul_ne_zero hs ht) (same_plus (least_same hs) (least_same ht))
theorem least_mul {g : Pol p} {s t : Tri p} (hs : s.2.2 ≠ 0) (ht : t.2.2 ≠ 0) : least (mulT g (least s) (least t)) = least (mulT g s t) :=
  least_eq (mul_ne_zero (least_ne hs) (least_ne ht)) (mul_ne_zero hs ht) (same_mul (least_same hs) (least_same ht))
theorem least_plusR {s t : Tri p} (hs : s.2.2 ≠ 0) (ht : t.2.2 ≠ 0) : least (plusT s (least t)) = least (plusT s t) :=
  least_eq (mul_ne_zero hs (least_ne ht)) (mul_ne_zero hs ht) (same_plus (same_refl s) (least_same ht))
theorem least_mulR {g : Pol p} {s t : Tri p} (hs : s.2.2 ≠ 0) (ht : t.2.2 ≠ 0) : least (mulT g s (least t)) = least (mulT g s t) :=
  least_eq (mul_ne_zero hs (least_ne ht)) (mul_ne_zero hs ht) (same_mul (same_refl s) (least_same ht))
theorem powT_one (g : Pol p) (t : Tri p) : powT g t 1 = t := by
  show mulT g (1, 0, 1) t = t
  unfold mulT
  refine Prod.ext ?_ (Prod.ext ?_ ?_) <;> simp only <;> grind
theorem powT_ne {g : Pol p} {t : Tri p} (h : t.2.2 ≠ 0) (n : Nat) : (powT g t n).2.2 ≠ 0 := by
  rw [powT_bottom]; exact pow_ne_zero h n
theorem mulT_wd {g : Pol p} {s t : Tri p} {m n : Nat} (hg : g.l.length ≤ 8) (hs : Wd m s) (ht : Wd n t) : Wd (m + n + 8) (mulT g s t) := by
  have a1 := hs.a
  have a2 := hs.b
  have a3 := hs.c
  have b1 := ht.a
  have b2 := ht.b
  have b3 := ht.c
  have l1 := mul_len20 s.1 t.1
  have l2 := mul_len20 s.2.1 t.2.1
  have l3 := mul_len20 (s.2.1 * t.2.1) g
  have l4 := len_add (s.1 * t.1) (s.2.1 * t.2.1 * g)
  have l5 := mul_len20 s.1 t.2.1
  have l6 := mul_len20 s.2.1 t.1
  have l7 := len_add (s.1 * t.2.1) (s.2.1 * t.1)
  have l8 := mul_len20 s.2.2 t.2.2
  unfold Pol.len at l4 l7
  exact ⟨by unfold mulT; simp only; omega, by unfold mulT; simp only; omega, by unfold mulT; simp only; omega, mul_ne_zero hs.ne ht.ne⟩
theorem powT_wd {g : Pol p} {t : Tri p} {m : Nat} (hg : g.l.length ≤ 8) (ht : Wd m t) : ∀ n, Wd (n * (m + 8) + 1) (powT g t n)
  | 0 => ⟨by show (1 : Pol p).l.length ≤ _; rw [one_l]; simp, by show (0 : Pol p).l.length ≤ _; rw [zero_l]; simp, by show (1 : Pol p).l.length ≤ _; rw [one_l]; simp, one_ne_zero⟩
  | n + 1 => by
    have h := mulT_wd hg (powT_wd hg ht n) ht
    have e : (n + 1) * (m + 8) + 1 = n * (m + 8) + 1 + m + 8 := by rw [Nat.succ_mul]; omega
    rw [e]
    exact h
theorem Wd.mono {m n : Nat} {t : Tri p} (h : Wd m t) (k : m ≤ n) : Wd n t := ⟨by have := h.a; omega, by have := h.b; omega, by have := h.c; omega, h.ne⟩
end
section
variable {P : Program} {w : World} {K : PySem.W.Frag} {mg : Str → Option Value} {base : Heap} {f : Addr} {fd : FuncData} {k : Nat} {Cc Cf aP : Addr}
abbrev OTi (P w K mg base k Cc Cf) := Own P w K mg base k "times" ["one", "other"] (spD (f_two Cc Cf fun g t u => mulT g t u))
/-! minus, over -/
def f_minus (Cc Cf : Addr) (ds : List D) (d : D) : Prop := ∃ (p : Nat) (_ : Pr p) (g : Pol p) (t u : Tri p) (m n : Nat), ds = [funD Cf (curveD Cc g) t, funD Cf (curveD Cc g) u] ∧ g.l.length ≤ 8 ∧ Wd m t ∧ Wd n u ∧ m + n ≤ 1200 ∧ d = funD Cf (curveD Cc g) (least (plusT t (negT u)))
theorem negT_wd {p : Nat} [Pr p] {t : Tri p} {m : Nat} (h : Wd m t) : Wd m (negT t) := by
  have l1 := len_neg t.1
  have l2 := len_neg t.2.1
  unfold Pol.len at l1 l2
  exact ⟨by have := h.a; unfold negT; simp only; omega, by have := h.b; unfold negT; simp only; omega, h.c, h.ne⟩
def f_over (Cc Cf : Addr) (ds : List D) (d : D) : Prop := ∃ (p : Nat) (_ : Pr p) (g : Pol p) (t u : Tri p) (m n : Nat), ds = [funD Cf (curveD Cc g) t, funD Cf (curveD Cc g) u] ∧ g.l.length ≤ 8 ∧ Wd m t ∧ Wd n u ∧ m + (4 * n + 8) ≤ 2400 ∧ normP g u ≠ 0 ∧ d = funD Cf (curveD Cc g) (least (mulT g t (backT g u)))
theorem backT_wd {p : Nat} [Pr p] {g : Pol p} {t : Tri p} {m : Nat} (hg : g.l.length ≤ 8) (h : Wd m t) (hn : normP g t ≠ 0) : Wd (4 * m + 8) (backT g t) := by
  have nl := normP_len h hg
  have l1 := mul_len20 t.1 t.2.2
  have l2 := mul_len20 t.2.1 t.2.2
  have l3 := len_neg (t.2.1 * t.2.2)
  unfold Pol.len at l3
  have := h.a
  have := h.b
  have := h.c
  exact ⟨by unfold backT; simp only; omega, by unfold backT; simp only; omega, by unfold backT; simp only; omega, hn⟩
/-! raised_to -/
def f_raised_to (Cc Cf : Addr) (ds : List D) (d : D) : Prop := ∃ (p : Nat) (_ : Pr p) (g : Pol p) (t : Tri p) (m c : Nat), ds = [funD Cf (curveD Cc g) t, .int (c : Int)] ∧ g.l.length ≤ 8 ∧ Wd m t ∧ Least t ∧ c ≤ 20 ∧ m ≤ 50 ∧ d = funD Cf (curveD Cc g) (least (powT g t c))
end
end Cv
end
section
set_option Elab.async false
set_option linter.all false
set_option maxRecDepth 100000
set_option maxHeartbeats 4000000
namespace Cv
open PySem L2 Evl
section
variable {X : Fm} {ρ : Env} {a b : Expr} {pos : Pos} {k : Nat} {C : Addr} {fs gs : List (Str × D)} {r : Bool} {ps : List Str} {f : List D → D → Prop}
theorem t_ownEq (O : OwnE X.P X.w X.K X.mg X.base k C ps f) (room : Room k X.A) (ha : GE X a ρ (.obj C fs)) (hb : GE X b ρ (.obj C gs)) (hf : f [.obj C fs, .obj C gs] (.bl r)) : GT X (.Compare a [.Eq] [b] pos) ρ r := by
  obtain ⟨fA, fd, F, h1, h2, h3⟩ := O.ex
  refine cmp_t (r := rOwnEq C (spD f)) (fun j => op_ownEq (FnOk.at F j) (by rw [X.hA j]; exact room) (by rw [X.hK j]; exact h1) (by rw [X.hK j]; exact h2) (by rw [X.hK j]; exact h3)) ha hb fun F0 H v u e rv ru Q q => ?_
  obtain ⟨l, dx, xs, rfl, k1, _⟩ := id rv.obj_inv
  obtain ⟨m, dy, ys, rfl, k2, _⟩ := id ru.obj_inv
  exact ⟨l, m, dx, dy, xs, ys, rfl, rfl, e _ _ k1, e _ _ k2, F0, _, .bl r, e, .cons rv (.cons ru .nil), hf, fun z F2 H2 g rz => ⟨⟨r, rz.bl_inv⟩, q z F2 H2 g rz⟩⟩
end
theorem pol_inj {p : Nat} {A B : Pol p} : pol A = pol B ↔ A = B := ⟨fun h => Pol.l_inj (L_inj.mp h), fun h => by rw [h]⟩
theorem triD_inj {p : Nat} {t u : Tri p} : triD t = triD u ↔ t = u := ⟨fun h => by
  have h' := D.lst.inj h
  simp only [List.cons.injEq, and_true] at h'
  exact Prod.ext (pol_inj.mp h'.1) (Prod.ext (pol_inj.mp h'.2.1) (pol_inj.mp h'.2.2)), fun h => by rw [h]⟩
theorem triD_num {p : Nat} (t : Tri p) : (triD t).num = true := by
  show ((pol t.1).num && ((pol t.2.1).num && ((pol t.2.2).num && true))) = true
  rw [show (pol t.1).num = true from L_num _, show (pol t.2.1).num = true from L_num _, show (pol t.2.2).num = true from L_num _]; rfl
theorem triD_shaped {p : Nat} (t : Tri p) : SeqAt.shaped (triD t).py = true := by
  have e : (triD t).py = .list [.list (t.1.l.map .int), .list (t.2.1.l.map .int), .list (t.2.2.l.map .int)] := by
    show PyData.list [(L t.1.l).py, (L t.2.1.l).py, (L t.2.2.l).py] = _
    rw [L_py, L_py, L_py]
  rw [e]
  simp [SeqAt.shaped, PyData.canLay0, PyData.canLayAll0, canLay_ints, PyData.depth, PyData.depthAll, depth_ints]
section
variable {P : Program} {w : World} {K : PySem.W.Frag} {mg : Str → Option Value} {base : Heap} {f : Addr} {fd : FuncData} {k : Nat} {Cc Cf aP : Addr}
/-! == of curves, of functions -/
def f_cEq (Cc : Addr) (ds : List D) (d : D) : Prop := ∃ (p : Nat) (g h : Pol p), ds = [curveD Cc g, curveD Cc h] ∧ d = .bl (decide (g.l = h.l))
theorem ok_cEq2 (T : KF K mg Cc Cf aP) (F : Fun K "__eq__" "Curve.__eq__" s_cEq f fd) : FnOk P w K mg base CX0 1 f fd ["self", "other"] (spD (f_cEq Cc)) := by
  refine fn_D _ F sc_cEq (by rintro ds d ⟨p, g, h, rfl, _⟩; rfl) fun cdv A' outer s H E hr ds d hf => ?_
  obtain ⟨p, g, h, rfl, rfl⟩ := hf
  refine ss_cons (s_if (k := false) (t_not (k := true) (t_val (g_isi T.bu (d := curveD Cc h) (g_var 1) (c_own T.mC) (.own Cc) (T.oc.ty _) (kit_self _ _)))) (fun z => absurd z (by decide)) (fun z => ss_nil ?_))
  refine ss_one (s_ret (DE.to (g_and (k := true) (c := decide (g.l = h.l)) ((g_eqI (i := (p : Int)) (j := (p : Int)) (g_fld (d := .int p) (g_var 0) rfl T.oc.cl T.c1) (g_fld (d := .int p) (g_var 1) rfl T.oc.cl T.c1)).to (by rw [decide_eq_true rfl])) (fun z => g_one (g_eqL hr (ns := g.l) (ms := h.l) (g_fld (d := pol g) (g_var 0) rfl T.oc.cl T.c2) (g_fld (d := pol h) (g_var 1) rfl T.oc.cl T.c2)))) (by rw [Bool.true_and])) rfl)
abbrev OCq (P w K mg base k Cc) := OwnE P w K mg base k Cc ["self", "other"] (f_cEq Cc)
abbrev s_fEq : Stmt := inClass (topS 32) 5
theorem sc_fEq : FnScope ["self", "other"] ["self", "other"] (defScope s_fEq) := ⟨rfl, rfl, rfl, by decide +kernel, rfl, by decide +kernel, by decide +kernel⟩
def f_fEq (Cc Cf : Addr) (ds : List D) (d : D) : Prop := ∃ (p : Nat) (g h : Pol p) (t u : Tri p) (b : Bool), ds = [funD Cf (curveD Cc g) t, funD Cf (curveD Cc h) u] ∧ (b = true ↔ g = h ∧ t = u) ∧ d = .bl b
theorem ok_fEq (T : KF K mg Cc Cf aP) (OQ : OCq P w K mg base k Cc) (F : Fun K "__eq__" "Function.__eq__" s_fEq f fd) : FnOk P w K mg base CX0 (k + 1) f fd ["self", "other"] (spD (f_fEq Cc Cf)) := by
  refine fn_D _ F sc_fEq (by rintro ds d ⟨p, g, h, t, u, b, rfl, _⟩; rfl) fun cdv A' outer s H E hr ds d hf => ?_
  obtain ⟨p, g, h, t, u, b, rfl, hb, rfl⟩ := hf
  refine ss_cons (s_if (k := false) (t_not (k := true) (t_val (g_isi T.bu (d := funD Cf (curveD Cc h) u) (g_var 1) (c_own T.mF) (.own Cf) (T.of.ty _) (kit_self _ _)))) (fun z => absurd z (by decide)) (fun z => ss_nil ?_))
  obtain ⟨c, hc⟩ : ∃ c : Bool, c = true ↔ triD t = triD u := by
    by_cases q : triD t = triD u
    · exact ⟨true, by simp [q]⟩
    · exact ⟨false, by simp [q]⟩
  refine ss_one (s_ret (DE.to (g_and (k := decide (g.l = h.l)) (c := c) (g_ownEq OQ hr (g_fld (d := curveD Cc g) (g_var 0) rfl T.of.cl T.f1) (g_fld (d := curveD Cc h) (g_var 1) rfl T.of.cl T.f1) ⟨p, g, h, rfl, rfl⟩) (fun z => g_one (g_eqD hr (g_fld (d := triD t) (g_var 0) rfl T.of.cl T.f2) (g_fld (d := triD u) (g_var 1) rfl T.of.cl T.f2) hc (triD_num t) (triD_num u) (triD_shaped t) (triD_shaped u)))) (d' := .bl b) (by
    have e : (decide (g.l = h.l) && c) = b := by
      rw [Bool.eq_iff_iff, hb, Bool.and_eq_true, decide_eq_true_iff, hc, triD_inj]
      exact ⟨fun ⟨x, y⟩ => ⟨Pol.l_inj x, y⟩, fun ⟨x, y⟩ => ⟨by rw [x], y⟩⟩
    rw [e])) rfl)
/-! is_nought, check_not_nought, check_both -/
abbrev s_is_nought : Stmt := topS 36
theorem sc_is_nought : FnScope ["function"] ["function"] (defScope s_is_nought) := ⟨rfl, rfl, rfl, by decide +kernel, rfl, by decide +kernel, by decide +kernel⟩
def f_is_nought (Cf : Addr) (ds : List D) (d : D) : Prop := ∃ (p : Nat) (c : D) (t : Tri p), ds = [funD Cf c t] ∧ d = .bl (decide (t.1.l = []) && decide (t.2.1.l = []))
theorem ok_is_nought (T : KF K mg Cc Cf aP) (N : MF P w K mg base k Cf) (F : Fun K "is_nought" "is_nought" s_is_nought f fd) : FnOk P w K mg base CX0 (k + 1) f fd ["function"] (spD (f_is_nought Cf)) := by
  refine fn_D _ F sc_is_nought (by rintro ds d ⟨p, c, t, rfl, _⟩; rfl) fun cdv A' outer s H E hr ds d hf => ?_
  obtain ⟨p, c, t, rfl, rfl⟩ := hf
  exact ss_one (s_ret (g_and (g_eqL hr (ns := t.1.l) (g_top N T hr (c := c) (t := t) (g_var 0)) g_nilI) (fun z => g_one (g_eqL hr (ns := t.2.1.l) (g_side N T hr (c := c) (t := t) (g_var 0)) g_nilI))) rfl)
abbrev OIn (P w K mg base k Cf) := Own P w K mg base k "is_nought" ["function"] (spD (f_is_nought Cf))
def f_check_not_nought (Cf : Addr) (ds : List D) (d : D) : Prop := ∃ (p : Nat) (c : D) (t : Tri p), ds = [funD Cf c t] ∧ ¬ (t.1.l = [] ∧ t.2.1.l = []) ∧ d = .non
def f_check_both (Cc Cf : Addr) (ds : List D) (d : D) : Prop := ∃ (p : Nat) (g : Pol p) (t u : Tri p), ds = [funD Cf (curveD Cc g) t, funD Cf (curveD Cc g) u] ∧ d = .non
end
end Cv
end
section
set_option Elab.async false
set_option linter.all false
set_option maxRecDepth 100000
set_option maxHeartbeats 4000000
namespace Cv
open PySem L2 Evl
section
variable {X : Fm} {ρ : Env} {a b e q : Expr} {pos ps : Pos} {p : Nat} [ip : Pr p] {A B : Pol p} {m n k : Nat}
theorem lp_mul (O : PMul X.P X.w X.K X.mg X.base k) (hr : Room k X.A) (hq : GE X q ρ (.int p)) (ha : GP X a ρ A m) (hb : GP X b ρ B n) (hm : m ≤ 20000 := by omega) (hn : n ≤ 20000 := by omega) (hg : ∀ j, Gl (X.Y j) "_law_times" := by intro _; rfl) (st : noStars [q, a, b] = true := by rfl) : GP X (.Call (.Name "_law_times" ps) [q, a, b] [] pos) ρ (A * B) (m + n) := by
  have s3 : noStar q = true ∧ noStar a = true ∧ noStar b = true := by simpa [noStars] using st
  have l1 := ha.2
  have l2 := hb.2
  have l3 := mul_len20 A B
  exact ⟨g_call O hr (a_cons hq (a_cons ha.1 (a_cons hb.1 a_nil s3.2.2) s3.2.1) s3.1) ⟨p, ip, A, B, rfl, by omega, by omega, rfl⟩ hg (by decide) st, by omega⟩
theorem lp_add (O : PPlus X.P X.w X.K X.mg X.base k) (hr : Room k X.A) (hq : GE X q ρ (.int p)) (ha : GP X a ρ A m) (hb : GP X b ρ B n) (hm : m ≤ 20000 := by omega) (hn : n ≤ 20000 := by omega) (hg : ∀ j, Gl (X.Y j) "_law_plus" := by intro _; rfl) (st : noStars [q, a, b] = true := by rfl) : GP X (.Call (.Name "_law_plus" ps) [q, a, b] [] pos) ρ (A + B) (m + n) := by
  have s3 : noStar q = true ∧ noStar a = true ∧ noStar b = true := by simpa [noStars] using st
  have l1 := ha.2
  have l2 := hb.2
  have l3 := len_add A B
  unfold Pol.len at l3
  exact ⟨g_call O hr (a_cons hq (a_cons ha.1 (a_cons hb.1 a_nil s3.2.2) s3.2.1) s3.1) ⟨p, ip, A, B, rfl, by omega, by omega, rfl⟩ hg (by decide) st, by omega⟩
theorem lp_scale {x : Int} (O : PScal X.P X.w X.K X.mg X.base k) (hr : Room k X.A) (hq : GE X q ρ (.int p)) (ha : GP X a ρ A m) (hb : GE X b ρ (.int x)) (h0 : 0 ≤ x := by omega) (h1 : x < 20000 := by omega) (hm : m ≤ 20000 := by omega) (hg : ∀ j, Gl (X.Y j) "_law_scaled" := by intro _; rfl) (st : noStars [q, a, b] = true := by rfl) : GP X (.Call (.Name "_law_scaled" ps) [q, a, b] [] pos) ρ (Pol.C x * A) m := by
  have s3 : noStar q = true ∧ noStar a = true ∧ noStar b = true := by simpa [noStars] using st
  have l1 := ha.2
  have l3 := len_C x A
  unfold Pol.len at l3
  exact ⟨g_call O hr (a_cons hq (a_cons ha.1 (a_cons hb a_nil s3.2.2) s3.2.1) s3.1) ⟨p, ip, A, x, rfl, by omega, h0, h1, rfl⟩ hg (by decide) st, by omega⟩
end
section
variable {X : Fm} {ρ : Env} {a b : Expr} {pos : Pos} {p : Nat} {t : Tri p} {i : Int}
theorem g_tri0 (ha : GE X a ρ (triD t)) (hb : GE X b ρ (.int 0)) (hs : noSl b = true := by rfl) : GE X (.Subscript a b pos) ρ (pol t.1) := g_ixL (i := 0) (ds := [pol t.1, pol t.2.1, pol t.2.2]) ha hb rfl hs
theorem g_tri1 (ha : GE X a ρ (triD t)) (hb : GE X b ρ (.int 1)) (hs : noSl b = true := by rfl) : GE X (.Subscript a b pos) ρ (pol t.2.1) := g_ixL (i := 1) (ds := [pol t.1, pol t.2.1, pol t.2.2]) ha hb rfl hs
theorem g_tri2 (ha : GE X a ρ (triD t)) (hb : GE X b ρ (.int 2)) (hs : noSl b = true := by rfl) : GE X (.Subscript a b pos) ρ (pol t.2.2) := g_ixL (i := 2) (ds := [pol t.1, pol t.2.1, pol t.2.2]) ha hb rfl hs
end
section
variable {P : Program} {w : World} {K : PySem.W.Frag} {mg : Str → Option Value} {base : Heap} {f : Addr} {fd : FuncData} {k : Nat} {Cc Cf aP : Addr}
/-! _law_multiplied -/
abbrev s_lmultiplied : Stmt := topS 69
theorem sc_lmultiplied : FnScope ["p", "f", "one", "other", "high", "side"] ["p", "f", "one", "other"] (defScope s_lmultiplied) := ⟨rfl, rfl, rfl, by decide +kernel, rfl, by decide +kernel, by decide +kernel⟩
def f_lmultiplied (ds : List D) (d : D) : Prop := ∃ (p : Nat) (_ : Pr p) (g : Pol p) (t u : Tri p) (m n : Nat), ds = [.int p, pol g, triD t, triD u] ∧ g.l.length ≤ 8 ∧ Wd m t ∧ Wd n u ∧ m + n ≤ 9000 ∧ d = triD (mulT g t u)
theorem ok_lmultiplied (OM : PMul P w K mg base k) (OA : PPlus P w K mg base k) (F : Fun K "_law_multiplied" "_law_multiplied" s_lmultiplied f fd) : FnOk P w K mg base CX0 (k + 1) f fd ["p", "f", "one", "other"] (spD f_lmultiplied) := by
  refine fn_D _ F sc_lmultiplied (by rintro ds d ⟨p, _, _, _, _, _, _, rfl, _⟩; rfl) fun cdv A' outer s H E hr ds d hf => ?_
  obtain ⟨p, ip, g, t, u, m, n, rfl, hg8, ht, hu, hmn, rfl⟩ := hf
  have a1 := ht.a
  have a2 := ht.b
  have a3 := ht.c
  have b1 := hu.a
  have b2 := hu.b
  have b3 := hu.c
  refine ss_cons (s_setP 4 (lp_mul (m := m + n) (n := 8) OM hr (g_var 0) (lp_mul OM hr (g_var 0) (gp_of (g_tri1 (t := t) (g_var 2) g_int) a2) (gp_of (g_tri1 (t := u) (g_var 3) g_int) b2)) (gp_of (g_var 1) hg8)) fun l1 => ?_)
  refine ss_cons (s_setP 5 (lp_add (m := m + n) (n := m + n) OA hr (g_var 0) (lp_mul OM hr (g_var 0) (gp_of (g_tri0 (t := t) (g_var 2) g_int) a1) (gp_of (g_tri1 (t := u) (g_var 3) g_int) b2)) (lp_mul OM hr (g_var 0) (gp_of (g_tri1 (t := t) (g_var 2) g_int) a2) (gp_of (g_tri0 (t := u) (g_var 3) g_int) b1))) fun l2 => ?_)
  exact ss_one (s_ret (g_lst (ds := [pol (t.1 * u.1 + t.2.1 * u.2.1 * g), pol (t.1 * u.2.1 + t.2.1 * u.1), pol (t.2.2 * u.2.2)]) (a_cons (lp_add (m := m + n) (n := m + n + 8) OA hr (g_var 0) (lp_mul OM hr (g_var 0) (gp_of (g_tri0 (t := t) (g_var 2) g_int) a1) (gp_of (g_tri0 (t := u) (g_var 3) g_int) b1)) (gp_of (g_var 4) l1)).1 (a_cons (g_var 5) (a_cons (lp_mul (m := m) (n := n) OM hr (g_var 0) (gp_of (g_tri2 (t := t) (g_var 2) g_int) a3) (gp_of (g_tri2 (t := u) (g_var 3) g_int) b3)).1 a_nil))) (of_decide_eq_true rfl)) rfl)
end
end Cv
end
section
set_option Elab.async false
set_option linter.all false
set_option maxRecDepth 100000
set_option maxHeartbeats 4000000
namespace Cv
open PySem L2 Evl
section
variable {P : Program} {w : World} {K : PySem.W.Frag} {mg : Str → Option Value} {base : Heap} {f : Addr} {fd : FuncData} {k : Nat} {Cc Cf aP : Addr}
theorem C_minus {p : Nat} [Pr p] (B : Pol p) : Pol.C ((p : Int) - 1) * B = -B := by
  have e : (Pol.C ((p : Int) - 1) : Pol p) = Pol.C (-1) := C_mod (by
    have : (p : Int) - 1 = -1 + (p : Int) := by omega
    rw [this, Int.add_emod_right])
  have e2 : (Pol.C (-1) : Pol p) + 1 = 0 := by
    have := C_add (p := p) (-1) 1
    rw [C_one] at this
    rw [this]; exact C_zero
  rw [e]
  grind
/-! _law_less -/
abbrev s_lless : Stmt := topS 72
theorem sc_lless : FnScope ["p", "one", "other"] ["p", "one", "other"] (defScope s_lless) := ⟨rfl, rfl, rfl, by decide +kernel, rfl, by decide +kernel, by decide +kernel⟩
theorem ok_lless (OA : PPlus P w K mg base k) (OS : PScal P w K mg base k) (F : Fun K "_law_less" "_law_less" s_lless f fd) : FnOk P w K mg base CX0 (k + 1) f fd ["p", "one", "other"] (spD f_lessened) := by
  refine fn_D _ F sc_lless (by rintro ds d ⟨p, _, _, _, rfl, _⟩; rfl) fun cdv A' outer s H E hr ds d hf => ?_
  obtain ⟨p, ip, A, B, rfl, hA, hB, rfl⟩ := hf
  have hp := Pr.le13 p
  have hp3 := Pr.ge3 p
  refine ss_one (s_ret (DE.to (lp_add (m := 20000) (n := 20000) OA hr (g_var 0) (gp_of (g_var 1) hA) (lp_scale OS hr (g_var 0) (gp_of (g_var 2) hB) (g_sub (g_var 0) g_int))).1 (d' := pol (A - B)) ?_) rfl)
  rw [C_minus]
  have : A + -B = A - B := by grind
  rw [this]
abbrev PLs (P w K mg base k) := Own P w K mg base k "_law_less" ["p", "one", "other"] (spD f_lessened)
end
end Cv
end
section
set_option Elab.async false
set_option linter.all false
set_option maxRecDepth 100000
set_option maxHeartbeats 4000000
namespace Cv
open PySem L2 Evl
abbrev PFa (P w K mg base k) := Own P w K mg base k "_law_fall" ["p", "one"] (spD f_slope_of)
section
variable {X : Fm} {ρ : Env} {a b e q : Expr} {pos ps : Pos} {p : Nat} [ip : Pr p] {A B : Pol p} {m n k : Nat}
theorem lp_less (O : PLs X.P X.w X.K X.mg X.base k) (hr : Room k X.A) (hq : GE X q ρ (.int p)) (ha : GP X a ρ A m) (hb : GP X b ρ B n) (hm : m ≤ 20000 := by omega) (hn : n ≤ 20000 := by omega) (hg : ∀ j, Gl (X.Y j) "_law_less" := by intro _; rfl) (st : noStars [q, a, b] = true := by rfl) : GP X (.Call (.Name "_law_less" ps) [q, a, b] [] pos) ρ (A - B) (m + n) := by
  have s3 : noStar q = true ∧ noStar a = true ∧ noStar b = true := by simpa [noStars] using st
  have l1 := ha.2
  have l2 := hb.2
  have l3 := len_sub A B
  unfold Pol.len at l3
  exact ⟨g_call O hr (a_cons hq (a_cons ha.1 (a_cons hb.1 a_nil s3.2.2) s3.2.1) s3.1) ⟨p, ip, A, B, rfl, by omega, by omega, rfl⟩ hg (by decide) st, by omega⟩
theorem lp_fall (O : PFa X.P X.w X.K X.mg X.base k) (hr : Room k X.A) (hq : GE X q ρ (.int p)) (ha : GP X a ρ A m) (hm : m ≤ 5000 := by omega) (hg : ∀ j, Gl (X.Y j) "_law_fall" := by intro _; rfl) (st : noStars [q, a] = true := by rfl) : GP X (.Call (.Name "_law_fall" ps) [q, a] [] pos) ρ (slope A) m := by
  have s3 : noStar q = true ∧ noStar a = true := by simpa [noStars] using st
  have l1 := ha.2
  have l3 := slope_len A
  exact ⟨g_call O hr (a_cons hq (a_cons ha.1 a_nil s3.2) s3.1) ⟨p, ip, A, rfl, by omega, rfl⟩ hg (by decide) st, by omega⟩
end
section
variable {P : Program} {w : World} {K : PySem.W.Frag} {mg : Str → Option Value} {base : Heap} {f : Addr} {fd : FuncData} {k : Nat} {Cc Cf aP : Addr}
/-! _law_norm, _law_inverse_of, _law_fall -/
def f_lnorm (ds : List D) (d : D) : Prop := ∃ (p : Nat) (_ : Pr p) (g : Pol p) (t : Tri p) (m : Nat), ds = [.int p, pol g, triD t] ∧ g.l.length ≤ 8 ∧ Wd m t ∧ m ≤ 2000 ∧ d = pol (normP g t)
abbrev PNo (P w K mg base k) := Own P w K mg base k "_law_norm" ["p", "f", "parts"] (spD f_lnorm)
def f_linv (ds : List D) (d : D) : Prop := ∃ (p : Nat) (_ : Pr p) (g : Pol p) (t : Tri p) (m : Nat), ds = [.int p, pol g, triD t] ∧ g.l.length ≤ 8 ∧ Wd m t ∧ m ≤ 2000 ∧ d = triD (backT g t)
abbrev s_lfall : Stmt := topS 71
theorem sc_lfall : FnScope ["p", "one", "at", "number"] ["p", "one"] (defScope s_lfall) := ⟨rfl, rfl, rfl, by decide +kernel, rfl, by decide +kernel, by decide +kernel⟩
theorem ok_lfall (bu : BuAll mg) (O : PTrim P w K mg base k) (F : Fun K "_law_fall" "_law_fall" s_lfall f fd) : FnOk P w K mg base CX0 (k + 1) f fd ["p", "one"] (spD f_slope_of) := by
  refine fn_D f_slope_of F sc_lfall (by rintro ds d ⟨p, _, A, rfl, _⟩; rfl) fun cdv A' outer s H E hr ds d hf => ?_
  obtain ⟨p, ip, A, rfl, hA, rfl⟩ := hf
  exact ss_one (s_ret (g_call O hr (a_cons (g_var 0) (a_cons (DE.to (g_sl (g_lc (dn_lcI [("at", 2), ("number", 3)] (fun _ => blkOk_by (N := ["p", "one", "at", "number"]) (sc := defScope s_lfall) (by decide +kernel)) (i_enumI bu (g_var 1)) (by omega) (fun i => (i : Int) * A.l.getD i 0) [2, 3] _ (fun i hi => (tg_tup (tgs_cons (tg_name (i := 2)) (tgs_cons (tg_name (i := 3)) tgs_nil)))) (by decide) (fun i hi => (g_mul (g_var 2) (g_var 3) (.inr (by rw [cf_getD]; exact cf_sm16 A i)))) (by intro _ _; rfl) rfl)) (o_some g_int) o_none) (d' := L (((List.range A.l.length).map fun (i : Nat) => (i : Int) * A.l.getD i 0).drop 1)) (by
    rw [cutD_from1]; unfold L; rw [List.map_drop])) a_nil)) (f_trimmed_of _ (by simp; omega) rfl)) rfl)
end
end Cv
end
section
set_option Elab.async false
set_option linter.all false
set_option maxRecDepth 100000
set_option maxHeartbeats 4000000
namespace Cv
open PySem L2 Evl
section
variable {p : Nat} [ip : Pr p]
/-- a sum with a number before the second one -/
def addT (x : Int) (t u : Tri p) : Tri p := (t.1 * u.2.2 + Pol.C x * (u.1 * t.2.2), t.2.1 * u.2.2 + Pol.C x * (u.2.1 * t.2.2), t.2.2 * u.2.2)
theorem addT_one (t u : Tri p) : addT 1 t u = plusT t u := by
  unfold addT plusT
  rw [C_one]
  refine Prod.ext ?_ (Prod.ext ?_ ?_) <;> simp only <;> grind
theorem addT_minus (t u : Tri p) : addT ((p : Int) - 1) t u = plusT t (negT u) := by
  unfold addT plusT negT
  rw [C_minus, C_minus]
  refine Prod.ext ?_ (Prod.ext ?_ ?_) <;> simp only <;> grind
theorem tri_at (a b c : D) {i : Nat} (h : i < 3) : atI [a, b, c] (0 + (i : Int)) = some (pick a b c i) := by
  match i, h with
  | 0, _ => rfl
  | 1, _ => rfl
  | 2, _ => rfl
  | i + 3, h => omega
end
section
variable {P : Program} {w : World} {K : PySem.W.Frag} {mg : Str → Option Value} {base : Heap} {f : Addr} {fd : FuncData} {k : Nat} {Cc Cf aP : Addr}
/-! _law_far -/
/-! _law_added -/
abbrev s_ladded : Stmt := topS 70
theorem sc_ladded : FnScope ["p", "one", "other", "number", "low", "at"] ["p", "one", "other", "number"] (defScope s_ladded) := ⟨rfl, rfl, rfl, by decide +kernel, rfl, by decide +kernel, by decide +kernel⟩
def f_ladded (ds : List D) (d : D) : Prop := ∃ (p : Nat) (_ : Pr p) (t u : Tri p) (m n : Nat) (x : Int), ds = [.int p, triD t, triD u, .int x] ∧ Wd m t ∧ Wd n u ∧ m + n ≤ 9000 ∧ 0 ≤ x ∧ x < 20000 ∧ d = triD (addT x t u)
theorem ok_ladded (bu : BuAll mg) (OM : PMul P w K mg base k) (OA : PPlus P w K mg base k) (OS : PScal P w K mg base k) (F : Fun K "_law_added" "_law_added" s_ladded f fd) : FnOk P w K mg base CX0 (k + 1) f fd ["p", "one", "other", "number"] (spD f_ladded) := by
  refine fn_D _ F sc_ladded (by rintro ds d ⟨p, _, _, _, _, _, _, rfl, _⟩; rfl) fun cdv A' outer s H E hr ds d hf => ?_
  obtain ⟨p, ip, t, u, m, n, x, rfl, ht, hu, hmn, hx0, hx1, rfl⟩ := hf
  have a1 := ht.a
  have a2 := ht.b
  have a3 := ht.c
  have b1 := hu.a
  have b2 := hu.b
  have b3 := hu.c
  have lt : ∀ i, (pick t.1 t.2.1 t.2.1 i).l.length ≤ m := pick_all (Q := fun X : Pol p => X.l.length ≤ m) a1 a2 a2
  have lu : ∀ i, (pick u.1 u.2.1 u.2.1 i).l.length ≤ n := pick_all (Q := fun X : Pol p => X.l.length ≤ n) b1 b2 b2
  have et : ∀ i : Nat, i < 2 → atI [pol t.1, pol t.2.1, pol t.2.2] (0 + (i : Int)) = some (pol (pick t.1 t.2.1 t.2.1 i)) := fun i hi => by
    rw [tri_at _ _ _ (by omega)]
    match i, hi with
    | 0, _ => rfl
    | 1, _ => rfl
  have eu : ∀ i : Nat, i < 2 → atI [pol u.1, pol u.2.1, pol u.2.2] (0 + (i : Int)) = some (pol (pick u.1 u.2.1 u.2.1 i)) := fun i hi => by
    rw [tri_at _ _ _ (by omega)]
    match i, hi with
    | 0, _ => rfl
    | 1, _ => rfl
  refine ss_cons (s_setLc 4 ((dn_lc [("at", 5)] (fun _ => blkOk_by (N := ["p", "one", "other", "number", "low", "at"]) (sc := defScope s_ladded) (by decide +kernel)) ((i_range1 bu g_int).num (n' := 2) rfl) (of_decide_eq_true rfl) (tb := fun _ => true) (f := fun i => pol (pick t.1 t.2.1 t.2.1 i * u.2.2 + Pol.C x * (pick u.1 u.2.1 u.2.1 i * t.2.2))) [5] _ (fun i hi => tg_name) (by decide) (fun i hi => ts_nil) (fun i hi _ => (lp_add (X := blkF _ _) (m := m + n) (n := n + m) OA hr (g_var 0) (lp_mul (X := blkF _ _) (m := m) (n := n) OM hr (g_var 0) (gp_of (g_ixL (ds := [pol t.1, pol t.2.1, pol t.2.2]) (g_var 1) (g_var 5) (et i hi)) (lt i)) (gp_of (g_tri2 (t := u) (g_var 2) g_int) b3)) (lp_scale (X := blkF _ _) OS hr (g_var 0) (lp_mul (X := blkF _ _) (m := n) (n := m) OM hr (g_var 0) (gp_of (g_ixL (ds := [pol u.1, pol u.2.1, pol u.2.2]) (g_var 2) (g_var 5) (eu i hi)) (lu i)) (gp_of (g_tri2 (t := t) (g_var 1) g_int) a3)) (g_var 3))).1) (by intro _ _; rfl)).to (d' := [pol (t.1 * u.2.2 + Pol.C x * (u.1 * t.2.2)), pol (t.2.1 * u.2.2 + Pol.C x * (u.2.1 * t.2.2))]) rfl) ?_)
  exact ss_one (s_ret (g_lst (ds := [pol (t.1 * u.2.2 + Pol.C x * (u.1 * t.2.2)), pol (t.2.1 * u.2.2 + Pol.C x * (u.2.1 * t.2.2)), pol (t.2.2 * u.2.2)]) (a_cons (g_ixL (i := 0) (ds := [pol (t.1 * u.2.2 + Pol.C x * (u.1 * t.2.2)), pol (t.2.1 * u.2.2 + Pol.C x * (u.2.1 * t.2.2))]) (g_var 4) g_int rfl) (a_cons (g_ixL (i := 1) (ds := [pol (t.1 * u.2.2 + Pol.C x * (u.1 * t.2.2)), pol (t.2.1 * u.2.2 + Pol.C x * (u.2.1 * t.2.2))]) (g_var 4) g_int rfl) (a_cons (lp_mul (m := m) (n := n) OM hr (g_var 0) (gp_of (g_tri2 (t := t) (g_var 1) g_int) a3) (gp_of (g_tri2 (t := u) (g_var 2) g_int) b3)).1 a_nil))) (of_decide_eq_true rfl)) rfl)
/-! _law_slope -/
abbrev s_lslope : Stmt := topS 74
theorem sc_lslope : FnScope ["p", "f", "parts", "top", "side", "below", "twice", "low", "tops", "sides"] ["p", "f", "parts"] (defScope s_lslope) := ⟨rfl, rfl, rfl, by decide +kernel, rfl, by decide +kernel, by decide +kernel⟩
def f_lslope (ds : List D) (d : D) : Prop := ∃ (p : Nat) (_ : Pr p) (g : Pol p) (t : Tri p) (m : Nat), ds = [.int p, pol g, triD t] ∧ g.l.length ≤ 8 ∧ Wd m t ∧ m ≤ 1500 ∧ d = triD (slopeT g t)
theorem ok_lslope (OM : PMul P w K mg base k) (OA : PPlus P w K mg base k) (OS : PScal P w K mg base k) (OL : PLs P w K mg base k) (OF : PFa P w K mg base k) (F : Fun K "_law_slope" "_law_slope" s_lslope f fd) : FnOk P w K mg base CX0 (k + 1) f fd ["p", "f", "parts"] (spD f_lslope) := by
  refine fn_D _ F sc_lslope (by rintro ds d ⟨p, _, _, _, _, rfl, _⟩; rfl) fun cdv A' outer s H E hr ds d hf => ?_
  obtain ⟨p, ip, g, t, m, rfl, hg8, ht, hm, rfl⟩ := hf
  have a1 := ht.a
  have a2 := ht.b
  have a3 := ht.c
  have l1 := len_C 2 g
  have l2 := slope_len t.2.2
  unfold Pol.len at l1
  refine ss_cons (s_asg (d := .lst [pol t.1, pol t.2.1, pol t.2.2]) (g_var 2) (tg_lst (tgs_cons (tg_name (i := 3)) (tgs_cons (tg_name (i := 4)) (tgs_cons (tg_name (i := 5)) tgs_nil)))) ?_)
  refine ss_cons (s_par2 6 7 (r_sh (lp_scale OS hr (g_var 0) (gp_of (g_var 1) hg8) g_int).1) (r_sh (lp_fall OF hr (g_var 0) (gp_of (g_var 5) a3)).1) fun _ _ => ?_)
  refine ss_cons (s_setP 8 (lp_less (m := m + m) (n := m + m) OL hr (g_var 0) (lp_mul OM hr (g_var 0) (lp_fall OF hr (g_var 0) (gp_of (g_var 3) a1)) (gp_of (g_var 5) a3)) (lp_mul OM hr (g_var 0) (gp_of (g_var 3) a1) (gp_of (n := m) (g_var 7) (by omega)))) fun q1 => ?_)
  refine ss_cons (s_setP 9 (lp_less (m := m + m) (n := m + m) OL hr (g_var 0) (lp_mul OM hr (g_var 0) (lp_fall OF hr (g_var 0) (gp_of (g_var 4) a2)) (gp_of (g_var 5) a3)) (lp_mul OM hr (g_var 0) (gp_of (g_var 4) a2) (gp_of (n := m) (g_var 7) (by omega)))) fun q2 => ?_)
  refine ss_cons (s_setP 9 (lp_add (m := m + m + (m + m) + 8) (n := m + m + 8) OA hr (g_var 0) (lp_mul OM hr (g_var 0) (gp_of (g_var 9) q2) (gp_of (n := 8) (g_var 6) (by omega))) (lp_mul (m := m + m) (n := 8) OM hr (g_var 0) (lp_mul OM hr (g_var 0) (gp_of (g_var 4) a2) (gp_of (g_var 5) a3)) (lp_fall OF hr (g_var 0) (gp_of (g_var 1) hg8)))) fun q3 => ?_)
  have e : (slope t.2.1 * t.2.2 - t.2.1 * slope t.2.2) * (Pol.C 2 * g) + t.2.1 * t.2.2 * slope g = (slopeT g t).2.1 := by unfold slopeT; simp only; grind
  exact ss_one (s_ret (g_lst (ds := [pol (slopeT g t).1, pol (slopeT g t).2.1, pol (slopeT g t).2.2]) (a_cons (lp_mul (n := 8) OM hr (g_var 0) (gp_of (g_var 8) q1) (gp_of (g_var 6) (by omega))).1 (a_cons (DE.to (g_var 9) (by rw [e])) (a_cons (lp_mul (m := m + m) (n := 8) OM hr (g_var 0) (lp_mul OM hr (g_var 0) (gp_of (g_var 5) a3) (gp_of (g_var 5) a3)) (gp_of (g_var 6) (by omega))).1 a_nil))) (of_decide_eq_true rfl)) rfl)
/-! _law_raised -/
def f_lraised (ds : List D) (d : D) : Prop := ∃ (p : Nat) (_ : Pr p) (g : Pol p) (t : Tri p) (m c : Nat), ds = [.int p, pol g, triD t, .int (c : Int)] ∧ g.l.length ≤ 8 ∧ Wd m t ∧ c ≤ 20 ∧ m ≤ 50 ∧ d = triD (powT g t c)
end
end Cv
end
section
set_option Elab.async false
set_option linter.all false
set_option maxRecDepth 100000
set_option maxHeartbeats 4000000
namespace Cv
open PySem L2 Evl
section
variable {p : Nat} [ip : Pr p]
/-! ### the polynomial whose slope one is -/
noncomputable def srcL (A : Pol p) : List Int := 0 :: (List.range A.l.length).map fun (n : Nat) => cf A.l n * inv p (((n : Int) % (p : Int)) + 1)
noncomputable def srcP (A : Pol p) : Pol p := Pol.of (srcL A)
theorem srcL_len (A : Pol p) : (srcL A).length = A.l.length + 1 := by simp [srcL]
theorem cf_srcL0 (A : Pol p) : cf (srcL A) 0 = 0 := rfl
theorem cf_srcL (A : Pol p) (n : Nat) : cf (srcL A) (n + 1) = if n < A.l.length then cf A.l n * inv p (((n : Int) % (p : Int)) + 1) else 0 := by
  unfold srcL
  rw [cf_succ, cf_range]
theorem srcP_len (A : Pol p) : (srcP A).l.length ≤ A.l.length + 1 := by
  have := len_of (p := p) (srcL A)
  rw [srcL_len] at this
  exact this
/-- a list that is filled with it as far as i -/
structure Src (A : Pol p) (i : Nat) (ms : List Int) : Prop where
  len : ms.length = A.l.length + 1
  at_ : ∀ n, cf ms n = if n ≤ i then cf (srcL A) n else 0
theorem Src.start (A : Pol p) : Src A 0 (List.replicate (A.l.length + 1) 0) := ⟨by simp, fun n => by
  rw [cf_rep0]
  by_cases h : n ≤ 0
  · have : n = 0 := by omega
    subst this
    rw [if_pos h, cf_srcL0]
  · rw [if_neg h]⟩
theorem Src.skip {A : Pol p} {i : Nat} {ms : List Int} (S : Src A i ms) (h : cf A.l i = 0) : Src A (i + 1) ms := ⟨S.len, fun n => by
  rw [S.at_]
  by_cases h1 : n ≤ i
  · rw [if_pos h1, if_pos (by omega)]
  · rw [if_neg h1]
    by_cases h2 : n = i + 1
    · subst h2
      rw [if_pos (by omega), cf_srcL, h]; simp
    · rw [if_neg (by omega)]⟩
theorem Src.set {A : Pol p} {i : Nat} {ms : List Int} (S : Src A i ms) (hi : i < A.l.length) : Src A (i + 1) (ms.set (i + 1) (cf A.l i * inv p (((i : Int) % (p : Int)) + 1))) := ⟨by rw [List.length_set, S.len], fun n => by
  rw [cf_set _ _ _ _ (by rw [S.len]; omega), S.at_]
  by_cases h1 : n = i + 1
  · subst h1
    rw [if_pos rfl, if_pos (by omega), cf_srcL, if_pos hi]
  · rw [if_neg h1]
    by_cases h2 : n ≤ i
    · rw [if_pos h2, if_pos (by omega)]
    · rw [if_neg h2, if_neg (by omega)]⟩
theorem Src.done {A : Pol p} {ms : List Int} (S : Src A A.l.length ms) : (Pol.of ms : Pol p) = srcP A := of_congr fun n => by
  rw [S.at_]
  by_cases h : n ≤ A.l.length
  · rw [if_pos h]
  · rw [if_neg h, cf_ge (l := srcL A) (by rw [srcL_len]; omega)]
/-- no power of x one less than a multiple of p -/
theorem no_last {A : Pol p} (h : evr A (p - 1) = 0) (n : Nat) (hn : cf A.l n ≠ 0) : (n : Int) % (p : Int) + 1 < (p : Int) := by
  have hp := Pr.pos p
  have h1 := Int.emod_nonneg (n : Int) (by omega : (p : Int) ≠ 0)
  have h2 := Int.emod_lt_of_pos (n : Int) (Pr.posI p)
  refine Int.lt_of_not_ge fun z => hn ?_
  have hm : n % p = p - 1 := by
    have : ((n % p : Nat) : Int) = (n : Int) % (p : Int) := by simp
    omega
  have hc := cf_evr A (p - 1) (n / p)
  rw [h, zero_l] at hc
  have e : p - 1 + n / p * p = n := by
    have := Nat.div_add_mod n p
    rw [hm, Nat.mul_comm] at this
    omega
  rw [e] at hc
  rw [← hc]; simp
/-! ### the conditions -/
def NoLast (g : Pol p) (t : Tri p) : Prop := evr (lowO t) (p - 1) = 0 ∧ evr (highO g t) (p - 1) = 0
def OwnLast (g : Pol p) (t : Tri p) : Prop := evr (lowO t) (p - 1) = t.1 ∧ evr (highO g t) (p - 1) = t.2.1 * g
theorem last_nought {g : Pol p} {t : Tri p} (hg : g ≠ 0) (ht : t.2.2 ≠ 0) : ((least (partT g t (p - 1))).1.l = [] ∧ (least (partT g t (p - 1))).2.1.l = []) ↔ NoLast g t := by
  have hb : (partT g t (p - 1)).2.2 ≠ 0 := mul_ne_zero ht hg
  obtain ⟨K, hK, e1, e2, e3⟩ := least_fac hb
  generalize least (partT g t (p - 1)) = u at *
  unfold partT at e1 e2
  simp only at e1 e2
  unfold NoLast
  constructor
  · intro ⟨h1, h2⟩
    have z1 := eq_zero_iff.mpr h1
    have z2 := eq_zero_iff.mpr h2
    rw [z1] at e1
    rw [z2] at e2
    refine ⟨?_, ?_⟩
    · refine (mul_eq_zero (B := g) ?_).resolve_right hg
      rw [e1]; grind
    · rw [e2]; grind
  · intro ⟨h1, h2⟩
    rw [h1] at e1
    rw [h2] at e2
    refine ⟨eq_zero_iff.mp ((mul_eq_zero (A := K) ?_).resolve_left hK), eq_zero_iff.mp ((mul_eq_zero (A := K) ?_).resolve_left hK)⟩
    · rw [← e1]; grind
    · rw [← e2]
theorem last_own {g : Pol p} {t : Tri p} (hg : g ≠ 0) (hL : Least t) : least (partT g t (p - 1)) = t ↔ OwnLast g t := by
  have ht := hL.mon.1
  have hb : (partT g t (p - 1)).2.2 ≠ 0 := mul_ne_zero ht hg
  unfold OwnLast
  constructor
  · intro h
    obtain ⟨e1, e2⟩ := least_same hb
    rw [h] at e1 e2
    unfold partT at e1 e2
    simp only at e1 e2
    refine ⟨?_, ?_⟩
    · refine mul_cancel (mul_ne_zero ht hg) ?_
      grind
    · refine mul_cancel ht ?_
      grind
  · intro ⟨h1, h2⟩
    conv => rhs; rw [← least_self hL]
    refine least_eq hb ht ⟨?_, ?_⟩
    · unfold partT; simp only; rw [h1]; grind
    · unfold partT; simp only; rw [h2]; grind
/-- the function whose slope one is -/
noncomputable def srcT (g : Pol p) (t : Tri p) : Tri p := (srcP (lowO t) * g ^ ((p + 1) / 2), srcP (highO g t), stretch t.2.2 * g ^ ((p + 1) / 2))
end
section
variable {P : Program} {w : World} {K : PySem.W.Frag} {mg : Str → Option Value} {base : Heap} {f : Addr} {fd : FuncData} {k : Nat} {Cc Cf aP : Addr}
/-! raised_source -/
abbrev s_raised_source : Stmt := topS 47
theorem sc_raised_source : FnScope ["p", "poly", "found", "at", "number"] ["p", "poly"] (defScope s_raised_source) := ⟨rfl, rfl, rfl, by decide +kernel, rfl, by decide +kernel, by decide +kernel⟩
def f_raised_source (ds : List D) (d : D) : Prop := ∃ (p : Nat) (_ : Pr p) (A : Pol p), ds = [.int p, pol A] ∧ A.l.length ≤ 5000 ∧ evr A (p - 1) = 0 ∧ d = pol (srcP A)
theorem inv_next {p : Nat} [Pr p] {n : Nat} (h : (n : Int) % (p : Int) + 1 < (p : Int)) : ((n : Int) % (p : Int) + 1) % (p : Int) ≠ 0 := by
  have h1 := Int.emod_nonneg (n : Int) (by have := Pr.pos p; omega : (p : Int) ≠ 0)
  rw [Int.emod_eq_of_lt (by omega) h]; omega
theorem ok_raised_source (bu : BuAll mg) (OI : OInv P w K mg base k) (OT : OTrimmed P w K mg base k) (F : Fun K "raised_source" "raised_source" s_raised_source f fd) : FnOk P w K mg base CX0 (k + 1) f fd ["p", "poly"] (spD f_raised_source) := by
  refine fn_D f_raised_source F sc_raised_source (by rintro ds d ⟨p, _, A, rfl, _⟩; rfl) fun cdv A' outer s H E hr ds d hf => ?_
  obtain ⟨p, ip, A, rfl, hA, h0, rfl⟩ := hf
  have hp := Pr.le13 p
  refine ss_cons (s_setN 2 (g_repI (i := 0) (j := (A.l.length : Int) + 1) g_int (g_add (g_lenI bu (g_var 1)) g_int) (by omega)) fun l => ?_)
  have e0 : ((A.l.length : Int) + 1).toNat = A.l.length + 1 := by omega
  rw [e0]
  refine ss_cons (s_for (i_enumI bu (ns := A.l) (g_var 1)) (fun i ρ1 => ∃ (ms : List Int) (a b : Option Sl), Src A i ms ∧ ρ1 = [some (.sh (.int p)), some (.sh (pol A)), some (.own l (ms.map .int)), a, b]) ⟨_, none, none, Src.start A, rfl⟩ ?_ ?_)
  · rintro i ρ1 hi ⟨ms, a, b, S, rfl⟩
    refine ⟨[3, 4], _, tg_tup (tgs_cons (tg_name (i := 3)) (tgs_cons (tg_name (i := 4)) tgs_nil)), ?_⟩
    have hc : A.l.getD i 0 = cf A.l i := cf_getD _ _
    by_cases h : cf A.l i = 0
    · refine ss_one (s_if (k := false) (DT.to (t_neI (g_var 4) g_int) (by rw [hc, decide_eq_true h]; rfl)) (fun z => absurd z (by decide)) (fun z => ss_nil ⟨ms, _, _, S.skip h, rfl⟩))
    · refine ss_one (s_if (k := true) (DT.to (t_neI (g_var 4) g_int) (by rw [hc, decide_eq_false h]; rfl)) (fun z => ?_) (fun z => absurd z (by decide)))
      have hn := no_last h0 i h
      have hrng := A.cf_rng i
      have hl := S.len
      refine ss_one (s_setI 2 (l := l) (ds := ms.map .int) (m := i + 1) (g_mul (g_var 4) (g_call OI hr (a_cons (g_var 0) (a_cons (g_add (g_mod (g_var 3) (g_var 0) (Pr.posI p)) g_int) a_nil)) ⟨p, ip, (i : Int) % (p : Int) + 1, rfl, inv_next hn, rfl⟩) (.inl (by rw [hc]; omega))) (g_add (g_var 3) g_int) (by
        have : ((i : Int) + 1) = ((i + 1 : Nat) : Int) := by omega
        rw [this, ixN_nat (by simp; omega)]) ?_)
      refine ⟨ms.set (i + 1) (cf A.l i * inv p (((i : Int) % (p : Int)) + 1)), some (.sh (.int (i : Int))), some (.sh (.int (cf A.l i))), S.set hi, ?_⟩
      rw [hc, List.map_set]; rfl
  · rintro ρ1 ⟨ms, a, b, S, rfl⟩
    refine ss_freeze 2 ?_
    have hl := S.len
    exact ss_one (s_ret (g_call OT hr (a_cons (g_var 0) (a_cons (g_var 2) a_nil)) (f_trimmed_of ms (by omega) S.done)) rfl)
abbrev ORs (P w K mg base k) := Own P w K mg base k "raised_source" ["p", "poly"] (spD f_raised_source)
/-! slope_source -/
abbrev s_slope_source : Stmt := topS 46
abbrev N_ss : List Str := ["function", "p", "f", "_", "bottom", "low", "high", "rest", "poly"]
theorem sc_slope_source : FnScope N_ss ["function"] (defScope s_slope_source) := ⟨rfl, rfl, rfl, by decide +kernel, rfl, by decide +kernel, by decide +kernel⟩
def f_ssource (Cc Cf : Addr) (ds : List D) (d : D) : Prop := ∃ (p : Nat) (_ : Pr p) (g : Pol p) (t : Tri p), ds = [funD Cf (curveD Cc g) t] ∧ Sz g t ∧ g ≠ 0 ∧ t.2.2 ≠ 0 ∧ ((NoLast g t ∧ d = funD Cf (curveD Cc g) (least (srcT g t))) ∨ (¬ NoLast g t ∧ d = .non))
abbrev ODb (P w K mg base k Cc Cf) := Own P w K mg base k "descent_by" ["function"] (spD (f_descent Cc Cf))
theorem ok_slope_source (T : KF K mg Cc Cf aP) (OI : OIn P w K mg base k Cf) (OD : ODb P w K mg base k Cc Cf) (OO : OPo P w K mg base k Cc Cf) (OR : ORs P w K mg base k) (OT : OTo P w K mg base k Cc Cf) (OP : OPw P w K mg base k) (OM : OMul P w K mg base k) (OS : OSt P w K mg base k) (OA : OMade P w K mg base k Cc Cf) (N : MF P w K mg base k Cf) (F : Fun K "slope_source" "slope_source" s_slope_source f fd) : FnOk P w K mg base CX0 (k + 1) f fd ["function"] (spD (f_ssource Cc Cf)) := by
  refine fn_D _ F sc_slope_source (by rintro ds d ⟨p, _, _, _, rfl, _⟩; rfl) fun cdv A' outer s H E hr ds d hf => ?_
  obtain ⟨p, ip, g, t, rfl, S, hg0, ht0, hd⟩ := hf
  have hp := Pr.le13 p
  have hp3 := Pr.ge3 p
  obtain ⟨l1, l2⟩ := low_len S
  have hg8 := S.g
  have hC := S.c
  have hnl := last_nought hg0 ht0
  obtain ⟨b, hb⟩ : ∃ b : Bool, b = (decide ((least (partT g t (p - 1))).1.l = []) && decide ((least (partT g t (p - 1))).2.1.l = [])) := ⟨_, rfl⟩
  have hb1 : b = true ↔ NoLast g t := by
    rw [hb, Bool.and_eq_true, decide_eq_true_iff, decide_eq_true_iff]; exact hnl
  refine ss_cons (s_if (k := !b) (t_not (k := b) (t_val (g_call OI hr (a_cons (g_call OD hr (a_cons (g_var 0) a_nil) ⟨p, ip, g, t, rfl, S, hg0, ht0, rfl⟩) a_nil) ⟨p, curveD Cc g, least (partT g t (p - 1)), rfl, by rw [hb]⟩))) (fun z => ?_) (fun z => ss_nil ?_))
  · have hn : ¬ NoLast g t := fun y => by
      rw [hb1.mpr y] at z
      cases z
    rcases hd with ⟨y, _⟩ | ⟨_, rfl⟩
    · exact absurd y hn
    · exact ss_one (s_ret g_non rfl)
  have hn : NoLast g t := hb1.mp (by cases b <;> first | rfl | cases z)
  rcases hd with ⟨_, rfl⟩ | ⟨y, _⟩
  · obtain ⟨n1, n2⟩ := hn
    have e1 : ((p : Int) + 1) / 2 = (((p + 1) / 2 : Nat) : Int) := by omega
    have pw := pow_sz g (n := (p + 1) / 2) (b := 7) hg8 (by omega)
    have s1 := srcP_len (lowO t)
    have s2 := srcP_len (highO g t)
    have m1 := mul_len20 (srcP (lowO t)) (g ^ ((p + 1) / 2))
    have st := len_stretch t.2.2
    have st2 : p * t.2.2.l.length ≤ 13 * 60 := Nat.mul_le_mul hp hC
    unfold Pol.len at st
    have m2 := mul_len20 (stretch t.2.2) (g ^ ((p + 1) / 2))
    have lens : ∀ i, (pick (lowO t) (highO g t) (highO g t) i).l.length ≤ 5000 := pick_all (Q := fun X : Pol p => X.l.length ≤ 5000) (by omega) (by omega) (by omega)
    have lasts : ∀ i, evr (pick (lowO t) (highO g t) (highO g t) i) (p - 1) = 0 := pick_all (Q := fun X : Pol p => evr X (p - 1) = 0) n1 n2 n2
    refine ss_cons (s_asg (g_call OO hr (a_cons (g_var 0) a_nil) ⟨p, g, t, rfl, rfl⟩) (tg_tup (tgs_cons (tg_name (i := 1)) (tgs_cons (tg_name (i := 2)) (tgs_cons (tg_name (i := 3)) (tgs_cons (tg_name (i := 3)) (tgs_cons (tg_name (i := 4)) tgs_nil)))))) ?_)
    refine ss_cons (s_asg (d := .lst [pol (srcP (lowO t)), pol (srcP (highO g t))]) (g_lc ((dn_lc [("poly", 8)] (fun _ => blkOk_by (N := N_ss) (sc := defScope s_slope_source) (by decide +kernel)) ((i_tup (ds := [pol (lowO t), pol (highO g t)]) (g_call OT hr (a_cons (g_var 0) a_nil) ⟨p, ip, g, t, rfl, S, rfl⟩)).src (src' := fun i => pol (pick (lowO t) (highO g t) (highO g t) i)) (fun i hi => by
      match i, hi with
      | 0, _ => rfl
      | 1, _ => rfl)) (of_decide_eq_true rfl) (tb := fun _ => true) (f := fun i => pol (srcP (pick (lowO t) (highO g t) (highO g t) i))) [8] _ (fun i hi => tg_name) (by decide) (fun i hi => ts_nil) (fun i hi _ => g_call OR hr (a_cons (g_var 1) (a_cons (g_var 8) a_nil)) ⟨p, ip, pick (lowO t) (highO g t) (highO g t) i, rfl, lens i, lasts i, rfl⟩) (by intro _ _; rfl)).to (d' := [pol (srcP (lowO t)), pol (srcP (highO g t))]) rfl)) (tg_lst (tgs_cons (tg_name (i := 5)) (tgs_cons (tg_name (i := 6)) tgs_nil))) ?_)
    refine ss_cons (s_set 7 (g_call OP hr (a_cons (g_var 1) (a_cons (g_var 2) (a_cons (DE.to (g_fdiv (g_add (g_var 1) g_int) g_int ⟨by decide, by decide⟩) (by rw [e1])) a_nil))) ⟨p, ip, g, (p + 1) / 2, rfl, by omega, by omega, rfl⟩) ?_)
    exact ss_one (s_ret (g_call OA hr (a_cons (g_fcurve N T hr (c := curveD Cc g) (t := t) (g_var 0)) (a_cons (g_call OM hr (a_cons (g_var 1) (a_cons (g_var 5) (a_cons (g_var 7) a_nil))) ⟨p, ip, srcP (lowO t), g ^ ((p + 1) / 2), rfl, by omega, by omega, rfl⟩) (a_cons (g_var 6) (a_cons (g_call OM hr (a_cons (g_var 1) (a_cons (g_call OS hr (a_cons (g_var 1) (a_cons (g_var 4) a_nil)) ⟨p, ip, t.2.2, rfl, by omega, rfl⟩) (a_cons (g_var 7) a_nil))) ⟨p, ip, stretch t.2.2, g ^ ((p + 1) / 2), rfl, by omega, by omega, rfl⟩) a_nil)))) ⟨p, ip, g, srcT g t, rfl, by unfold srcT; simp only; omega, by unfold srcT; simp only; omega, by unfold srcT; simp only; omega, mul_ne_zero (stretch_ne ht0) (pow_ne_zero hg0 _), rfl⟩) rfl)
  · exact absurd hn y
abbrev s_whose_slope : Stmt := topS 50
theorem sc_whose_slope : FnScope ["one"] ["one"] (defScope s_whose_slope) := ⟨rfl, rfl, rfl, by decide +kernel, rfl, by decide +kernel, by decide +kernel⟩
theorem ok_whose_slope (OC : OCf P w K mg base k Cf) (OI : Own P w K mg base k "slope_source" ["function"] (spD (f_ssource Cc Cf))) (F : Fun K "whose_slope" "whose_slope" s_whose_slope f fd) : FnOk P w K mg base CX0 (k + 1) f fd ["one"] (spD (f_ssource Cc Cf)) := by
  refine fn_D _ F sc_whose_slope (by rintro ds d ⟨p, _, _, _, rfl, _⟩; rfl) fun cdv A' outer s H E hr ds d hf => ?_
  obtain ⟨p, ip, g, t, rfl, h1, h2, h3, h4⟩ := hf
  refine ss_cons (s_drop (g_call OC hr (a_cons (g_var 0) a_nil) ⟨p, curveD Cc g, t, rfl, rfl⟩) ?_)
  exact ss_one (s_ret (g_call OI hr (a_cons (g_var 0) a_nil) ⟨p, ip, g, t, rfl, h1, h2, h3, h4⟩) rfl)
end
end Cv
end
section
set_option Elab.async false
set_option linter.all false
set_option maxRecDepth 100000
set_option maxHeartbeats 4000000
namespace Cv
open PySem L2 Evl
section
variable {p : Nat} [ip : Pr p]
/-- one step of the chain, told by both parts -/
noncomputable def lowF (g e q A B : Pol p) (k : Nat) (x : Fn g) : Fn g := dW e q k x - (⟨A, B⟩ : Fn g) * x
theorem len_sub20 {A B : Pol p} {n : Nat} (h1 : A.l.length ≤ n) (h2 : B.l.length ≤ n) : (A - B).l.length ≤ n := by
  have h := len_sub A B
  unfold Pol.len at h
  omega
theorem lowF_len {g e q A B l m : Pol p} {k n b : Nat} (hg : g.l.length ≤ 8) (he : e.l.length ≤ b) (hq : q.l.length ≤ b) (hA : A.l.length ≤ b) (hB : B.l.length ≤ b) (hl : l.l.length ≤ n) (hm : m.l.length ≤ n) : (lowF g e q A B k ⟨l, m⟩).a.l.length ≤ n + b + 16 ∧ (lowF g e q A B k ⟨l, m⟩).b.l.length ≤ n + b + 16 := by
  have s1 := slope_len l
  have s2 := slope_len m
  have s3 := slope_len e
  have s4 := slope_len g
  have e1 : (lowF g e q A B k ⟨l, m⟩).a = e * slope l - (k : Pol p) * slope e * l - (A * l + B * m * g) := rfl
  have e2 : (lowF g e q A B k ⟨l, m⟩).b = e * slope m + m * slope g * (half2 p * q) - (k : Pol p) * slope e * m - (A * m + B * l) := rfl
  have ck : ∀ X : Pol p, ((k : Pol p) * X).l.length ≤ X.l.length := fun X => len_C (k : Int) X
  have ch : (half2 p * q).l.length ≤ q.l.length := len_C _ q
  rw [e1, e2]
  have c1 := ck (slope e)
  have m1 := mul_len20 e (slope l)
  have m2 := mul_len20 ((k : Pol p) * slope e) l
  have m3 := mul_len20 A l
  have m4 := mul_len20 B m
  have m5 := mul_len20 (B * m) g
  have n1 := mul_len20 e (slope m)
  have n2 := mul_len20 ((k : Pol p) * slope e) m
  have n3 := mul_len20 m (slope g)
  have n4 := mul_len20 (m * slope g) (half2 p * q)
  have n5 := mul_len20 A m
  have n6 := mul_len20 B l
  exact ⟨len_sub20 (len_sub20 (by omega) (by omega)) (len_add20 _ _ _ (by omega) (by omega)), len_sub20 (len_sub20 (len_add20 _ _ _ (by omega) (by omega)) (by omega)) (len_add20 _ _ _ (by omega) (by omega))⟩
/-- where the chain ends -/
noncomputable def stop (ch : Nat → Prop) : Nat → Nat → Nat
  | 0, k => k
  | n + 1, k => open Classical in if ch (k + 1) then k else stop ch n (k + 1)
end
section
variable {P : Program} {w : World} {K : PySem.W.Frag} {mg : Str → Option Value} {base : Heap} {f : Addr} {fd : FuncData} {k : Nat} {Cc Cf aP : Addr}
/-! lowered -/
abbrev s_lowered : Stmt := topS 49
abbrev N_low : List Str := ["p", "f", "told", "here", "top", "side", "bottom", "low", "high", "count", "fall", "half", "lows", "highs"]
theorem sc_lowered : FnScope N_low ["p", "f", "told", "here"] (defScope s_lowered) := ⟨rfl, rfl, rfl, by decide +kernel, rfl, by decide +kernel, by decide +kernel⟩
def f_lowered (ds : List D) (d : D) : Prop := ∃ (p : Nat) (_ : Pr p) (g e q A B l m : Pol p) (k : Nat), ds = [.int p, pol g, .tup [pol A, pol B, pol e], .tup [pol l, pol m, .int (k : Int)]] ∧ g.l.length ≤ 8 ∧ e.l.length ≤ 70 ∧ q.l.length ≤ 70 ∧ A.l.length ≤ 70 ∧ B.l.length ≤ 70 ∧ l.l.length ≤ 1200 ∧ m.l.length ≤ 1200 ∧ k ≤ 20 ∧ e = g * q ∧ g ≠ 0 ∧
  d = .tup [pol (lowF g e q A B k ⟨l, m⟩).a, pol (lowF g e q A B k ⟨l, m⟩).b]
theorem ok_lowered (OM : OMul P w K mg base k) (OA : OAdd P w K mg base k) (OL : OLess P w K mg base k) (OS : OScal P w K mg base k) (OSl : OSlp P w K mg base k) (OW : OWp P w K mg base k) (OI : OInv P w K mg base k) (F : Fun K "lowered" "lowered" s_lowered f fd) : FnOk P w K mg base CX0 (k + 1) f fd ["p", "f", "told", "here"] (spD f_lowered) := by
  refine fn_D f_lowered F sc_lowered (by rintro ds d ⟨p, _, _, _, _, _, _, _, _, _, rfl, _⟩; rfl) fun cdv A' outer s H E hr ds d hf => ?_
  obtain ⟨p, ip, g, e, q, A, B, l, m, c, rfl, hg8, he, hq, hA, hB, hl, hm, hc, heq, hg0, rfl⟩ := hf
  have hp := Pr.le13 p
  have hp3 := Pr.ge3 p
  have s3 := slope_len e
  have cs := len_C (c : Int) (slope e)
  have h2 : (2 : Int) % (p : Int) ≠ 0 := by
    rcases ip.is with rfl | rfl | rfl | rfl | rfl <;> decide
  have hi := inv_spec (p := p) h2
  have eq1 : quo e g = q := by rw [heq]; exact quo_mul' hg0
  have ch := len_C (inv p 2) q
  unfold Pol.len at cs ch
  refine ss_cons (s_asg (d := .tup [pol A, pol B, pol e]) (g_var 2) (tg_tup (tgs_cons (tg_name (i := 4)) (tgs_cons (tg_name (i := 5)) (tgs_cons (tg_name (i := 6)) tgs_nil)))) ?_)
  refine ss_cons (s_asg (d := .tup [pol l, pol m, .int (c : Int)]) (g_var 3) (tg_tup (tgs_cons (tg_name (i := 7)) (tgs_cons (tg_name (i := 8)) (tgs_cons (tg_name (i := 9)) tgs_nil)))) ?_)
  refine ss_cons (s_par2 10 11 (r_sh (gp_scale OS hr (g_var 0) (gp_slope OSl hr (g_var 0) (gp_of (g_var 6) he)) (g_var 9)).1) (r_sh (gp_scale (m := 70) OS hr (g_var 0) (gp_of (A := q) (n := 70) (DE.to (g_call OW hr (a_cons (g_var 0) (a_cons (g_var 6) (a_cons (g_var 1) a_nil))) ⟨p, ip, e, g, rfl, by omega, by omega, hg0, rfl⟩) (by rw [eq1])) hq) (g_call OI hr (a_cons (g_var 0) (a_cons g_int a_nil)) ⟨p, ip, 2, rfl, h2, rfl⟩)).1) fun _ _ => ?_)
  refine ss_cons (s_setP 12 (gp_sub (m := 1270) (n := 1270) OL hr (g_var 0) (gp_mul (m := 1200) (n := 70) OM hr (g_var 0) (gp_slope OSl hr (g_var 0) (gp_of (g_var 7) hl)) (gp_of (g_var 6) he)) (gp_mul (m := 1200) (n := 70) OM hr (g_var 0) (gp_of (g_var 7) hl) (gp_of (g_var 10) (by omega)))) fun q1 => ?_)
  refine ss_cons (s_setP 12 (gp_sub (m := 2540) (n := 2548) OL hr (g_var 0) (gp_of (g_var 12) q1) (gp_add (m := 1270) (n := 1278) OA hr (g_var 0) (gp_mul (m := 70) (n := 1200) OM hr (g_var 0) (gp_of (g_var 4) hA) (gp_of (g_var 7) hl)) (gp_mul (m := 1270) (n := 8) OM hr (g_var 0) (gp_mul (m := 70) (n := 1200) OM hr (g_var 0) (gp_of (g_var 5) hB) (gp_of (g_var 8) hm)) (gp_of (g_var 1) hg8)))) fun q2 => ?_)
  refine ss_cons (s_setP 13 (gp_sub (m := 1270) (n := 1270) OL hr (g_var 0) (gp_mul (m := 1200) (n := 70) OM hr (g_var 0) (gp_slope OSl hr (g_var 0) (gp_of (g_var 8) hm)) (gp_of (g_var 6) he)) (gp_mul (m := 1200) (n := 70) OM hr (g_var 0) (gp_of (g_var 8) hm) (gp_of (g_var 10) (by omega)))) fun q3 => ?_)
  refine ss_cons (s_setP 13 (gp_add (m := 2540) (n := 1278) OA hr (g_var 0) (gp_of (g_var 13) q3) (gp_mul (m := 1208) (n := 70) OM hr (g_var 0) (gp_mul (m := 1200) (n := 8) OM hr (g_var 0) (gp_of (g_var 8) hm) (gp_slope OSl hr (g_var 0) (gp_of (g_var 1) hg8))) (gp_of (g_var 11) (by omega)))) fun q4 => ?_)
  have f1 : slope l * e - l * (Pol.C (c : Int) * slope e) - (A * l + B * m * g) = (lowF g e q A B c ⟨l, m⟩).a := by
    have e1 : (lowF g e q A B c ⟨l, m⟩).a = e * slope l - (c : Pol p) * slope e * l - (A * l + B * m * g) := rfl
    have e2 : (Pol.C (c : Int) : Pol p) = (c : Pol p) := rfl
    rw [e1, e2]; grind
  have f2 : slope m * e - m * (Pol.C (c : Int) * slope e) + m * slope g * (Pol.C (inv p 2) * q) - (A * m + B * l) = (lowF g e q A B c ⟨l, m⟩).b := by
    have e1 : (lowF g e q A B c ⟨l, m⟩).b = e * slope m + m * slope g * (half2 p * q) - (c : Pol p) * slope e * m - (A * m + B * l) := rfl
    have e2 : (Pol.C (c : Int) : Pol p) = (c : Pol p) := rfl
    have e3 : (Pol.C (inv p 2) : Pol p) = half2 p := rfl
    rw [e1, e2, e3]; grind
  exact ss_one (s_ret (g_tup (ds := [pol (lowF g e q A B c ⟨l, m⟩).a, pol (lowF g e q A B c ⟨l, m⟩).b]) (a_cons (DE.to (g_var 12) (by rw [f1])) (a_cons (DE.to (gp_sub (m := 3818) (n := 2540) OL hr (g_var 0) (gp_of (g_var 13) q4) (gp_add (m := 1270) (n := 1270) OA hr (g_var 0) (gp_mul (m := 70) (n := 1200) OM hr (g_var 0) (gp_of (g_var 4) hA) (gp_of (g_var 8) hm)) (gp_mul (m := 70) (n := 1200) OM hr (g_var 0) (gp_of (g_var 5) hB) (gp_of (g_var 7) hl)))).1 (by rw [f2])) a_nil)) (of_decide_eq_true rfl)) rfl)
abbrev OLw (P w K mg base k) := Own P w K mg base k "lowered" ["p", "f", "told", "here"] (spD f_lowered)
end
section
variable {p : Nat} [ip : Pr p]
/-- the chain of a function, over its bottom times what of g is left of it -/
noncomputable def dsS (g : Pol p) (t : Tri p) : Pol p := quo g (gcd g t.2.2)
noncomputable def dsE (g : Pol p) (t : Tri p) : Pol p := t.2.2 * dsS g t
noncomputable def dsQ (g : Pol p) (t : Tri p) : Pol p := quo t.2.2 (gcd g t.2.2)
noncomputable def dsN (g : Pol p) (t : Tri p) : Nat → Fn g := chN (dW (dsE g t) (dsQ g t)) ⟨dsS g t * t.1, dsS g t * t.2.1⟩
noncomputable def dsK (g : Pol p) (t : Tri p) : Nat := stop (fun k => dsN g t k = 0) p 0
noncomputable def dsT (g : Pol p) (t : Tri p) : Tri p := ((dsN g t (dsK g t)).a, (dsN g t (dsK g t)).b, dsE g t ^ dsK g t)
theorem ds_facts {g : Pol p} {t : Tri p} (hg : g ≠ 0) (ht : t.2.2 ≠ 0) : dsE g t = g * dsQ g t ∧ dsE g t = dsS g t * t.2.2 ∧ dsE g t ≠ 0 := by
  have hG : gcd g t.2.2 ≠ 0 := gcd_ne (.inl hg)
  have e1 : g = quo g (gcd g t.2.2) * gcd g t.2.2 := quo_dvd (gcd_is g t.2.2).left
  have e2 : t.2.2 = quo t.2.2 (gcd g t.2.2) * gcd g t.2.2 := quo_dvd (gcd_is g t.2.2).right
  have hs : quo g (gcd g t.2.2) ≠ 0 := fun z => hg (by rw [e1, z]; grind)
  unfold dsE dsS dsQ
  refine ⟨?_, by grind, mul_ne_zero ht hs⟩
  generalize hX : quo g (gcd g t.2.2) = X at *
  generalize hY : quo t.2.2 (gcd g t.2.2) = Y at *
  generalize gcd g t.2.2 = G at *
  calc t.2.2 * X = Y * G * X := by rw [← e2]
    _ = X * G * Y := by grind
    _ = g * Y := by rw [← e1]
theorem dsN_end {g : Pol p} {t : Tri p} (hg : g ≠ 0) (ht : t.2.2 ≠ 0) (h : OwnLast g t) : dsN g t p = 0 := by
  obtain ⟨e1, e2, e3⟩ := ds_facts hg ht
  exact chain_end hg e1 e2 e3 h.1 h.2
theorem dsN_step (g : Pol p) (t : Tri p) (k : Nat) : dsN g t (k + 1) = lowF g (dsE g t) (dsQ g t) (dsS g t * t.1) (dsS g t * t.2.1) k (dsN g t k) := rfl
theorem dsN_len {g : Pol p} {t : Tri p} (hg8 : g.l.length ≤ 8) (ha : t.1.l.length ≤ 60) (hb : t.2.1.l.length ≤ 60) (hc : t.2.2.l.length ≤ 60) (hg : g ≠ 0) (ht : t.2.2 ≠ 0) : (dsS g t).l.length ≤ 8 ∧ (dsE g t).l.length ≤ 70 ∧ (dsQ g t).l.length ≤ 70 ∧ (dsS g t * t.1).l.length ≤ 70 ∧ (dsS g t * t.2.1).l.length ≤ 70 ∧ ∀ k, (dsN g t k).a.l.length ≤ 86 * k + 1 ∧ (dsN g t k).b.l.length ≤ 86 * k + 1 := by
  have hG : gcd g t.2.2 ≠ 0 := gcd_ne (.inl hg)
  have s1 : (dsS g t).l.length ≤ g.l.length := len_quo g _ hG
  have s2 : (dsQ g t).l.length ≤ t.2.2.l.length := len_quo t.2.2 _ hG
  have s3 := mul_len20 t.2.2 (dsS g t)
  have s4 := mul_len20 (dsS g t) t.1
  have s5 := mul_len20 (dsS g t) t.2.1
  have s6 : (dsE g t).l.length ≤ 70 := by unfold dsE; omega
  refine ⟨by omega, s6, by omega, by omega, by omega, fun k => ?_⟩
  induction k with
  | zero =>
    show (1 : Pol p).l.length ≤ _ ∧ (0 : Pol p).l.length ≤ _
    rw [one_l, zero_l]; simp
  | succ k ih =>
    rw [dsN_step]
    have h := lowF_len (g := g) (e := dsE g t) (q := dsQ g t) (A := dsS g t * t.1) (B := dsS g t * t.2.1) (l := (dsN g t k).a) (m := (dsN g t k).b) (k := k) (n := 86 * k + 1) (b := 70) hg8 s6 (by omega) (by omega) (by omega) ih.1 ih.2
    have e : (⟨(dsN g t k).a, (dsN g t k).b⟩ : Fn g) = dsN g t k := rfl
    rw [e] at h
    omega
theorem stop_yes {ch : Nat → Prop} {n k : Nat} (h : ch (k + 1)) : stop ch (n + 1) k = k := by
  unfold stop
  rw [if_pos h]
theorem stop_no {ch : Nat → Prop} {n k : Nat} (h : ¬ ch (k + 1)) : stop ch (n + 1) k = stop ch n (k + 1) := by
  conv => lhs; unfold stop
  rw [if_neg h]
theorem stop_is {ch : Nat → Prop} : ∀ n k, ch (n + k) → 0 < n → ch (stop ch n k + 1) ∧ (¬ ch k → ¬ ch (stop ch n k)) ∧ stop ch n k < n + k
  | 0, k, _, h => by omega
  | n + 1, k, h, _ => by
    by_cases q : ch (k + 1)
    · rw [stop_yes q]
      exact ⟨q, id, by omega⟩
    · rw [stop_no q]
      have hn : 0 < n := Nat.pos_of_ne_zero fun z => q (by
        subst z
        have e : k + 1 = 0 + 1 + k := by omega
        rw [e]; exact h)
      have h' : ch (n + (k + 1)) := by
        have e : n + (k + 1) = n + 1 + k := by omega
        rw [e]; exact h
      have ih := stop_is (ch := ch) n (k + 1) h' hn
      exact ⟨ih.1, fun _ => ih.2.1 q, by omega⟩
theorem fn_one_ne {g : Pol p} : (1 : Fn g) ≠ 0 := fun z => one_ne_zero (p := p) (congrArg Fn.a z)
/-- what a divided slope's function is -/
theorem ds_told {g : Pol p} {t : Tri p} (hg : g ≠ 0) (ht : t.2.2 ≠ 0) (h : OwnLast g t) : (dsT g t).2.2 ≠ 0 ∧ ¬ ((dsT g t).1 = 0 ∧ (dsT g t).2.1 = 0) ∧ Same (slopeT g (least (dsT g t))) (mulT g t (least (dsT g t))) ∧ dsK g t < p := by
  obtain ⟨e1, e2, e3⟩ := ds_facts hg ht
  have hend := dsN_end hg ht h
  obtain ⟨k1, k2, k3⟩ := stop_is (ch := fun k => dsN g t k = 0) p 0 (by rw [Nat.add_zero]; exact hend) (Pr.pos p)
  have hK : stop (fun k => dsN g t k = 0) p 0 = dsK g t := rfl
  rw [hK] at k1 k2 k3
  have k2' := k2 fn_one_ne
  refine ⟨pow_ne_zero e3 _, fun z => k2' (Fn.ext' z.1 z.2), ?_, by omega⟩
  have hs : dW (dsE g t) (dsQ g t) (dsK g t) (dsN g t (dsK g t)) = (⟨dsS g t * t.1, dsS g t * t.2.1⟩ : Fn g) * dsN g t (dsK g t) := by
    have k1' : dsN g t (dsK g t + 1) = 0 := k1
    rw [dsN_step] at k1'
    unfold lowF at k1'
    generalize dW (dsE g t) (dsQ g t) (dsK g t) (dsN g t (dsK g t)) = X at *
    grind
  exact same_end_least (l := (dsN g t (dsK g t)).a) (m := (dsN g t (dsK g t)).b) hg e1 e2 e3 hs
end
end Cv
end
section
set_option Elab.async false
set_option linter.all false
set_option maxRecDepth 100000
set_option maxHeartbeats 4000000
namespace Cv
open PySem L2 Evl
theorem tup2_num {p : Nat} (A B : Pol p) : (D.tup [pol A, pol B]).num = true := by
  show ((pol A).num && ((pol B).num && true)) = true
  rw [show (pol A).num = true from L_num _, show (pol B).num = true from L_num _]; rfl
theorem tup2_shaped {p : Nat} (A B : Pol p) : SeqAt.shaped (D.tup [pol A, pol B]).py = true := by
  have e : (D.tup [pol A, pol B]).py = .tuple [.list (A.l.map .int), .list (B.l.map .int)] := by
    show PyData.tuple [(L A.l).py, (L B.l).py] = _
    rw [L_py, L_py]
  rw [e]
  simp [SeqAt.shaped, PyData.canLay0, PyData.canLayAll0, canLay_ints, PyData.depth, PyData.depthAll, depth_ints]
theorem lst2_num {p : Nat} (A B : Pol p) : (D.lst [pol A, pol B]).num = true := by
  show ((pol A).num && ((pol B).num && true)) = true
  rw [show (pol A).num = true from L_num _, show (pol B).num = true from L_num _]; rfl
theorem lst2_shaped {p : Nat} (A B : Pol p) : SeqAt.shaped (D.lst [pol A, pol B]).py = true := by
  have e : (D.lst [pol A, pol B]).py = .list [.list (A.l.map .int), .list (B.l.map .int)] := by
    show PyData.list [(L A.l).py, (L B.l).py] = _
    rw [L_py, L_py]
  rw [e]
  simp [SeqAt.shaped, PyData.canLay0, PyData.canLayAll0, canLay_ints, PyData.depth, PyData.depthAll, depth_ints]
theorem tup2_inj {p : Nat} {A B A' B' : Pol p} : D.tup [pol A, pol B] = D.tup [pol A', pol B'] ↔ A = A' ∧ B = B' := ⟨fun h => by
  have h' := D.tup.inj h
  simp only [List.cons.injEq, and_true] at h'
  exact ⟨pol_inj.mp h'.1, pol_inj.mp h'.2⟩, fun h => by rw [h.1, h.2]⟩
theorem lst2_inj {p : Nat} {A B A' B' : Pol p} : D.lst [pol A, pol B] = D.lst [pol A', pol B'] ↔ A = A' ∧ B = B' := ⟨fun h => by
  have h' := D.lst.inj h
  simp only [List.cons.injEq, and_true] at h'
  exact ⟨pol_inj.mp h'.1, pol_inj.mp h'.2⟩, fun h => by rw [h.1, h.2]⟩
section
variable {P : Program} {w : World} {K : PySem.W.Frag} {mg : Str → Option Value} {base : Heap} {f : Addr} {fd : FuncData} {k : Nat} {Cc Cf aP : Addr}
/-! divided_source -/
abbrev s_divided_source : Stmt := topS 48
abbrev N_ds : List Str := ["function", "p", "f", "top", "side", "bottom", "by", "low", "high", "count", "further", "part"]
theorem sc_divided_source : FnScope N_ds ["function"] (defScope s_divided_source) := ⟨rfl, rfl, rfl, by decide +kernel, rfl, by decide +kernel, by decide +kernel⟩
structure Sd {p : Nat} [Pr p] (g : Pol p) (t : Tri p) : Prop where
  g8 : g.l.length ≤ 8
  g0 : g ≠ 0
  L : Least t
  a : t.1.l.length ≤ 60
  b : t.2.1.l.length ≤ 60
  c : t.2.2.l.length ≤ 60
theorem Sd.sz {p : Nat} [Pr p] {g : Pol p} {t : Tri p} (h : Sd g t) : Sz g t := ⟨h.g8, by have := h.a; omega, by have := h.b; omega, h.c⟩
def f_dsource (Cc Cf : Addr) (ds : List D) (d : D) : Prop := ∃ (p : Nat) (_ : Pr p) (g : Pol p) (t : Tri p), ds = [funD Cf (curveD Cc g) t] ∧ Sd g t ∧ ((OwnLast g t ∧ d = funD Cf (curveD Cc g) (least (dsT g t))) ∨ (¬ OwnLast g t ∧ d = .non))
abbrev OFEq (P w K mg base k Cc Cf) := OwnE P w K mg base k Cf ["self", "other"] (f_fEq Cc Cf)
theorem ok_divided_source (T : KF K mg Cc Cf aP) (OE : OFEq P w K mg base k Cc Cf) (OD : ODb P w K mg base k Cc Cf) (OO : OPo P w K mg base k Cc Cf) (OW : OWp P w K mg base k) (OG : OCom P w K mg base k) (OM : OMul P w K mg base k) (OL : OLw P w K mg base k) (OP : OPw P w K mg base k) (OA : OMade P w K mg base k Cc Cf) (N : MF P w K mg base k Cf) (F : Fun K "divided_source" "divided_source" s_divided_source f fd) : FnOk P w K mg base CX0 (k + 1) f fd ["function"] (spD (f_dsource Cc Cf)) := by
  refine fn_D _ F sc_divided_source (by rintro ds d ⟨p, _, _, _, rfl, _⟩; rfl) fun cdv A' outer s H E hr ds d hf => ?_
  obtain ⟨p, ip, g, t, rfl, S, hd⟩ := hf
  have hp := Pr.le13 p
  have hp3 := Pr.ge3 p
  have hg0 := S.g0
  have ht0 := S.L.mon.1
  have hg8 := S.g8
  have ha := S.a
  have hb := S.b
  have hc := S.c
  have hown := last_own hg0 S.L
  obtain ⟨e1, e2, e3⟩ := ds_facts hg0 ht0
  obtain ⟨n1, n2, n3, n4, n5, n6⟩ := dsN_len hg8 ha hb hc hg0 ht0
  have hG : gcd g t.2.2 ≠ 0 := gcd_ne (.inl hg0)
  have lg := len_gcdL (A := g) (B := t.2.2) hg0
  unfold Pol.len at lg
  obtain ⟨r, hr1⟩ : ∃ r : Bool, r = true ↔ least (partT g t (p - 1)) = t := by
    by_cases q : least (partT g t (p - 1)) = t
    · exact ⟨true, by simp [q]⟩
    · exact ⟨false, by simp [q]⟩
  refine ss_cons (s_if (k := !r) (t_not (k := r) (t_ownEq (r := r) OE hr (g_call OD hr (a_cons (g_var 0) a_nil) ⟨p, ip, g, t, rfl, S.sz, hg0, ht0, rfl⟩) (g_var 0) ⟨p, g, g, least (partT g t (p - 1)), t, r, rfl, by rw [hr1]; simp, rfl⟩)) (fun z => ?_) (fun z => ss_nil ?_))
  · have hn : ¬ OwnLast g t := fun y => by
      rw [hr1.mpr (hown.mpr y)] at z
      cases z
    rcases hd with ⟨y, _⟩ | ⟨_, rfl⟩
    · exact absurd y hn
    · exact ss_one (s_ret g_non rfl)
  have hn : OwnLast g t := hown.mp (hr1.mp (by cases r <;> first | rfl | cases z))
  have hend := dsN_end hg0 ht0 hn
  rcases hd with ⟨_, rfl⟩ | ⟨y, _⟩
  · refine ss_cons (s_asg (g_call OO hr (a_cons (g_var 0) a_nil) ⟨p, g, t, rfl, rfl⟩) (tg_tup (tgs_cons (tg_name (i := 1)) (tgs_cons (tg_name (i := 2)) (tgs_cons (tg_name (i := 3)) (tgs_cons (tg_name (i := 4)) (tgs_cons (tg_name (i := 5)) tgs_nil)))))) ?_)
    refine ss_cons (s_set 6 (d := pol (dsS g t)) (g_call OW hr (a_cons (g_var 1) (a_cons (g_var 2) (a_cons (g_call OG hr (a_cons (g_var 1) (a_cons (g_var 2) (a_cons (g_var 5) a_nil))) ⟨p, ip, g, t.2.2, rfl, by omega, by omega, rfl⟩) a_nil))) ⟨p, ip, g, gcd g t.2.2, rfl, by omega, by omega, hG, rfl⟩) ?_)
    refine ss_cons (s_asg (d := .lst [pol (dsS g t * t.1), pol (dsS g t * t.2.1), pol (dsE g t)]) (g_lc ((dn_lc [("part", 11)] (fun _ => blkOk_by (N := N_ds) (sc := defScope s_divided_source) (by decide +kernel)) ((i_tup (g_tup (a_cons (g_var 3) (a_cons (g_var 4) (a_cons (g_var 5) a_nil))))).src (src' := fun i => pol (pick t.1 t.2.1 t.2.2 i)) (fun i hi => by rw [pick_getD _ _ _ i hi, pick_map (pol (p := p))])) (of_decide_eq_true rfl) (tb := fun _ => true) (f := fun i => pol (dsS g t * pick t.1 t.2.1 t.2.2 i)) [11] _ (fun i hi => tg_name) (by decide) (fun i hi => ts_nil) (fun i hi _ => DE.to (g_call OM hr (a_cons (g_var 1) (a_cons (g_var 11) (a_cons (g_var 6) a_nil))) ⟨p, ip, pick t.1 t.2.1 t.2.2 i, dsS g t, rfl, pick_all (Q := fun X : Pol p => X.l.length ≤ 20000) (by omega) (by omega) (by omega) i, by omega, rfl⟩) (by rw [mul_comm'])) (by intro _ _; rfl)).to (d' := [pol (dsS g t * t.1), pol (dsS g t * t.2.1), pol (dsE g t)]) (by rw [e2]; rfl))) (tg_lst (tgs_cons (tg_name (i := 3)) (tgs_cons (tg_name (i := 4)) (tgs_cons (tg_name (i := 5)) tgs_nil)))) ?_)
    refine ss_cons (s_asg (d := .tup [pol (dsN g t 0).a, pol (dsN g t 0).b, .int ((0 : Nat) : Int), .tup [pol (dsN g t (0 + 1)).a, pol (dsN g t (0 + 1)).b]]) (g_tup (a_cons (DE.to (g_lstI (aI_cons g_int aI_nil)) (by rw [← pol1 (p := p)]; rfl)) (a_cons (DE.to g_nilI (by rw [← pol0 (p := p)]; rfl)) (a_cons g_int (a_cons (g_call OL hr (a_cons (g_var 1) (a_cons (g_var 2) (a_cons (g_tup (ds := [pol (dsS g t * t.1), pol (dsS g t * t.2.1), pol (dsE g t)]) (a_cons (g_var 3) (a_cons (g_var 4) (a_cons (g_var 5) a_nil)))) (a_cons (g_tup (ds := [pol (1 : Pol p), pol (0 : Pol p), .int ((0 : Nat) : Int)]) (a_cons (DE.to (g_lstI (aI_cons g_int aI_nil)) pol1.symm) (a_cons (DE.to g_nilI pol0.symm) (a_cons g_int a_nil)))) a_nil)))) ⟨p, ip, g, dsE g t, dsQ g t, dsS g t * t.1, dsS g t * t.2.1, 1, 0, 0, rfl, hg8, n2, n3, n4, n5, by rw [one_l]; simp, by rw [zero_l]; simp, by omega, e1, hg0, rfl⟩) a_nil))))) (tg_tup (tgs_cons (tg_name (i := 7)) (tgs_cons (tg_name (i := 8)) (tgs_cons (tg_name (i := 9)) (tgs_cons (tg_name (i := 10)) tgs_nil))))) ?_)
    refine ss_cons (s_while (fun q ρ1 => ∃ j : Nat, q = p - j ∧ j < p ∧ stop (fun k => dsN g t k = 0) (p - j) j = dsK g t ∧ ρ1 = [some (.sh (funD Cf (curveD Cc g) t)), some (.sh (.int p)), some (.sh (pol g)), some (.sh (pol (dsS g t * t.1))), some (.sh (pol (dsS g t * t.2.1))), some (.sh (pol (dsE g t))), some (.sh (pol (dsS g t))), some (.sh (pol (dsN g t j).a)), some (.sh (pol (dsN g t j).b)), some (.sh (.int (j : Int))), some (.sh (.tup [pol (dsN g t (j + 1)).a, pol (dsN g t (j + 1)).b])), none]) p ⟨0, rfl, by omega, rfl, rfl⟩ ?_)
    rintro q ρ1 ⟨j, rfl, hj, hst, rfl⟩
    have hpj : p - j = (p - j - 1) + 1 := by omega
    obtain ⟨z, hz⟩ : ∃ z : Bool, z = true ↔ dsN g t (j + 1) = 0 := by
      by_cases y : dsN g t (j + 1) = 0
      · exact ⟨true, by simp [y]⟩
      · exact ⟨false, by simp [y]⟩
    have nl := n6 j
    have hj86 : 86 * j ≤ 86 * 13 := Nat.mul_le_mul_left 86 (by omega)
    refine ⟨!z, t_neD (d := .tup [pol (dsN g t (j + 1)).a, pol (dsN g t (j + 1)).b]) (d' := .tup [pol (0 : Pol p), pol (0 : Pol p)]) (k := z) hr (g_var 10) (g_tup (ds := [pol (0 : Pol p), pol (0 : Pol p)]) (a_cons (DE.to g_nilI pol0.symm) (a_cons (DE.to g_nilI pol0.symm) a_nil))) (by rw [hz, tup2_inj]; exact ⟨fun y => by rw [y]; exact ⟨rfl, rfl⟩, fun y => Fn.ext' y.1 y.2⟩) (tup2_num _ _) (tup2_num _ _) (tup2_shaped _ _) (tup2_shaped _ _), fun y => ?_, fun y => ?_⟩
    · have hne : ¬ dsN g t (j + 1) = 0 := fun x => by
        rw [hz.mpr x] at y
        cases y
      have hj1 : j + 1 < p := Nat.lt_of_le_of_ne hj fun x => hne (by rw [x]; exact hend)
      have nl1 := n6 (j + 1)
      have hj87 : 86 * (j + 1) ≤ 86 * 13 := Nat.mul_le_mul_left 86 (by omega)
      rw [hpj, stop_no hne] at hst
      refine ss_cons (s_par3 7 8 9 (r_sh (g_ixT (i := 0) (d := pol (dsN g t (j + 1)).a) (ds := [pol (dsN g t (j + 1)).a, pol (dsN g t (j + 1)).b]) (g_var 10) g_int rfl)) (r_sh (g_ixT (i := 1) (d := pol (dsN g t (j + 1)).b) (ds := [pol (dsN g t (j + 1)).a, pol (dsN g t (j + 1)).b]) (g_var 10) g_int rfl)) (r_sh (DE.to (g_add (g_var 9) g_int) (d' := .int ((j + 1 : Nat) : Int)) rfl)) fun _ _ _ => ?_)
      refine ss_one (s_set 10 (d := .tup [pol (dsN g t (j + 1 + 1)).a, pol (dsN g t (j + 1 + 1)).b]) (g_call OL hr (a_cons (g_var 1) (a_cons (g_var 2) (a_cons (g_tup (ds := [pol (dsS g t * t.1), pol (dsS g t * t.2.1), pol (dsE g t)]) (a_cons (g_var 3) (a_cons (g_var 4) (a_cons (g_var 5) a_nil)))) (a_cons (g_tup (ds := [pol (dsN g t (j + 1)).a, pol (dsN g t (j + 1)).b, .int ((j + 1 : Nat) : Int)]) (a_cons (g_var 7) (a_cons (g_var 8) (a_cons (g_var 9) a_nil)))) a_nil)))) ⟨p, ip, g, dsE g t, dsQ g t, dsS g t * t.1, dsS g t * t.2.1, (dsN g t (j + 1)).a, (dsN g t (j + 1)).b, j + 1, rfl, hg8, n2, n3, n4, n5, by omega, by omega, by omega, e1, hg0, rfl⟩) ?_)
      exact ⟨p - (j + 1), by omega, j + 1, rfl, hj1, by rw [show p - (j + 1) = p - j - 1 by omega]; exact hst, rfl⟩
    · have he : dsN g t (j + 1) = 0 := hz.mp (by cases z <;> first | rfl | cases y)
      rw [hpj, stop_yes he] at hst
      have pw := pow_sz (dsE g t) (n := j) (b := 13) n2 (by omega)
      refine ss_one (s_ret (g_call OA hr (a_cons (g_fcurve N T hr (c := curveD Cc g) (t := t) (g_var 0)) (a_cons (g_var 7) (a_cons (g_var 8) (a_cons (g_call OP hr (a_cons (g_var 1) (a_cons (g_var 5) (a_cons (g_var 9) a_nil))) ⟨p, ip, dsE g t, j, rfl, by omega, by omega, rfl⟩) a_nil)))) ⟨p, ip, g, ((dsN g t j).a, (dsN g t j).b, dsE g t ^ j), rfl, by simp only; omega, by simp only; omega, by simp only; omega, pow_ne_zero e3 _, rfl⟩) ?_)
      rw [hst]; rfl
  · exact absurd hn y
abbrev s_whose_div : Stmt := topS 51
theorem sc_whose_div : FnScope ["one"] ["one"] (defScope s_whose_div) := ⟨rfl, rfl, rfl, by decide +kernel, rfl, by decide +kernel, by decide +kernel⟩
theorem ok_whose_div (OC : OCf P w K mg base k Cf) (OI : Own P w K mg base k "divided_source" ["function"] (spD (f_dsource Cc Cf))) (F : Fun K "whose_divided_slope" "whose_divided_slope" s_whose_div f fd) : FnOk P w K mg base CX0 (k + 1) f fd ["one"] (spD (f_dsource Cc Cf)) := by
  refine fn_D _ F sc_whose_div (by rintro ds d ⟨p, _, _, _, rfl, _⟩; rfl) fun cdv A' outer s H E hr ds d hf => ?_
  obtain ⟨p, ip, g, t, rfl, h1, h2⟩ := hf
  refine ss_cons (s_drop (g_call OC hr (a_cons (g_var 0) a_nil) ⟨p, curveD Cc g, t, rfl, rfl⟩) ?_)
  exact ss_one (s_ret (g_call OI hr (a_cons (g_var 0) a_nil) ⟨p, ip, g, t, rfl, h1, h2⟩) rfl)
end
end Cv
end
section
set_option Elab.async false
set_option linter.all false
set_option maxRecDepth 100000
set_option maxHeartbeats 4000000
namespace Cv
open PySem L2 Evl
section
variable {X : Fm} {ρ : Env} {a b : Expr} {pos : Pos} {k c : Bool}
theorem rd_neB : RD rNe (.bl k) (.bl c) (.bl (!decide (k = c))) := fun F H v u e hv hu Q q => by
  rw [hv.bl_inv, hu.bl_inv]
  refine ⟨rfl, q _ F H (Grow.refl e) ?_⟩
  have : decide (V.bl k = V.bl c) = decide (k = c) := by simp
  rw [this]; exact .bl _
theorem t_neB (ha : GE X a ρ (.bl k)) (hb : GE X b ρ (.bl c)) : GT X (.Compare a [.NotEq] [b] pos) ρ (!decide (k = c)) := cmp_t (fun _ => op_ne) ha hb rd_neB
theorem g_notN {d : D} {k2 p2} (ha : GE X a ρ d) : GE X (.Compare a [.IsNot] [.Constant .none k2 p2] pos) ρ (.bl (!d.isNon)) :=
  ge_by (fun _ => pe_cmpR op_notN (aE_ok _) pe_non (nomark _)) fun B F H σ e r Q q => ha B F H σ e r _ fun v F2 H2 g rv => ⟨rfl, by rw [rv.isNon]; exact q _ F2 H2 g (.bl _)⟩
end
section
variable {p : Nat} [ip : Pr p]
/-- a list that is filled with every number p apart, as far as i -/
structure Spr (A : Pol p) (i : Nat) (ms : List Int) : Prop where
  len : ms.length = p * A.l.length
  at_ : ∀ n, cf ms n = if n % p = 0 ∧ n / p < i then cf A.l (n / p) else 0
theorem Spr.start (A : Pol p) : Spr A 0 (List.replicate (p * A.l.length) 0) := ⟨by simp, fun n => by rw [cf_rep0, if_neg fun z => absurd z.2 (Nat.not_lt_zero _)]⟩
theorem Spr.set {A : Pol p} {i : Nat} {ms : List Int} (S : Spr A i ms) (hi : i < A.l.length) : p * i < ms.length ∧ Spr A (i + 1) (ms.set (p * i) (cf A.l i)) := by
  have hpi : p * i < ms.length := by
    rw [S.len]
    exact Nat.mul_lt_mul_of_pos_left hi (Pr.pos p)
  refine ⟨hpi, by rw [List.length_set, S.len], fun n => ?_⟩
  rw [cf_set _ _ _ _ hpi]
  by_cases e : n = p * i
  · obtain ⟨e1, e2⟩ := (mul_mod_eq (Pr.pos p) n i).mpr e
    rw [if_pos e, if_pos ⟨e1, by omega⟩, e2]
  · rw [if_neg e, S.at_]
    have : ¬ (n % p = 0 ∧ n / p = i) := fun z => e ((mul_mod_eq (Pr.pos p) n i).mp z)
    by_cases g : n % p = 0 ∧ n / p < i
    · rw [if_pos g, if_pos ⟨g.1, by omega⟩]
    · rw [if_neg g, if_neg (fun z => by
        rcases Nat.lt_or_ge (n / p) i with h | h
        · exact g ⟨z.1, h⟩
        · exact this ⟨z.1, by omega⟩)]
theorem Spr.done {A : Pol p} {ms : List Int} (S : Spr A A.l.length ms) : (Pol.of ms : Pol p) = stretch A := Pol.ext fun n => by
  rw [Pol.cf_of, S.at_, cf_stretch]
  by_cases h : n % p = 0
  · by_cases h2 : n / p < A.l.length
    · rw [if_pos ⟨h, h2⟩, if_pos h, A.cf_mod]
    · rw [if_neg (fun z => h2 z.2), if_pos h, cf_ge (by omega)]; simp
  · rw [if_neg (fun z => h z.1), if_neg h]; simp
end
section
variable {P : Program} {w : World} {K : PySem.W.Frag} {mg : Str → Option Value} {base : Heap} {f : Addr} {fd : FuncData} {k : Nat} {Cc Cf aP : Addr}
/-! _law_written -/
abbrev s_lwritten : Stmt := topS 76
theorem sc_lwritten : FnScope ["p", "f", "parts", "high"] ["p", "f", "parts"] (defScope s_lwritten) := ⟨rfl, rfl, rfl, by decide +kernel, rfl, by decide +kernel, by decide +kernel⟩
def f_lwritten (ds : List D) (d : D) : Prop := ∃ (p : Nat) (_ : Pr p) (g : Pol p) (t : Tri p), ds = [.int p, pol g, triD t] ∧ Sz g t ∧ d = .lst [pol (lowO t), pol (highO g t)]
theorem ok_lwritten (OP : PPw P w K mg base k) (OM : PMul P w K mg base k) (F : Fun K "_law_written" "_law_written" s_lwritten f fd) : FnOk P w K mg base CX0 (k + 1) f fd ["p", "f", "parts"] (spD f_lwritten) := by
  refine fn_D f_lwritten F sc_lwritten (by rintro ds d ⟨p, _, _, _, rfl, _⟩; rfl) fun cdv A' outer s H E hr ds d hf => ?_
  obtain ⟨p, ip, g, t, rfl, S, rfl⟩ := hf
  have hp := Pr.le13 p
  have hp3 := Pr.ge3 p
  have ha := S.a
  have hb := S.b
  have hc := S.c
  have hg8 := S.g
  have h1 := pow_sz t.2.2 (n := p - 1) (b := 12) hc (by omega)
  have h2 := pow_sz g (n := (p + 1) / 2) (b := 7) hg8 (by omega)
  have h4 := mul_len20 t.2.1 (t.2.2 ^ (p - 1))
  have e1 : (p : Int) - 1 = ((p - 1 : Nat) : Int) := by omega
  have e2 : ((p : Int) + 1) / 2 = (((p + 1) / 2 : Nat) : Int) := by omega
  refine ss_cons (s_set 3 (g_call OP hr (a_cons (g_var 0) (a_cons (g_tri2 (t := t) (g_var 2) g_int) (a_cons (DE.to (g_sub (g_var 0) g_int) (by rw [e1])) a_nil))) ⟨p, ip, t.2.2, p - 1, rfl, by omega, by omega, rfl⟩) ?_)
  exact ss_one (s_ret (g_lst (ds := [pol (lowO t), pol (highO g t)]) (a_cons (g_call OM hr (a_cons (g_var 0) (a_cons (g_tri0 (t := t) (g_var 2) g_int) (a_cons (g_var 3) a_nil))) ⟨p, ip, t.1, t.2.2 ^ (p - 1), rfl, by omega, by omega, rfl⟩) (a_cons (g_call OM hr (a_cons (g_var 0) (a_cons (g_call OM hr (a_cons (g_var 0) (a_cons (g_tri1 (t := t) (g_var 2) g_int) (a_cons (g_var 3) a_nil))) ⟨p, ip, t.2.1, t.2.2 ^ (p - 1), rfl, by omega, by omega, rfl⟩) (a_cons (g_call OP hr (a_cons (g_var 0) (a_cons (g_var 1) (a_cons (DE.to (g_fdiv (g_add (g_var 0) g_int) g_int ⟨by decide, by decide⟩) (by rw [e2])) a_nil))) ⟨p, ip, g, (p + 1) / 2, rfl, by omega, by omega, rfl⟩) a_nil))) ⟨p, ip, t.2.1 * t.2.2 ^ (p - 1), g ^ ((p + 1) / 2), rfl, by omega, by omega, rfl⟩) a_nil)) (of_decide_eq_true rfl)) rfl)
abbrev PWr (P w K mg base k) := Own P w K mg base k "_law_written" ["p", "f", "parts"] (spD f_lwritten)
/-! _law_taken -/
abbrev s_ltaken : Stmt := topS 77
theorem sc_ltaken : FnScope ["p", "written", "first", "line"] ["p", "written", "first"] (defScope s_ltaken) := ⟨rfl, rfl, rfl, by decide +kernel, rfl, by decide +kernel, by decide +kernel⟩
def f_ltaken (ds : List D) (d : D) : Prop := ∃ (p : Nat) (_ : Pr p) (A B : Pol p) (i : Nat), ds = [.int p, .lst [pol A, pol B], .int (i : Int)] ∧ A.l.length ≤ 20000 ∧ B.l.length ≤ 20000 ∧ d = .lst [pol (evr A i), pol (evr B i)]
theorem ok_ltaken (O : PTrim P w K mg base k) (F : Fun K "_law_taken" "_law_taken" s_ltaken f fd) : FnOk P w K mg base CX0 (k + 1) f fd ["p", "written", "first"] (spD f_ltaken) := by
  refine fn_D f_ltaken F sc_ltaken (by rintro ds d ⟨p, _, _, _, _, rfl, _⟩; rfl) fun cdv A' outer s H E hr ds d hf => ?_
  obtain ⟨p, ip, A, B, n, rfl, hA, hB, rfl⟩ := hf
  have hp := Pr.pos p
  have lens : ∀ i, (pick A B B i).l.length ≤ 20000 := pick_all (Q := fun X : Pol p => X.l.length ≤ 20000) hA hB hB
  have lens2 : ∀ i, (stepL (pick A B B i).l n p).length ≤ 50000 := fun i => by
    have := stepL_len (pick A B B i).l n p hp
    have := lens i
    omega
  exact ss_one (s_ret (g_lc ((dn_lc [("line", 3)] (fun _ => blkOk_by (N := ["p", "written", "first", "line"]) (sc := defScope s_ltaken) (by decide +kernel)) ((i_list (ds := [pol A, pol B]) (g_var 1)).src (src' := fun i => pol (pick A B B i)) (fun i hi => by
    match i, hi with
    | 0, _ => rfl
    | 1, _ => rfl)) (of_decide_eq_true rfl) (tb := fun _ => true) (f := fun i => pol (evr (pick A B B i) n)) [3] _ (fun i hi => tg_name) (by decide) (fun i hi => ts_nil) (fun i hi _ => g_call O hr (a_cons (g_var 0) (a_cons (g_slSL (ns := (pick A B B i).l) (g_var 3) (g_var 2) (g_var 0) hp) a_nil)) (f_trimmed_of _ (lens2 i) rfl)) (by intro _ _; rfl)).to (d' := [pol (evr A n), pol (evr B n)]) rfl)) rfl)
abbrev PTa (P w K mg base k) := Own P w K mg base k "_law_taken" ["p", "written", "first"] (spD f_ltaken)
/-! _law_same -/
abbrev s_lsame : Stmt := topS 78
theorem sc_lsame : FnScope ["p", "one", "other", "at"] ["p", "one", "other"] (defScope s_lsame) := ⟨rfl, rfl, rfl, by decide +kernel, rfl, by decide +kernel, by decide +kernel⟩
def f_lsame (ds : List D) (d : D) : Prop := ∃ (p : Nat) (_ : Pr p) (s t : Tri p), ds = [.int p, triD s, triD t] ∧ s.1.l.length ≤ 9000 ∧ s.2.1.l.length ≤ 9000 ∧ s.2.2.l.length ≤ 9000 ∧ t.1.l.length ≤ 9000 ∧ t.2.1.l.length ≤ 9000 ∧ t.2.2.l.length ≤ 9000 ∧ Same s t ∧ d = .bl true
theorem ok_lsame (bu : BuAll mg) (OM : PMul P w K mg base k) (F : Fun K "_law_same" "_law_same" s_lsame f fd) : FnOk P w K mg base CX0 (k + 1) f fd ["p", "one", "other"] (spD f_lsame) := by
  refine fn_D f_lsame F sc_lsame (by rintro ds d ⟨p, _, _, _, rfl, _⟩; rfl) fun cdv A' outer s H E hr ds d hf => ?_
  obtain ⟨p, ip, u, t, rfl, h1, h2, h3, h4, h5, h6, hS, rfl⟩ := hf
  have et : ∀ (v : Tri p) (i : Nat), i < 2 → atI [pol v.1, pol v.2.1, pol v.2.2] (0 + (i : Int)) = some (pol (pick v.1 v.2.1 v.2.1 i)) := fun v i hi => by
    match i, hi with
    | 0, _ => rfl
    | 1, _ => rfl
  have lu : ∀ i, (pick u.1 u.2.1 u.2.1 i).l.length ≤ 9000 := pick_all (Q := fun X : Pol p => X.l.length ≤ 9000) h1 h2 h2
  have lt : ∀ i, (pick t.1 t.2.1 t.2.1 i).l.length ≤ 9000 := pick_all (Q := fun X : Pol p => X.l.length ≤ 9000) h4 h5 h5
  have eq : ∀ i, i < 2 → pick u.1 u.2.1 u.2.1 i * t.2.2 = pick t.1 t.2.1 t.2.1 i * u.2.2 := fun i hi => by
    match i, hi with
    | 0, _ => exact hS.1
    | 1, _ => exact hS.2
  refine ss_one (s_ret (DE.to (g_eqL hr (ns := []) (DE.to (g_lc (dn_lc [("at", 3)] (fun _ => blkOk_by (N := ["p", "one", "other", "at"]) (sc := defScope s_lsame) (by decide +kernel)) ((i_range1 bu g_int).num (n' := 2) rfl) (of_decide_eq_true rfl) (tb := fun _ => false) (f := fun _ => .non) [3] _ (fun i hi => tg_name) (by decide) (fun i hi => ts_one (DT.to (t_neL (X := blkF _ _) hr (ns := (pick u.1 u.2.1 u.2.1 i * t.2.2).l) (ms := (pick t.1 t.2.1 t.2.1 i * u.2.2).l) (lp_mul (X := blkF _ _) (m := 9000) (n := 9000) OM hr (g_var 0) (gp_of (g_ixL (ds := [pol u.1, pol u.2.1, pol u.2.2]) (g_var 1) (g_var 3) (et u i hi)) (lu i)) (gp_of (g_tri2 (t := t) (g_var 2) g_int) h6)).1 (lp_mul (X := blkF _ _) (m := 9000) (n := 9000) OM hr (g_var 0) (gp_of (g_ixL (ds := [pol t.1, pol t.2.1, pol t.2.2]) (g_var 2) (g_var 3) (et t i hi)) (lt i)) (gp_of (g_tri2 (t := u) (g_var 1) g_int) h3)).1) (by rw [eq i hi]; simp))) (fun i hi z => absurd z (by decide)) (by intro _ _; rfl))) (by rw [resD_none _ (fun _ => rfl)]; rfl)) g_nilI) (d' := .bl true) (by rw [decide_eq_true rfl])) rfl)
abbrev PSa (P w K mg base k) := Own P w K mg base k "_law_same" ["p", "one", "other"] (spD f_lsame)
/-! _law_source -/
abbrev s_lsource : Stmt := topS 79
abbrev N_lso : List Str := ["p", "f", "parts", "found", "line", "row", "at", "number", "high"]
theorem sc_lsource : FnScope N_lso ["p", "f", "parts"] (defScope s_lsource) := ⟨rfl, rfl, rfl, by decide +kernel, rfl, by decide +kernel, by decide +kernel⟩
def f_lsource (ds : List D) (d : D) : Prop := ∃ (p : Nat) (_ : Pr p) (g : Pol p) (t : Tri p), ds = [.int p, pol g, triD t] ∧ Sz g t ∧ NoLast g t ∧ d = .lst [pol (srcP (lowO t)), pol (srcP (highO g t)), pol (stretch t.2.2)]
theorem ok_lsource (bu : BuAll mg) (OW : PWr P w K mg base k) (OI : PInv P w K mg base k) (OT : PTrim P w K mg base k) (F : Fun K "_law_source" "_law_source" s_lsource f fd) : FnOk P w K mg base CX0 (k + 1) f fd ["p", "f", "parts"] (spD f_lsource) := by
  refine fn_D f_lsource F sc_lsource (by rintro ds d ⟨p, _, _, _, rfl, _⟩; rfl) fun cdv A' outer s H E hr ds d hf => ?_
  obtain ⟨p, ip, g, t, rfl, S, ⟨n1, n2⟩, rfl⟩ := hf
  have hp := Pr.le13 p
  have hc60 := S.c
  obtain ⟨l1, l2⟩ := low_len S
  have lens : ∀ i, (pick (lowO t) (highO g t) (highO g t) i).l.length ≤ 5000 := pick_all (Q := fun X : Pol p => X.l.length ≤ 5000) (by omega) (by omega) (by omega)
  have lasts : ∀ i, evr (pick (lowO t) (highO g t) (highO g t) i) (p - 1) = 0 := pick_all (Q := fun X : Pol p => evr X (p - 1) = 0) n1 n2 n2
  refine ss_cons (s_setN 3 (gn_lst a_nil) fun l => ?_)
  refine ss_cons (s_for ((i_list (ds := [pol (lowO t), pol (highO g t)]) (g_call OW hr (a_cons (g_var 0) (a_cons (g_var 1) (a_cons (g_var 2) a_nil))) ⟨p, ip, g, t, rfl, S, rfl⟩)).src (src' := fun i => pol (pick (lowO t) (highO g t) (highO g t) i)) (fun i hi => by
    match i, hi with
    | 0, _ => rfl
    | 1, _ => rfl)) (fun i ρ1 => ∃ (a b c e : Option Sl), ρ1 = [some (.sh (.int p)), some (.sh (pol g)), some (.sh (triD t)), some (.own l ([pol (srcP (lowO t)), pol (srcP (highO g t))].take i)), a, b, c, e, none]) ⟨none, none, none, none, rfl⟩ ?_ ?_)
  · rintro i ρ1 hi ⟨a, b, c, e, rfl⟩
    refine ⟨[4], _, tg_name, ?_⟩
    have hl := lens i
    have h0 := lasts i
    have htake : [pol (srcP (lowO t)), pol (srcP (highO g t))].take (i + 1) = [pol (srcP (lowO t)), pol (srcP (highO g t))].take i ++ [pol (srcP (pick (lowO t) (highO g t) (highO g t) i))] := by
      match i, hi with
      | 0, _ => rfl
      | 1, _ => rfl
    generalize hA : pick (lowO t) (highO g t) (highO g t) i = A at *
    refine ss_cons (s_setN 5 (g_repI (i := 0) (j := (A.l.length : Int) + 1) g_int (g_add (g_lenI bu (ns := A.l) (g_var 4)) g_int) (by omega)) fun l1 => ?_)
    have e0 : ((A.l.length : Int) + 1).toNat = A.l.length + 1 := by omega
    rw [e0]
    refine ss_cons (s_for (i_enumI bu (ns := A.l) (g_var 4)) (fun j ρ1 => ∃ (ms : List Int) (a b : Option Sl), Src A j ms ∧ ρ1 = [some (.sh (.int p)), some (.sh (pol g)), some (.sh (triD t)), some (.own l ([pol (srcP (lowO t)), pol (srcP (highO g t))].take i)), some (.sh (pol A)), some (.own l1 (ms.map .int)), a, b, none]) ⟨_, c, e, Src.start A, rfl⟩ ?_ ?_)
    · rintro j ρ1 hj ⟨ms, a, b, Q, rfl⟩
      refine ⟨[6, 7], _, tg_tup (tgs_cons (tg_name (i := 6)) (tgs_cons (tg_name (i := 7)) tgs_nil)), ?_⟩
      have hc : A.l.getD j 0 = cf A.l j := cf_getD _ _
      by_cases h : cf A.l j = 0
      · refine ss_one (s_if (k := false) (DT.to (t_neI (g_var 7) g_int) (by rw [hc, decide_eq_true h]; rfl)) (fun z => absurd z (by decide)) (fun z => ss_nil ⟨ms, _, _, Q.skip h, rfl⟩))
      · refine ss_one (s_if (k := true) (DT.to (t_neI (g_var 7) g_int) (by rw [hc, decide_eq_false h]; rfl)) (fun z => ?_) (fun z => absurd z (by decide)))
        have hn := no_last h0 j h
        have hrng := A.cf_rng j
        have hlen := Q.len
        refine ss_one (s_setI 5 (l := l1) (ds := ms.map .int) (m := j + 1) (g_mul (g_var 7) (g_call OI hr (a_cons (g_var 0) (a_cons (g_add (g_mod (g_toInt bu (g_var 6)) (g_var 0) (Pr.posI p)) g_int) a_nil)) ⟨p, ip, (j : Int) % (p : Int) + 1, rfl, inv_next hn, rfl⟩) (.inl (by rw [hc]; omega))) (g_add (g_var 6) g_int) (by
          have : ((j : Int) + 1) = ((j + 1 : Nat) : Int) := by omega
          rw [this, ixN_nat (by simp; omega)]) ?_)
        refine ⟨ms.set (j + 1) (cf A.l j * inv p (((j : Int) % (p : Int)) + 1)), some (.sh (.int (j : Int))), some (.sh (.int (cf A.l j))), Q.set hj, ?_⟩
        rw [hc, List.map_set]; rfl
    · rintro ρ1 ⟨ms, a, b, Q, rfl⟩
      refine ss_freeze 5 ?_
      have hlen := Q.len
      refine ss_one (s_app 3 (l := l) (ds := [pol (srcP (lowO t)), pol (srcP (highO g t))].take i) (g_call OT hr (a_cons (g_var 0) (a_cons (g_var 5) a_nil)) (f_trimmed_of ms (by omega) Q.done)) ?_ (Nat.lt_of_le_of_lt (List.length_take_le _ _) (by have : i < 2 := hi; omega)))
      refine ⟨some (.sh (pol A)), some (.sh (.lst (ms.map .int))), a, b, ?_⟩
      rw [htake]; rfl
  · rintro ρ1 ⟨a, b, c, e, rfl⟩
    have hpm : (p : Int) * (t.2.2.l.length : Int) = ((p * t.2.2.l.length : Nat) : Int) := by simp
    have hpl : p * t.2.2.l.length ≤ 13 * 60 := Nat.mul_le_mul hp hc60
    refine ss_cons (s_setN 8 (g_repI (i := 0) (j := (p : Int) * (t.2.2.l.length : Int)) g_int (g_mul (g_var 0) (g_lenI bu (ns := t.2.2.l) (g_tri2 (t := t) (g_var 2) g_int)) (.inl (by omega))) (by rw [hpm]; omega)) fun l2 => ?_)
    have e0 : ((p : Int) * (t.2.2.l.length : Int)).toNat = p * t.2.2.l.length := by rw [hpm]; omega
    rw [e0]
    refine ss_cons (s_for (i_enumI bu (ns := t.2.2.l) (g_tri2 (t := t) (g_var 2) g_int)) (fun j ρ1 => ∃ (ms : List Int) (c e : Option Sl), Spr t.2.2 j ms ∧ ρ1 = [some (.sh (.int p)), some (.sh (pol g)), some (.sh (triD t)), some (.own l [pol (srcP (lowO t)), pol (srcP (highO g t))]), a, b, c, e, some (.own l2 (ms.map .int))]) ⟨_, c, e, Spr.start t.2.2, rfl⟩ ?_ ?_)
    · rintro j ρ1 hj ⟨ms, c, e, Q, rfl⟩
      refine ⟨[6, 7], _, tg_tup (tgs_cons (tg_name (i := 6)) (tgs_cons (tg_name (i := 7)) tgs_nil)), ?_⟩
      have hc : t.2.2.l.getD j 0 = cf t.2.2.l j := cf_getD _ _
      obtain ⟨q1, q2⟩ := Q.set hj
      refine ss_one (s_setI 8 (l := l2) (ds := ms.map .int) (m := p * j) (g_var 7) (g_mul (g_var 0) (g_var 6) (.inl (by omega))) (own_ix (ms := ms) (n := p * j) q1 (by simp)) ?_)
      refine ⟨ms.set (p * j) (cf t.2.2.l j), some (.sh (.int (j : Int))), some (.sh (.int (cf t.2.2.l j))), q2, ?_⟩
      rw [hc, List.map_set]; rfl
    · rintro ρ1 ⟨ms, c, e, Q, rfl⟩
      refine ss_freeze 8 ?_
      refine ss_freeze 3 ?_
      have hlen := Q.len
      exact ss_one (s_ret (g_lst (ds := [pol (srcP (lowO t)), pol (srcP (highO g t)), pol (stretch t.2.2)]) (a_cons (g_ixL (i := 0) (ds := [pol (srcP (lowO t)), pol (srcP (highO g t))]) (g_var 3) g_int rfl) (a_cons (g_ixL (i := 1) (ds := [pol (srcP (lowO t)), pol (srcP (highO g t))]) (g_var 3) g_int rfl) (a_cons (g_call OT hr (a_cons (g_var 0) (a_cons (g_var 8) a_nil)) (f_trimmed_of ms (by omega) Q.done)) a_nil))) (of_decide_eq_true rfl)) rfl)
abbrev PSo (P w K mg base k) := Own P w K mg base k "_law_source" ["p", "f", "parts"] (spD f_lsource)
end
end Cv
end
section
set_option Elab.async false
set_option linter.all false
set_option maxRecDepth 100000
set_option maxHeartbeats 4000000
namespace Cv
open PySem L2 Evl
section
variable {X : Fm} {ρ : Env} {P : Post} {e : Expr} {ds : List D}
/-- xs.append(e), e may draw -/
theorem s_appX (i : Nat) {x : Str} {l : Addr} {pa p : Pos} (he : GX X e ρ fun ρ2 d => ∃ ds2, ρ2[i]? = some (some (.own l ds2)) ∧ ds2.length < 100000 ∧ P.nx (ρ2.set i (some (.own l (ds2 ++ [d]))))) (hi : ρ[i]? = some (some (.own l ds)) := by rfl) (hn : X.N[i]? = some x := by rfl)
    (hv : ∀ j, Vis (X.Y j).env.scope x := by intro _; first | exact Or.inl rfl | exact Or.inr (Or.inl rfl) | exact Or.inr (Or.inr rfl)) (hd : (x == ("__debug__" : Str)) = false := by decide) (hcd : (x == ("__classdict__" : Str)) = false := by decide) {pc p2 : Pos}
    (hline : (pa.endLine == pc.line) = true := by rfl) (st : noStar e = true := by rfl) : GS X (.Expr (.Call (.Attribute (.Name x p) "append" pa) [e] [] pc) p2) ρ P :=
  gs_by (t := tDrop (tBM X.K "list" rAppend (tVar i) (tCons (aE X e) tNil))) (fun j => ps_expr (by
    rw [← X.hK j]
    exact pe_bm PySem.F.plainAttrs_list PySem.F.slot_list_append PySem.F.type_list_append mt_append (pvN i hn hv hd hcd j) (pa_cons (aE_ok j) pa_nil (star_of st)) (by rfl) (by rw [star_of st]; rfl) hline (star_of st) (by rfl)) (by rfl)) fun B F0 F H σ D' I r f => by
    obtain ⟨hs, hF, hB, xs, hH, rx⟩ := r.own hi
    refine ⟨.ref l, hs, .inl ⟨rfl, xs, SqL.of hH⟩, ?_⟩
    refine he B F0 F H σ I r _ fun v F2 H2 ρ2 d I2 e2 r2 rv ⟨ds2, h2, hz, k⟩ => ?_
    obtain ⟨_, hF2, hB2, xs2, hH2, rx2⟩ := r2.own h2
    refine ⟨l, xs2, v, rfl, rfl, hH2, sz_lt (by rw [rx2.length]; exact hz), f.nx F2 _ σ _ (I2.own_set hF2 hB2) e2 (r2.own_set h2 (rx2.append (.cons rv .nil))) k⟩
end
section
variable {X : Fm} {ρ : Env} {P : Post} {a b c : Expr} {pos : Pos}
/-- a, b, c = x, y, z with plain names, by values that may draw -/
theorem s_par3X (k m n : Nat) {x y z : Str} {px py pz pt : Pos} {kt k2 pt2} (h : GX X a ρ fun ρ1 d1 => GX X b ρ1 fun ρ2 d2 => GX X c ρ2 fun ρ3 d3 => P.nx (((ρ3.set k (some (.sh d1))).set m (some (.sh d2))).set n (some (.sh d3))) ∧ k < ρ3.length ∧ m < ρ3.length ∧ n < ρ3.length)
    (hkm : k ≠ m := by decide) (hkn : k ≠ n := by decide) (hmn : m ≠ n := by decide) (hnk : X.N[k]? = some x := by rfl) (hnm : X.N[m]? = some y := by rfl) (hnn : X.N[n]? = some z := by rfl)
    (hx : ∀ j, (X.Y j).env.scope.names.lookup x = some .local := by intro _; rfl) (hy : ∀ j, (X.Y j).env.scope.names.lookup y = some .local := by intro _; rfl) (hz : ∀ j, (X.Y j).env.scope.names.lookup z = some .local := by intro _; rfl)
    (hw : ∀ j, swappedStores [.Tuple [.Name x px, .Name y py, .Name z pz] kt pt] (.Tuple [a, b, c] k2 pt2) (X.Y j).env = pure (some [x, y, z]) := by intro _; rfl)
    (hs : ∀ j, swapsWithSole [.Tuple [.Name x px, .Name y py, .Name z pz] kt pt] (.Tuple [a, b, c] k2 pt2) pos.line (X.Y j).env = pure false := by intro _; rfl) (st : noStars [a, b, c] = true := by rfl) :
    GS X (.Assign [.Tuple [.Name x px, .Name y py, .Name z pz] kt pt] (.Tuple [a, b, c] k2 pt2) pos) ρ P := by
  have st' : noStar a = true ∧ noStar b = true ∧ noStar c = true := by simpa [noStars] using st
  refine gs_by (fun j => ps_par3 (X.calm j) (by rw [X.hN j]; exact X.nd) (by rw [X.hN j]; exact hnk) (by rw [X.hN j]; exact hnm) (by rw [X.hN j]; exact hnn) hkm hkn hmn (hx j) (hy j) (hz j) (pa_cons (aE_ok j) (pa_cons (aE_ok j) (pa_cons (aE_ok j) pa_nil (star_of st'.2.2)) (star_of st'.2.1)) (star_of st'.1)) (hw j) (hs j)) fun B F0 F H σ D' I r f => ?_
  refine h B F0 F H σ I r _ fun v F2 H2 ρ1 d1 I2 e2 r2 rv k2 => k2 B F0 F2 H2 σ I2 r2 _ fun u F3 H3 ρ2 d2 I3 e3 r3 ru k3 => k3 B F0 F3 H3 σ I3 r3 _ fun w F4 H4 ρ3 d3 I4 e4 r4 rw' ⟨q, l1, l2, l3⟩ => ⟨v, u, w, rfl, ?_⟩
  exact f.nx F4 H4 _ _ I4 ((e2.trans e3).trans e4) (((r4.setSh l1 (rv.mono (e3.trans e4))).setSh (by simpa using l2) (ru.mono e4)).setSh (by simpa using l3) rw') q
end
end Cv
end
section
set_option Elab.async false
set_option linter.all false
set_option maxRecDepth 100000
set_option maxHeartbeats 4000000
namespace Cv
open PySem L2 Evl
section
variable {p : Nat} [ip : Pr p]
theorem GoodC.even {g : Pol p} (h : GoodC g) : g.l.length % 2 = 0 := by have := h.len; omega
theorem GoodC.len8 {g : Pol p} (h : GoodC g) : g.l.length ≤ 8 := by have := h.len; omega
theorem least_nz {t : Tri p} (ht : t.2.2 ≠ 0) (h : ¬ (t.1 = 0 ∧ t.2.1 = 0)) : ¬ ((least t).1 = 0 ∧ (least t).2.1 = 0) := fun z => by
  obtain ⟨K, _, e1, e2, _⟩ := least_fac ht
  refine h ⟨?_, ?_⟩
  · rw [e1, z.1]; grind
  · rw [e2, z.2]; grind
/-- a slope divided by its function -/
noncomputable def divT (g : Pol p) (t : Tri p) : Tri p := mulT g (slopeT g t) (backT g t)
theorem slopeT_wd {g : Pol p} {t : Tri p} {m : Nat} (hg : g.l.length ≤ 8) (hg0 : g ≠ 0) (h : Wd m t) : Wd (2 * m + 8) (slopeT g t) := by
  have a1 := h.a
  have a2 := h.b
  have a3 := h.c
  have s1 := slope_len t.1
  have s2 := slope_len t.2.1
  have s3 := slope_len t.2.2
  have s4 := slope_len g
  have z0 := len_C 2 g
  unfold Pol.len at z0
  have q1 := mul_len20 (slope t.1) t.2.2
  have q2 := mul_len20 t.1 (slope t.2.2)
  have q3 : (slope t.1 * t.2.2 - t.1 * slope t.2.2).l.length ≤ 2 * m := len_sub20 (by omega) (by omega)
  have q4 := mul_len20 (slope t.1 * t.2.2 - t.1 * slope t.2.2) (Pol.C 2 * g)
  have r1 := mul_len20 (slope t.2.1) t.2.2
  have r2 := mul_len20 t.2.1 (slope t.2.2)
  have r3 : (slope t.2.1 * t.2.2 - t.2.1 * slope t.2.2).l.length ≤ 2 * m := len_sub20 (by omega) (by omega)
  have r4 := mul_len20 (slope t.2.1 * t.2.2 - t.2.1 * slope t.2.2) (Pol.C 2 * g)
  have r5 := mul_len20 t.2.1 (slope g)
  have r6 := mul_len20 (t.2.1 * slope g) t.2.2
  have v1 := mul_len20 t.2.2 t.2.2
  have v2 := mul_len20 (t.2.2 * t.2.2) (Pol.C 2 * g)
  refine ⟨?_, ?_, ?_, mul_ne_zero (mul_ne_zero h.ne h.ne) (mul_ne_zero two_ne hg0)⟩
  · unfold slopeT; simp only; omega
  · unfold slopeT; simp only
    exact len_add20 _ _ _ (by omega) (by omega)
  · unfold slopeT; simp only; omega
theorem divT_wd {g : Pol p} {t : Tri p} {m : Nat} (hg : g.l.length ≤ 8) (hg0 : g ≠ 0) (h : Wd m t) (hn : normP g t ≠ 0) : Wd (4 * m + 16) (divT g t) := by
  have a1 := h.a
  have a2 := h.b
  have a3 := h.c
  have S := slopeT_wd hg hg0 h
  have b1 := S.a
  have b2 := S.b
  have b3 := S.c
  have n1 := mul_len20 t.1 t.1
  have n2 := mul_len20 t.2.1 t.2.1
  have n3 := mul_len20 (t.2.1 * t.2.1) g
  have n4 : (normP g t).l.length ≤ 2 * m + 8 := len_sub20 (by omega) (by omega)
  have c1 := mul_len20 t.1 t.2.2
  have c2 := mul_len20 t.2.1 t.2.2
  have c3 := len_neg (t.2.1 * t.2.2)
  unfold Pol.len at c3
  have d1 := mul_len20 (slopeT g t).1 (t.1 * t.2.2)
  have d2 := mul_len20 (slopeT g t).2.1 (-(t.2.1 * t.2.2))
  have d3 := mul_len20 ((slopeT g t).2.1 * (-(t.2.1 * t.2.2))) g
  have d4 := mul_len20 (slopeT g t).1 (-(t.2.1 * t.2.2))
  have d5 := mul_len20 (slopeT g t).2.1 (t.1 * t.2.2)
  have d6 := mul_len20 (slopeT g t).2.2 (normP g t)
  refine ⟨?_, ?_, ?_, mul_ne_zero S.ne hn⟩
  · show ((slopeT g t).1 * (t.1 * t.2.2) + (slopeT g t).2.1 * (-(t.2.1 * t.2.2)) * g).l.length ≤ _
    exact len_add20 _ _ _ (by omega) (by omega)
  · show ((slopeT g t).1 * (-(t.2.1 * t.2.2)) + (slopeT g t).2.1 * (t.1 * t.2.2)).l.length ≤ _
    exact len_add20 _ _ _ (by omega) (by omega)
  · show ((slopeT g t).2.2 * normP g t).l.length ≤ _
    omega
theorem addT_wd {t u : Tri p} {m n : Nat} (x : Int) (h : Wd m t) (k : Wd n u) : Wd (m + n) (addT x t u) := by
  have a1 := h.a
  have a2 := h.b
  have a3 := h.c
  have b1 := k.a
  have b2 := k.b
  have b3 := k.c
  have q1 := mul_len20 t.1 u.2.2
  have q2 := mul_len20 u.1 t.2.2
  have q3 := len_C x (u.1 * t.2.2)
  have r1 := mul_len20 t.2.1 u.2.2
  have r2 := mul_len20 u.2.1 t.2.2
  have r3 := len_C x (u.2.1 * t.2.2)
  have r5 := mul_len20 t.2.2 u.2.2
  unfold Pol.len at q3 r3
  refine ⟨?_, ?_, ?_, mul_ne_zero h.ne k.ne⟩
  · unfold addT; simp only; exact len_add20 _ _ _ (by omega) (by omega)
  · unfold addT; simp only; exact len_add20 _ _ _ (by omega) (by omega)
  · unfold addT; simp only; omega
/-- what the law draws -/
structure Drn (t : Tri p) : Prop where
  L : Least t
  wd : Wd 3 t
  nz : ¬ (t.1 = 0 ∧ t.2.1 = 0)
theorem Drn.norm {g : Pol p} {t : Tri p} (h : Drn t) (hg : GoodC g) : normP g t ≠ 0 := norm_ne hg.ne hg.even h.nz
theorem sd_of {g : Pol p} {t : Tri p} (hg : GoodC g) (h : Wd 56 t) : Sd g (least t) := by
  have w := h.least
  exact ⟨hg.len8, hg.ne, least_least h.ne, by have := w.a; omega, by have := w.b; omega, by have := w.c; omega⟩
end
section
variable {P : Program} {w : World} {K : PySem.W.Frag} {mg : Str → Option Value} {base : Heap} {f : Addr} {fd : FuncData} {k : Nat} {Cc Cf aP : Addr}
abbrev PLe2 (P w K mg base k) := Own P w K mg base k "_law_least" ["p", "parts"] (spD f_lleast)
abbrev PLsp (P w K mg base k) := Own P w K mg base k "_law_slope" ["p", "f", "parts"] (spD f_lslope)
abbrev PMu (P w K mg base k) := Own P w K mg base k "_law_multiplied" ["p", "f", "one", "other"] (spD f_lmultiplied)
/-! _law_divided -/
abbrev s_ldivided : Stmt := topS 75
theorem sc_ldivided : FnScope ["p", "f", "parts", "slope", "top", "side", "norm", "back"] ["p", "f", "parts"] (defScope s_ldivided) := ⟨rfl, rfl, rfl, by decide +kernel, rfl, by decide +kernel, by decide +kernel⟩
def f_ldivided (ds : List D) (d : D) : Prop := ∃ (p : Nat) (_ : Pr p) (g : Pol p) (t : Tri p), ds = [.int p, pol g, triD t] ∧ GoodC g ∧ Drn t ∧ d = triD (least (divT g t))
theorem ok_ldivided (OSl : PLsp P w K mg base k) (OM : PMul P w K mg base k) (OL : PLs P w K mg base k) (OS : PScal P w K mg base k) (OMu : PMu P w K mg base k) (OLe : PLe2 P w K mg base k) (F : Fun K "_law_divided" "_law_divided" s_ldivided f fd) : FnOk P w K mg base CX0 (k + 1) f fd ["p", "f", "parts"] (spD f_ldivided) := by
  refine fn_D f_ldivided F sc_ldivided (by rintro ds d ⟨p, _, _, _, rfl, _⟩; rfl) fun cdv A' outer s H E hr ds d hf => ?_
  obtain ⟨p, ip, g, t, rfl, hg, ht, rfl⟩ := hf
  have hp := Pr.le13 p
  have hp3 := Pr.ge3 p
  have hg8 := hg.len8
  have hw := ht.wd
  have a1 := hw.a
  have a2 := hw.b
  have a3 := hw.c
  have hn := ht.norm hg
  have S := slopeT_wd hg8 hg.ne hw
  have Dv := divT_wd hg8 hg.ne hw hn
  have d1 := Dv.a
  have d2 := Dv.b
  have d3 := Dv.c
  have Bk := backT_wd hg8 hw hn
  refine ss_cons (s_par3 3 4 5 (r_sh (d := triD (slopeT g t)) (g_call OSl hr (a_cons (g_var 0) (a_cons (g_var 1) (a_cons (g_var 2) a_nil))) ⟨p, ip, g, t, 3, rfl, hg8, hw, by omega, rfl⟩)) (r_sh (g_tri0 (t := t) (g_var 2) g_int)) (r_sh (g_tri1 (t := t) (g_var 2) g_int)) fun _ _ _ => ?_)
  refine ss_cons (s_setP 6 (lp_less (m := 6) (n := 14) OL hr (g_var 0) (lp_mul (m := 3) (n := 3) OM hr (g_var 0) (gp_of (g_var 4) a1) (gp_of (g_var 4) a1)) (lp_mul (m := 6) (n := 8) OM hr (g_var 0) (lp_mul (m := 3) (n := 3) OM hr (g_var 0) (gp_of (g_var 5) a2) (gp_of (g_var 5) a2)) (gp_of (g_var 1) hg8))) fun q1 => ?_)
  refine ss_cons (s_set 7 (d := triD (backT g t)) (g_lst (ds := [pol (t.1 * t.2.2), pol (-(t.2.1 * t.2.2)), pol (normP g t)]) (a_cons (lp_mul (m := 3) (n := 3) OM hr (g_var 0) (gp_of (g_var 4) a1) (gp_of (g_tri2 (t := t) (g_var 2) g_int) a3)).1 (a_cons (DE.to (lp_scale (m := 6) OS hr (g_var 0) (lp_mul (m := 3) (n := 3) OM hr (g_var 0) (gp_of (g_var 5) a2) (gp_of (g_tri2 (t := t) (g_var 2) g_int) a3)) (g_sub (g_var 0) g_int)).1 (by rw [C_minus])) (a_cons (g_var 6) a_nil))) (of_decide_eq_true rfl)) ?_)
  exact ss_one (s_ret (g_call OLe hr (a_cons (g_var 0) (a_cons (g_call OMu hr (a_cons (g_var 0) (a_cons (g_var 1) (a_cons (g_var 3) (a_cons (g_var 7) a_nil)))) ⟨p, ip, g, slopeT g t, backT g t, 14, 20, rfl, hg8, S, Bk, by omega, rfl⟩) a_nil)) ⟨p, ip, divT g t, rfl, by omega, by omega, by omega, Dv.ne, rfl⟩) rfl)
abbrev PDi (P w K mg base k) := Own P w K mg base k "_law_divided" ["p", "f", "parts"] (spD f_ldivided)
/-! _law_slopes_right -/
abbrev OCq2 (P w K mg base k Cc) := OwnE P w K mg base k Cc ["self", "other"] (f_cEq Cc)
abbrev s_lslr : Stmt := topS 80
abbrev N_lslr : List Str := ["p", "f", "curve", "parts", "function", "due", "found", "shown", "source", "half"]
theorem sc_lslr : FnScope N_lslr ["p", "f", "curve", "parts"] (defScope s_lslr) := ⟨rfl, rfl, rfl, by decide +kernel, rfl, by decide +kernel, by decide +kernel⟩
def f_lright (Cc : Addr) (ds : List D) (d : D) : Prop := ∃ (p : Nat) (_ : Pr p) (g : Pol p) (t : Tri p), ds = [.int p, pol g, curveD Cc g, triD t] ∧ GoodC g ∧ Sd g t ∧ d = .bl true
theorem ok_lslr (T : KF K mg Cc Cf aP) (N : MF P w K mg base k Cf) (OF : OFun P w K mg base k Cc Cf) (OW : PWr P w K mg base k) (OTa : PTa P w K mg base k) (OS : Own P w K mg base k "whose_slope" ["one"] (spD (f_ssource Cc Cf))) (OSh : PSh P w K mg base k Cf) (OSo : PSo P w K mg base k) (OP : PPw P w K mg base k) (OM : PMul P w K mg base k) (OQ : OCq2 P w K mg base k Cc)
    (F : Fun K "_law_slopes_right" "_law_slopes_right" s_lslr f fd) : FnOk P w K mg base CX0 (k + 1) f fd ["p", "f", "curve", "parts"] (spD (f_lright Cc)) := by
  refine fn_D _ F sc_lslr (by rintro ds d ⟨p, _, _, _, rfl, _⟩; rfl) fun cdv A' outer s H E hr ds d hf => ?_
  obtain ⟨p, ip, g, t, rfl, hg, S, rfl⟩ := hf
  have hp := Pr.le13 p
  have hp3 := Pr.ge3 p
  have hg8 := hg.len8
  have hg0 := hg.ne
  have ha := S.a
  have hb := S.b
  have hc := S.c
  have ht0 := S.L.mon.1
  have hsz := S.sz
  obtain ⟨l1, l2⟩ := low_len hsz
  have eL : least t = t := least_self S.L
  have e1 : (p : Int) - 1 = ((p - 1 : Nat) : Int) := by omega
  have e2 : ((p : Int) + 1) / 2 = (((p + 1) / 2 : Nat) : Int) := by omega
  obtain ⟨b, hb1⟩ : ∃ b : Bool, b = true ↔ NoLast g t := by
    by_cases q : NoLast g t
    · exact ⟨true, by simp [q]⟩
    · exact ⟨false, by simp [q]⟩
  refine ss_cons (s_par2 4 5 (r_sh (d := funD Cf (curveD Cc g) (least t)) (de_of_dm (gm_make OF hr (a_cons (g_var 2) (a_cons (g_tri0 (t := t) (g_var 3) g_int) (a_cons (g_tri1 (t := t) (g_var 3) g_int) (a_cons (g_tri2 (t := t) (g_var 3) g_int) a_nil)))) ⟨p, ip, g, t, rfl, by omega, by omega, by omega, ht0, rfl⟩)))
    (r_sh (g_eqD (d := .lst [pol (evr (lowO t) (p - 1)), pol (evr (highO g t) (p - 1))]) (d' := .lst [pol (0 : Pol p), pol (0 : Pol p)]) (k := b) hr (g_call OTa hr (a_cons (g_var 0) (a_cons (g_call OW hr (a_cons (g_var 0) (a_cons (g_var 1) (a_cons (g_var 3) a_nil))) ⟨p, ip, g, t, rfl, hsz, rfl⟩) (a_cons (DE.to (g_sub (g_var 0) g_int) (by rw [e1])) a_nil))) ⟨p, ip, lowO t, highO g t, p - 1, rfl, by omega, by omega, rfl⟩) (g_lst (ds := [pol (0 : Pol p), pol (0 : Pol p)]) (a_cons (DE.to g_nilI pol0.symm) (a_cons (DE.to g_nilI pol0.symm) a_nil))) (by rw [hb1, lst2_inj]; rfl) (lst2_num _ _) (lst2_num _ _) (lst2_shaped _ _) (lst2_shaped _ _))) fun _ _ => ?_)
  rw [eL]
  by_cases hN : NoLast g t
  · have hbt : b = true := hb1.mpr hN
    subst hbt
    refine ss_cons (s_set 6 (d := funD Cf (curveD Cc g) (least (srcT g t))) (g_call OS hr (a_cons (g_var 4) a_nil) ⟨p, ip, g, t, rfl, hsz, hg0, ht0, .inl ⟨hN, rfl⟩⟩) ?_)
    refine ss_cons (s_if (k := false) (t_w (w_or (k := false) (c := false) (DT.to (t_neB (g_notN (g_var 6)) (g_var 5)) rfl) (fun _ => w_or1 (DT.to (t_neD (d := triD t) (d' := triD t) (k := true) hr (g_call OSh hr (a_cons (g_var 4) a_nil) ⟨p, curveD Cc g, t, rfl, rfl⟩) (g_var 3) (by simp) (triD_num _) (triD_num _) (triD_shaped _) (triD_shaped _)) rfl)))) (fun z => absurd z (by decide)) (fun z => ss_nil ?_))
    refine ss_cons (s_if (k := false) (DT.to (t_isN (g_var 6)) rfl) (fun z => absurd z (by decide)) (fun z => ss_nil ?_))
    have pw := pow_sz g (n := (p + 1) / 2) (b := 7) hg8 (by omega)
    have s1 := srcP_len (lowO t)
    have s2 := srcP_len (highO g t)
    have m1 := mul_len20 (srcP (lowO t)) (g ^ ((p + 1) / 2))
    have st := len_stretch t.2.2
    have st2 : p * t.2.2.l.length ≤ 13 * 60 := Nat.mul_le_mul hp hc
    unfold Pol.len at st
    have m2 := mul_len20 (stretch t.2.2) (g ^ ((p + 1) / 2))
    have hpw := pow_ne_zero hg0 ((p + 1) / 2)
    have hsb : (srcT g t).2.2 ≠ 0 := mul_ne_zero (stretch_ne ht0) hpw
    obtain ⟨q1, q2, q3⟩ := least_len hsb
    obtain ⟨k1, k2⟩ := least_same hsb
    have z1 : (srcT g t).1 = srcP (lowO t) * g ^ ((p + 1) / 2) := rfl
    have z2 : (srcT g t).2.1 = srcP (highO g t) := rfl
    have z3 : (srcT g t).2.2 = stretch t.2.2 * g ^ ((p + 1) / 2) := rfl
    rw [z1, z3] at k1
    rw [z2, z3] at k2
    unfold Pol.len at q1 q2 q3
    rw [z1] at q1
    rw [z2] at q2
    rw [z3] at q3
    refine ss_cons (s_par3 7 8 9 (r_sh (d := triD (least (srcT g t))) (g_call OSh hr (a_cons (g_var 6) a_nil) ⟨p, curveD Cc g, least (srcT g t), rfl, rfl⟩)) (r_sh (d := triD ((srcP (lowO t), srcP (highO g t), stretch t.2.2) : Tri p)) (g_call OSo hr (a_cons (g_var 0) (a_cons (g_var 1) (a_cons (g_var 3) a_nil))) ⟨p, ip, g, t, rfl, hsz, hN, rfl⟩)) (r_sh (g_call OP hr (a_cons (g_var 0) (a_cons (g_var 1) (a_cons (DE.to (g_fdiv (g_add (g_var 0) g_int) g_int ⟨by decide, by decide⟩) (by rw [e2])) a_nil))) ⟨p, ip, g, (p + 1) / 2, rfl, by omega, by omega, rfl⟩)) fun _ _ _ => ?_)
    generalize least (srcT g t) = u at *
    have y1 : u.1 * stretch t.2.2 = srcP (lowO t) * u.2.2 := by
      refine mul_cancel hpw ?_
      grind
    have y2 : u.2.1 * stretch t.2.2 * g ^ ((p + 1) / 2) = srcP (highO g t) * u.2.2 := by rw [← k2]; grind
    refine ss_cons (s_if (k := false) (t_w (w_or (k := false) (c := false) (DT.to (t_neL hr (ns := (u.1 * stretch t.2.2).l) (ms := (srcP (lowO t) * u.2.2).l) (lp_mul (m := 3000) (n := 3000) OM hr (g_var 0) (gp_of (g_tri0 (t := u) (g_var 7) g_int) (by omega)) (gp_of (g_tri2 (t := ((srcP (lowO t), srcP (highO g t), stretch t.2.2) : Tri p)) (g_var 8) g_int) (by simp only; omega))).1 (lp_mul (m := 3000) (n := 3000) OM hr (g_var 0) (gp_of (g_tri0 (t := ((srcP (lowO t), srcP (highO g t), stretch t.2.2) : Tri p)) (g_var 8) g_int) (by simp only; omega)) (gp_of (g_tri2 (t := u) (g_var 7) g_int) (by omega))).1) (by rw [y1]; simp)) (fun _ => w_or1 (DT.to (t_notB (g_ownEq (r := true) OQ hr (g_fcurve N T hr (c := curveD Cc g) (t := u) (g_var 6)) (g_var 2) ⟨p, g, g, rfl, by rw [decide_eq_true rfl]⟩) g_bl) rfl)))) (fun z => absurd z (by decide)) (fun z => ss_nil ?_))
    have m3 := mul_len20 u.2.1 (stretch t.2.2)
    exact ss_one (s_ret (DE.to (g_eqL hr (ns := (u.2.1 * stretch t.2.2 * g ^ ((p + 1) / 2)).l) (ms := (srcP (highO g t) * u.2.2).l) (lp_mul (m := 6000) (n := 3000) OM hr (g_var 0) (lp_mul (m := 3000) (n := 3000) OM hr (g_var 0) (gp_of (g_tri1 (t := u) (g_var 7) g_int) (by omega)) (gp_of (g_tri2 (t := ((srcP (lowO t), srcP (highO g t), stretch t.2.2) : Tri p)) (g_var 8) g_int) (by simp only; omega))) (gp_of (A := g ^ ((p + 1) / 2)) (g_var 9) (by omega))).1 (lp_mul (m := 3000) (n := 3000) OM hr (g_var 0) (gp_of (g_tri1 (t := ((srcP (lowO t), srcP (highO g t), stretch t.2.2) : Tri p)) (g_var 8) g_int) (by simp only; omega)) (gp_of (g_tri2 (t := u) (g_var 7) g_int) (by omega))).1) (d' := .bl true) (by rw [y2, decide_eq_true rfl])) rfl)
  · have hbf : b = false := by
      cases b with
      | false => rfl
      | true => exact absurd (hb1.mp rfl) hN
    subst hbf
    refine ss_cons (s_set 6 (d := .non) (g_call OS hr (a_cons (g_var 4) a_nil) ⟨p, ip, g, t, rfl, hsz, hg0, ht0, .inr ⟨hN, rfl⟩⟩) ?_)
    refine ss_cons (s_if (k := false) (t_w (w_or (k := false) (c := false) (DT.to (t_neB (g_notN (g_var 6)) (g_var 5)) rfl) (fun _ => w_or1 (DT.to (t_neD (d := triD t) (d' := triD t) (k := true) hr (g_call OSh hr (a_cons (g_var 4) a_nil) ⟨p, curveD Cc g, t, rfl, rfl⟩) (g_var 3) (by simp) (triD_num _) (triD_num _) (triD_shaped _) (triD_shaped _)) rfl)))) (fun z => absurd z (by decide)) (fun z => ss_nil ?_))
    exact ss_cons (s_if (k := true) (DT.to (t_isN (g_var 6)) rfl) (fun z => ss_one (s_ret g_bl rfl)) (fun z => absurd z (by decide)))
/-! _law_divided_right -/
abbrev s_ldr : Stmt := topS 81
abbrev N_ldr : List Str := ["p", "f", "curve", "parts", "function", "last", "due", "found", "shown"]
theorem sc_ldr : FnScope N_ldr ["p", "f", "curve", "parts"] (defScope s_ldr) := ⟨rfl, rfl, rfl, by decide +kernel, rfl, by decide +kernel, by decide +kernel⟩
theorem ok_ldr (T : KF K mg Cc Cf aP) (N : MF P w K mg base k Cf) (OF : OFun P w K mg base k Cc Cf) (OW : PWr P w K mg base k) (OTa : PTa P w K mg base k) (OS : Own P w K mg base k "whose_divided_slope" ["one"] (spD (f_dsource Cc Cf))) (OSh : PSh P w K mg base k Cf) (OSa : PSa P w K mg base k) (OSl : PLsp P w K mg base k) (OMu : PMu P w K mg base k) (OM : PMul P w K mg base k) (OQ : OCq2 P w K mg base k Cc)
    (F : Fun K "_law_divided_right" "_law_divided_right" s_ldr f fd) : FnOk P w K mg base CX0 (k + 1) f fd ["p", "f", "curve", "parts"] (spD (f_lright Cc)) := by
  refine fn_D _ F sc_ldr (by rintro ds d ⟨p, _, _, _, rfl, _⟩; rfl) fun cdv A' outer s H E hr ds d hf => ?_
  obtain ⟨p, ip, g, t, rfl, hg, S, rfl⟩ := hf
  have hp := Pr.le13 p
  have hp3 := Pr.ge3 p
  have hg8 := hg.len8
  have hg0 := hg.ne
  have ha := S.a
  have hb := S.b
  have hc := S.c
  have ht0 := S.L.mon.1
  have hsz := S.sz
  obtain ⟨l1, l2⟩ := low_len hsz
  have eL : least t = t := least_self S.L
  have e1 : (p : Int) - 1 = ((p - 1 : Nat) : Int) := by omega
  refine ss_cons (s_par2 4 5 (r_sh (d := funD Cf (curveD Cc g) (least t)) (de_of_dm (gm_make OF hr (a_cons (g_var 2) (a_cons (g_tri0 (t := t) (g_var 3) g_int) (a_cons (g_tri1 (t := t) (g_var 3) g_int) (a_cons (g_tri2 (t := t) (g_var 3) g_int) a_nil)))) ⟨p, ip, g, t, rfl, by omega, by omega, by omega, ht0, rfl⟩)))
    (r_sh (g_call OTa hr (a_cons (g_var 0) (a_cons (g_call OW hr (a_cons (g_var 0) (a_cons (g_var 1) (a_cons (g_var 3) a_nil))) ⟨p, ip, g, t, rfl, hsz, rfl⟩) (a_cons (DE.to (g_sub (g_var 0) g_int) (by rw [e1])) a_nil))) ⟨p, ip, lowO t, highO g t, p - 1, rfl, by omega, by omega, rfl⟩)) fun _ _ => ?_)
  rw [eL]
  obtain ⟨b, hb1⟩ : ∃ b : Bool, b = true ↔ OwnLast g t := by
    by_cases q : OwnLast g t
    · exact ⟨true, by simp [q]⟩
    · exact ⟨false, by simp [q]⟩
  refine ss_cons (s_set 6 (g_eqD (d := .lst [pol (evr (lowO t) (p - 1)), pol (evr (highO g t) (p - 1))]) (d' := .lst [pol t.1, pol (t.2.1 * g)]) (k := b) hr (g_var 5) (g_lst (ds := [pol t.1, pol (t.2.1 * g)]) (a_cons (g_tri0 (t := t) (g_var 3) g_int) (a_cons (lp_mul (m := 60) (n := 8) OM hr (g_var 0) (gp_of (g_tri1 (t := t) (g_var 3) g_int) hb) (gp_of (g_var 1) hg8)).1 a_nil)) (of_decide_eq_true rfl)) (by rw [hb1, lst2_inj]; rfl) (lst2_num _ _) (lst2_num _ _) (lst2_shaped _ _) (lst2_shaped _ _)) ?_)
  by_cases hN : OwnLast g t
  · have hbt : b = true := hb1.mpr hN
    subst hbt
    obtain ⟨f1, f2, f3, f4⟩ := ds_told hg0 ht0 hN
    obtain ⟨n1, n2, n3, n4, n5, n6⟩ := dsN_len hg8 ha hb hc hg0 ht0
    have nk := n6 (dsK g t)
    have hk86 : 86 * dsK g t ≤ 86 * 13 := Nat.mul_le_mul_left 86 (by omega)
    have pw := pow_sz (dsE g t) (n := dsK g t) (b := 13) n2 (by omega)
    have wT : Wd 1130 (dsT g t) := ⟨by unfold dsT; simp only; omega, by unfold dsT; simp only; omega, by unfold dsT; simp only; omega, f1⟩
    have wL := wT.least
    have nzu := least_nz f1 f2
    refine ss_cons (s_set 7 (d := funD Cf (curveD Cc g) (least (dsT g t))) (g_call OS hr (a_cons (g_var 4) a_nil) ⟨p, ip, g, t, rfl, S, .inl ⟨hN, rfl⟩⟩) ?_)
    refine ss_cons (s_if (k := false) (DT.to (t_neB (g_notN (g_var 7)) (g_var 6)) rfl) (fun z => absurd z (by decide)) (fun z => ss_nil ?_))
    refine ss_cons (s_if (k := false) (DT.to (t_isN (g_var 7)) rfl) (fun z => absurd z (by decide)) (fun z => ss_nil ?_))
    generalize least (dsT g t) = u at *
    refine ss_cons (s_set 8 (d := triD u) (g_call OSh hr (a_cons (g_var 7) a_nil) ⟨p, curveD Cc g, u, rfl, rfl⟩) ?_)
    have e3 : (decide (u.1.l = []) && decide (u.2.1.l = [])) = false := by
      rw [Bool.eq_false_iff]
      intro q
      rw [Bool.and_eq_true, decide_eq_true_iff, decide_eq_true_iff] at q
      exact nzu ⟨eq_zero_iff.mpr q.1, eq_zero_iff.mpr q.2⟩
    refine ss_cons (s_if (k := false) (DT.to (t_w (w_and (t_eqL hr (ns := u.1.l) (g_tri0 (t := u) (g_var 8) g_int) g_nilI) (fun _ => w_and1 (t_eqL hr (ns := u.2.1.l) (g_tri1 (t := u) (g_var 8) g_int) g_nilI)))) e3) (fun z => absurd z (by decide)) (fun z => ss_nil ?_))
    have wS := slopeT_wd hg8 hg0 wL
    have wM := mulT_wd (s := t) (m := 60) hg8 ⟨ha, hb, hc, ht0⟩ wL
    exact ss_one (s_ret (g_and (k := true) (c := true) (g_call OSa hr (a_cons (g_var 0) (a_cons (g_call OSl hr (a_cons (g_var 0) (a_cons (g_var 1) (a_cons (g_var 8) a_nil))) ⟨p, ip, g, u, 1130, rfl, hg8, wL, by omega, rfl⟩) (a_cons (g_call OMu hr (a_cons (g_var 0) (a_cons (g_var 1) (a_cons (g_var 3) (a_cons (g_var 8) a_nil)))) ⟨p, ip, g, t, u, 60, 1130, rfl, hg8, ⟨ha, hb, hc, ht0⟩, wL, by omega, rfl⟩) a_nil))) ⟨p, ip, slopeT g u, mulT g t u, rfl, by have := wS.a; omega, by have := wS.b; omega, by have := wS.c; omega, by have := wM.a; omega, by have := wM.b; omega, by have := wM.c; omega, f3, rfl⟩) (fun _ => g_one (DE.to (g_isB (g_ownEq (r := true) OQ hr (g_fcurve N T hr (c := curveD Cc g) (t := u) (g_var 7)) (g_var 2) ⟨p, g, g, rfl, by rw [decide_eq_true rfl]⟩) g_bl) rfl))) rfl)
  · have hbf : b = false := by
      cases b with
      | false => rfl
      | true => exact absurd (hb1.mp rfl) hN
    subst hbf
    refine ss_cons (s_set 7 (d := .non) (g_call OS hr (a_cons (g_var 4) a_nil) ⟨p, ip, g, t, rfl, S, .inr ⟨hN, rfl⟩⟩) ?_)
    refine ss_cons (s_if (k := false) (DT.to (t_neB (g_notN (g_var 7)) (g_var 6)) rfl) (fun z => absurd z (by decide)) (fun z => ss_nil ?_))
    exact ss_cons (s_if (k := true) (DT.to (t_isN (g_var 7)) rfl) (fun z => ss_one (s_ret g_bl rfl)) (fun z => absurd z (by decide)))
end
end Cv
end
section
set_option Elab.async false
set_option linter.all false
set_option maxRecDepth 100000
set_option maxHeartbeats 4000000
namespace Cv
open PySem L2 Evl
section
variable {p : Nat} [ip : Pr p]
theorem X_l : (Pol.X : Pol p).l = [0, 1] := by
  have e : (Pol.X : Pol p).l = trim p [0, 1] := Pol.of_l _
  rw [e]
  rcases ip.is with rfl | rfl | rfl | rfl | rfl <;> decide +kernel
theorem polX : pol (Pol.X : Pol p) = L [0, 1] := by unfold pol; rw [X_l]
theorem X_ne : (Pol.X : Pol p) ≠ 0 := fun e => by
  have := eq_zero_iff.mp e
  rw [X_l] at this
  cases this
theorem Drn.mk' {t : Tri p} (h : Wd 3 t) (hn : ¬ (t.1 = 0 ∧ t.2.1 = 0)) : Drn (least t) := ⟨least_least h.ne, h.least, least_nz h.ne hn⟩
end
section
variable {P : Program} {w : World} {K : PySem.W.Frag} {mg : Str → Option Value} {base : Heap} {f : Addr} {fd : FuncData} {k : Nat} {Cc Cf aP : Addr}
/-! _law_drawn -/
abbrev s_ldrawn : Stmt := topS 82
abbrev N_ldrawn : List Str := ["generator", "p", "f", "most", "found", "at", "part"]
theorem sc_ldrawn : FnScope N_ldrawn ["generator", "p", "f"] (defScope s_ldrawn) := ⟨rfl, rfl, rfl, by decide +kernel, rfl, by decide +kernel, by decide +kernel⟩
def scD : Scope := { kind := ScopeKind.function, names := [(Str.ofString ".0", NameKind.local), (Str.ofString "part", NameKind.local), (Str.ofString "_law_trim", NameKind.globalImplicit), (Str.ofString "range", NameKind.globalImplicit), (Str.ofString "_law_random", NameKind.globalImplicit), (Str.ofString "generator", NameKind.free), (Str.ofString "most", NameKind.free), (Str.ofString "p", NameKind.free)], isGenerator := false, isCoroutine := false }
def f_ldrawn (n : Nat) (ds : List D) (n' : Nat) (R : D → Prop) : Prop := ∃ (p : Nat) (_ : Pr p) (g : Pol p), ds = [.int p, pol g] ∧ g.l.length ≤ 100 ∧ n ≤ 90000 ∧ n' = n + 100 ∧ R = fun d => ∃ t : Tri p, d = triD t ∧ Drn t
theorem ok_ldrawn (bu : BuAll mg) (O : PTrim P w K mg base k) (OR : PRd P w K mg base k) (OL : PLe2 P w K mg base k) (F : Fun K "_law_drawn" "_law_drawn" s_ldrawn f fd) : FnOk P w K mg base CX0 (k + 1) f fd ["generator", "p", "f"] (spG f_ldrawn) := by
  refine fn_G f_ldrawn F sc_ldrawn (by rintro n ds n' R ⟨_, _, _, rfl, _⟩; rfl) fun cdv Ar outer s H E hr gA n ds n' R hf => ?_
  obtain ⟨p, ip, g, rfl, hg8, hn, rfl, rfl⟩ := hf
  have hp := Pr.le13 p
  have hp3 := Pr.ge3 p
  obtain ⟨m, hm, hq1, hq2⟩ : ∃ m : Nat, m ≤ 3 ∧ ((decide ((g.l.length : Int) > 7) && decide ((p : Int) > 7)) = true → m = 2) ∧ ((decide ((g.l.length : Int) > 7) && decide ((p : Int) > 7)) = false → m = 3) := by
    cases h : (decide ((g.l.length : Int) > 7) && decide ((p : Int) > 7)) with
    | true => exact ⟨2, by omega, fun _ => rfl, fun z => absurd z (by decide)⟩
    | false => exact ⟨3, by omega, fun z => absurd z (by decide), fun _ => rfl⟩
  refine ss_cons (s_set 3 (d := .int (m : Int)) (g_ifT (t_w (w_and (t_gtI (g_lenI bu (ns := g.l) (g_var 2)) g_int) (fun _ => w_and1 (t_gtI (g_var 1) g_int)))) (fun z => DE.to g_int (by rw [hq1 z]; rfl)) (fun z => DE.to g_int (by rw [hq2 z]; rfl))) ?_)
  refine ss_cons (s_setLcXN 4 (dxn_lc (RI := fun ρ1 c src => ρ1 = [some (.gen gA n), some (.sh (.int p)), some (.sh (pol g)), some (.sh (.int (m : Int))), none, none, none] ∧ c = 3 ∧ src = fun i => .int ((0 : Int) + (i : Int))) [("part", 6)] (fun _ => blkOk_by (N := N_ldrawn) (sc := defScope s_ldrawn) (by decide +kernel)) (ix_of ((i_range1 bu g_int).num (n' := 3) rfl) ⟨rfl, rfl, rfl⟩) ?_ (by intro _ _; rfl)))
  rintro ρ1 c src ⟨rfl, rfl, rfl⟩
  refine ⟨of_decide_eq_true rfl, fun i ρ acc => (∃ As : List (Pol p), acc = As.map pol ∧ ∀ A ∈ As, A.l.length ≤ 3) ∧ ∃ j, j ≤ n + 10 * i ∧ ρ = [some (.gen gA j), some (.sh (.int p)), some (.sh (pol g)), some (.sh (.int (m : Int))), none, none, none], ⟨⟨[], rfl, by simp⟩, n, by omega, rfl⟩, ?_, ?_⟩
  · rintro i ρ2 acc hi ⟨⟨As, rfl, hAs⟩, j, hj, rfl⟩ hl
    refine ⟨[6], _, by decide, tg_name, ?_⟩
    refine x_call (X := blkF _ _) O hr (xa_cons (dx_of (g_var 1) (xa_cons (x_lc (dx_lc (RI := fun ρ1 c src => ρ1 = [some (.gen gA (j + 1)), some (.sh (.int p)), some (.sh (pol g)), some (.sh (.int (m : Int))), none, none, some (.sh (.int (0 + (i : Int))))] ∧ c ≤ m ∧ src = fun i => .int ((0 : Int) + (i : Int))) [("at", 5)] (fun _ => blkOk_by (N := N_ldrawn) (by rfl))
      (ix_range1 bu (dx_mono (gx_callG (gi := 0) (n := j) (gA := gA) OR hr rfl (a_cons (g_add (g_var 3) g_int) a_nil) ⟨(m : Int) + 1, rfl, by omega, by omega, by omega, rfl, rfl⟩) ?_)) ?_ (by intro _ _; rfl))))))
    · rintro ρ2 d ⟨rfl, x, rfl, h0, h1⟩
      exact ⟨x, rfl, by omega, by omega, rfl, by omega, rfl⟩
    · rintro ρ1 c src ⟨rfl, hc, rfl⟩
      refine ⟨by omega, fun i' ρ acc => (∃ xs : List Int, acc = xs.map .int) ∧ ρ = [some (.gen gA (j + 1 + i')), some (.sh (.int p)), some (.sh (pol g)), some (.sh (.int (m : Int))), none, none, some (.sh (.int (0 + (i : Int))))], ⟨⟨[], rfl⟩, rfl⟩, ?_, ?_⟩
      · rintro i' ρ2 acc hi' ⟨⟨xs, rfl⟩, rfl⟩ hl
        refine ⟨[5], _, by decide, tg_name, dx_mono (gx_callG (gi := 0) (n := j + 1 + i') (gA := gA) OR hr rfl (a_cons (g_var 1) a_nil) ⟨(p : Int), rfl, by omega, by omega, by omega, rfl, rfl⟩) ?_⟩
        rintro ρ4 d ⟨rfl, x, rfl, h0, h1⟩
        exact ⟨⟨xs ++ [x], by rw [List.map_append]; rfl⟩, rfl⟩
      · rintro ρ2 acc ⟨⟨xs, rfl⟩, rfl⟩ hl
        rw [List.length_map] at hl
        refine xa_nil ⟨pol (Pol.of xs : Pol p), ⟨p, ip, xs, rfl, by omega, rfl⟩, ⟨As ++ [Pol.of xs], by rw [List.map_append]; rfl, fun B hB => ?_⟩, j + 1 + c, by omega, rfl⟩
        rcases List.mem_append.mp hB with q | q
        · exact hAs B q
        · have : B = Pol.of xs := by simpa using q
          subst this
          have := len_of (p := p) xs
          unfold Pol.len at this
          omega
  rintro ρ2 acc ⟨⟨As, rfl, hAs⟩, j, hj, rfl⟩ hl
  rw [List.length_map] at hl
  match As, hl with
  | [A, B, C], _ =>
    have lA := hAs A (by simp)
    have lB := hAs B (by simp)
    have lC := hAs C (by simp)
    refine ⟨Nat.le_of_ble_eq_true rfl, fun l => ?_⟩
    obtain ⟨C', hC', lC', neC⟩ : ∃ C' : Pol p, C' = (if C.l = [] then 1 else C) ∧ C'.l.length ≤ 3 ∧ C' ≠ 0 := by
      by_cases h : C.l = []
      · exact ⟨1, by rw [if_pos h], by rw [one_l]; simp, one_ne_zero⟩
      · exact ⟨C, by rw [if_neg h], lC, fun z => h (eq_zero_iff.mp z)⟩
    obtain ⟨A', hA', lA', neA⟩ : ∃ A' : Pol p, A' = (if A.l ++ B.l = [] then Pol.X else A) ∧ A'.l.length ≤ 3 ∧ ¬ (A' = 0 ∧ B = 0) := by
      by_cases h : A.l ++ B.l = []
      · exact ⟨Pol.X, by rw [if_pos h], by rw [X_l]; simp, fun z => X_ne z.1⟩
      · refine ⟨A, by rw [if_neg h], lA, fun z => h ?_⟩
        rw [eq_zero_iff.mp z.1, eq_zero_iff.mp z.2]; rfl
    have wd : Wd 3 ((A', B, C') : Tri p) := ⟨lA', lB, lC', neC⟩
    have fin : GSs (fmOf P w K mg base N_ldrawn sc_ldrawn.nd "_law_drawn" s_ldrawn f cdv Ar outer s H E) ((defBody s_ldrawn).drop 3) [some (.gen gA j), some (.sh (.int p)), some (.sh (pol g)), some (.sh (.int (m : Int))), some (.own l [pol A, pol B, pol C']), none, none] { nx := fun _ => False, rt := fun ρ2 d' => (∃ t : Tri p, d' = triD t ∧ Drn t) ∧ ∃ m, m ≤ n + 100 ∧ ρ2[0]? = some (some (.gen gA m)) } := by
      refine ss_freeze 4 (l := l) (ds := [pol A, pol B, pol C']) ?_
      refine ss_one (s_ret (g_call OL hr (a_cons (g_var 1) (a_cons (g_ifT (d := triD ((A', B, C') : Tri p)) (t_neL hr (ns := A.l ++ B.l) (g_catI (ns := A.l) (ms := B.l) (g_ixL (i := 0) (d := pol A) (ds := [pol A, pol B, pol C']) (g_var 4) g_int rfl) (g_ixL (i := 1) (d := pol B) (ds := [pol A, pol B, pol C']) (g_var 4) g_int rfl) (by omega)) g_nilI) (fun z => DE.to (g_var 4) ?_) (fun z => DE.to (g_lst (ds := [pol (Pol.X : Pol p), pol B, pol C']) (a_cons (DE.to (g_lstI (aI_cons g_int (aI_cons g_int aI_nil))) polX.symm) (a_cons (g_ixL (i := 1) (d := pol B) (ds := [pol A, pol B, pol C']) (g_var 4) g_int rfl) (a_cons (g_ixL (i := 2) (d := pol C') (ds := [pol A, pol B, pol C']) (g_var 4) g_int rfl) a_nil))) (of_decide_eq_true rfl)) ?_)) a_nil)) ⟨p, ip, (A', B, C'), rfl, by have := wd.a; omega, by have := wd.b; omega, by have := wd.c; omega, wd.ne, rfl⟩) ⟨⟨_, rfl, Drn.mk' wd neA⟩, j, by omega, rfl⟩)
      · have : ¬ A.l ++ B.l = [] := of_decide_eq_false ((Bool.not_eq_true' _).mp z)
        rw [hA', if_neg this]; rfl
      · have : A.l ++ B.l = [] := of_decide_eq_true ((Bool.not_eq_false' _).mp z)
        rw [hA', if_pos this]; rfl
    refine ss_cons (s_if (t_eqL hr (ns := C.l) (g_ixOwn 4 (d := pol C) (ds := [pol A, pol B, pol C]) (l := l) g_int rfl) g_nilI) (fun z => ?_) (fun z => ss_nil ?_))
    · have : C.l = [] := of_decide_eq_true z
      rw [if_pos this] at hC'
      subst hC'
      exact ss_one (s_setI 4 (l := l) (ds := [pol A, pol B, pol C]) (d := pol (1 : Pol p)) (n := 2) (m := 2) (DE.to (g_lstI (aI_cons g_int aI_nil)) pol1.symm) g_int rfl fin)
    · have : ¬ C.l = [] := of_decide_eq_false z
      rw [if_neg this] at hC'
      subst hC'
      exact fin
abbrev PDr (P w K mg base k) := Own P w K mg base k "_law_drawn" ["generator", "p", "f"] (spG f_ldrawn)
end
end Cv
end
section
set_option Elab.async false
set_option linter.all false
set_option maxRecDepth 100000
set_option maxHeartbeats 4000000
namespace Cv
open PySem L2 Evl
section
variable {p : Nat} [ip : Pr p]
theorem one_wd : Wd 1 ((1, 0, 1) : Tri p) := ⟨by show (1 : Pol p).l.length ≤ 1; rw [one_l]; simp, by show (0 : Pol p).l.length ≤ 1; rw [zero_l]; simp, by show (1 : Pol p).l.length ≤ 1; rw [one_l]; simp, one_ne_zero⟩
theorem tri_getD {ts : List (Tri p)} {i : Nat} (h : i < (ts.map (triD (p := p))).length) : ∃ t ∈ ts, (ts.map (triD (p := p))).getD i .non = triD t := by
  rw [List.length_map] at h
  refine ⟨ts[i], List.getElem_mem h, ?_⟩
  rw [List.getD_eq_getElem?_getD, List.getElem?_map, List.getElem?_eq_getElem h]
  rfl
theorem pick2_getD (a b : D) : ∀ i, i < 2 → [a, b].getD i .non = pick a b b i
  | 0, _ => rfl
  | 1, _ => rfl
  | i + 2, h => by omega
theorem list2_getD (a b : D) : ∀ i, i < [a, b].length → [a, b].getD i .non = pick a b b i := fun i hi => pick2_getD a b i hi
end
section
variable {P : Program} {w : World} {K : PySem.W.Frag} {mg : Str → Option Value} {base : Heap} {f : Addr} {fd : FuncData} {k : Nat} {Cc Cf aP : Addr}
abbrev OCur (P w K mg base k Cc) := OwnC P w K mg base k "Curve" Cc ["self", "p", "f"] f_cInit
abbrev PAd (P w K mg base k) := Own P w K mg base k "_law_added" ["p", "one", "other", "number"] (spD f_ladded)
abbrev PS1 (P w K mg base k Cc) := Own P w K mg base k "_law_slopes_right" ["p", "f", "curve", "parts"] (spD (f_lright Cc))
abbrev PS2 (P w K mg base k Cc) := Own P w K mg base k "_law_divided_right" ["p", "f", "curve", "parts"] (spD (f_lright Cc))
/-! law -/
abbrev s_llaw : Stmt := topS 83
abbrev N_llaw : List Str := ["script", "first", "second", "p", "f", "curve", "one", "other", "slopes", "divided", "tried", "parts"]
theorem sc_llaw : FnScope N_llaw ["script"] (defScope s_llaw) := ⟨rfl, rfl, rfl, by decide +kernel, rfl, by decide +kernel, by decide +kernel⟩
abbrev envL (K : PySem.W.Frag) (Cc : Addr) {p : Nat} (g : Pol p) (t u s0 s1 d0 d1 : Tri p) (a : Addr) (ns : List Int) (l1 l2 : Addr) (n : Nat) (x y : Option Sl) : Env := [some (.sh (scrD K a ns)), some (.gen l1 (1000 * 0 + 1000)), some (.gen l2 n), some (.sh (.int p)), some (.sh (pol g)), some (.sh (curveD Cc g)), some (.sh (triD t)), some (.sh (triD u)), some (.sh (.lst [triD s0, triD s1])), some (.sh (.lst [triD d0, triD d1])), x, y]
theorem rnd_of {p : Nat} [ip : Pr p] {g : Pol p} (hg : GoodC g) {v : Tri p} (h : Wd 56 v) : Sd g (least v) ∧ v.1.l.length ≤ 5000 ∧ v.2.1.l.length ≤ 5000 ∧ v.2.2.l.length ≤ 5000 ∧ v.2.2 ≠ 0 := ⟨sd_of hg h, Nat.le_trans h.a (by omega), Nat.le_trans h.b (by omega), Nat.le_trans h.c (by omega), h.ne⟩
abbrev endP : Post := { nx := fun _ => False, rt := fun _ d => d = .bl true }
theorem law_fin2 (T : KF K mg Cc Cf aP) (OL : PLe2 P w K mg base k) (O2 : PS2 P w K mg base k Cc) {p : Nat} [ip : Pr p] {g : Pol p} {t u s0 s1 d0 d1 : Tri p} {a : Addr} {ns : List Int} {l1 l2 : Addr} {cdv : Value} {Ar : Around} {outer : List PySem.Env} {s : Shared} {H : Hp} {E : XK} (hr : Room k (fmOf P w K mg base N_llaw sc_llaw.nd "law" s_llaw f cdv Ar outer s H E).A)
    (hg : GoodC g) (ts : List (Tri p)) (n : Nat) (l : Addr) (t0 : Option Sl) (hn : n ≤ 6000) (hts : ∀ v ∈ ts, Wd 56 v) (hl : ts.length ≤ 10) :
    GSs (fmOf P w K mg base N_llaw sc_llaw.nd "law" s_llaw f cdv Ar outer s H E) ((defBody s_llaw).drop 9) (envL K Cc g t u s0 s1 d0 d1 a ns l1 l2 n (some (.own l (ts.map triD))) (t0)) endP := by
  have bu := T.bu
  have hp := Pr.le13 p
  have hp3 := Pr.ge3 p
  have hg8 := hg.len8
  refine ss_freeze 10 (l := l) (ds := ts.map triD) ?_
  refine ss_cons (s_for (i_list (ds := ts.map triD) (g_var 10)) (fun i ρ1 => ∃ x, ρ1 = envL K Cc g t u s0 s1 d0 d1 a ns l1 l2 n (some (.sh (.lst (ts.map triD)))) (x)) ⟨t0, rfl⟩ ?_ ?_)
  · rintro i ρ1 hi ⟨x, rfl⟩
    obtain ⟨v, hv, ev⟩ := tri_getD hi
    obtain ⟨q1, q2, q3, q4, q5⟩ := rnd_of hg (hts v hv)
    rw [ev]
    refine ⟨[11], _, tg_name, ?_⟩
    exact ss_one (s_if (k := false) (t_not (k := true) (t_val (g_call O2 hr (a_cons (g_var 3) (a_cons (g_var 4) (a_cons (g_var 5) (a_cons (g_call OL hr (a_cons (g_var 3) (a_cons (g_var 11) a_nil)) ⟨p, ip, v, rfl, q2, q3, q4, q5, rfl⟩) a_nil)))) ⟨p, ip, g, least v, rfl, hg, q1, rfl⟩))) (fun z => absurd z (by decide)) (fun z => ss_nil ⟨_, rfl⟩))
  · rintro ρ1 ⟨x, rfl⟩
    exact ss_one (s_ret g_bl rfl)
theorem law_fin1 (T : KF K mg Cc Cf aP) (OR : PRd P w K mg base k) (OL : PLe2 P w K mg base k) (OA : PAd P w K mg base k) (O1 : PS1 P w K mg base k Cc) (O2 : PS2 P w K mg base k Cc) {p : Nat} [ip : Pr p] {g : Pol p} {t u s0 s1 d0 d1 : Tri p} {a : Addr} {ns : List Int} {l1 l2 : Addr} {cdv : Value} {Ar : Around} {outer : List PySem.Env} {s : Shared} {H : Hp} {E : XK} (hr : Room k (fmOf P w K mg base N_llaw sc_llaw.nd "law" s_llaw f cdv Ar outer s H E).A)
    (hg : GoodC g) (wu : Wd 3 u) (ws0 : Wd 14 s0) (ws1 : Wd 14 s1) (wd0 : Wd 28 d0) (wd1 : Wd 28 d1) (ts : List (Tri p)) (n : Nat) (l : Addr) (t0 : Option Sl) (hn : n ≤ 5000) (hts : ∀ v ∈ ts, Wd 56 v) (hl : ts.length ≤ 10) :
    GSs (fmOf P w K mg base N_llaw sc_llaw.nd "law" s_llaw f cdv Ar outer s H E) ((defBody s_llaw).drop 6) (envL K Cc g t u s0 s1 d0 d1 a ns l1 l2 n (some (.own l (ts.map triD))) (t0)) endP := by
  have bu := T.bu
  have hp := Pr.le13 p
  have hp3 := Pr.ge3 p
  have hg8 := hg.len8
  refine ss_freeze 10 (l := l) (ds := ts.map triD) ?_
  refine ss_cons (s_for (i_list (ds := ts.map triD) (g_var 10)) (fun i ρ1 => ∃ x, ρ1 = envL K Cc g t u s0 s1 d0 d1 a ns l1 l2 n (some (.sh (.lst (ts.map triD)))) (x)) ⟨t0, rfl⟩ ?_ ?_)
  · rintro i ρ1 hi ⟨x, rfl⟩
    obtain ⟨v, hv, ev⟩ := tri_getD hi
    obtain ⟨q1, q2, q3, q4, q5⟩ := rnd_of hg (hts v hv)
    rw [ev]
    refine ⟨[11], _, tg_name, ?_⟩
    exact ss_one (s_if (k := false) (t_not (k := true) (t_val (g_call O1 hr (a_cons (g_var 3) (a_cons (g_var 4) (a_cons (g_var 5) (a_cons (g_call OL hr (a_cons (g_var 3) (a_cons (g_var 11) a_nil)) ⟨p, ip, v, rfl, q2, q3, q4, q5, rfl⟩) a_nil)))) ⟨p, ip, g, least v, rfl, hg, q1, rfl⟩))) (fun z => absurd z (by decide)) (fun z => ss_nil ⟨_, rfl⟩))
  rintro ρ1 ⟨x, rfl⟩
  refine ss_cons (s_setN 10 (gn_lst (ds := [triD d0, triD u, triD (addT 1 d1 (1, 0, 1)), triD s0]) (a_cons (g_ixL (i := 0) (d := triD d0) (ds := [triD d0, triD d1]) (g_var 9) g_int rfl) (a_cons (g_var 7) (a_cons (g_call OA hr (a_cons (g_var 3) (a_cons (g_ixL (i := 1) (d := triD d1) (ds := [triD d0, triD d1]) (g_var 9) g_int rfl) (a_cons (DE.to (g_lst (ds := [pol (1 : Pol p), pol (0 : Pol p), pol (1 : Pol p)]) (a_cons (DE.to (g_lstI (aI_cons g_int aI_nil)) pol1.symm) (a_cons (DE.to g_nilI pol0.symm) (a_cons (DE.to (g_lstI (aI_cons g_int aI_nil)) pol1.symm) a_nil))) (of_decide_eq_true rfl)) (d' := triD ((1, 0, 1) : Tri p)) rfl) (a_cons g_int a_nil)))) ⟨p, ip, d1, (1, 0, 1), 28, 1, 1, rfl, wd1, one_wd, by omega, by omega, by omega, rfl⟩) (a_cons (g_ixL (i := 0) (d := triD s0) (ds := [triD s0, triD s1]) (g_var 8) g_int rfl) a_nil)))) (of_decide_eq_true rfl)) fun l => ?_)
  have base2 : ∀ v ∈ [d0, u, addT 1 d1 (1, 0, 1), s0], Wd 56 v := fun v hv => by
    rcases List.mem_cons.mp hv with rfl | hv
    · exact wd0.mono (by omega)
    rcases List.mem_cons.mp hv with rfl | hv
    · exact wu.mono (by omega)
    rcases List.mem_cons.mp hv with rfl | hv
    · exact (addT_wd 1 wd1 one_wd).mono (by omega)
    rcases List.mem_cons.mp hv with rfl | hv
    · exact ws0.mono (by omega)
    cases hv
  refine ss_cons (s_if (t_w (w_or (t_ltI (g_var 3) g_int) (fun _ => w_or1 (t_ltI (g_lenI bu (ns := g.l) (g_var 4)) g_int)))) (fun z => ?_) (fun z => ss_nil ?_))
  · refine ss_one (s_appX 10 (l := l) (ds := [triD d0, triD u, triD (addT 1 d1 (1, 0, 1)), triD s0]) (x_call OA hr (xa_cons (dx_of (g_var 3) (xa_cons (dx_of (g_ixL (i := 0) (d := triD d0) (ds := [triD d0, triD d1]) (g_var 9) g_int rfl) (xa_cons (dx_of (g_ixL (i := 1) (d := triD d1) (ds := [triD d0, triD d1]) (g_var 9) g_int rfl) (xa_cons (x_add (dx_of g_int (dx_mono (gx_callG (gi := 2) (n := n) (gA := l2) OR hr rfl (a_cons (g_sub (g_var 3) g_int) a_nil) ⟨(p : Int) - 1, rfl, by omega, by omega, by omega, rfl, rfl⟩) ?_))))))))))))
    rintro ρ2 d ⟨rfl, x, rfl, x0, x1⟩
    refine ⟨_, x, rfl, rfl, xa_nil ⟨triD (addT (1 + x) d0 d1), ⟨p, ip, d0, d1, 28, 28, 1 + x, rfl, wd0, wd1, by omega, by omega, by omega, rfl⟩, _, rfl, of_decide_eq_true rfl, ?_⟩⟩
    refine law_fin2 T OL O2 hr hg ([d0, u, addT 1 d1 (1, 0, 1), s0] ++ [addT (1 + x) d0 d1]) (n + 1) l _ (by omega) (fun v hv => by
      rcases List.mem_append.mp hv with q | q
      · exact base2 v q
      · have : v = addT (1 + x) d0 d1 := by simpa using q
        subst this
        exact (addT_wd _ wd0 wd1).mono (by omega)) (by simp)
  · exact law_fin2 T OL O2 hr hg [d0, u, addT 1 d1 (1, 0, 1), s0] n l _ (by omega) base2 (by simp)
theorem law_fin0 (T : KF K mg Cc Cf aP) (OR : PRd P w K mg base k) (OL : PLe2 P w K mg base k) (OA : PAd P w K mg base k) (O1 : PS1 P w K mg base k Cc) (O2 : PS2 P w K mg base k Cc) {p : Nat} [ip : Pr p] {g : Pol p} {t u s0 s1 d0 d1 : Tri p} {a : Addr} {ns : List Int} {l1 l2 : Addr} {cdv : Value} {Ar : Around} {outer : List PySem.Env} {s : Shared} {H : Hp} {E : XK} (hr : Room k (fmOf P w K mg base N_llaw sc_llaw.nd "law" s_llaw f cdv Ar outer s H E).A)
    (hg : GoodC g) (wt : Wd 3 t) (wu : Wd 3 u) (ws0 : Wd 14 s0) (ws1 : Wd 14 s1) (wd0 : Wd 28 d0) (wd1 : Wd 28 d1) (n : Nat) (x y : Option Sl) (hn : n ≤ 5000) :
    GSs (fmOf P w K mg base N_llaw sc_llaw.nd "law" s_llaw f cdv Ar outer s H E) ((defBody s_llaw).drop 4) (envL K Cc g t u s0 s1 d0 d1 a ns l1 l2 n (x) (y)) endP := by
  have bu := T.bu
  have hp := Pr.le13 p
  have hp3 := Pr.ge3 p
  have hg8 := hg.len8
  refine ss_cons (s_setN 10 (gn_lst (ds := [triD t, triD s0, triD (addT 1 s0 u), triD d0]) (a_cons (g_var 6) (a_cons (g_ixL (i := 0) (d := triD s0) (ds := [triD s0, triD s1]) (g_var 8) g_int rfl) (a_cons (g_call OA hr (a_cons (g_var 3) (a_cons (g_ixL (i := 0) (d := triD s0) (ds := [triD s0, triD s1]) (g_var 8) g_int rfl) (a_cons (g_var 7) (a_cons g_int a_nil)))) ⟨p, ip, s0, u, 14, 3, 1, rfl, ws0, wu, by omega, by omega, by omega, rfl⟩) (a_cons (g_ixL (i := 0) (d := triD d0) (ds := [triD d0, triD d1]) (g_var 9) g_int rfl) a_nil)))) (of_decide_eq_true rfl)) fun l => ?_)
  have base1 : ∀ v ∈ [t, s0, addT 1 s0 u, d0], Wd 56 v := fun v hv => by
    rcases List.mem_cons.mp hv with rfl | hv
    · exact wt.mono (by omega)
    rcases List.mem_cons.mp hv with rfl | hv
    · exact ws0.mono (by omega)
    rcases List.mem_cons.mp hv with rfl | hv
    · exact (addT_wd 1 ws0 wu).mono (by omega)
    rcases List.mem_cons.mp hv with rfl | hv
    · exact wd0.mono (by omega)
    cases hv
  refine ss_cons (s_if (t_ltI (g_var 3) g_int) (fun z => ?_) (fun z => ss_nil ?_))
  · refine ss_one (s_app 10 (l := l) (ds := [triD t, triD s0, triD (addT 1 s0 u), triD d0]) (d := triD (addT 1 s0 s1)) (g_call OA hr (a_cons (g_var 3) (a_cons (g_ixL (i := 0) (d := triD s0) (ds := [triD s0, triD s1]) (g_var 8) g_int rfl) (a_cons (g_ixL (i := 1) (d := triD s1) (ds := [triD s0, triD s1]) (g_var 8) g_int rfl) (a_cons g_int a_nil)))) ⟨p, ip, s0, s1, 14, 14, 1, rfl, ws0, ws1, by omega, by omega, by omega, rfl⟩) ?_ (of_decide_eq_true rfl))
    exact law_fin1 T OR OL OA O1 O2 hr hg wu ws0 ws1 wd0 wd1 ([t, s0, addT 1 s0 u, d0] ++ [addT 1 s0 s1]) n l _ hn (fun v hv => by
        rcases List.mem_append.mp hv with q | q
        · exact base1 v q
        · have : v = addT 1 s0 s1 := by simpa using q
          subst this
          exact (addT_wd _ ws0 ws1).mono (by omega)) (by simp)
  · exact law_fin1 T OR OL OA O1 O2 hr hg wu ws0 ws1 wd0 wd1 [t, s0, addT 1 s0 u, d0] n l _ hn base1 (by simp)
theorem ok_llaw (T : KF K mg Cc Cf aP) (OG : PGn P w K mg base k) (OC : Own P w K mg base k "_law_curve" ["generator"] (spG f_lcurve)) (OK : OCur P w K mg base k Cc) (OR : PRd P w K mg base k) (ODr : PDr P w K mg base k) (OL : PLe2 P w K mg base k) (OSl : PLsp P w K mg base k) (ODi : PDi P w K mg base k) (OA : PAd P w K mg base k) (O1 : PS1 P w K mg base k Cc) (O2 : PS2 P w K mg base k Cc)
    (F : Fun K "law" "law" s_llaw f fd) : FnG P w K mg base (k + 1) f fd ["script"] (spL K) := by
  refine fn_L F sc_llaw rfl fun cdv Ar outer s H E gd hr a ns => ?_
  have bu := T.bu
  refine ss_cons (s_par2 1 2 (r_nw (gn_callN OG hr (a_cons (g_var 0) (a_cons g_int a_nil)) ⟨a, ns, 0, rfl, by omega, rfl⟩)) (r_nw (gn_callN OG hr (a_cons (g_var 0) (a_cons g_int a_nil)) ⟨a, ns, 1, rfl, by omega, rfl⟩)) fun l1 l2 => ?_)
  refine ss_closeG 1 (n := 1000 * 0) ?_ (gen_ok (cellI ns 0) 0)
  refine ss_closeG 2 (n := 1000 * 1) ?_ (gen_ok (cellI ns 1) 1)
  refine ss_cons (s_asgX (ts := [3, 4]) (dx_mono (gx_callG (gi := 1) (n := 1000 * 0) (gA := l1) OC hr rfl a_nil ⟨rfl, by omega, rfl, rfl⟩) ?_))
  rintro ρ2 d ⟨rfl, p, ip, g, hg, rfl⟩
  refine ⟨_, tg_tup (tgs_cons (tg_name (i := 3)) (tgs_cons (tg_name (i := 4)) tgs_nil)), ?_⟩
  have hp := Pr.le13 p
  have hp3 := Pr.ge3 p
  have hg0 := hg.ne
  have hg8 := hg.len8
  refine ss_cons (s_par3X 5 6 7 (dx_of (d := curveD Cc g) (de_of_dm (gm_make OK hr (a_cons (g_var 3) (a_cons (DE.to (g_list bu (ds := g.l.map .int) (g_var 4)) (d' := pol g) rfl) a_nil)) ⟨p, ip, g, rfl, hg, rfl⟩)) (dx_mono (gx_callG (gi := 2) (n := 1000 * 1) (gA := l2) ODr hr rfl (a_cons (g_var 3) (a_cons (g_var 4) a_nil)) ⟨p, ip, g, rfl, by omega, by omega, rfl, rfl⟩) ?_)))
  rintro ρ3 d ⟨rfl, t, rfl, ht⟩
  refine dx_mono (gx_callG (gi := 2) (n := 1000 * 1 + 100) (gA := l2) ODr hr rfl (a_cons (g_var 3) (a_cons (g_var 4) a_nil)) ⟨p, ip, g, rfl, by omega, by omega, rfl, rfl⟩) ?_
  rintro ρ4 d ⟨rfl, u, rfl, hu⟩
  refine ⟨?_, Nat.le_of_ble_eq_true rfl, Nat.le_of_ble_eq_true rfl, Nat.le_of_ble_eq_true rfl⟩
  have wt := ht.wd
  have wu := hu.wd
  have sl : ∀ {v : Tri p}, Wd 3 v → Wd 14 (least (slopeT g v)) := fun h => (slopeT_wd hg8 hg0 h).least
  have dv : ∀ {v : Tri p}, Drn v → Wd 28 (least (divT g v)) := fun h => (divT_wd hg8 hg0 h.wd (h.norm hg)).least
  have hd2 : ∀ i, Drn (pick t u u i) := pick_all (Q := fun x : Tri p => Drn x) ht hu hu
  have sz : ∀ {v : Tri p} {m : Nat}, Wd m v → m ≤ 5000 → v.1.l.length ≤ 5000 ∧ v.2.1.l.length ≤ 5000 ∧ v.2.2.l.length ≤ 5000 ∧ v.2.2 ≠ 0 := fun h hm => ⟨Nat.le_trans h.a hm, Nat.le_trans h.b hm, Nat.le_trans h.c hm, h.ne⟩
  obtain ⟨s0, e0, ws0⟩ : ∃ x, least (slopeT g t) = x ∧ Wd 14 x := ⟨_, rfl, sl wt⟩
  obtain ⟨s1, e1, ws1⟩ : ∃ x, least (slopeT g u) = x ∧ Wd 14 x := ⟨_, rfl, sl wu⟩
  obtain ⟨d0, e2, wd0⟩ : ∃ x, least (divT g t) = x ∧ Wd 28 x := ⟨_, rfl, dv ht⟩
  obtain ⟨d1, e3, wd1⟩ : ∃ x, least (divT g u) = x ∧ Wd 28 x := ⟨_, rfl, dv hu⟩
  refine ss_cons (s_par2 8 9
    (r_sh (d := .lst [triD s0, triD s1]) (g_lc ((dn_lc [("parts", 11)] (fun _ => blkOk_by (N := N_llaw) (sc := defScope s_llaw) (by decide +kernel)) ((i_list (ds := [triD t, triD u]) (g_lst (a_cons (g_var 6) (a_cons (g_var 7) a_nil)))).src (src' := fun i => triD (pick t u u i)) (fun i hi => by rw [list2_getD _ _ i hi, pick_map (triD (p := p))])) (of_decide_eq_true rfl) (tb := fun _ => true) (f := fun i => triD (least (slopeT g (pick t u u i)))) [11] _ (fun i hi => tg_name) (by decide) (fun i hi => ts_nil)
      (fun i hi _ => g_call OL hr (a_cons (g_var 3) (a_cons (g_call OSl hr (a_cons (g_var 3) (a_cons (g_var 4) (a_cons (g_var 11) a_nil))) ⟨p, ip, g, pick t u u i, 3, rfl, hg8, (hd2 i).wd, by omega, rfl⟩) a_nil)) ⟨p, ip, slopeT g (pick t u u i), rfl, (sz (slopeT_wd hg8 hg0 (hd2 i).wd) (by omega)).1, (sz (slopeT_wd hg8 hg0 (hd2 i).wd) (by omega)).2.1, (sz (slopeT_wd hg8 hg0 (hd2 i).wd) (by omega)).2.2.1, (sz (slopeT_wd hg8 hg0 (hd2 i).wd) (by omega)).2.2.2, rfl⟩) (by intro _ _; rfl)).to (d' := [triD s0, triD s1]) (by rw [← e0, ← e1]; rfl))))
    (r_sh (d := .lst [triD d0, triD d1]) (g_lc ((dn_lc [("parts", 11)] (fun _ => blkOk_by (N := N_llaw) (sc := defScope s_llaw) (by decide +kernel)) ((i_list (ds := [triD t, triD u]) (g_lst (a_cons (g_var 6) (a_cons (g_var 7) a_nil)))).src (src' := fun i => triD (pick t u u i)) (fun i hi => by rw [list2_getD _ _ i hi, pick_map (triD (p := p))])) (of_decide_eq_true rfl) (tb := fun _ => true) (f := fun i => triD (least (divT g (pick t u u i)))) [11] _ (fun i hi => tg_name) (by decide) (fun i hi => ts_nil)
      (fun i hi _ => g_call ODi hr (a_cons (g_var 3) (a_cons (g_var 4) (a_cons (g_var 11) a_nil))) ⟨p, ip, g, pick t u u i, rfl, hg, hd2 i, rfl⟩) (by intro _ _; rfl)).to (d' := [triD d0, triD d1]) (by rw [← e2, ← e3]; rfl)))) fun _ _ => ?_)
  exact law_fin0 T OR OL OA O1 O2 hr hg wt wu ws0 ws1 wd0 wd1 _ _ _ (by omega)
end
end Cv
end
section
set_option Elab.async false
set_option linter.all false
set_option maxRecDepth 100000
set_option maxHeartbeats 4000000
namespace Cv
open PySem L2 Evl
section
variable {K : PySem.W.Frag} {h : Heap} {mg : Str → Option Value} {goal : Prop}
/-- a def that the top has written -/
structure DF (K : PySem.W.Frag) (mg : Str → Option Value) (x qual : Str) (st : Stmt) : Prop where
  ex : ∃ f fd, Fun K x qual st f fd ∧ mg x = some (.ref f)
/-- a method -/
structure DMt (K : PySem.W.Frag) (C : Addr) (x qual : Str) (st : Stmt) : Prop where
  ex : ∃ f fd, Fun K x qual st f fd ∧ Meth K C x f
theorem with_df (x qual : Str) (st : Stmt) {f : Addr} {od an : Option Addr} {sl : Array (Option Value)} {oc kV dc pm cd ct : Value} (X : K.In h) (G : h.Ns mainGlobals mg)
    (a : PySem.W.nsIn K mainGlobals x = some (some (.ref f))) (l : K.lookup f = some ⟨oc, od, .func (PySem.W.fnOf x qual (defArgs st) (defBody st) (defScope st) .none kV dc pm an cd ct), sl⟩) (c : PySem.W.codeIn K cd qual = true) (k : PySem.W.keepIn K (.ref f) = true)
    (cont : DF K mg x qual st → goal) : goal := cont ⟨_, _, fun_mk l c k, PySem.W.mg_of X G a⟩
theorem dm_mk {C f : Addr} {x qual : Str} {st : Stmt} {od an : Option Addr} {sl : Array (Option Value)} {oc kV dc pm cd ct : Value}
    (a : PySem.W.findIn K (.ref C) x = some (some (.ref f))) (i : PySem.W.isFn K (.ref f) = true) (l : K.lookup f = some ⟨oc, od, .func (PySem.W.fnOf x qual (defArgs st) (defBody st) (defScope st) .none kV dc pm an cd ct), sl⟩) (c : PySem.W.codeIn K cd qual = true) (k : PySem.W.keepIn K (.ref f) = true) : DMt K C x qual st :=
  ⟨_, _, fun_mk l c k, a, i, k⟩
/-- a class that the top has written -/
structure CF (K : PySem.W.Frag) (mg : Str → Option Value) (x : Str) (C : Addr) (n1 n2 : Str) : Prop where
  at_ : mg x = some (.ref C)
  ob : ObT K C
  mak : PySem.W.makesIn K C = true
  kp : PySem.W.keepIn K (.ref C) = true
  n1 : NoAttr K C n1
  n2 : NoAttr K C n2
theorem with_cf {C : Addr} (x n1 n2 : Str) (X : K.In h) (G : h.Ns mainGlobals mg) (a : PySem.W.nsIn K mainGlobals x = some (some (.ref C))) (p : PySem.W.plainGet K C Str.empty = true) (d : PySem.W.hasDictIn K C = true) (o : PySem.W.plainOver K C = true) (s : PySem.W.findIn K (.ref C) "__setattr__" = some (some (.builtin "object.__setattr__")))
    (m : PySem.W.makesIn K C = true) (k : PySem.W.keepIn K (.ref C) = true) (c1 : PySem.W.findIn K (.ref C) "__class__" = some (some (.builtin "object.__class__")))
    (c2 : PySem.W.specialIn K (.builtin "object.__class__") "__get__" = some (some (.builtin "getset_descriptor.__get__"))) (c3 : PySem.W.takesIn K (.builtin "object.__class__") = some true) (c4 : PySem.W.mroIn K C (.type "object") = some true) (f1 : PySem.W.findIn K (.ref C) n1 = some none) (f2 : PySem.W.findIn K (.ref C) n2 = some none)
    (cont : CF K mg x C n1 n2 → goal) : goal := cont ⟨PySem.W.mg_of X G a, ⟨⟨p, d, o, s⟩, c1, c2, c3, c4⟩, m, k, f1, f2⟩
theorem with_dm {C f : Addr} (x qual : Str) (st : Stmt) {n1 n2 y : Str} {od an : Option Addr} {sl : Array (Option Value)} {oc kV dc pm cd ct : Value} (cf : CF K mg y C n1 n2)
    (a : PySem.W.findIn K (.ref C) x = some (some (.ref f))) (i : PySem.W.isFn K (.ref f) = true) (l : K.lookup f = some ⟨oc, od, .func (PySem.W.fnOf x qual (defArgs st) (defBody st) (defScope st) .none kV dc pm an cd ct), sl⟩) (c : PySem.W.codeIn K cd qual = true) (k : PySem.W.keepIn K (.ref f) = true)
    (cont : DMt K C x qual st → goal) : goal := cont (dm_mk a i l c k)
/-- a def that the module knows by another name -/
structure DFA (K : PySem.W.Frag) (mg : Str → Option Value) (y x qual : Str) (st : Stmt) : Prop where
  ex : ∃ f fd, Fun K x qual st f fd ∧ mg y = some (.ref f)
theorem with_dfA (y x qual : Str) (st : Stmt) {f : Addr} {od an : Option Addr} {sl : Array (Option Value)} {oc kV dc pm cd ct : Value} (X : K.In h) (G : h.Ns mainGlobals mg)
    (a : PySem.W.nsIn K mainGlobals y = some (some (.ref f))) (l : K.lookup f = some ⟨oc, od, .func (PySem.W.fnOf x qual (defArgs st) (defBody st) (defScope st) .none kV dc pm an cd ct), sl⟩) (c : PySem.W.codeIn K cd qual = true) (k : PySem.W.keepIn K (.ref f) = true)
    (cont : DFA K mg y x qual st → goal) : goal := cont ⟨_, _, fun_mk l c k, PySem.W.mg_of X G a⟩
theorem with_num {t : Nat} (x : Str) (i : Int) (X : K.In h) (G : h.Ns mainGlobals mg) (a : PySem.W.nsIn K mainGlobals x = some (some (.int i t))) (cont : (∃ t, mg x = some (.int i t)) → goal) : goal := cont ⟨t, PySem.W.mg_of X G a⟩
theorem with_none (x : Str) (X : K.In h) (G : h.Ns mainGlobals mg) (a : PySem.W.nsIn K mainGlobals x = some none) (cont : mg x = none → goal) : goal := cont (PySem.W.mg_none_of X G a)
theorem with_most {t : Nat} (X : K.In h) (G : h.Ns mainGlobals mg) (a : PySem.W.nsIn K mainGlobals "MOST_POWER" = some (some (.int 60 t))) (cont : (∃ t, mg "MOST_POWER" = some (.int 60 t)) → goal) : goal := cont ⟨t, PySem.W.mg_of X G a⟩
theorem with_primes {aP : Addr} {od : Option Addr} {n : Nat} {sl : Array (Option Value)} {t1 t2 t3 t4 t5 : Nat} (X : K.In h) (G : h.Ns mainGlobals mg) (a : PySem.W.nsIn K mainGlobals "PRIMES" = some (some (.ref aP))) (l : K.lookup aP = some ⟨.type "tuple", od, .seq #[.int 3 t1, .int 5 t2, .int 7 t3, .int 11 t4, .int 13 t5] n, sl⟩)
    (cont : mg "PRIMES" = some (.ref aP) → (∀ H, SqT K H aP (([3, 5, 7, 11, 13] : List Int).map V.int)) → goal) : goal :=
  cont (PySem.W.mg_of X G a) fun H => .inr ⟨_, #[.int 3 t1, .int 5 t2, .int 7 t3, .int 11 t4, .int 13 t5], n, l, rfl, rfl, (by show 5 ≤ sizeLine; decide), .cons ⟨t1, rfl⟩ (.cons ⟨t2, rfl⟩ (.cons ⟨t3, rfl⟩ (.cons ⟨t4, rfl⟩ (.cons ⟨t5, rfl⟩ .nil))))⟩
theorem with_kit (X : K.In h) (b : PySem.W.kitOne K (.type "int") (.type "bool") = some false) (cont : PySem.W.kitOne K (.type "int") (.type "bool") = some false → goal) : goal := cont b
end
end Cv
end
section
set_option Elab.async false
set_option linter.all false
set_option maxRecDepth 100000
set_option maxHeartbeats 4000000
namespace Cv
open PySem L2 Evl
section
variable {P : Program} {w : World} {K : PySem.W.Frag} {mg : Str → Option Value} {base : Heap} {j k : Nat} {C : Addr}
theorem MC.mono (M : MC P w K mg base j C) (h : j ≤ k) : MC P w K mg base k C := ⟨M.prime.mono h, M.poly.mono h⟩
theorem MF.mono (M : MF P w K mg base j C) (h : j ≤ k) : MF P w K mg base k C := ⟨M.curve.mono h, M.top.mono h, M.side.mono h, M.bottom.mono h⟩
theorem OwnG.mono {x ps sp} (O : OwnG P w K mg base j x ps sp) (h : j ≤ k) : OwnG P w K mg base k x ps sp := by
  obtain ⟨fA, fd, F, q⟩ := O.ex
  exact ⟨fA, fd, ⟨F.len, fun A fr s H args us vs Q E gd room => F.run A fr s H args us vs Q E gd (room.mono h)⟩, q⟩
end
theorem law_binds {K : PySem.W.Frag} {f : Addr} {fd : FuncData} (F : Fun K "law" "law" s_llaw f fd) (t : Shared) (u : Value) : BindsTo t fd ⟨[u], []⟩ [("script", u)] := by
  obtain ⟨a1, a2, a3, a4, a5, a6, a7, a8, a9, rfl, _, _⟩ := F.ex
  exact .of_eq rfl
theorem all_law {P : Program} {w : World} {K : PySem.W.Frag} {mg : Str → Option Value} {Cc Cf aP fa : Addr} (hmg : mg "law" = some (.ref fa))
    (z_len : mg "len" = none) (z_max : mg "max" = none) (z_int : mg "int" = none) (z_bool : mg "bool" = none) (z_list : mg "list" = none) (z_isi : mg "isinstance" = none) (z_range : mg "range" = none) (z_enum : mg "enumerate" = none) (z_zip : mg "zip" = none) (z_repr : mg "repr" = none) (z_sum : mg "sum" = none) (z_min : mg "min" = none) (z_abs : mg "abs" = none)
    (z_most : ∃ t, mg "MOST_POWER" = some (.int 60 t))  (z_primes : mg "PRIMES" = some (.ref aP)) (z_seq : ∀ H, SqT K H aP (([3, 5, 7, 11, 13] : List Int).map V.int))
    (c_Curve : CF K mg "Curve" Cc "_prime" "_polynomial") (c_Function : CF K mg "Function" Cf "_curve" "_parts")
    (d_trimmed : DFA K mg "trimmed" "trimmed" "trimmed" s_trimmed)
    (d_inverse : DFA K mg "inverse" "inverse" "inverse" s_inverse)
    (d_added : DFA K mg "added" "added" "added" s_added)
    (d_negated : DFA K mg "negated" "negated" "negated" s_negated)
    (d_scaled : DFA K mg "scaled" "scaled" "scaled" s_scaled)
    (d_lessened : DFA K mg "lessened" "lessened" "lessened" s_lessened)
    (d_multiplied : DFA K mg "multiplied" "multiplied" "multiplied" s_multiplied)
    (d_power_of : DFA K mg "power_of" "power_of" "power_of" s_power_of)
    (d_parted : DFA K mg "parted" "parted" "parted" s_parted)
    (d_whole_part : DFA K mg "whole_part" "whole_part" "whole_part" s_whole_part)
    (d_common_with : DFA K mg "common_with" "common_with" "common_with" s_common_with)
    (d_common_of : DFA K mg "common_of" "common_of" "common_of" s_common_of)
    (d_slope_of : DFA K mg "slope_of" "slope_of" "slope_of" s_slope_of)
    (d_is_whole : DFA K mg "is_whole" "is_whole" "is_whole" s_is_whole)
    (d_is_between : DFA K mg "is_between" "is_between" "is_between" s_is_between)
    (d_check_prime : DFA K mg "check_prime" "check_prime" "check_prime" s_check_prime)
    (d_is_poly_list : DFA K mg "is_poly_list" "is_poly_list" "is_poly_list" s_is_poly_list)
    (d_check_poly : DFA K mg "check_poly" "check_poly" "check_poly" s_check_poly)
    (d_is_curve_poly : DFA K mg "is_curve_poly" "is_curve_poly" "is_curve_poly" s_is_curve_poly)
    (d_cInit : DMt K Cc "__init__" "Curve.__init__" s_cInit)
    (d_cPrime : DMt K Cc "prime" "Curve.prime" s_cPrime)
    (d_cPoly : DMt K Cc "polynomial" "Curve.polynomial" s_cPoly)
    (d_least_parts : DFA K mg "least_parts" "least_parts" "least_parts" s_least_parts)
    (d_fInit : DMt K Cf "__init__" "Function.__init__" s_fInit)
    (d_fCurve : DMt K Cf "curve" "Function.curve" s_fCurve)
    (d_fTop : DMt K Cf "top" "Function.top" s_fTop)
    (d_fSide : DMt K Cf "side" "Function.side" s_fSide)
    (d_fBottom : DMt K Cf "bottom" "Function.bottom" s_fBottom)
    (d_made : DFA K mg "made" "made" "made" s_made)
    (d_parts_of : DFA K mg "parts_of" "parts_of" "parts_of" s_parts_of)
    (d_check_function : DFA K mg "check_function" "check_function" "check_function" s_check_function)
    (d_every : DFA K mg "every" "every" "every" s_every)
    (d_tops_over : DFA K mg "tops_over" "tops_over" "tops_over" s_tops_over)
    (d_parts_by : DFA K mg "parts_by" "parts_by" "parts_by" s_parts_by)
    (d_descent_by : DFA K mg "descent_by" "descent_by" "descent_by" s_descent_by)
    (d_stretched : DFA K mg "stretched" "stretched" "stretched" s_stretched)
    (d_ltrim : DFA K mg "_law_trim" "_law_trim" "_law_trim" s_ltrim)
    (d_lplus : DFA K mg "_law_plus" "_law_plus" "_law_plus" s_lplus)
    (d_lscaled : DFA K mg "_law_scaled" "_law_scaled" "_law_scaled" s_lscaled)
    (d_ltimes : DFA K mg "_law_times" "_law_times" "_law_times" s_ltimes)
    (d_lback : DFA K mg "_law_back" "_law_back" "_law_back" s_lback)
    (d_lparted : DFA K mg "_law_parted" "_law_parted" "_law_parted" s_lparted)
    (d_lrest : DFA K mg "_law_rest" "_law_rest" "_law_rest" s_lrest)
    (d_lcommon : DFA K mg "_law_common" "_law_common" "_law_common" s_lcommon)
    (d_lsimple : DFA K mg "_law_simple" "_law_simple" "_law_simple" s_lsimple)
    (d_lpower : DFA K mg "_law_power" "_law_power" "_law_power" s_lpower)
    (d_lshown : DFA K mg "_law_shown" "_law_shown" "_law_shown" s_lshown)
    (d_lleast : DFA K mg "_law_least" "_law_least" "_law_least" s_lleast)
    (d_lhash : DFA K mg "_law_hash" "_law_hash" "_law_hash" s_lhash)
    (d_lrandom : DFA K mg "_law_random" "_law_random" "_law_random" s_lrandom)
    (d_lcell : DFA K mg "_law_cell" "_law_cell" "_law_cell" s_lcell)
    (d_lgen : DFA K mg "_law_generator" "_law_generator" "_law_generator" s_lgen)
    (d_lcurve : DFA K mg "_law_curve" "_law_curve" "_law_curve" s_lcurve)
    (d_cEq2 : DMt K Cc "__eq__" "Curve.__eq__" s_cEq)
    (d_fEq : DMt K Cf "__eq__" "Function.__eq__" s_fEq)
    (d_is_nought : DFA K mg "is_nought" "is_nought" "is_nought" s_is_nought)
    (d_lmultiplied : DFA K mg "_law_multiplied" "_law_multiplied" "_law_multiplied" s_lmultiplied)
    (d_lless : DFA K mg "_law_less" "_law_less" "_law_less" s_lless)
    (d_lfall : DFA K mg "_law_fall" "_law_fall" "_law_fall" s_lfall)
    (d_ladded : DFA K mg "_law_added" "_law_added" "_law_added" s_ladded)
    (d_lslope : DFA K mg "_law_slope" "_law_slope" "_law_slope" s_lslope)
    (d_raised_source : DFA K mg "raised_source" "raised_source" "raised_source" s_raised_source)
    (d_slope_source : DFA K mg "slope_source" "slope_source" "slope_source" s_slope_source)
    (d_whose_slope : DFA K mg "whose_slope" "whose_slope" "whose_slope" s_whose_slope)
    (d_lowered : DFA K mg "lowered" "lowered" "lowered" s_lowered)
    (d_divided_source : DFA K mg "divided_source" "divided_source" "divided_source" s_divided_source)
    (d_whose_div : DFA K mg "whose_divided_slope" "whose_divided_slope" "whose_divided_slope" s_whose_div)
    (d_lwritten : DFA K mg "_law_written" "_law_written" "_law_written" s_lwritten)
    (d_ltaken : DFA K mg "_law_taken" "_law_taken" "_law_taken" s_ltaken)
    (d_lsame : DFA K mg "_law_same" "_law_same" "_law_same" s_lsame)
    (d_lsource : DFA K mg "_law_source" "_law_source" "_law_source" s_lsource)
    (d_ldivided : DFA K mg "_law_divided" "_law_divided" "_law_divided" s_ldivided)
    (d_lslr : DFA K mg "_law_slopes_right" "_law_slopes_right" "_law_slopes_right" s_lslr)
    (d_ldr : DFA K mg "_law_divided_right" "_law_divided_right" "_law_divided_right" s_ldr)
    (d_ldrawn : DFA K mg "_law_drawn" "_law_drawn" "_law_drawn" s_ldrawn)
    (d_llaw : DFA K mg "law" "law" "law" s_llaw)
    : ∃ fd : FuncData, (∀ (t : Shared) (u : Value), BindsTo t fd ⟨[u], []⟩ [("script", u)]) ∧ ∀ bs : Heap, K.In bs → bs.Ns mainGlobals mg → FnG P w K mg bs 15 fa fd ["script"] (spL K) := by
  have T : KF K mg Cc Cf aP := ⟨⟨z_len, z_max, z_int, z_bool, z_list, z_isi, z_range, z_enum, z_zip, z_repr, z_sum, z_min, z_abs⟩, c_Curve.ob, c_Function.ob, c_Curve.n1, c_Curve.n2, c_Function.n1, c_Function.n2, kit_ty (by decide +kernel), c_Curve.at_, c_Function.at_, z_primes, z_seq, z_most⟩
  obtain ⟨f_trimmed, e_trimmed, F_trimmed, m_trimmed⟩ := d_trimmed.ex
  have b_trimmed := F_trimmed.binds (ps := ["p", "numbers"]) fun _ _ _ _ _ _ us hl => match us, hl with | [_, _], _ => rfl
  obtain ⟨f_inverse, e_inverse, F_inverse, m_inverse⟩ := d_inverse.ex
  have b_inverse := F_inverse.binds (ps := ["p", "number"]) fun _ _ _ _ _ _ us hl => match us, hl with | [_, _], _ => rfl
  obtain ⟨f_added, e_added, F_added, m_added⟩ := d_added.ex
  have b_added := F_added.binds (ps := ["p", "one", "other"]) fun _ _ _ _ _ _ us hl => match us, hl with | [_, _, _], _ => rfl
  obtain ⟨f_negated, e_negated, F_negated, m_negated⟩ := d_negated.ex
  have b_negated := F_negated.binds (ps := ["p", "one"]) fun _ _ _ _ _ _ us hl => match us, hl with | [_, _], _ => rfl
  obtain ⟨f_scaled, e_scaled, F_scaled, m_scaled⟩ := d_scaled.ex
  have b_scaled := F_scaled.binds (ps := ["p", "one", "number"]) fun _ _ _ _ _ _ us hl => match us, hl with | [_, _, _], _ => rfl
  obtain ⟨f_lessened, e_lessened, F_lessened, m_lessened⟩ := d_lessened.ex
  have b_lessened := F_lessened.binds (ps := ["p", "one", "other"]) fun _ _ _ _ _ _ us hl => match us, hl with | [_, _, _], _ => rfl
  obtain ⟨f_multiplied, e_multiplied, F_multiplied, m_multiplied⟩ := d_multiplied.ex
  have b_multiplied := F_multiplied.binds (ps := ["p", "one", "other"]) fun _ _ _ _ _ _ us hl => match us, hl with | [_, _, _], _ => rfl
  obtain ⟨f_power_of, e_power_of, F_power_of, m_power_of⟩ := d_power_of.ex
  have b_power_of := F_power_of.binds (ps := ["p", "one", "count"]) fun _ _ _ _ _ _ us hl => match us, hl with | [_, _, _], _ => rfl
  obtain ⟨f_parted, e_parted, F_parted, m_parted⟩ := d_parted.ex
  have b_parted := F_parted.binds (ps := ["p", "one", "other"]) fun _ _ _ _ _ _ us hl => match us, hl with | [_, _, _], _ => rfl
  obtain ⟨f_whole_part, e_whole_part, F_whole_part, m_whole_part⟩ := d_whole_part.ex
  have b_whole_part := F_whole_part.binds (ps := ["p", "one", "other"]) fun _ _ _ _ _ _ us hl => match us, hl with | [_, _, _], _ => rfl
  obtain ⟨f_common_with, e_common_with, F_common_with, m_common_with⟩ := d_common_with.ex
  have b_common_with := F_common_with.binds (ps := ["p", "one", "other"]) fun _ _ _ _ _ _ us hl => match us, hl with | [_, _, _], _ => rfl
  obtain ⟨f_common_of, e_common_of, F_common_of, m_common_of⟩ := d_common_of.ex
  have b_common_of := F_common_of.binds (ps := ["p", "one", "other"]) fun _ _ _ _ _ _ us hl => match us, hl with | [_, _, _], _ => rfl
  obtain ⟨f_slope_of, e_slope_of, F_slope_of, m_slope_of⟩ := d_slope_of.ex
  have b_slope_of := F_slope_of.binds (ps := ["p", "one"]) fun _ _ _ _ _ _ us hl => match us, hl with | [_, _], _ => rfl
  obtain ⟨f_is_whole, e_is_whole, F_is_whole, m_is_whole⟩ := d_is_whole.ex
  have b_is_whole := F_is_whole.binds (ps := ["value"]) fun _ _ _ _ _ _ us hl => match us, hl with | [_], _ => rfl
  obtain ⟨f_is_between, e_is_between, F_is_between, m_is_between⟩ := d_is_between.ex
  have b_is_between := F_is_between.binds (ps := ["value", "low", "high"]) fun _ _ _ _ _ _ us hl => match us, hl with | [_, _, _], _ => rfl
  obtain ⟨f_check_prime, e_check_prime, F_check_prime, m_check_prime⟩ := d_check_prime.ex
  have b_check_prime := F_check_prime.binds (ps := ["p"]) fun _ _ _ _ _ _ us hl => match us, hl with | [_], _ => rfl
  obtain ⟨f_is_poly_list, e_is_poly_list, F_is_poly_list, m_is_poly_list⟩ := d_is_poly_list.ex
  have b_is_poly_list := F_is_poly_list.binds (ps := ["p", "value"]) fun _ _ _ _ _ _ us hl => match us, hl with | [_, _], _ => rfl
  obtain ⟨f_check_poly, e_check_poly, F_check_poly, m_check_poly⟩ := d_check_poly.ex
  have b_check_poly := F_check_poly.binds (ps := ["p", "value"]) fun _ _ _ _ _ _ us hl => match us, hl with | [_, _], _ => rfl
  obtain ⟨f_is_curve_poly, e_is_curve_poly, F_is_curve_poly, m_is_curve_poly⟩ := d_is_curve_poly.ex
  have b_is_curve_poly := F_is_curve_poly.binds (ps := ["p", "value"]) fun _ _ _ _ _ _ us hl => match us, hl with | [_, _], _ => rfl
  obtain ⟨f_cInit, e_cInit, F_cInit, M_cInit⟩ := d_cInit.ex
  have b_cInit := F_cInit.binds (ps := ["self", "p", "f"]) fun _ _ _ _ _ _ us hl => match us, hl with | [_, _, _], _ => rfl
  obtain ⟨f_cPrime, e_cPrime, F_cPrime, M_cPrime⟩ := d_cPrime.ex
  have b_cPrime := F_cPrime.binds (ps := ["self"]) fun _ _ _ _ _ _ us hl => match us, hl with | [_], _ => rfl
  obtain ⟨f_cPoly, e_cPoly, F_cPoly, M_cPoly⟩ := d_cPoly.ex
  have b_cPoly := F_cPoly.binds (ps := ["self"]) fun _ _ _ _ _ _ us hl => match us, hl with | [_], _ => rfl
  obtain ⟨f_least_parts, e_least_parts, F_least_parts, m_least_parts⟩ := d_least_parts.ex
  have b_least_parts := F_least_parts.binds (ps := ["p", "top", "side", "bottom"]) fun _ _ _ _ _ _ us hl => match us, hl with | [_, _, _, _], _ => rfl
  obtain ⟨f_fInit, e_fInit, F_fInit, M_fInit⟩ := d_fInit.ex
  have b_fInit := F_fInit.binds (ps := ["self", "curve", "top", "side", "bottom"]) fun _ _ _ _ _ _ us hl => match us, hl with | [_, _, _, _, _], _ => rfl
  obtain ⟨f_fCurve, e_fCurve, F_fCurve, M_fCurve⟩ := d_fCurve.ex
  have b_fCurve := F_fCurve.binds (ps := ["self"]) fun _ _ _ _ _ _ us hl => match us, hl with | [_], _ => rfl
  obtain ⟨f_fTop, e_fTop, F_fTop, M_fTop⟩ := d_fTop.ex
  have b_fTop := F_fTop.binds (ps := ["self"]) fun _ _ _ _ _ _ us hl => match us, hl with | [_], _ => rfl
  obtain ⟨f_fSide, e_fSide, F_fSide, M_fSide⟩ := d_fSide.ex
  have b_fSide := F_fSide.binds (ps := ["self"]) fun _ _ _ _ _ _ us hl => match us, hl with | [_], _ => rfl
  obtain ⟨f_fBottom, e_fBottom, F_fBottom, M_fBottom⟩ := d_fBottom.ex
  have b_fBottom := F_fBottom.binds (ps := ["self"]) fun _ _ _ _ _ _ us hl => match us, hl with | [_], _ => rfl
  obtain ⟨f_made, e_made, F_made, m_made⟩ := d_made.ex
  have b_made := F_made.binds (ps := ["curve", "top", "side", "bottom"]) fun _ _ _ _ _ _ us hl => match us, hl with | [_, _, _, _], _ => rfl
  obtain ⟨f_parts_of, e_parts_of, F_parts_of, m_parts_of⟩ := d_parts_of.ex
  have b_parts_of := F_parts_of.binds (ps := ["function"]) fun _ _ _ _ _ _ us hl => match us, hl with | [_], _ => rfl
  obtain ⟨f_check_function, e_check_function, F_check_function, m_check_function⟩ := d_check_function.ex
  have b_check_function := F_check_function.binds (ps := ["function"]) fun _ _ _ _ _ _ us hl => match us, hl with | [_], _ => rfl
  obtain ⟨f_every, e_every, F_every, m_every⟩ := d_every.ex
  have b_every := F_every.binds (ps := ["p", "poly", "first"]) fun _ _ _ _ _ _ us hl => match us, hl with | [_, _, _], _ => rfl
  obtain ⟨f_tops_over, e_tops_over, F_tops_over, m_tops_over⟩ := d_tops_over.ex
  have b_tops_over := F_tops_over.binds (ps := ["function"]) fun _ _ _ _ _ _ us hl => match us, hl with | [_], _ => rfl
  obtain ⟨f_parts_by, e_parts_by, F_parts_by, m_parts_by⟩ := d_parts_by.ex
  have b_parts_by := F_parts_by.binds (ps := ["function"]) fun _ _ _ _ _ _ us hl => match us, hl with | [_], _ => rfl
  obtain ⟨f_descent_by, e_descent_by, F_descent_by, m_descent_by⟩ := d_descent_by.ex
  have b_descent_by := F_descent_by.binds (ps := ["function"]) fun _ _ _ _ _ _ us hl => match us, hl with | [_], _ => rfl
  obtain ⟨f_stretched, e_stretched, F_stretched, m_stretched⟩ := d_stretched.ex
  have b_stretched := F_stretched.binds (ps := ["p", "poly"]) fun _ _ _ _ _ _ us hl => match us, hl with | [_, _], _ => rfl
  obtain ⟨f_ltrim, e_ltrim, F_ltrim, m_ltrim⟩ := d_ltrim.ex
  have b_ltrim := F_ltrim.binds (ps := ["p", "numbers"]) fun _ _ _ _ _ _ us hl => match us, hl with | [_, _], _ => rfl
  obtain ⟨f_lplus, e_lplus, F_lplus, m_lplus⟩ := d_lplus.ex
  have b_lplus := F_lplus.binds (ps := ["p", "one", "other"]) fun _ _ _ _ _ _ us hl => match us, hl with | [_, _, _], _ => rfl
  obtain ⟨f_lscaled, e_lscaled, F_lscaled, m_lscaled⟩ := d_lscaled.ex
  have b_lscaled := F_lscaled.binds (ps := ["p", "one", "number"]) fun _ _ _ _ _ _ us hl => match us, hl with | [_, _, _], _ => rfl
  obtain ⟨f_ltimes, e_ltimes, F_ltimes, m_ltimes⟩ := d_ltimes.ex
  have b_ltimes := F_ltimes.binds (ps := ["p", "one", "other"]) fun _ _ _ _ _ _ us hl => match us, hl with | [_, _, _], _ => rfl
  obtain ⟨f_lback, e_lback, F_lback, m_lback⟩ := d_lback.ex
  have b_lback := F_lback.binds (ps := ["p", "number"]) fun _ _ _ _ _ _ us hl => match us, hl with | [_, _], _ => rfl
  obtain ⟨f_lparted, e_lparted, F_lparted, m_lparted⟩ := d_lparted.ex
  have b_lparted := F_lparted.binds (ps := ["p", "one", "other"]) fun _ _ _ _ _ _ us hl => match us, hl with | [_, _, _], _ => rfl
  obtain ⟨f_lrest, e_lrest, F_lrest, m_lrest⟩ := d_lrest.ex
  have b_lrest := F_lrest.binds (ps := ["p", "one", "other"]) fun _ _ _ _ _ _ us hl => match us, hl with | [_, _, _], _ => rfl
  obtain ⟨f_lcommon, e_lcommon, F_lcommon, m_lcommon⟩ := d_lcommon.ex
  have b_lcommon := F_lcommon.binds (ps := ["p", "one", "other"]) fun _ _ _ _ _ _ us hl => match us, hl with | [_, _, _], _ => rfl
  obtain ⟨f_lsimple, e_lsimple, F_lsimple, m_lsimple⟩ := d_lsimple.ex
  have b_lsimple := F_lsimple.binds (ps := ["p", "f"]) fun _ _ _ _ _ _ us hl => match us, hl with | [_, _], _ => rfl
  obtain ⟨f_lpower, e_lpower, F_lpower, m_lpower⟩ := d_lpower.ex
  have b_lpower := F_lpower.binds (ps := ["p", "one", "count"]) fun _ _ _ _ _ _ us hl => match us, hl with | [_, _, _], _ => rfl
  obtain ⟨f_lshown, e_lshown, F_lshown, m_lshown⟩ := d_lshown.ex
  have b_lshown := F_lshown.binds (ps := ["function"]) fun _ _ _ _ _ _ us hl => match us, hl with | [_], _ => rfl
  obtain ⟨f_lleast, e_lleast, F_lleast, m_lleast⟩ := d_lleast.ex
  have b_lleast := F_lleast.binds (ps := ["p", "parts"]) fun _ _ _ _ _ _ us hl => match us, hl with | [_, _], _ => rfl
  obtain ⟨f_lhash, e_lhash, F_lhash, m_lhash⟩ := d_lhash.ex
  have b_lhash := F_lhash.binds (ps := ["seed", "index"]) fun _ _ _ _ _ _ us hl => match us, hl with | [_, _], _ => rfl
  obtain ⟨f_lrandom, e_lrandom, F_lrandom, m_lrandom⟩ := d_lrandom.ex
  have b_lrandom := F_lrandom.binds (ps := ["generator", "bound"]) fun _ _ _ _ _ _ us hl => match us, hl with | [_, _], _ => rfl
  obtain ⟨f_lcell, e_lcell, F_lcell, m_lcell⟩ := d_lcell.ex
  have b_lcell := F_lcell.binds (ps := ["script", "index"]) fun _ _ _ _ _ _ us hl => match us, hl with | [_, _], _ => rfl
  obtain ⟨f_lgen, e_lgen, F_lgen, m_lgen⟩ := d_lgen.ex
  have b_lgen := F_lgen.binds (ps := ["script", "index"]) fun _ _ _ _ _ _ us hl => match us, hl with | [_, _], _ => rfl
  obtain ⟨f_lcurve, e_lcurve, F_lcurve, m_lcurve⟩ := d_lcurve.ex
  have b_lcurve := F_lcurve.binds (ps := ["generator"]) fun _ _ _ _ _ _ us hl => match us, hl with | [_], _ => rfl
  obtain ⟨f_cEq2, e_cEq2, F_cEq2, M_cEq2⟩ := d_cEq2.ex
  have b_cEq2 := F_cEq2.binds (ps := ["self", "other"]) fun _ _ _ _ _ _ us hl => match us, hl with | [_, _], _ => rfl
  obtain ⟨f_fEq, e_fEq, F_fEq, M_fEq⟩ := d_fEq.ex
  have b_fEq := F_fEq.binds (ps := ["self", "other"]) fun _ _ _ _ _ _ us hl => match us, hl with | [_, _], _ => rfl
  obtain ⟨f_is_nought, e_is_nought, F_is_nought, m_is_nought⟩ := d_is_nought.ex
  have b_is_nought := F_is_nought.binds (ps := ["function"]) fun _ _ _ _ _ _ us hl => match us, hl with | [_], _ => rfl
  obtain ⟨f_lmultiplied, e_lmultiplied, F_lmultiplied, m_lmultiplied⟩ := d_lmultiplied.ex
  have b_lmultiplied := F_lmultiplied.binds (ps := ["p", "f", "one", "other"]) fun _ _ _ _ _ _ us hl => match us, hl with | [_, _, _, _], _ => rfl
  obtain ⟨f_lless, e_lless, F_lless, m_lless⟩ := d_lless.ex
  have b_lless := F_lless.binds (ps := ["p", "one", "other"]) fun _ _ _ _ _ _ us hl => match us, hl with | [_, _, _], _ => rfl
  obtain ⟨f_lfall, e_lfall, F_lfall, m_lfall⟩ := d_lfall.ex
  have b_lfall := F_lfall.binds (ps := ["p", "one"]) fun _ _ _ _ _ _ us hl => match us, hl with | [_, _], _ => rfl
  obtain ⟨f_ladded, e_ladded, F_ladded, m_ladded⟩ := d_ladded.ex
  have b_ladded := F_ladded.binds (ps := ["p", "one", "other", "number"]) fun _ _ _ _ _ _ us hl => match us, hl with | [_, _, _, _], _ => rfl
  obtain ⟨f_lslope, e_lslope, F_lslope, m_lslope⟩ := d_lslope.ex
  have b_lslope := F_lslope.binds (ps := ["p", "f", "parts"]) fun _ _ _ _ _ _ us hl => match us, hl with | [_, _, _], _ => rfl
  obtain ⟨f_raised_source, e_raised_source, F_raised_source, m_raised_source⟩ := d_raised_source.ex
  have b_raised_source := F_raised_source.binds (ps := ["p", "poly"]) fun _ _ _ _ _ _ us hl => match us, hl with | [_, _], _ => rfl
  obtain ⟨f_slope_source, e_slope_source, F_slope_source, m_slope_source⟩ := d_slope_source.ex
  have b_slope_source := F_slope_source.binds (ps := ["function"]) fun _ _ _ _ _ _ us hl => match us, hl with | [_], _ => rfl
  obtain ⟨f_whose_slope, e_whose_slope, F_whose_slope, m_whose_slope⟩ := d_whose_slope.ex
  have b_whose_slope := F_whose_slope.binds (ps := ["one"]) fun _ _ _ _ _ _ us hl => match us, hl with | [_], _ => rfl
  obtain ⟨f_lowered, e_lowered, F_lowered, m_lowered⟩ := d_lowered.ex
  have b_lowered := F_lowered.binds (ps := ["p", "f", "told", "here"]) fun _ _ _ _ _ _ us hl => match us, hl with | [_, _, _, _], _ => rfl
  obtain ⟨f_divided_source, e_divided_source, F_divided_source, m_divided_source⟩ := d_divided_source.ex
  have b_divided_source := F_divided_source.binds (ps := ["function"]) fun _ _ _ _ _ _ us hl => match us, hl with | [_], _ => rfl
  obtain ⟨f_whose_div, e_whose_div, F_whose_div, m_whose_div⟩ := d_whose_div.ex
  have b_whose_div := F_whose_div.binds (ps := ["one"]) fun _ _ _ _ _ _ us hl => match us, hl with | [_], _ => rfl
  obtain ⟨f_lwritten, e_lwritten, F_lwritten, m_lwritten⟩ := d_lwritten.ex
  have b_lwritten := F_lwritten.binds (ps := ["p", "f", "parts"]) fun _ _ _ _ _ _ us hl => match us, hl with | [_, _, _], _ => rfl
  obtain ⟨f_ltaken, e_ltaken, F_ltaken, m_ltaken⟩ := d_ltaken.ex
  have b_ltaken := F_ltaken.binds (ps := ["p", "written", "first"]) fun _ _ _ _ _ _ us hl => match us, hl with | [_, _, _], _ => rfl
  obtain ⟨f_lsame, e_lsame, F_lsame, m_lsame⟩ := d_lsame.ex
  have b_lsame := F_lsame.binds (ps := ["p", "one", "other"]) fun _ _ _ _ _ _ us hl => match us, hl with | [_, _, _], _ => rfl
  obtain ⟨f_lsource, e_lsource, F_lsource, m_lsource⟩ := d_lsource.ex
  have b_lsource := F_lsource.binds (ps := ["p", "f", "parts"]) fun _ _ _ _ _ _ us hl => match us, hl with | [_, _, _], _ => rfl
  obtain ⟨f_ldivided, e_ldivided, F_ldivided, m_ldivided⟩ := d_ldivided.ex
  have b_ldivided := F_ldivided.binds (ps := ["p", "f", "parts"]) fun _ _ _ _ _ _ us hl => match us, hl with | [_, _, _], _ => rfl
  obtain ⟨f_lslr, e_lslr, F_lslr, m_lslr⟩ := d_lslr.ex
  have b_lslr := F_lslr.binds (ps := ["p", "f", "curve", "parts"]) fun _ _ _ _ _ _ us hl => match us, hl with | [_, _, _, _], _ => rfl
  obtain ⟨f_ldr, e_ldr, F_ldr, m_ldr⟩ := d_ldr.ex
  have b_ldr := F_ldr.binds (ps := ["p", "f", "curve", "parts"]) fun _ _ _ _ _ _ us hl => match us, hl with | [_, _, _, _], _ => rfl
  obtain ⟨f_ldrawn, e_ldrawn, F_ldrawn, m_ldrawn⟩ := d_ldrawn.ex
  have b_ldrawn := F_ldrawn.binds (ps := ["generator", "p", "f"]) fun _ _ _ _ _ _ us hl => match us, hl with | [_, _, _], _ => rfl
  obtain ⟨f_llaw, e_llaw, F_llaw, m_llaw⟩ := d_llaw.ex
  have e := hmg.symm.trans m_llaw
  cases e
  refine ⟨e_llaw, law_binds F_llaw, fun bs _ _ => ?_⟩
  have K_trimmed := ok_trimmed (P := P) (w := w) (base := bs) T.bu F_trimmed
  have O_trimmed : Own P w K mg bs 1 "trimmed" ["p", "numbers"] _ := ⟨_, _, K_trimmed, m_trimmed, F_trimmed.kp, b_trimmed⟩
  have K_inverse := ok_inverse (P := P) (w := w) (base := bs) T.bu F_inverse
  have O_inverse : Own P w K mg bs 1 "inverse" ["p", "number"] _ := ⟨_, _, K_inverse, m_inverse, F_inverse.kp, b_inverse⟩
  have K_added := ok_added (k := 1) (P := P) (w := w) (base := bs) T.bu O_trimmed F_added
  have O_added : Own P w K mg bs 2 "added" ["p", "one", "other"] _ := ⟨_, _, K_added, m_added, F_added.kp, b_added⟩
  have K_negated := ok_negated (k := 1) (P := P) (w := w) (base := bs) T.bu O_trimmed F_negated
  have O_negated : Own P w K mg bs 2 "negated" ["p", "one"] _ := ⟨_, _, K_negated, m_negated, F_negated.kp, b_negated⟩
  have K_scaled := ok_scaled (k := 1) (P := P) (w := w) (base := bs) T.bu O_trimmed F_scaled
  have O_scaled : Own P w K mg bs 2 "scaled" ["p", "one", "number"] _ := ⟨_, _, K_scaled, m_scaled, F_scaled.kp, b_scaled⟩
  have K_lessened := ok_lessened (k := 2) (P := P) (w := w) (base := bs) T.bu O_added O_negated F_lessened
  have O_lessened : Own P w K mg bs 3 "lessened" ["p", "one", "other"] _ := ⟨_, _, K_lessened, m_lessened, F_lessened.kp, b_lessened⟩
  have K_multiplied := ok_multiplied (k := 1) (P := P) (w := w) (base := bs) T.bu O_trimmed F_multiplied
  have O_multiplied : Own P w K mg bs 2 "multiplied" ["p", "one", "other"] _ := ⟨_, _, K_multiplied, m_multiplied, F_multiplied.kp, b_multiplied⟩
  have K_power_of := ok_power_of (k := 2) (P := P) (w := w) (base := bs) T.bu O_multiplied F_power_of
  have O_power_of : Own P w K mg bs 3 "power_of" ["p", "one", "count"] _ := ⟨_, _, K_power_of, m_power_of, F_power_of.kp, b_power_of⟩
  have K_parted := ok_parted (k := 1) (P := P) (w := w) (base := bs) T.bu O_trimmed O_inverse F_parted
  have O_parted : Own P w K mg bs 2 "parted" ["p", "one", "other"] _ := ⟨_, _, K_parted, m_parted, F_parted.kp, b_parted⟩
  have K_whole_part := ok_whole_part (k := 2) (P := P) (w := w) (base := bs) T.bu O_parted F_whole_part
  have O_whole_part : Own P w K mg bs 3 "whole_part" ["p", "one", "other"] _ := ⟨_, _, K_whole_part, m_whole_part, F_whole_part.kp, b_whole_part⟩
  have K_common_with := ok_common_with (k := 3) (P := P) (w := w) (base := bs) T.bu (O_parted.mono (by omega)) O_lessened (O_multiplied.mono (by omega)) (O_inverse.mono (by omega)) (O_scaled.mono (by omega)) F_common_with
  have O_common_with : Own P w K mg bs 4 "common_with" ["p", "one", "other"] _ := ⟨_, _, K_common_with, m_common_with, F_common_with.kp, b_common_with⟩
  have K_common_of := ok_common_of (k := 4) (P := P) (w := w) (base := bs) T.bu O_common_with F_common_of
  have O_common_of : Own P w K mg bs 5 "common_of" ["p", "one", "other"] _ := ⟨_, _, K_common_of, m_common_of, F_common_of.kp, b_common_of⟩
  have K_slope_of := ok_slope_of (k := 1) (P := P) (w := w) (base := bs) T.bu O_trimmed F_slope_of
  have O_slope_of : Own P w K mg bs 2 "slope_of" ["p", "one"] _ := ⟨_, _, K_slope_of, m_slope_of, F_slope_of.kp, b_slope_of⟩
  have K_is_whole := ok_is_whole (P := P) (w := w) (base := bs) T F_is_whole
  have O_is_whole : Own P w K mg bs 1 "is_whole" ["value"] _ := ⟨_, _, K_is_whole, m_is_whole, F_is_whole.kp, b_is_whole⟩
  have K_is_between := ok_is_between (k := 1) (P := P) (w := w) (base := bs) T O_is_whole F_is_between
  have O_is_between : Own P w K mg bs 2 "is_between" ["value", "low", "high"] _ := ⟨_, _, K_is_between, m_is_between, F_is_between.kp, b_is_between⟩
  have K_check_prime := ok_check_prime (k := 1) (P := P) (w := w) (base := bs) T O_is_whole F_check_prime
  have O_check_prime : Own P w K mg bs 2 "check_prime" ["p"] _ := ⟨_, _, K_check_prime, m_check_prime, F_check_prime.kp, b_check_prime⟩
  have K_is_poly_list := ok_is_poly_list (k := 2) (P := P) (w := w) (base := bs) T O_is_between F_is_poly_list
  have O_is_poly_list : Own P w K mg bs 3 "is_poly_list" ["p", "value"] _ := ⟨_, _, K_is_poly_list, m_is_poly_list, F_is_poly_list.kp, b_is_poly_list⟩
  have K_check_poly := ok_check_poly (k := 3) (P := P) (w := w) (base := bs) T O_is_poly_list F_check_poly
  have O_check_poly : Own P w K mg bs 4 "check_poly" ["p", "value"] _ := ⟨_, _, K_check_poly, m_check_poly, F_check_poly.kp, b_check_poly⟩
  have K_is_curve_poly := ok_is_curve_poly (k := 5) (P := P) (w := w) (base := bs) T (O_is_poly_list.mono (by omega)) O_common_of (O_slope_of.mono (by omega)) F_is_curve_poly
  have O_is_curve_poly : Own P w K mg bs 6 "is_curve_poly" ["p", "value"] _ := ⟨_, _, K_is_curve_poly, m_is_curve_poly, F_is_curve_poly.kp, b_is_curve_poly⟩
  have K_cInit := ok_cInit (k := 6) (P := P) (w := w) (base := bs) T (O_check_prime.mono (by omega)) O_is_curve_poly F_cInit
  have K_cPrime := ok_cPrime (P := P) (w := w) (base := bs) T F_cPrime
  have K_cPoly := ok_cPoly (P := P) (w := w) (base := bs) T F_cPoly
  have K_least_parts := ok_least_parts (k := 5) (P := P) (w := w) (base := bs) T O_common_of (O_whole_part.mono (by omega)) (O_inverse.mono (by omega)) (O_scaled.mono (by omega)) F_least_parts
  have O_least_parts : Own P w K mg bs 6 "least_parts" ["p", "top", "side", "bottom"] _ := ⟨_, _, K_least_parts, m_least_parts, F_least_parts.kp, b_least_parts⟩
  have O_MC : MC P w K mg bs 1 Cc := ⟨⟨_, _, K_cPrime, M_cPrime, b_cPrime⟩, ⟨_, _, K_cPoly, M_cPoly, b_cPoly⟩⟩
  have K_fInit := ok_fInit (k := 6) (P := P) (w := w) (base := bs) T (O_check_poly.mono (by omega)) (O_MC.mono (by omega)) O_least_parts F_fInit
  have K_fCurve := ok_fCurve (P := P) (w := w) (base := bs) T F_fCurve
  have K_fTop := ok_fTop (P := P) (w := w) (base := bs) T F_fTop
  have K_fSide := ok_fSide (P := P) (w := w) (base := bs) T F_fSide
  have K_fBottom := ok_fBottom (P := P) (w := w) (base := bs) T F_fBottom
  have O_FUN : OFun P w K mg bs 8 Cc Cf := ⟨_, _, _, Nat.le_refl _, ⟨c_Function.mak, M_fInit.at_, M_fInit.fn, c_Function.kp⟩, K_fInit, c_Function.at_, b_fInit⟩
  have K_made := ok_made (k := 8) (P := P) (w := w) (base := bs) T O_FUN (O_MC.mono (by omega)) (O_least_parts.mono (by omega)) F_made
  have O_made : Own P w K mg bs 9 "made" ["curve", "top", "side", "bottom"] _ := ⟨_, _, K_made, m_made, F_made.kp, b_made⟩
  have O_MF : MF P w K mg bs 1 Cf := ⟨⟨_, _, K_fCurve, M_fCurve, b_fCurve⟩, ⟨_, _, K_fTop, M_fTop, b_fTop⟩, ⟨_, _, K_fSide, M_fSide, b_fSide⟩, ⟨_, _, K_fBottom, M_fBottom, b_fBottom⟩⟩
  have K_parts_of := ok_parts_of (k := 1) (P := P) (w := w) (base := bs) T O_MC O_MF F_parts_of
  have O_parts_of : Own P w K mg bs 2 "parts_of" ["function"] _ := ⟨_, _, K_parts_of, m_parts_of, F_parts_of.kp, b_parts_of⟩
  have K_check_function := ok_check_function (P := P) (w := w) (base := bs) T F_check_function
  have O_check_function : Own P w K mg bs 1 "check_function" ["function"] _ := ⟨_, _, K_check_function, m_check_function, F_check_function.kp, b_check_function⟩
  have K_every := ok_every (k := 1) (P := P) (w := w) (base := bs) T.bu O_trimmed F_every
  have O_every : Own P w K mg bs 2 "every" ["p", "poly", "first"] _ := ⟨_, _, K_every, m_every, F_every.kp, b_every⟩
  have K_tops_over := ok_tops_over (k := 3) (P := P) (w := w) (base := bs) (O_parts_of.mono (by omega)) O_power_of (O_multiplied.mono (by omega)) F_tops_over
  have O_tops_over : Own P w K mg bs 4 "tops_over" ["function"] _ := ⟨_, _, K_tops_over, m_tops_over, F_tops_over.kp, b_tops_over⟩
  have K_parts_by := ok_parts_by (k := 9) (P := P) (w := w) (base := bs) T (O_parts_of.mono (by omega)) (O_tops_over.mono (by omega)) (O_multiplied.mono (by omega)) (O_every.mono (by omega)) O_made (O_MF.mono (by omega)) F_parts_by
  have O_parts_by : Own P w K mg bs 10 "parts_by" ["function"] _ := ⟨_, _, K_parts_by, m_parts_by, F_parts_by.kp, b_parts_by⟩
  have K_descent_by := ok_descent_by (k := 10) (P := P) (w := w) (base := bs) O_parts_by F_descent_by
  have O_descent_by : Own P w K mg bs 11 "descent_by" ["function"] _ := ⟨_, _, K_descent_by, m_descent_by, F_descent_by.kp, b_descent_by⟩
  have K_stretched := ok_stretched (k := 0) (P := P) (w := w) (base := bs) T.bu F_stretched
  have O_stretched : Own P w K mg bs 1 "stretched" ["p", "poly"] _ := ⟨_, _, K_stretched, m_stretched, F_stretched.kp, b_stretched⟩
  have K_ltrim := ok_ltrim (P := P) (w := w) (base := bs) T.bu F_ltrim
  have O_ltrim : Own P w K mg bs 1 "_law_trim" ["p", "numbers"] _ := ⟨_, _, K_ltrim, m_ltrim, F_ltrim.kp, b_ltrim⟩
  have K_lplus := ok_lplus (k := 1) (P := P) (w := w) (base := bs) T.bu O_ltrim F_lplus
  have O_lplus : Own P w K mg bs 2 "_law_plus" ["p", "one", "other"] _ := ⟨_, _, K_lplus, m_lplus, F_lplus.kp, b_lplus⟩
  have K_lscaled := ok_lscaled (k := 1) (P := P) (w := w) (base := bs) T.bu O_ltrim F_lscaled
  have O_lscaled : Own P w K mg bs 2 "_law_scaled" ["p", "one", "number"] _ := ⟨_, _, K_lscaled, m_lscaled, F_lscaled.kp, b_lscaled⟩
  have K_ltimes := ok_ltimes (k := 1) (P := P) (w := w) (base := bs) T.bu O_ltrim F_ltimes
  have O_ltimes : Own P w K mg bs 2 "_law_times" ["p", "one", "other"] _ := ⟨_, _, K_ltimes, m_ltimes, F_ltimes.kp, b_ltimes⟩
  have K_lback := ok_lback (P := P) (w := w) (base := bs) T.bu F_lback
  have O_lback : Own P w K mg bs 1 "_law_back" ["p", "number"] _ := ⟨_, _, K_lback, m_lback, F_lback.kp, b_lback⟩
  have K_lparted := ok_lparted (k := 1) (P := P) (w := w) (base := bs) T.bu O_ltrim O_lback F_lparted
  have O_lparted : Own P w K mg bs 2 "_law_parted" ["p", "one", "other"] _ := ⟨_, _, K_lparted, m_lparted, F_lparted.kp, b_lparted⟩
  have K_lrest := ok_lrest (k := 2) (P := P) (w := w) (base := bs) O_lparted F_lrest
  have O_lrest : Own P w K mg bs 3 "_law_rest" ["p", "one", "other"] _ := ⟨_, _, K_lrest, m_lrest, F_lrest.kp, b_lrest⟩
  have K_lcommon := ok_lcommon (k := 3) (P := P) (w := w) (base := bs) T.bu O_lrest (O_lback.mono (by omega)) (O_lscaled.mono (by omega)) F_lcommon
  have O_lcommon : Own P w K mg bs 4 "_law_common" ["p", "one", "other"] _ := ⟨_, _, K_lcommon, m_lcommon, F_lcommon.kp, b_lcommon⟩
  have K_lsimple := ok_lsimple (k := 4) (P := P) (w := w) (base := bs) T.bu (O_ltrim.mono (by omega)) O_lcommon F_lsimple
  have O_lsimple : Own P w K mg bs 5 "_law_simple" ["p", "f"] _ := ⟨_, _, K_lsimple, m_lsimple, F_lsimple.kp, b_lsimple⟩
  have K_lpower := ok_lpower (k := 2) (P := P) (w := w) (base := bs) T.bu O_ltimes F_lpower
  have O_lpower : Own P w K mg bs 3 "_law_power" ["p", "one", "count"] _ := ⟨_, _, K_lpower, m_lpower, F_lpower.kp, b_lpower⟩
  have K_lshown := ok_lshown (k := 1) (P := P) (w := w) (base := bs) T O_MF F_lshown
  have O_lshown : Own P w K mg bs 2 "_law_shown" ["function"] _ := ⟨_, _, K_lshown, m_lshown, F_lshown.kp, b_lshown⟩
  have K_lleast := ok_lleast (k := 4) (P := P) (w := w) (base := bs) T O_lcommon (O_lparted.mono (by omega)) (O_lback.mono (by omega)) (O_lscaled.mono (by omega)) F_lleast
  have O_lleast : Own P w K mg bs 5 "_law_least" ["p", "parts"] _ := ⟨_, _, K_lleast, m_lleast, F_lleast.kp, b_lleast⟩
  have K_lhash := ok_lhash (P := P) (w := w) (base := bs) T.bu F_lhash
  have O_lhash : Own P w K mg bs 1 "_law_hash" ["seed", "index"] _ := ⟨_, _, K_lhash, m_lhash, F_lhash.kp, b_lhash⟩
  have K_lrandom := ok_lrandom (k := 1) (P := P) (w := w) (base := bs) T.bu O_lhash F_lrandom
  have O_lrandom : Own P w K mg bs 2 "_law_random" ["generator", "bound"] _ := ⟨_, _, K_lrandom, m_lrandom, F_lrandom.kp, b_lrandom⟩
  have K_lcell := ok_lcell (P := P) (w := w) (base := bs) T.bu F_lcell
  have O_lcell : Own P w K mg bs 1 "_law_cell" ["script", "index"] _ := ⟨_, _, K_lcell, m_lcell, F_lcell.kp, b_lcell⟩
  have K_lgen := ok_lgen (k := 1) (P := P) (w := w) (base := bs) T.bu O_lcell F_lgen
  have O_lgen : Own P w K mg bs 2 "_law_generator" ["script", "index"] _ := ⟨_, _, K_lgen, m_lgen, F_lgen.kp, b_lgen⟩
  have K_lcurve := ok_lcurve (k := 5) (P := P) (w := w) (base := bs) T.bu (O_lrandom.mono (by omega)) (O_ltimes.mono (by omega)) O_lsimple F_lcurve
  have O_lcurve : Own P w K mg bs 6 "_law_curve" ["generator"] _ := ⟨_, _, K_lcurve, m_lcurve, F_lcurve.kp, b_lcurve⟩
  have K_cEq2 := ok_cEq2 (P := P) (w := w) (base := bs) T F_cEq2
  have O_CEQ : OwnE P w K mg bs 1 Cc ["self", "other"] (Cv.f_cEq Cc) := ⟨_, _, K_cEq2, M_cEq2.at_, M_cEq2.fn, b_cEq2⟩
  have K_fEq := ok_fEq (k := 1) (P := P) (w := w) (base := bs) T O_CEQ F_fEq
  have K_is_nought := ok_is_nought (k := 1) (P := P) (w := w) (base := bs) T O_MF F_is_nought
  have O_is_nought : Own P w K mg bs 2 "is_nought" ["function"] _ := ⟨_, _, K_is_nought, m_is_nought, F_is_nought.kp, b_is_nought⟩
  have K_lmultiplied := ok_lmultiplied (k := 2) (P := P) (w := w) (base := bs) O_ltimes O_lplus F_lmultiplied
  have O_lmultiplied : Own P w K mg bs 3 "_law_multiplied" ["p", "f", "one", "other"] _ := ⟨_, _, K_lmultiplied, m_lmultiplied, F_lmultiplied.kp, b_lmultiplied⟩
  have K_lless := ok_lless (k := 2) (P := P) (w := w) (base := bs) O_lplus O_lscaled F_lless
  have O_lless : Own P w K mg bs 3 "_law_less" ["p", "one", "other"] _ := ⟨_, _, K_lless, m_lless, F_lless.kp, b_lless⟩
  have K_lfall := ok_lfall (k := 1) (P := P) (w := w) (base := bs) T.bu O_ltrim F_lfall
  have O_lfall : Own P w K mg bs 2 "_law_fall" ["p", "one"] _ := ⟨_, _, K_lfall, m_lfall, F_lfall.kp, b_lfall⟩
  have K_ladded := ok_ladded (k := 2) (P := P) (w := w) (base := bs) T.bu O_ltimes O_lplus O_lscaled F_ladded
  have O_ladded : Own P w K mg bs 3 "_law_added" ["p", "one", "other", "number"] _ := ⟨_, _, K_ladded, m_ladded, F_ladded.kp, b_ladded⟩
  have K_lslope := ok_lslope (k := 3) (P := P) (w := w) (base := bs) (O_ltimes.mono (by omega)) (O_lplus.mono (by omega)) (O_lscaled.mono (by omega)) O_lless (O_lfall.mono (by omega)) F_lslope
  have O_lslope : Own P w K mg bs 4 "_law_slope" ["p", "f", "parts"] _ := ⟨_, _, K_lslope, m_lslope, F_lslope.kp, b_lslope⟩
  have K_raised_source := ok_raised_source (k := 1) (P := P) (w := w) (base := bs) T.bu O_inverse O_trimmed F_raised_source
  have O_raised_source : Own P w K mg bs 2 "raised_source" ["p", "poly"] _ := ⟨_, _, K_raised_source, m_raised_source, F_raised_source.kp, b_raised_source⟩
  have K_slope_source := ok_slope_source (k := 11) (P := P) (w := w) (base := bs) T (O_is_nought.mono (by omega)) O_descent_by (O_parts_of.mono (by omega)) (O_raised_source.mono (by omega)) (O_tops_over.mono (by omega)) (O_power_of.mono (by omega)) (O_multiplied.mono (by omega)) (O_stretched.mono (by omega)) (O_made.mono (by omega)) (O_MF.mono (by omega)) F_slope_source
  have O_slope_source : Own P w K mg bs 12 "slope_source" ["function"] _ := ⟨_, _, K_slope_source, m_slope_source, F_slope_source.kp, b_slope_source⟩
  have K_whose_slope := ok_whose_slope (k := 12) (P := P) (w := w) (base := bs) (O_check_function.mono (by omega)) O_slope_source F_whose_slope
  have O_whose_slope : Own P w K mg bs 13 "whose_slope" ["one"] _ := ⟨_, _, K_whose_slope, m_whose_slope, F_whose_slope.kp, b_whose_slope⟩
  have K_lowered := ok_lowered (k := 3) (P := P) (w := w) (base := bs) (O_multiplied.mono (by omega)) (O_added.mono (by omega)) O_lessened (O_scaled.mono (by omega)) (O_slope_of.mono (by omega)) O_whole_part (O_inverse.mono (by omega)) F_lowered
  have O_lowered : Own P w K mg bs 4 "lowered" ["p", "f", "told", "here"] _ := ⟨_, _, K_lowered, m_lowered, F_lowered.kp, b_lowered⟩
  have O_FEQ : OwnE P w K mg bs 2 Cf ["self", "other"] (Cv.f_fEq Cc Cf) := ⟨_, _, K_fEq, M_fEq.at_, M_fEq.fn, b_fEq⟩
  have K_divided_source := ok_divided_source (k := 11) (P := P) (w := w) (base := bs) T (O_FEQ.mono (by omega)) O_descent_by (O_parts_of.mono (by omega)) (O_whole_part.mono (by omega)) (O_common_of.mono (by omega)) (O_multiplied.mono (by omega)) (O_lowered.mono (by omega)) (O_power_of.mono (by omega)) (O_made.mono (by omega)) (O_MF.mono (by omega)) F_divided_source
  have O_divided_source : Own P w K mg bs 12 "divided_source" ["function"] _ := ⟨_, _, K_divided_source, m_divided_source, F_divided_source.kp, b_divided_source⟩
  have K_whose_div := ok_whose_div (k := 12) (P := P) (w := w) (base := bs) (O_check_function.mono (by omega)) O_divided_source F_whose_div
  have O_whose_div : Own P w K mg bs 13 "whose_divided_slope" ["one"] _ := ⟨_, _, K_whose_div, m_whose_div, F_whose_div.kp, b_whose_div⟩
  have K_lwritten := ok_lwritten (k := 3) (P := P) (w := w) (base := bs) O_lpower (O_ltimes.mono (by omega)) F_lwritten
  have O_lwritten : Own P w K mg bs 4 "_law_written" ["p", "f", "parts"] _ := ⟨_, _, K_lwritten, m_lwritten, F_lwritten.kp, b_lwritten⟩
  have K_ltaken := ok_ltaken (k := 1) (P := P) (w := w) (base := bs) O_ltrim F_ltaken
  have O_ltaken : Own P w K mg bs 2 "_law_taken" ["p", "written", "first"] _ := ⟨_, _, K_ltaken, m_ltaken, F_ltaken.kp, b_ltaken⟩
  have K_lsame := ok_lsame (k := 2) (P := P) (w := w) (base := bs) T.bu O_ltimes F_lsame
  have O_lsame : Own P w K mg bs 3 "_law_same" ["p", "one", "other"] _ := ⟨_, _, K_lsame, m_lsame, F_lsame.kp, b_lsame⟩
  have K_lsource := ok_lsource (k := 4) (P := P) (w := w) (base := bs) T.bu O_lwritten (O_lback.mono (by omega)) (O_ltrim.mono (by omega)) F_lsource
  have O_lsource : Own P w K mg bs 5 "_law_source" ["p", "f", "parts"] _ := ⟨_, _, K_lsource, m_lsource, F_lsource.kp, b_lsource⟩
  have K_ldivided := ok_ldivided (k := 5) (P := P) (w := w) (base := bs) (O_lslope.mono (by omega)) (O_ltimes.mono (by omega)) (O_lless.mono (by omega)) (O_lscaled.mono (by omega)) (O_lmultiplied.mono (by omega)) O_lleast F_ldivided
  have O_ldivided : Own P w K mg bs 6 "_law_divided" ["p", "f", "parts"] _ := ⟨_, _, K_ldivided, m_ldivided, F_ldivided.kp, b_ldivided⟩
  have K_lslr := ok_lslr (k := 13) (P := P) (w := w) (base := bs) T (O_MF.mono (by omega)) (O_FUN.mono (by omega)) (O_lwritten.mono (by omega)) (O_ltaken.mono (by omega)) O_whose_slope (O_lshown.mono (by omega)) (O_lsource.mono (by omega)) (O_lpower.mono (by omega)) (O_ltimes.mono (by omega)) (O_CEQ.mono (by omega)) F_lslr
  have O_lslr : Own P w K mg bs 14 "_law_slopes_right" ["p", "f", "curve", "parts"] _ := ⟨_, _, K_lslr, m_lslr, F_lslr.kp, b_lslr⟩
  have K_ldr := ok_ldr (k := 13) (P := P) (w := w) (base := bs) T (O_MF.mono (by omega)) (O_FUN.mono (by omega)) (O_lwritten.mono (by omega)) (O_ltaken.mono (by omega)) O_whose_div (O_lshown.mono (by omega)) (O_lsame.mono (by omega)) (O_lslope.mono (by omega)) (O_lmultiplied.mono (by omega)) (O_ltimes.mono (by omega)) (O_CEQ.mono (by omega)) F_ldr
  have O_ldr : Own P w K mg bs 14 "_law_divided_right" ["p", "f", "curve", "parts"] _ := ⟨_, _, K_ldr, m_ldr, F_ldr.kp, b_ldr⟩
  have K_ldrawn := ok_ldrawn (k := 5) (P := P) (w := w) (base := bs) T.bu (O_ltrim.mono (by omega)) (O_lrandom.mono (by omega)) O_lleast F_ldrawn
  have O_ldrawn : Own P w K mg bs 6 "_law_drawn" ["generator", "p", "f"] _ := ⟨_, _, K_ldrawn, m_ldrawn, F_ldrawn.kp, b_ldrawn⟩
  have O_CUR : OwnC P w K mg bs 8 "Curve" Cc ["self", "p", "f"] Cv.f_cInit := ⟨_, _, _, Nat.le_refl _, ⟨c_Curve.mak, M_cInit.at_, M_cInit.fn, c_Curve.kp⟩, K_cInit, c_Curve.at_, b_cInit⟩
  have K_llaw := ok_llaw (k := 14) (P := P) (w := w) (base := bs) T (O_lgen.mono (by omega)) (O_lcurve.mono (by omega)) (O_CUR.mono (by omega)) (O_lrandom.mono (by omega)) (O_ldrawn.mono (by omega)) (O_lleast.mono (by omega)) (O_lslope.mono (by omega)) (O_ldivided.mono (by omega)) (O_ladded.mono (by omega)) O_lslr O_ldr F_llaw
  exact K_llaw
end Cv
end
open PySem PySem.W PyProof.Rows
set_option Elab.async false
set_option linter.all false
set_option maxRecDepth 100000
set_option maxHeartbeats 0 in
theorem PySem.Challenge.cw_curveheads_k83_whole_slopes_over_all_pri_holds : PySem.Challenge.rw_curveheads_k83_whole_slopes_over_all_pri.Holds := by
  w_on; o_law; k_head; (case hw => w_witness2)
  k_fill
  refine Cv.walk_G (l := PySem.Challenge.rw_curveheads_k83_whole_slopes_over_all_pri) (k := 15) (x := "script") rfl (by decide) rfl ⟨rfl, by decide, by decide⟩ (fun w h Y => PySem.W.kIn_of Y) ?F
  case F =>
    intro w mg fa h KX G hmg
    refine' Cv.with_none "len" KX G ?u_a fun z_len => ?_; (case u_a => k_is)
    refine' Cv.with_none "max" KX G ?u_a fun z_max => ?_; (case u_a => k_is)
    refine' Cv.with_none "int" KX G ?u_a fun z_int => ?_; (case u_a => k_is)
    refine' Cv.with_none "bool" KX G ?u_a fun z_bool => ?_; (case u_a => k_is)
    refine' Cv.with_none "list" KX G ?u_a fun z_list => ?_; (case u_a => k_is)
    refine' Cv.with_none "isinstance" KX G ?u_a fun z_isi => ?_; (case u_a => k_is)
    refine' Cv.with_none "range" KX G ?u_a fun z_range => ?_; (case u_a => k_is)
    refine' Cv.with_none "enumerate" KX G ?u_a fun z_enum => ?_; (case u_a => k_is)
    refine' Cv.with_none "zip" KX G ?u_a fun z_zip => ?_; (case u_a => k_is)
    refine' Cv.with_none "repr" KX G ?u_a fun z_repr => ?_; (case u_a => k_is)
    refine' Cv.with_none "sum" KX G ?u_a fun z_sum => ?_; (case u_a => k_is)
    refine' Cv.with_none "min" KX G ?u_a fun z_min => ?_; (case u_a => k_is)
    refine' Cv.with_none "abs" KX G ?u_a fun z_abs => ?_; (case u_a => k_is)
    refine' Cv.with_most KX G ?u_a fun z_most => ?_; (case u_a => k_is)
    refine' Cv.with_primes KX G ?u_a ?u_l fun z_primes z_seq => ?_; (case u_a => k_is); (case u_l => k_is)
    refine' Cv.with_cf "Curve" "_prime" "_polynomial" KX G ?u_a ?u_p ?u_d ?u_o ?u_s ?u_m ?u_k ?u_c1 ?u_c2 ?u_c3 ?u_c4 ?u_f1 ?u_f2 fun c_Curve => ?_
    (case u_a => k_is); (case u_p => k_is); (case u_d => k_is); (case u_o => k_is); (case u_s => k_is); (case u_m => k_is); (case u_k => k_is); (case u_c1 => k_is); (case u_c2 => k_is); (case u_c3 => k_is); (case u_c4 => k_is); (case u_f1 => k_is); (case u_f2 => k_is)
    refine' Cv.with_cf "Function" "_curve" "_parts" KX G ?u_a ?u_p ?u_d ?u_o ?u_s ?u_m ?u_k ?u_c1 ?u_c2 ?u_c3 ?u_c4 ?u_f1 ?u_f2 fun c_Function => ?_
    (case u_a => k_is); (case u_p => k_is); (case u_d => k_is); (case u_o => k_is); (case u_s => k_is); (case u_m => k_is); (case u_k => k_is); (case u_c1 => k_is); (case u_c2 => k_is); (case u_c3 => k_is); (case u_c4 => k_is); (case u_f1 => k_is); (case u_f2 => k_is)
    refine' Cv.with_dfA "trimmed" "trimmed" "trimmed" Cv.s_trimmed KX G ?u_a ?u_l ?u_c ?u_k fun d_trimmed => ?_; (case u_a => k_is); (case u_l => k_is); (case u_c => k_is); (case u_k => k_is)
    refine' Cv.with_dfA "inverse" "inverse" "inverse" Cv.s_inverse KX G ?u_a ?u_l ?u_c ?u_k fun d_inverse => ?_; (case u_a => k_is); (case u_l => k_is); (case u_c => k_is); (case u_k => k_is)
    refine' Cv.with_dfA "added" "added" "added" Cv.s_added KX G ?u_a ?u_l ?u_c ?u_k fun d_added => ?_; (case u_a => k_is); (case u_l => k_is); (case u_c => k_is); (case u_k => k_is)
    refine' Cv.with_dfA "negated" "negated" "negated" Cv.s_negated KX G ?u_a ?u_l ?u_c ?u_k fun d_negated => ?_; (case u_a => k_is); (case u_l => k_is); (case u_c => k_is); (case u_k => k_is)
    refine' Cv.with_dfA "scaled" "scaled" "scaled" Cv.s_scaled KX G ?u_a ?u_l ?u_c ?u_k fun d_scaled => ?_; (case u_a => k_is); (case u_l => k_is); (case u_c => k_is); (case u_k => k_is)
    refine' Cv.with_dfA "lessened" "lessened" "lessened" Cv.s_lessened KX G ?u_a ?u_l ?u_c ?u_k fun d_lessened => ?_; (case u_a => k_is); (case u_l => k_is); (case u_c => k_is); (case u_k => k_is)
    refine' Cv.with_dfA "multiplied" "multiplied" "multiplied" Cv.s_multiplied KX G ?u_a ?u_l ?u_c ?u_k fun d_multiplied => ?_; (case u_a => k_is); (case u_l => k_is); (case u_c => k_is); (case u_k => k_is)
    refine' Cv.with_dfA "power_of" "power_of" "power_of" Cv.s_power_of KX G ?u_a ?u_l ?u_c ?u_k fun d_power_of => ?_; (case u_a => k_is); (case u_l => k_is); (case u_c => k_is); (case u_k => k_is)
    refine' Cv.with_dfA "parted" "parted" "parted" Cv.s_parted KX G ?u_a ?u_l ?u_c ?u_k fun d_parted => ?_; (case u_a => k_is); (case u_l => k_is); (case u_c => k_is); (case u_k => k_is)
    refine' Cv.with_dfA "whole_part" "whole_part" "whole_part" Cv.s_whole_part KX G ?u_a ?u_l ?u_c ?u_k fun d_whole_part => ?_; (case u_a => k_is); (case u_l => k_is); (case u_c => k_is); (case u_k => k_is)
    refine' Cv.with_dfA "common_with" "common_with" "common_with" Cv.s_common_with KX G ?u_a ?u_l ?u_c ?u_k fun d_common_with => ?_; (case u_a => k_is); (case u_l => k_is); (case u_c => k_is); (case u_k => k_is)
    refine' Cv.with_dfA "common_of" "common_of" "common_of" Cv.s_common_of KX G ?u_a ?u_l ?u_c ?u_k fun d_common_of => ?_; (case u_a => k_is); (case u_l => k_is); (case u_c => k_is); (case u_k => k_is)
    refine' Cv.with_dfA "slope_of" "slope_of" "slope_of" Cv.s_slope_of KX G ?u_a ?u_l ?u_c ?u_k fun d_slope_of => ?_; (case u_a => k_is); (case u_l => k_is); (case u_c => k_is); (case u_k => k_is)
    refine' Cv.with_dfA "is_whole" "is_whole" "is_whole" Cv.s_is_whole KX G ?u_a ?u_l ?u_c ?u_k fun d_is_whole => ?_; (case u_a => k_is); (case u_l => k_is); (case u_c => k_is); (case u_k => k_is)
    refine' Cv.with_dfA "is_between" "is_between" "is_between" Cv.s_is_between KX G ?u_a ?u_l ?u_c ?u_k fun d_is_between => ?_; (case u_a => k_is); (case u_l => k_is); (case u_c => k_is); (case u_k => k_is)
    refine' Cv.with_dfA "check_prime" "check_prime" "check_prime" Cv.s_check_prime KX G ?u_a ?u_l ?u_c ?u_k fun d_check_prime => ?_; (case u_a => k_is); (case u_l => k_is); (case u_c => k_is); (case u_k => k_is)
    refine' Cv.with_dfA "is_poly_list" "is_poly_list" "is_poly_list" Cv.s_is_poly_list KX G ?u_a ?u_l ?u_c ?u_k fun d_is_poly_list => ?_; (case u_a => k_is); (case u_l => k_is); (case u_c => k_is); (case u_k => k_is)
    refine' Cv.with_dfA "check_poly" "check_poly" "check_poly" Cv.s_check_poly KX G ?u_a ?u_l ?u_c ?u_k fun d_check_poly => ?_; (case u_a => k_is); (case u_l => k_is); (case u_c => k_is); (case u_k => k_is)
    refine' Cv.with_dfA "is_curve_poly" "is_curve_poly" "is_curve_poly" Cv.s_is_curve_poly KX G ?u_a ?u_l ?u_c ?u_k fun d_is_curve_poly => ?_; (case u_a => k_is); (case u_l => k_is); (case u_c => k_is); (case u_k => k_is)
    refine' Cv.with_dm "__init__" "Curve.__init__" Cv.s_cInit c_Curve ?u_a ?u_i ?u_l ?u_c ?u_k fun d_cInit => ?_; (case u_a => k_is); (case u_i => k_is); (case u_l => k_is); (case u_c => k_is); (case u_k => k_is)
    refine' Cv.with_dm "prime" "Curve.prime" Cv.s_cPrime c_Curve ?u_a ?u_i ?u_l ?u_c ?u_k fun d_cPrime => ?_; (case u_a => k_is); (case u_i => k_is); (case u_l => k_is); (case u_c => k_is); (case u_k => k_is)
    refine' Cv.with_dm "polynomial" "Curve.polynomial" Cv.s_cPoly c_Curve ?u_a ?u_i ?u_l ?u_c ?u_k fun d_cPoly => ?_; (case u_a => k_is); (case u_i => k_is); (case u_l => k_is); (case u_c => k_is); (case u_k => k_is)
    refine' Cv.with_dfA "least_parts" "least_parts" "least_parts" Cv.s_least_parts KX G ?u_a ?u_l ?u_c ?u_k fun d_least_parts => ?_; (case u_a => k_is); (case u_l => k_is); (case u_c => k_is); (case u_k => k_is)
    refine' Cv.with_dm "__init__" "Function.__init__" Cv.s_fInit c_Function ?u_a ?u_i ?u_l ?u_c ?u_k fun d_fInit => ?_; (case u_a => k_is); (case u_i => k_is); (case u_l => k_is); (case u_c => k_is); (case u_k => k_is)
    refine' Cv.with_dm "curve" "Function.curve" Cv.s_fCurve c_Function ?u_a ?u_i ?u_l ?u_c ?u_k fun d_fCurve => ?_; (case u_a => k_is); (case u_i => k_is); (case u_l => k_is); (case u_c => k_is); (case u_k => k_is)
    refine' Cv.with_dm "top" "Function.top" Cv.s_fTop c_Function ?u_a ?u_i ?u_l ?u_c ?u_k fun d_fTop => ?_; (case u_a => k_is); (case u_i => k_is); (case u_l => k_is); (case u_c => k_is); (case u_k => k_is)
    refine' Cv.with_dm "side" "Function.side" Cv.s_fSide c_Function ?u_a ?u_i ?u_l ?u_c ?u_k fun d_fSide => ?_; (case u_a => k_is); (case u_i => k_is); (case u_l => k_is); (case u_c => k_is); (case u_k => k_is)
    refine' Cv.with_dm "bottom" "Function.bottom" Cv.s_fBottom c_Function ?u_a ?u_i ?u_l ?u_c ?u_k fun d_fBottom => ?_; (case u_a => k_is); (case u_i => k_is); (case u_l => k_is); (case u_c => k_is); (case u_k => k_is)
    refine' Cv.with_dfA "made" "made" "made" Cv.s_made KX G ?u_a ?u_l ?u_c ?u_k fun d_made => ?_; (case u_a => k_is); (case u_l => k_is); (case u_c => k_is); (case u_k => k_is)
    refine' Cv.with_dfA "parts_of" "parts_of" "parts_of" Cv.s_parts_of KX G ?u_a ?u_l ?u_c ?u_k fun d_parts_of => ?_; (case u_a => k_is); (case u_l => k_is); (case u_c => k_is); (case u_k => k_is)
    refine' Cv.with_dfA "check_function" "check_function" "check_function" Cv.s_check_function KX G ?u_a ?u_l ?u_c ?u_k fun d_check_function => ?_; (case u_a => k_is); (case u_l => k_is); (case u_c => k_is); (case u_k => k_is)
    refine' Cv.with_dfA "every" "every" "every" Cv.s_every KX G ?u_a ?u_l ?u_c ?u_k fun d_every => ?_; (case u_a => k_is); (case u_l => k_is); (case u_c => k_is); (case u_k => k_is)
    refine' Cv.with_dfA "tops_over" "tops_over" "tops_over" Cv.s_tops_over KX G ?u_a ?u_l ?u_c ?u_k fun d_tops_over => ?_; (case u_a => k_is); (case u_l => k_is); (case u_c => k_is); (case u_k => k_is)
    refine' Cv.with_dfA "parts_by" "parts_by" "parts_by" Cv.s_parts_by KX G ?u_a ?u_l ?u_c ?u_k fun d_parts_by => ?_; (case u_a => k_is); (case u_l => k_is); (case u_c => k_is); (case u_k => k_is)
    refine' Cv.with_dfA "descent_by" "descent_by" "descent_by" Cv.s_descent_by KX G ?u_a ?u_l ?u_c ?u_k fun d_descent_by => ?_; (case u_a => k_is); (case u_l => k_is); (case u_c => k_is); (case u_k => k_is)
    refine' Cv.with_dfA "stretched" "stretched" "stretched" Cv.s_stretched KX G ?u_a ?u_l ?u_c ?u_k fun d_stretched => ?_; (case u_a => k_is); (case u_l => k_is); (case u_c => k_is); (case u_k => k_is)
    refine' Cv.with_dfA "_law_trim" "_law_trim" "_law_trim" Cv.s_ltrim KX G ?u_a ?u_l ?u_c ?u_k fun d_ltrim => ?_; (case u_a => k_is); (case u_l => k_is); (case u_c => k_is); (case u_k => k_is)
    refine' Cv.with_dfA "_law_plus" "_law_plus" "_law_plus" Cv.s_lplus KX G ?u_a ?u_l ?u_c ?u_k fun d_lplus => ?_; (case u_a => k_is); (case u_l => k_is); (case u_c => k_is); (case u_k => k_is)
    refine' Cv.with_dfA "_law_scaled" "_law_scaled" "_law_scaled" Cv.s_lscaled KX G ?u_a ?u_l ?u_c ?u_k fun d_lscaled => ?_; (case u_a => k_is); (case u_l => k_is); (case u_c => k_is); (case u_k => k_is)
    refine' Cv.with_dfA "_law_times" "_law_times" "_law_times" Cv.s_ltimes KX G ?u_a ?u_l ?u_c ?u_k fun d_ltimes => ?_; (case u_a => k_is); (case u_l => k_is); (case u_c => k_is); (case u_k => k_is)
    refine' Cv.with_dfA "_law_back" "_law_back" "_law_back" Cv.s_lback KX G ?u_a ?u_l ?u_c ?u_k fun d_lback => ?_; (case u_a => k_is); (case u_l => k_is); (case u_c => k_is); (case u_k => k_is)
    refine' Cv.with_dfA "_law_parted" "_law_parted" "_law_parted" Cv.s_lparted KX G ?u_a ?u_l ?u_c ?u_k fun d_lparted => ?_; (case u_a => k_is); (case u_l => k_is); (case u_c => k_is); (case u_k => k_is)
    refine' Cv.with_dfA "_law_rest" "_law_rest" "_law_rest" Cv.s_lrest KX G ?u_a ?u_l ?u_c ?u_k fun d_lrest => ?_; (case u_a => k_is); (case u_l => k_is); (case u_c => k_is); (case u_k => k_is)
    refine' Cv.with_dfA "_law_common" "_law_common" "_law_common" Cv.s_lcommon KX G ?u_a ?u_l ?u_c ?u_k fun d_lcommon => ?_; (case u_a => k_is); (case u_l => k_is); (case u_c => k_is); (case u_k => k_is)
    refine' Cv.with_dfA "_law_simple" "_law_simple" "_law_simple" Cv.s_lsimple KX G ?u_a ?u_l ?u_c ?u_k fun d_lsimple => ?_; (case u_a => k_is); (case u_l => k_is); (case u_c => k_is); (case u_k => k_is)
    refine' Cv.with_dfA "_law_power" "_law_power" "_law_power" Cv.s_lpower KX G ?u_a ?u_l ?u_c ?u_k fun d_lpower => ?_; (case u_a => k_is); (case u_l => k_is); (case u_c => k_is); (case u_k => k_is)
    refine' Cv.with_dfA "_law_shown" "_law_shown" "_law_shown" Cv.s_lshown KX G ?u_a ?u_l ?u_c ?u_k fun d_lshown => ?_; (case u_a => k_is); (case u_l => k_is); (case u_c => k_is); (case u_k => k_is)
    refine' Cv.with_dfA "_law_least" "_law_least" "_law_least" Cv.s_lleast KX G ?u_a ?u_l ?u_c ?u_k fun d_lleast => ?_; (case u_a => k_is); (case u_l => k_is); (case u_c => k_is); (case u_k => k_is)
    refine' Cv.with_dfA "_law_hash" "_law_hash" "_law_hash" Cv.s_lhash KX G ?u_a ?u_l ?u_c ?u_k fun d_lhash => ?_; (case u_a => k_is); (case u_l => k_is); (case u_c => k_is); (case u_k => k_is)
    refine' Cv.with_dfA "_law_random" "_law_random" "_law_random" Cv.s_lrandom KX G ?u_a ?u_l ?u_c ?u_k fun d_lrandom => ?_; (case u_a => k_is); (case u_l => k_is); (case u_c => k_is); (case u_k => k_is)
    refine' Cv.with_dfA "_law_cell" "_law_cell" "_law_cell" Cv.s_lcell KX G ?u_a ?u_l ?u_c ?u_k fun d_lcell => ?_; (case u_a => k_is); (case u_l => k_is); (case u_c => k_is); (case u_k => k_is)
    refine' Cv.with_dfA "_law_generator" "_law_generator" "_law_generator" Cv.s_lgen KX G ?u_a ?u_l ?u_c ?u_k fun d_lgen => ?_; (case u_a => k_is); (case u_l => k_is); (case u_c => k_is); (case u_k => k_is)
    refine' Cv.with_dfA "_law_curve" "_law_curve" "_law_curve" Cv.s_lcurve KX G ?u_a ?u_l ?u_c ?u_k fun d_lcurve => ?_; (case u_a => k_is); (case u_l => k_is); (case u_c => k_is); (case u_k => k_is)
    refine' Cv.with_dm "__eq__" "Curve.__eq__" Cv.s_cEq c_Curve ?u_a ?u_i ?u_l ?u_c ?u_k fun d_cEq2 => ?_; (case u_a => k_is); (case u_i => k_is); (case u_l => k_is); (case u_c => k_is); (case u_k => k_is)
    refine' Cv.with_dm "__eq__" "Function.__eq__" Cv.s_fEq c_Function ?u_a ?u_i ?u_l ?u_c ?u_k fun d_fEq => ?_; (case u_a => k_is); (case u_i => k_is); (case u_l => k_is); (case u_c => k_is); (case u_k => k_is)
    refine' Cv.with_dfA "is_nought" "is_nought" "is_nought" Cv.s_is_nought KX G ?u_a ?u_l ?u_c ?u_k fun d_is_nought => ?_; (case u_a => k_is); (case u_l => k_is); (case u_c => k_is); (case u_k => k_is)
    refine' Cv.with_dfA "_law_multiplied" "_law_multiplied" "_law_multiplied" Cv.s_lmultiplied KX G ?u_a ?u_l ?u_c ?u_k fun d_lmultiplied => ?_; (case u_a => k_is); (case u_l => k_is); (case u_c => k_is); (case u_k => k_is)
    refine' Cv.with_dfA "_law_less" "_law_less" "_law_less" Cv.s_lless KX G ?u_a ?u_l ?u_c ?u_k fun d_lless => ?_; (case u_a => k_is); (case u_l => k_is); (case u_c => k_is); (case u_k => k_is)
    refine' Cv.with_dfA "_law_fall" "_law_fall" "_law_fall" Cv.s_lfall KX G ?u_a ?u_l ?u_c ?u_k fun d_lfall => ?_; (case u_a => k_is); (case u_l => k_is); (case u_c => k_is); (case u_k => k_is)
    refine' Cv.with_dfA "_law_added" "_law_added" "_law_added" Cv.s_ladded KX G ?u_a ?u_l ?u_c ?u_k fun d_ladded => ?_; (case u_a => k_is); (case u_l => k_is); (case u_c => k_is); (case u_k => k_is)
    refine' Cv.with_dfA "_law_slope" "_law_slope" "_law_slope" Cv.s_lslope KX G ?u_a ?u_l ?u_c ?u_k fun d_lslope => ?_; (case u_a => k_is); (case u_l => k_is); (case u_c => k_is); (case u_k => k_is)
    refine' Cv.with_dfA "raised_source" "raised_source" "raised_source" Cv.s_raised_source KX G ?u_a ?u_l ?u_c ?u_k fun d_raised_source => ?_; (case u_a => k_is); (case u_l => k_is); (case u_c => k_is); (case u_k => k_is)
    refine' Cv.with_dfA "slope_source" "slope_source" "slope_source" Cv.s_slope_source KX G ?u_a ?u_l ?u_c ?u_k fun d_slope_source => ?_; (case u_a => k_is); (case u_l => k_is); (case u_c => k_is); (case u_k => k_is)
    refine' Cv.with_dfA "whose_slope" "whose_slope" "whose_slope" Cv.s_whose_slope KX G ?u_a ?u_l ?u_c ?u_k fun d_whose_slope => ?_; (case u_a => k_is); (case u_l => k_is); (case u_c => k_is); (case u_k => k_is)
    refine' Cv.with_dfA "lowered" "lowered" "lowered" Cv.s_lowered KX G ?u_a ?u_l ?u_c ?u_k fun d_lowered => ?_; (case u_a => k_is); (case u_l => k_is); (case u_c => k_is); (case u_k => k_is)
    refine' Cv.with_dfA "divided_source" "divided_source" "divided_source" Cv.s_divided_source KX G ?u_a ?u_l ?u_c ?u_k fun d_divided_source => ?_; (case u_a => k_is); (case u_l => k_is); (case u_c => k_is); (case u_k => k_is)
    refine' Cv.with_dfA "whose_divided_slope" "whose_divided_slope" "whose_divided_slope" Cv.s_whose_div KX G ?u_a ?u_l ?u_c ?u_k fun d_whose_div => ?_; (case u_a => k_is); (case u_l => k_is); (case u_c => k_is); (case u_k => k_is)
    refine' Cv.with_dfA "_law_written" "_law_written" "_law_written" Cv.s_lwritten KX G ?u_a ?u_l ?u_c ?u_k fun d_lwritten => ?_; (case u_a => k_is); (case u_l => k_is); (case u_c => k_is); (case u_k => k_is)
    refine' Cv.with_dfA "_law_taken" "_law_taken" "_law_taken" Cv.s_ltaken KX G ?u_a ?u_l ?u_c ?u_k fun d_ltaken => ?_; (case u_a => k_is); (case u_l => k_is); (case u_c => k_is); (case u_k => k_is)
    refine' Cv.with_dfA "_law_same" "_law_same" "_law_same" Cv.s_lsame KX G ?u_a ?u_l ?u_c ?u_k fun d_lsame => ?_; (case u_a => k_is); (case u_l => k_is); (case u_c => k_is); (case u_k => k_is)
    refine' Cv.with_dfA "_law_source" "_law_source" "_law_source" Cv.s_lsource KX G ?u_a ?u_l ?u_c ?u_k fun d_lsource => ?_; (case u_a => k_is); (case u_l => k_is); (case u_c => k_is); (case u_k => k_is)
    refine' Cv.with_dfA "_law_divided" "_law_divided" "_law_divided" Cv.s_ldivided KX G ?u_a ?u_l ?u_c ?u_k fun d_ldivided => ?_; (case u_a => k_is); (case u_l => k_is); (case u_c => k_is); (case u_k => k_is)
    refine' Cv.with_dfA "_law_slopes_right" "_law_slopes_right" "_law_slopes_right" Cv.s_lslr KX G ?u_a ?u_l ?u_c ?u_k fun d_lslr => ?_; (case u_a => k_is); (case u_l => k_is); (case u_c => k_is); (case u_k => k_is)
    refine' Cv.with_dfA "_law_divided_right" "_law_divided_right" "_law_divided_right" Cv.s_ldr KX G ?u_a ?u_l ?u_c ?u_k fun d_ldr => ?_; (case u_a => k_is); (case u_l => k_is); (case u_c => k_is); (case u_k => k_is)
    refine' Cv.with_dfA "_law_drawn" "_law_drawn" "_law_drawn" Cv.s_ldrawn KX G ?u_a ?u_l ?u_c ?u_k fun d_ldrawn => ?_; (case u_a => k_is); (case u_l => k_is); (case u_c => k_is); (case u_k => k_is)
    refine' Cv.with_dfA "law" "law" "law" Cv.s_llaw KX G ?u_a ?u_l ?u_c ?u_k fun d_llaw => ?_; (case u_a => k_is); (case u_l => k_is); (case u_c => k_is); (case u_k => k_is)
    exact Cv.all_law hmg z_len z_max z_int z_bool z_list z_isi z_range z_enum z_zip z_repr z_sum z_min z_abs z_most z_primes z_seq c_Curve c_Function d_trimmed d_inverse d_added d_negated d_scaled d_lessened d_multiplied d_power_of d_parted d_whole_part d_common_with d_common_of d_slope_of d_is_whole d_is_between d_check_prime d_is_poly_list d_check_poly d_is_curve_poly d_cInit d_cPrime d_cPoly d_least_parts d_fInit d_fCurve d_fTop d_fSide d_fBottom d_made d_parts_of d_check_function d_every d_tops_over d_parts_by d_descent_by d_stretched d_ltrim d_lplus d_lscaled d_ltimes d_lback d_lparted d_lrest d_lcommon d_lsimple d_lpower d_lshown d_lleast d_lhash d_lrandom d_lcell d_lgen d_lcurve d_cEq2 d_fEq d_is_nought d_lmultiplied d_lless d_lfall d_ladded d_lslope d_raised_source d_slope_source d_whose_slope d_lowered d_divided_source d_whose_div d_lwritten d_ltaken d_lsame d_lsource d_ldivided d_lslr d_ldr d_ldrawn d_llaw
