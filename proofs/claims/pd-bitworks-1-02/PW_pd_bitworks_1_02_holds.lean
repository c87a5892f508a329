import PyProof.Rows.All
import Wide.All
import OpenK.AllK
import Wide.FinOn
import PySem.Challenge.RW_pd_bitworks_1_02
open PySem PySem.W PyProof.Rows
set_option Elab.async false
set_option maxRecDepth 100000
namespace Mine

/-- one step by bits, on any natural number -/
def step (c : Nat) : Nat := if c % 2 = 1 then (c / 2) ^^^ 3988292384 else c / 2
def steps : Nat → Nat → Nat
  | 0, c => c
  | n + 1, c => steps n (step c)
def eight (c : Nat) : Nat := steps 8 c

theorem step_xor (x y : Nat) : step (x ^^^ y) = step x ^^^ step y := by
  unfold step
  have h1 : (x ^^^ y) / 2 = x / 2 ^^^ y / 2 := Nat.xor_div_two
  have h2 := @Nat.xor_mod_two_eq_one x y
  by_cases hx : x % 2 = 1 <;> by_cases hy : y % 2 = 1
  · rw [if_neg (by simp [h2, hx, hy]), if_pos hx, if_pos hy, h1]
    apply Nat.eq_of_testBit_eq; intro i; simp only [Nat.testBit_xor]
    cases Nat.testBit (x/2) i <;> cases Nat.testBit (y/2) i <;> cases Nat.testBit 3988292384 i <;> rfl
  · rw [if_pos (by simp [h2, hx, hy]), if_pos hx, if_neg hy, h1]
    apply Nat.eq_of_testBit_eq; intro i; simp only [Nat.testBit_xor]
    cases Nat.testBit (x/2) i <;> cases Nat.testBit (y/2) i <;> cases Nat.testBit 3988292384 i <;> rfl
  · rw [if_pos (by simp [h2, hx, hy]), if_neg hx, if_pos hy, h1]
    apply Nat.eq_of_testBit_eq; intro i; simp only [Nat.testBit_xor]
    cases Nat.testBit (x/2) i <;> cases Nat.testBit (y/2) i <;> cases Nat.testBit 3988292384 i <;> rfl
  · rw [if_neg (by simp [h2, hx, hy]), if_neg hx, if_neg hy, h1]

theorem steps_xor : ∀ (n x y : Nat), steps n (x ^^^ y) = steps n x ^^^ steps n y
  | 0, _, _ => rfl
  | n + 1, x, y => by simp only [steps]; rw [step_xor, steps_xor n]

theorem step_double (y : Nat) : step (2 * y) = y := by
  unfold step
  rw [if_neg (by omega)]; omega

theorem steps_shift : ∀ (n y : Nat), steps n (2 ^ n * y) = y
  | 0, y => by simp [steps]
  | n + 1, y => by
    have e : 2 ^ (n + 1) * y = 2 * (2 ^ n * y) := by rw [Nat.pow_succ, Nat.mul_comm (2 ^ n) 2, Nat.mul_assoc]
    simp only [steps]; rw [e, step_double, steps_shift n]

theorem steps_add : ∀ (m n c : Nat), steps (m + n) c = steps n (steps m c)
  | 0, n, c => by simp [steps]
  | m + 1, n, c => by
    have e : m + 1 + n = (m + n) + 1 := by omega
    rw [e]; simp only [steps]; rw [steps_add m n]

theorem step_lt {c : Nat} (h : c < 2 ^ 32) : step c < 2 ^ 32 := by
  unfold step
  split
  · exact Nat.xor_lt_two_pow (by omega) (by omega)
  · omega
theorem steps_lt : ∀ (n : Nat) {c : Nat}, c < 2 ^ 32 → steps n c < 2 ^ 32
  | 0, _, h => h
  | n + 1, _, h => steps_lt n (step_lt h)

theorem xor_eq_zero {a b : Nat} (h : a ^^^ b = 0) : a = b := by
  apply Nat.eq_of_testBit_eq; intro i
  have h2 := congrArg (fun z => Nat.testBit z i) h
  simp only [Nat.testBit_xor, Nat.zero_testBit] at h2
  revert h2; cases Nat.testBit a i <;> cases Nat.testBit b i <;> simp

theorem step_ne {c : Nat} (h : c < 2 ^ 32) (h0 : c ≠ 0) : step c ≠ 0 := by
  unfold step
  split
  · intro h1
    have := xor_eq_zero h1
    omega
  · omega
theorem steps_ne : ∀ (n : Nat) {c : Nat}, c < 2 ^ 32 → c ≠ 0 → steps n c ≠ 0
  | 0, _, _, h0 => h0
  | n + 1, _, h, h0 => steps_ne n (step_lt h) (step_ne h h0)

/-- the low byte and the rest -/
theorem split_xor (k x : Nat) : (x % 2 ^ k) ^^^ (2 ^ k * (x / 2 ^ k)) = x := by
  apply Nat.eq_of_testBit_eq; intro i
  rw [Nat.testBit_xor, Nat.testBit_mod_two_pow, Nat.testBit_two_pow_mul, Nat.testBit_div_two_pow]
  by_cases h : i < k
  · simp [h, Nat.not_le.mpr h]
  · have h' : k ≤ i := by omega
    simp [h, h', Nat.sub_add_cancel h']

theorem steps_split (k x : Nat) : steps k x = steps k (x % 2 ^ k) ^^^ (x / 2 ^ k) := by
  conv => lhs; rw [← split_xor k x]
  rw [steps_xor, steps_shift]

/-- a list of bytes as one number, the first lowest -/
def num : List Nat → Nat
  | [] => 0
  | b :: r => b ^^^ (2 ^ 8 * num r)

def crcFold (c : Nat) (bs : List Nat) : Nat := bs.foldl (fun c b => eight (c ^^^ b)) c

theorem crcFold_eq : ∀ (bs : List Nat) (c : Nat), crcFold c bs = steps (8 * bs.length) (c ^^^ num bs)
  | [], c => by simp [crcFold, num, steps]
  | b :: r, c => by
    have e : 8 * (b :: r).length = 8 + 8 * r.length := by simp only [List.length_cons]; omega
    have ih := crcFold_eq r (eight (c ^^^ b))
    simp only [crcFold, List.foldl_cons] at ih ⊢
    rw [ih, e, steps_add, num, ← Nat.xor_assoc, steps_xor 8, steps_shift]
    rfl

theorem num_lt : ∀ {bs : List Nat}, (∀ b ∈ bs, b < 256) → num bs < 2 ^ (8 * bs.length)
  | [], _ => by simp [num]
  | b :: r, h => by
    have hb := h b (.head _)
    have hr := num_lt (bs := r) (fun x hx => h x (.tail _ hx))
    have e : 8 * (b :: r).length = 8 * r.length + 8 := by simp only [List.length_cons]; omega
    rw [num, e]
    apply Nat.xor_lt_two_pow
    · exact Nat.lt_of_lt_of_le (show b < 2 ^ 8 by omega) (Nat.pow_le_pow_right (by decide) (by omega))
    · rw [Nat.pow_add, Nat.mul_comm]
      exact Nat.mul_lt_mul_of_pos_right hr (by decide)

theorem crcFold_lt {bs : List Nat} {c : Nat} (hc : c < 2 ^ 32) (hb : ∀ b ∈ bs, b < 256) : crcFold c bs < 2 ^ 32 := by
  induction bs generalizing c with
  | nil => exact hc
  | cons b r ih =>
    simp only [crcFold, List.foldl_cons]
    apply ih
    · exact steps_lt 8 (Nat.xor_lt_two_pow hc (Nat.lt_of_lt_of_le (hb b (.head _)) (by decide)))
    · exact fun x hx => hb x (.tail _ hx)

end Mine

namespace Mine

/-- the n lowest bits of V as ints, the lowest first -/
def bitsOf (n V : Nat) : List Int := (List.range n).map fun j => if V.testBit j then 1 else 0

theorem bitsOf_length (n V : Nat) : (bitsOf n V).length = n := by simp [bitsOf]
theorem bitsOf_get? {n V j : Nat} (h : j < n) : (bitsOf n V)[j]? = some (if V.testBit j then 1 else 0) := by
  simp [bitsOf, h]
theorem bitsOf_getD {n V j : Nat} (h : j < n) : (bitsOf n V).getD j 0 = if V.testBit j then 1 else 0 := by
  rw [List.getD_eq_getElem?_getD, bitsOf_get? h]; rfl
theorem bitsOf_getD_div {n V j : Nat} (h : j < n) : (bitsOf n V).getD j 0 = ((V / 2 ^ j % 2 : Nat) : Int) := by
  rw [bitsOf_getD h, Nat.testBit_eq_decide_div_mod_eq]
  have := Nat.mod_two_eq_zero_or_one (V / 2 ^ j)
  by_cases e : V / 2 ^ j % 2 = 1
  · simp [e]
  · have e0 : V / 2 ^ j % 2 = 0 := by omega
    simp [e0]

theorem bitsOf_congr {n V W : Nat} (h : ∀ j, j < n → V.testBit j = W.testBit j) : bitsOf n V = bitsOf n W := by
  unfold bitsOf
  apply List.map_congr_left
  intro j hj
  rw [h j (List.mem_range.mp hj)]

theorem bitsOf_set {n V j : Nat} (h : j < n) : (bitsOf n V).set j (1 - (bitsOf n V).getD j 0) = bitsOf n (V ^^^ 2 ^ j) := by
  rw [bitsOf_getD h]
  apply List.ext_getElem
  · simp [bitsOf]
  · intro i h1 h2
    rw [List.length_set, bitsOf_length] at h1
    rw [List.getElem_set]
    simp only [bitsOf, List.getElem_map, List.getElem_range, Nat.testBit_xor, Nat.testBit_two_pow]
    by_cases e : j = i
    · subst e
      cases V.testBit j <;> simp
    · simp [e]

theorem bitsOf_add (m n V : Nat) : bitsOf (m + n) V = bitsOf m V ++ bitsOf n (V / 2 ^ m) := by
  apply List.ext_getElem
  · simp [bitsOf]
  · intro i h1 h2
    rw [bitsOf_length] at h1
    rw [List.getElem_append]
    simp only [bitsOf, List.getElem_map, List.getElem_range, List.length_map, List.length_range, Nat.testBit_div_two_pow]
    by_cases hm : i < m
    · rw [dif_pos hm]
    · rw [dif_neg hm, Nat.sub_add_cancel (by omega)]

theorem bitsOf_low {m V : Nat} (W : Nat) : bitsOf m (V ^^^ 2 ^ m * W) = bitsOf m V := by
  apply bitsOf_congr
  intro j hj
  simp [Nat.testBit_xor, Nat.testBit_two_pow_mul, Nat.not_le.mpr hj]

theorem xor_high {m V : Nat} (h : V < 2 ^ m) (W : Nat) : (V ^^^ 2 ^ m * W) / 2 ^ m = W := by
  apply Nat.eq_of_testBit_eq; intro i
  rw [Nat.testBit_div_two_pow, Nat.testBit_xor, Nat.testBit_two_pow_mul, Nat.testBit_lt_two_pow (x := V) (i := i + m) (Nat.lt_of_lt_of_le h (Nat.pow_le_pow_right (by decide) (by omega)))]
  simp

theorem bitsOf_join {m n V : Nat} (h : V < 2 ^ m) (W : Nat) : bitsOf m V ++ bitsOf n W = bitsOf (m + n) (V ^^^ 2 ^ m * W) := by
  rw [bitsOf_add, bitsOf_low, xor_high h]

theorem bitsOf_zero (n : Nat) : bitsOf n 0 = List.replicate n 0 := by
  apply List.ext_getElem
  · simp [bitsOf]
  · intro i h1 h2
    simp [bitsOf]

theorem bitsOf_zeros {m V : Nat} (h : V < 2 ^ m) (n : Nat) : bitsOf m V ++ List.replicate n 0 = bitsOf (m + n) V := by
  rw [← bitsOf_zero, bitsOf_join h]; simp

theorem mask_succ (k : Nat) : (2 ^ k - 1) ^^^ 2 ^ k = 2 ^ (k + 1) - 1 := by
  apply Nat.eq_of_testBit_eq; intro i
  rw [Nat.testBit_xor, Nat.testBit_two_pow_sub_one, Nat.testBit_two_pow_sub_one, Nat.testBit_two_pow]
  by_cases h1 : i < k
  · simp [h1, show i < k + 1 by omega, show k ≠ i by omega]
  · by_cases h2 : k = i
    · subst h2; simp
    · simp [h1, h2, show ¬ i < k + 1 by omega]

theorem num_append : ∀ (bs : List Nat) (b : Nat), num (bs ++ [b]) = num bs ^^^ 2 ^ (8 * bs.length) * b
  | [], b => by simp [num]
  | a :: r, b => by
    have e : 2 ^ (8 * (a :: r).length) = 2 ^ 8 * 2 ^ (8 * r.length) := by rw [← Nat.pow_add]; congr 1; simp only [List.length_cons]; omega
    rw [List.cons_append, num, num, num_append r b, e, Nat.mul_assoc, Nat.xor_assoc]
    congr 1
    apply Nat.eq_of_testBit_eq; intro i
    simp only [Nat.testBit_xor, Nat.testBit_two_pow_mul]
    by_cases h : 8 ≤ i <;> simp [h]

/-- the polynomial, all 33 of its bits -/
def poly : Nat := 2 * 3988292384 + 1
def divStep (i V : Nat) : Nat := if V.testBit i then V ^^^ 2 ^ i * poly else V

theorem xor_shift (i V W : Nat) : (V ^^^ 2 ^ i * W) / 2 ^ i = V / 2 ^ i ^^^ W := by
  apply Nat.eq_of_testBit_eq; intro j
  simp [Nat.testBit_div_two_pow, Nat.testBit_xor, Nat.testBit_two_pow_mul]

theorem divStep_high (i V : Nat) : divStep i V / 2 ^ (i + 1) = step (V / 2 ^ i) := by
  have e1 : ∀ X : Nat, X / 2 ^ (i + 1) = X / 2 ^ i / 2 := by intro X; rw [Nat.pow_succ, Nat.div_div_eq_div_mul]
  have e2 : V.testBit i = decide (V / 2 ^ i % 2 = 1) := Nat.testBit_eq_decide_div_mod_eq
  unfold divStep step
  rw [e2]
  by_cases h : V / 2 ^ i % 2 = 1
  · simp only [h, decide_true, if_true, e1, xor_shift]
    rw [Nat.xor_div_two]
    congr 1
  · simp only [h, decide_false, if_false, e1]
    simp

theorem steps_succ' : ∀ (n c : Nat), steps (n + 1) c = step (steps n c)
  | 0, _ => rfl
  | n + 1, c => by rw [steps, steps_succ' n (step c)]; rfl

/-- the division, place by place -/
def divs : Nat → Nat → Nat
  | 0, V => V
  | n + 1, V => divStep n (divs n V)
theorem divs_high : ∀ (n V : Nat), divs n V / 2 ^ n = steps n V
  | 0, V => by simp [divs, steps]
  | n + 1, V => by rw [divs, divStep_high, divs_high n, steps_succ']

end Mine

namespace Mine
open PySem

theorem nat_or_and (m : Nat) : ∀ n : Nat, (m ||| n) = (m ^^^ n) + (m &&& n) := by
  induction m using Nat.strongRecOn with
  | ind m ih =>
    intro n
    by_cases h0 : m = 0
    · subst h0; simp
    · have ih' := ih (m / 2) (by omega) (n / 2)
      rw [← Nat.or_div_two, ← Nat.and_div_two, ← Nat.xor_div_two] at ih'
      have o1 := @Nat.or_mod_two_eq_one m n
      have a1 := @Nat.and_mod_two_eq_one m n
      have x1 := @Nat.xor_mod_two_eq_one m n
      omega

theorem and_nat (a b : Nat) : Builtin.bitAnd (a : Int) (b : Int) = ((a &&& b : Nat) : Int) := by
  simp [Builtin.bitAnd]
theorem or_nat (a b : Nat) : Builtin.bitOr (a : Int) (b : Int) = ((a ||| b : Nat) : Int) := by
  have h1 : ¬ (0 ≤ Builtin.bitNot (a : Int)) := by unfold Builtin.bitNot; omega
  have h2 : ¬ (0 ≤ Builtin.bitNot (b : Int)) := by unfold Builtin.bitNot; omega
  have e : ∀ x : Int, Builtin.bitNot (Builtin.bitNot x) = x := by intro x; unfold Builtin.bitNot; omega
  simp [Builtin.bitOr, Builtin.bitAnd, h1, h2, e]
theorem xor_nat (a b : Nat) : Builtin.bitXor (a : Int) (b : Int) = ((a ^^^ b : Nat) : Int) := by
  unfold Builtin.bitXor
  rw [or_nat, and_nat]
  have := nat_or_and a b
  omega
theorem xor_int_nat {x y : Int} (hx : 0 ≤ x) (hy : 0 ≤ y) : Builtin.bitXor x y = ((x.toNat ^^^ y.toNat : Nat) : Int) := by
  have e1 : x = ((x.toNat : Nat) : Int) := by omega
  have e2 : y = ((y.toNat : Nat) : Int) := by omega
  conv => lhs; rw [e1, e2]
  exact xor_nat _ _
theorem fdiv_nat (a k : Nat) : Int.fdiv (a : Int) (2 ^ k) = ((a / 2 ^ k : Nat) : Int) := by
  have h : (2 : Int) ^ k = ((2 ^ k : Nat) : Int) := by simp
  rw [h, Int.fdiv_eq_ediv_of_nonneg _ (Int.natCast_nonneg _), Int.natCast_ediv]
theorem and_one (a : Nat) : Builtin.bitAnd (a : Int) 1 = ((a % 2 : Nat) : Int) := by
  have h := and_nat a 1
  rw [Nat.and_one_is_mod] at h
  exact h
theorem and_255 (a : Nat) : Builtin.bitAnd (a : Int) 255 = ((a % 256 : Nat) : Int) := by
  have h := and_nat a 255
  rw [show 255 = 2 ^ 8 - 1 from rfl, Nat.and_two_pow_sub_one_eq_mod] at h
  exact h

/-- the program's step, as its own operations say it -/
def stepI (c : Int) : Int := if Builtin.bitAnd c 1 = 1 then Builtin.bitXor (c.fdiv (2 ^ 1)) 3988292384 else c.fdiv (2 ^ 1)
theorem stepI_nat (c : Nat) : stepI (c : Int) = ((step c : Nat) : Int) := by
  unfold stepI step
  rw [and_one, fdiv_nat]
  have h2 := xor_nat (c / 2 ^ 1) 3988292384
  have h3 : Builtin.bitXor ((c / 2 ^ 1 : Nat) : Int) 3988292384 = ((c / 2 ^ 1 ^^^ 3988292384 : Nat) : Int) := h2
  rw [h3]
  by_cases h : c % 2 = 1
  · rw [if_pos (by omega), if_pos h]
  · rw [if_neg (by omega), if_neg h]

/-- what crc32_eight_steps gives -/
def eightI (c : Int) : Int := stepI (stepI (stepI (stepI (stepI (stepI (stepI (stepI c)))))))
theorem eightI_nat (c : Nat) : eightI (c : Int) = ((eight c : Nat) : Int) := by
  unfold eightI
  simp only [stepI_nat]
  rfl

theorem mask_low (x : Nat) (k : Nat) : (x : Int) % (2 ^ k) = ((x % 2 ^ k : Nat) : Int) := by simp
/-- what inverted(c, 32) gives -/
theorem inv_eq {c : Int} (h0 : 0 ≤ c) (h1 : c < 2 ^ 32) : Builtin.bitAnd (Builtin.bitNot c) 4294967295 = 4294967295 - c := by
  have hn : ¬ (0 ≤ Builtin.bitNot c) := by unfold Builtin.bitNot; omega
  have e : Builtin.bitNot (Builtin.bitNot c) = c := by unfold Builtin.bitNot; omega
  have hc : c.toNat < 2 ^ 32 := by omega
  have e2 : (4294967295 &&& c.toNat : Nat) = c.toNat := by
    rw [Nat.and_comm, show 4294967295 = 2 ^ 32 - 1 from rfl, Nat.and_two_pow_sub_one_eq_mod, Nat.mod_eq_of_lt hc]
  simp only [Builtin.bitAnd, hn, e, decide_false, show (decide ((0 : Int) ≤ 4294967295)) = true from rfl]
  have e3 : (4294967295 : Int).toNat = 4294967295 := rfl
  rw [e3, e2]
  omega

end Mine

namespace Mine
open PySem

theorem mul_two_pow_xor (k a b : Nat) : 2 ^ k * (a ^^^ b) = 2 ^ k * a ^^^ 2 ^ k * b := by
  apply Nat.eq_of_testBit_eq; intro i
  simp only [Nat.testBit_xor, Nat.testBit_two_pow_mul]
  by_cases h : k ≤ i <;> simp [h]

theorem num_set : ∀ (l : List Nat) (j t : Nat), j < l.length → num (l.set j (l.getD j 0 ^^^ t)) = num l ^^^ 2 ^ (8 * j) * t
  | [], _, _, h => absurd h (Nat.not_lt_zero _)
  | a :: r, 0, t, _ => by
    simp only [List.set_cons_zero, List.getD_cons_zero, num, Nat.mul_zero, Nat.pow_zero, Nat.one_mul]
    rw [Nat.xor_assoc, Nat.xor_assoc, Nat.xor_comm t]
  | a :: r, j + 1, t, h => by
    have ih := num_set r j t (Nat.lt_of_succ_lt_succ h)
    have e : 8 * (j + 1) = 8 + 8 * j := by omega
    simp only [List.set_cons_succ, List.getD_cons_succ, num]
    rw [ih, mul_two_pow_xor, e, Nat.pow_add, Nat.mul_assoc, Nat.xor_assoc]

theorem num_zeros : ∀ n : Nat, num (List.replicate n 0) = 0
  | 0 => rfl
  | n + 1 => by rw [List.replicate_succ, num, num_zeros n]; rfl

theorem num_one {n j t : Nat} (h : j < n) : num ((List.replicate n 0).set j t) = 2 ^ (8 * j) * t := by
  have := num_set (List.replicate n 0) j t (by simpa using h)
  rw [num_zeros] at this
  simpa [List.getD_eq_getElem?_getD, h] using this

theorem byte_add {b : Nat} (h : b < 256) (x : Nat) : b ^^^ 2 ^ 8 * x = b + 256 * x := by
  have := Nat.two_pow_add_eq_or_of_lt (i := 8) (b := b) (by omega) x
  have h2 : 2 ^ 8 * x ||| b = b ^^^ 2 ^ 8 * x := by
    apply Nat.eq_of_testBit_eq; intro i
    rw [Nat.testBit_or, Nat.testBit_xor, Nat.testBit_two_pow_mul]
    by_cases h8 : 8 ≤ i
    · rw [Nat.testBit_lt_two_pow (x := b) (i := i) (Nat.lt_of_lt_of_le (show b < 2 ^ 8 by omega) (Nat.pow_le_pow_right (by decide) h8))]
      simp
    · simp [h8]
  rw [← h2, ← this]
  omega

/-- four bytes, the lowest first -/
def cut (s : Nat) : List Nat := [s % 256, s / 256 % 256, s / 65536 % 256, s / 16777216 % 256]

theorem num_four {a b c d : Nat} (ha : a < 256) (hb : b < 256) (hc : c < 256) (hd : d < 256) : num [a, b, c, d] = a + 256 * b + 65536 * c + 16777216 * d := by
  simp only [num]
  rw [byte_add hd, byte_add hc, byte_add hb, byte_add ha]
  omega
theorem num_cut {s : Nat} (h : s < 2 ^ 32) : num (cut s) = s := by
  unfold cut
  rw [num_four (by omega) (by omega) (by omega) (by omega)]
  omega
theorem cut_inj {s r : Nat} (hs : s < 2 ^ 32) (hr : r < 2 ^ 32) (h : cut s = cut r) : s = r := by
  rw [← num_cut hs, ← num_cut hr, h]
theorem cut_lt (s : Nat) : ∀ b ∈ cut s, b < 256 := by
  intro b hb
  simp only [cut, List.mem_cons, List.not_mem_nil, or_false] at hb
  omega

theorem xor_cancel {a t : Nat} (h : a ^^^ t = a) : t = 0 := by
  have h2 : a ^^^ (a ^^^ t) = 0 := by rw [h, Nat.xor_self]
  rw [← Nat.xor_assoc, Nat.xor_self, Nat.zero_xor] at h2
  exact h2

/-- the checksum -/
def crc (bs : List Nat) : Nat := 4294967295 - crcFold 4294967295 bs
theorem mask_sub {c : Nat} (h : c < 2 ^ 32) : 4294967295 - c = 4294967295 ^^^ c := by
  have e : c ^^^ (4294967295 - c) = 4294967295 := by
    apply Nat.eq_of_testBit_eq; intro i
    have h1 := Nat.testBit_two_pow_sub_succ (x := c) (n := 32) h i
    have e2 : 4294967295 - c = 2 ^ 32 - (c + 1) := by omega
    rw [Nat.testBit_xor, e2, h1, show (4294967295 : Nat) = 2 ^ 32 - 1 from rfl, Nat.testBit_two_pow_sub_one]
    by_cases hi : i < 32
    · simp [hi]
    · rw [Nat.testBit_lt_two_pow (x := c) (i := i) (Nat.lt_of_lt_of_le h (Nat.pow_le_pow_right (by decide) (by omega)))]
      simp [hi]
  have e3 : c ^^^ (c ^^^ (4294967295 - c)) = c ^^^ 4294967295 := by rw [e]
  rw [← Nat.xor_assoc, Nat.xor_self, Nat.zero_xor] at e3
  rw [e3, Nat.xor_comm]
theorem crc_lt (bs : List Nat) : crc bs < 2 ^ 32 := by unfold crc; omega

theorem crc_xor {as bs : List Nat} (hl : as.length = bs.length) (ha : ∀ b ∈ as, b < 256) (hb : ∀ b ∈ bs, b < 256) : crc as ^^^ crc bs = steps (8 * as.length) (num as ^^^ num bs) := by
  have h1 := crcFold_lt (c := 4294967295) (by decide) ha
  have h2 := crcFold_lt (c := 4294967295) (by decide) hb
  unfold crc
  rw [mask_sub h1, mask_sub h2, crcFold_eq, crcFold_eq, ← hl, ← Nat.xor_assoc, Nat.xor_assoc 4294967295, Nat.xor_comm _ 4294967295, ← Nat.xor_assoc, Nat.xor_self, Nat.zero_xor, ← steps_xor]
  congr 1
  rw [← Nat.xor_assoc, Nat.xor_assoc 4294967295, Nat.xor_comm _ 4294967295, ← Nat.xor_assoc, Nat.xor_self, Nat.zero_xor]

/-- the step by table -/
theorem eight_table {c b : Nat} (hb : b < 256) : eight (c ^^^ b) = eight ((c ^^^ b) % 256) ^^^ c / 2 ^ 8 := by
  have h := steps_split 8 (c ^^^ b)
  have e : (c ^^^ b) / 2 ^ 8 = c / 2 ^ 8 := by
    apply Nat.eq_of_testBit_eq; intro i
    rw [Nat.testBit_div_two_pow, Nat.testBit_div_two_pow, Nat.testBit_xor, Nat.testBit_lt_two_pow (x := b) (i := i + 8) (Nat.lt_of_lt_of_le (show b < 2 ^ 8 by omega) (Nat.pow_le_pow_right (by decide) (by omega)))]
    simp
  rw [e] at h
  exact h

/-- the table -/
def table : List Int := (List.range 256).map fun b => ((eight b : Nat) : Int)
theorem table_length : table.length = 256 := by simp [table]
theorem table_getD {j : Nat} (h : j < 256) : table.getD j 0 = ((eight j : Nat) : Int) := by
  simp [table, List.getD_eq_getElem?_getD, h]

/-- the partial sums of the remainder's bits, turned or not -/
theorem low_succ (U k : Nat) : U % 2 ^ (k + 1) = U % 2 ^ k + 2 ^ k * (U / 2 ^ k % 2) := Nat.mod_pow_succ

theorem divs_get {n k V : Nat} : (divs n V) / 2 ^ (n + k) % 2 = steps n V / 2 ^ k % 2 := by
  rw [Nat.pow_add, ← Nat.div_div_eq_div_mul, divs_high]

end Mine

namespace Mine
open PySem

def Bytes (ns : List Int) : Prop := ∀ b ∈ ns, 0 ≤ b ∧ b < 256
def nats (ns : List Int) : List Nat := ns.map Int.toNat
theorem nats_length (ns : List Int) : (nats ns).length = ns.length := by simp [nats]
theorem nats_append (as bs : List Int) : nats (as ++ bs) = nats as ++ nats bs := by simp [nats]
theorem Bytes.nats {ns : List Int} (h : Bytes ns) : ∀ b ∈ nats ns, b < 256 := by
  intro b hb
  obtain ⟨x, hx, rfl⟩ := List.mem_map.mp hb
  have := h x hx
  omega
theorem Bytes.left {as bs : List Int} (h : Bytes (as ++ bs)) : Bytes as := fun b hb => h b (List.mem_append.mpr (.inl hb))
theorem Bytes.nil : Bytes [] := fun _ h => nomatch h
theorem Bytes.snoc {as : List Int} {b : Int} (h : Bytes as) (h0 : 0 ≤ b) (h1 : b < 256) : Bytes (as ++ [b]) := by
  intro x hx
  rcases List.mem_append.mp hx with hx | hx
  · exact h x hx
  · rw [List.mem_singleton.mp hx]; exact ⟨h0, h1⟩

/-- the register behind the bytes ns -/
def foldI (ns : List Int) : Int := ((crcFold 4294967295 (nats ns) : Nat) : Int)
theorem foldI_nil : foldI [] = 4294967295 := rfl
theorem foldI_nonneg (ns : List Int) : 0 ≤ foldI ns := Int.natCast_nonneg _
theorem foldI_lt {ns : List Int} (h : Bytes ns) : foldI ns < 4294967296 := by
  have := crcFold_lt (c := 4294967295) (by decide) h.nats
  unfold foldI
  omega
theorem foldI_snoc (pre : List Int) {b : Int} (h0 : 0 ≤ b) : foldI (pre ++ [b]) = eightI (Builtin.bitXor (foldI pre) b) := by
  have e : b = ((b.toNat : Nat) : Int) := by omega
  unfold foldI
  rw [nats_append]
  conv => rhs; rw [e, xor_nat, eightI_nat]
  simp [crcFold, nats]
theorem eightI_table {c b : Int} (hc : 0 ≤ c) (h0 : 0 ≤ b) (h1 : b < 256) : Builtin.bitXor (table.getD (Builtin.bitAnd (Builtin.bitXor c b) 255).toNat 0) (c.fdiv (2 ^ 8)) = eightI (Builtin.bitXor c b) := by
  have e : b = ((b.toNat : Nat) : Int) := by omega
  have ec : c = ((c.toNat : Nat) : Int) := by omega
  have hb : b.toNat < 256 := by omega
  rw [e, ec, xor_nat, and_255, fdiv_nat, eightI_nat]
  simp only [Int.toNat_natCast]
  rw [table_getD (Nat.mod_lt _ (by decide)), xor_nat, ← eight_table hb]
theorem foldI_table (pre : List Int) {b : Int} (h0 : 0 ≤ b) (h1 : b < 256) : foldI (pre ++ [b]) = Builtin.bitXor (table.getD (Builtin.bitAnd (Builtin.bitXor (foldI pre) b) 255).toNat 0) ((foldI pre).fdiv (2 ^ 8)) := by
  rw [eightI_table (foldI_nonneg _) h0 h1, foldI_snoc _ h0]
theorem idx_lt (x : Int) : 0 ≤ Builtin.bitAnd x 255 ∧ Builtin.bitAnd x 255 < 256 := by
  by_cases hx : 0 ≤ x
  · have e : x = ((x.toNat : Nat) : Int) := by omega
    rw [e, and_255]; omega
  · have h1 : (255 &&& (Builtin.bitNot x).toNat) ≤ 255 := Nat.and_le_left
    simp only [Builtin.bitAnd, hx, decide_false, show (decide ((0 : Int) ≤ 255)) = true from rfl, show (255 : Int).toNat = 255 from rfl]
    omega

/-- the checksum -/
def crcI (ns : List Int) : Int := ((crc (nats ns) : Nat) : Int)
theorem crcI_inv {ns : List Int} (h : Bytes ns) : Builtin.bitAnd (Builtin.bitNot (foldI ns)) 4294967295 = crcI ns := by
  have h1 := foldI_lt h
  rw [inv_eq (foldI_nonneg _) (by omega)]
  unfold crcI crc
  unfold foldI at h1 ⊢
  omega
theorem crcI_nonneg (ns : List Int) : 0 ≤ crcI ns := Int.natCast_nonneg _
theorem crcI_le (ns : List Int) : crcI ns ≤ 4294967295 := by have := crc_lt (nats ns); unfold crcI; omega
theorem crcI_nil : crcI [] = 0 := by decide

/-- the message's bits -/
def bitsI (ns : List Int) : List Int := bitsOf (8 * ns.length) (num (nats ns))
theorem bitsI_nil : bitsI [] = [] := rfl
theorem bitsI_length (ns : List Int) : (bitsI ns).length = 8 * ns.length := bitsOf_length ..
theorem bitsOf_eight (b : Nat) : bitsOf 8 b = [((b / 2 ^ 0 % 2 : Nat) : Int), ((b / 2 ^ 1 % 2 : Nat) : Int), ((b / 2 ^ 2 % 2 : Nat) : Int), ((b / 2 ^ 3 % 2 : Nat) : Int), ((b / 2 ^ 4 % 2 : Nat) : Int), ((b / 2 ^ 5 % 2 : Nat) : Int), ((b / 2 ^ 6 % 2 : Nat) : Int), ((b / 2 ^ 7 % 2 : Nat) : Int)] := by
  have key : ∀ j, (if b.testBit j then (1 : Int) else 0) = ((b / 2 ^ j % 2 : Nat) : Int) := by
    intro j
    rw [Nat.testBit_eq_decide_div_mod_eq]
    have := Nat.mod_two_eq_zero_or_one (b / 2 ^ j)
    by_cases e : b / 2 ^ j % 2 = 1
    · simp [e]
    · have e0 : b / 2 ^ j % 2 = 0 := by omega
      simp [e0]
  simp only [bitsOf, List.range, List.range.loop, List.map_cons, List.map_nil, key]
theorem bitsI_snoc {pre : List Int} {b : Int} (h : Bytes pre) : bitsI (pre ++ [b]) = bitsI pre ++ bitsOf 8 b.toNat := by
  unfold bitsI
  rw [bitsOf_join]
  · rw [nats_append, show nats [b] = [b.toNat] from rfl, num_append, nats_length]
    congr 1
    simp only [List.length_append, List.length_cons, List.length_nil]; omega
  · have := num_lt h.nats
    rwa [nats_length] at this
theorem bit_and {b : Int} (h0 : 0 ≤ b) (k : Nat) : Builtin.bitAnd (b.fdiv (2 ^ k)) 1 = ((b.toNat / 2 ^ k % 2 : Nat) : Int) := by
  have e : b = ((b.toNat : Nat) : Int) := by omega
  conv => lhs; rw [e, fdiv_nat, and_one]
theorem bit_mod {b : Int} (h0 : 0 ≤ b) (k : Nat) : (b.fdiv (2 ^ k)).fmod 2 = ((b.toNat / 2 ^ k % 2 : Nat) : Int) := by
  have e : b = ((b.toNat : Nat) : Int) := by omega
  conv => lhs; rw [e, fdiv_nat]
  rw [Int.fmod_eq_emod_of_nonneg _ (by decide)]
  omega

/-- the work: the bits, 32 zeros behind, k of the first turned -/
def workI (ns : List Int) (k : Nat) : List Int := bitsOf (8 * ns.length + 32) (num (nats ns) ^^^ (2 ^ k - 1))
theorem num_lt_I {ns : List Int} (h : Bytes ns) : num (nats ns) < 2 ^ (8 * ns.length) := by
  have := num_lt h.nats
  rwa [nats_length] at this
theorem workI_zero {ns : List Int} (h : Bytes ns) : bitsI ns ++ List.replicate 32 0 = workI ns 0 := by
  unfold workI bitsI
  rw [bitsOf_zeros (num_lt_I h)]
  simp
theorem workI_length (ns : List Int) (k : Nat) : (workI ns k).length = 8 * ns.length + 32 := bitsOf_length ..
theorem workI_succ (ns : List Int) {k : Nat} (h : k < 8 * ns.length + 32) : (workI ns k).set k (1 - (workI ns k).getD k 0) = workI ns (k + 1) := by
  unfold workI
  rw [bitsOf_set h, Nat.xor_assoc, mask_succ]

/-- behind i places of the division; turn is 1 or 0 -/
def divI (ns : List Int) (V : Nat) (i : Nat) : List Int := bitsOf (8 * ns.length + 32) (divs i V)

/-- the end: U, the register behind all places -/
theorem rem_bit {n k V : Nat} {m : Nat} (hk : n + k < m) : (bitsOf m (divs n V)).getD (n + k) 0 = ((steps n V / 2 ^ k % 2 : Nat) : Int) := by
  rw [bitsOf_getD_div hk, divs_get]
theorem sum_turned (U k : Nat) : ((2 ^ k - 1 - U % 2 ^ k : Nat) : Int) + (1 - ((U / 2 ^ k % 2 : Nat) : Int)) * 2 ^ k = ((2 ^ (k + 1) - 1 - U % 2 ^ (k + 1) : Nat) : Int) := by
  have h1 := low_succ U k
  have h2 := Nat.mod_lt U (Nat.two_pow_pos k)
  have h3 : (2 : Nat) ^ (k + 1) = 2 * 2 ^ k := by rw [Nat.pow_succ]; omega
  have h4 := Nat.mod_two_eq_zero_or_one (U / 2 ^ k)
  have h5 : ((2 : Int) ^ k) = ((2 ^ k : Nat) : Int) := by simp
  rw [h1, h3, h5]
  have hp := Nat.two_pow_pos k
  generalize 2 ^ k = p at *
  rcases h4 with h | h
  · rw [h]; simp only [Nat.mul_zero, Nat.add_zero]; omega
  · rw [h]; simp only [Nat.mul_one]; omega
theorem sum_plain (U k : Nat) : ((U % 2 ^ k : Nat) : Int) + ((U / 2 ^ k % 2 : Nat) : Int) * 2 ^ k = ((U % 2 ^ (k + 1) : Nat) : Int) := by
  have h1 := low_succ U k
  have h4 := Nat.mod_two_eq_zero_or_one (U / 2 ^ k)
  have h5 : ((2 : Int) ^ k) = ((2 ^ k : Nat) : Int) := by simp
  rw [h1, h5]
  generalize 2 ^ k = p at *
  rcases h4 with h | h
  · rw [h]; simp only [Nat.mul_zero, Nat.add_zero]; omega
  · rw [h]; simp only [Nat.mul_one]; omega
theorem rem_crc {ns : List Int} (h : Bytes ns) : ((2 ^ 32 - 1 - steps (8 * ns.length) (num (nats ns) ^^^ (2 ^ 32 - 1)) % 2 ^ 32 : Nat) : Int) = crcI ns := by
  have h1 := crcFold_eq (nats ns) 4294967295
  have h2 := crcFold_lt (c := 4294967295) (by decide) h.nats
  rw [nats_length, Nat.xor_comm] at h1
  have e : (2 ^ 32 - 1 : Nat) = 4294967295 := rfl
  rw [e, ← h1, Nat.mod_eq_of_lt h2]
  rfl

end Mine

namespace Mine
open PySem

theorem poly_flips (i V : Nat) : V ^^^ 2 ^ i ^^^ 2 ^ (i + 6) ^^^ 2 ^ (i + 9) ^^^ 2 ^ (i + 10) ^^^ 2 ^ (i + 16) ^^^ 2 ^ (i + 20) ^^^ 2 ^ (i + 21) ^^^ 2 ^ (i + 22) ^^^ 2 ^ (i + 24) ^^^ 2 ^ (i + 25) ^^^ 2 ^ (i + 27) ^^^ 2 ^ (i + 28) ^^^ 2 ^ (i + 30) ^^^ 2 ^ (i + 31) ^^^ 2 ^ (i + 32) = V ^^^ 2 ^ i * poly := by
  have e : (2 : Nat) ^ i = 2 ^ i * 1 := by omega
  have h : ∀ k, (2 : Nat) ^ (i + k) = 2 ^ i * 2 ^ k := fun k => Nat.pow_add 2 i k
  rw [h 6, h 9, h 10, h 16, h 20, h 21, h 22, h 24, h 25, h 27, h 28, h 30, h 31, h 32]
  conv => lhs; arg 1; arg 1; arg 1; arg 1; arg 1; arg 1; arg 1; arg 1; arg 1; arg 1; arg 1; arg 1; arg 1; arg 1; arg 2; rw [e]
  simp only [Nat.xor_assoc, ← mul_two_pow_xor]
  congr 1

theorem xor_bit_one {V j : Nat} {n : Nat} (h : j < n) : Builtin.bitXor ((bitsOf n V).getD j 0) 1 = 1 - (bitsOf n V).getD j 0 := by
  rw [bitsOf_getD h]
  cases V.testBit j <;> decide
theorem bit_range {V j : Nat} {n : Nat} (h : j < n) : 0 ≤ (bitsOf n V).getD j 0 ∧ (bitsOf n V).getD j 0 ≤ 1 := by
  rw [bitsOf_getD h]
  cases V.testBit j <;> decide
theorem bit_one {V j : Nat} {n : Nat} (h : j < n) : (bitsOf n V).getD j 0 = 1 ↔ V.testBit j = true := by
  rw [bitsOf_getD h]
  cases V.testBit j <;> decide
end Mine

namespace Mine
open PySem

theorem nats_set (ns : List Int) (i : Nat) (x : Int) : nats (ns.set i x) = (nats ns).set i x.toNat := by simp [nats, List.map_set]
theorem nats_getD (ns : List Int) (i : Nat) : (nats ns).getD i 0 = (ns.getD i 0).toNat := by
  simp only [nats, List.getD_eq_getElem?_getD, List.getElem?_map]
  cases ns[i]? <;> rfl
theorem getD_mem {ns : List Int} {i : Nat} (h : i < ns.length) : ns.getD i 0 ∈ ns := by
  rw [List.getD_eq_getElem?_getD, List.getElem?_eq_getElem h]
  exact List.getElem_mem h
theorem Bytes.getD {ns : List Int} (h : Bytes ns) (i : Nat) : 0 ≤ ns.getD i 0 ∧ ns.getD i 0 < 256 := by
  by_cases hi : i < ns.length
  · exact h _ (getD_mem hi)
  · rw [List.getD_eq_getElem?_getD, List.getElem?_eq_none (by omega)]; decide
theorem Bytes.append {as bs : List Int} (ha : Bytes as) (hb : Bytes bs) : Bytes (as ++ bs) := by
  intro x hx
  rcases List.mem_append.mp hx with hx | hx
  · exact ha x hx
  · exact hb x hx
theorem Bytes.set {ns : List Int} (h : Bytes ns) (i : Nat) {x : Int} (h0 : 0 ≤ x) (h1 : x < 256) : Bytes (ns.set i x) := by
  intro y hy
  rcases List.mem_or_eq_of_mem_set hy with hy | rfl
  · exact h y hy
  · exact ⟨h0, h1⟩
theorem byte_xor {a t : Int} (ha : 0 ≤ a ∧ a < 256) (ht : 0 ≤ t ∧ t < 256) : 0 ≤ Builtin.bitXor a t ∧ Builtin.bitXor a t < 256 ∧ (Builtin.bitXor a t).toNat = a.toNat ^^^ t.toNat := by
  have e1 : a = ((a.toNat : Nat) : Int) := by omega
  have e2 : t = ((t.toNat : Nat) : Int) := by omega
  have h := Nat.xor_lt_two_pow (x := a.toNat) (y := t.toNat) (n := 8) (by omega) (by omega)
  rw [xor_int_nat ha.1 ht.1]
  refine ⟨by omega, by omega, ?_⟩
  simp

/-- one byte bent -/
def bendI (ns : List Int) (i : Nat) (t : Int) : List Int := ns.set i (Builtin.bitXor (ns.getD i 0) t)
theorem bendI_length (ns : List Int) (i : Nat) (t : Int) : (bendI ns i t).length = ns.length := by simp [bendI]
theorem bendI_bytes {ns : List Int} (h : Bytes ns) (i : Nat) {t : Int} (ht : 0 ≤ t ∧ t < 256) : Bytes (bendI ns i t) := by
  have := byte_xor (h.getD i) ht
  exact h.set i this.1 this.2.1
theorem bendI_num {ns : List Int} (h : Bytes ns) {i : Nat} {t : Int} (ht : 0 ≤ t ∧ t < 256) (hi : i < ns.length) : num (nats (bendI ns i t)) = num (nats ns) ^^^ 2 ^ (8 * i) * t.toNat := by
  have := byte_xor (h.getD i) ht
  unfold bendI
  rw [nats_set, this.2.2, ← nats_getD, num_set _ _ _ (by rw [nats_length]; exact hi)]

/-- what the plain division of a message leaves -/
def remI (ns : List Int) : Int := ((steps (8 * ns.length) (num (nats ns)) % 2 ^ 32 : Nat) : Int)

theorem xor_back (a b : Nat) : a ^^^ b ^^^ a = b := by rw [Nat.xor_comm (a ^^^ b), ← Nat.xor_assoc, Nat.xor_self, Nat.zero_xor]

theorem bent_xor {ns : List Int} (h : Bytes ns) {i : Nat} {t : Int} (ht : 0 ≤ t ∧ t < 256) (hi : i < ns.length) : Builtin.bitXor (crcI (bendI ns i t)) (crcI ns) = ((steps (8 * ns.length) (2 ^ (8 * i) * t.toNat) : Nat) : Int) := by
  unfold crcI
  rw [xor_nat, crc_xor (by rw [nats_length, nats_length, bendI_length]) (bendI_bytes h i ht).nats h.nats, bendI_num h ht hi, nats_length, bendI_length, xor_back]

theorem place_lt {n i t : Nat} (hi : i < n) (hn : n ≤ 4) (ht : t < 256) : 2 ^ (8 * i) * t < 2 ^ 32 := by
  have h1 : 2 ^ (8 * i) * t < 2 ^ (8 * i) * 2 ^ 8 := Nat.mul_lt_mul_of_pos_left (by omega) (Nat.two_pow_pos _)
  rw [← Nat.pow_add] at h1
  exact Nat.lt_of_lt_of_le h1 (Nat.pow_le_pow_right (by decide) (by omega))

theorem diff_rem {n i : Nat} {t : Int} (ht : 0 ≤ t ∧ t < 256) (hi : i < n) (hn : n ≤ 4) : remI ((List.replicate n 0).set i t) = ((steps (8 * n) (2 ^ (8 * i) * t.toNat) : Nat) : Int) := by
  have e : nats ((List.replicate n 0).set i t) = (List.replicate n 0).set i t.toNat := by rw [nats_set]; simp [nats]
  unfold remI
  rw [e, num_one hi, List.length_set, List.length_replicate, Nat.mod_eq_of_lt]
  exact steps_lt _ (place_lt hi hn (by omega))

/-- the change of the checksum -/
theorem body_change {ns : List Int} (h : Bytes ns) {i : Nat} {t : Int} (ht : 0 ≤ t ∧ t < 256) (hi : i < ns.length) (hn : ns.length ≤ 4) : Builtin.bitXor (crcI (bendI ns i t)) (crcI ns) = remI ((List.replicate ns.length 0).set i t) := by
  rw [bent_xor h ht hi, diff_rem ht hi hn]
theorem body_ne {ns : List Int} (h : Bytes ns) {i : Nat} {t : Int} (ht : 0 < t ∧ t < 256) (hi : i < ns.length) (hn : ns.length ≤ 4) : crcI (bendI ns i t) ≠ crcI ns := by
  intro e
  have h1 := bent_xor h (i := i) (t := t) ⟨by omega, ht.2⟩ hi
  rw [e] at h1
  unfold crcI at h1
  rw [xor_nat, Nat.xor_self] at h1
  have hp := Nat.two_pow_pos (8 * i)
  exact steps_ne (8 * ns.length) (place_lt (t := t.toNat) hi hn (by omega)) (Nat.ne_of_gt (Nat.mul_pos hp (by omega))) (by omega)

/-- the seal as four bytes -/
def cutI (x : Int) : List Int := (cut x.toNat).map fun b : Nat => (b : Int)
theorem cutI_length (x : Int) : (cutI x).length = 4 := rfl
theorem cutI_bytes (x : Int) : Bytes (cutI x) := by
  intro b hb
  obtain ⟨y, hy, rfl⟩ := List.mem_map.mp hb
  have := cut_lt _ _ hy
  omega
theorem nats_cutI (x : Int) : nats (cutI x) = cut x.toNat := by
  unfold nats cutI
  rw [List.map_map]
  exact (List.map_congr_left (fun b _ => Int.toNat_natCast b)).trans (List.map_id _)
theorem fdiv_pow (x : Nat) (k p : Nat) (e : p = 256 ^ k) : ((x : Int).fdiv (256 ^ k)).fmod 256 = ((x / p % 256 : Nat) : Int) := by
  subst e
  have h : (256 : Int) ^ k = ((256 ^ k : Nat) : Int) := by simp
  rw [h, Int.fdiv_eq_ediv_of_nonneg _ (Int.natCast_nonneg _), Int.fmod_eq_emod_of_nonneg _ (by decide)]
  simp
theorem cutI_eq {x : Int} (h : 0 ≤ x) : [(x.fdiv (256 ^ 0)).fmod 256, (x.fdiv (256 ^ 1)).fmod 256, (x.fdiv (256 ^ 2)).fmod 256, (x.fdiv (256 ^ 3)).fmod 256] = cutI x := by
  have e : x = ((x.toNat : Nat) : Int) := by omega
  rw [e, fdiv_pow _ 0 1 rfl, fdiv_pow _ 1 256 rfl, fdiv_pow _ 2 65536 rfl, fdiv_pow _ 3 16777216 rfl]
  simp [cutI, cut]
theorem cutI_inj {x y : Int} (hx : 0 ≤ x ∧ x ≤ 4294967295) (hy : 0 ≤ y ∧ y ≤ 4294967295) (h : cutI x = cutI y) : x = y := by
  have h1 := congrArg nats h
  rw [nats_cutI, nats_cutI] at h1
  have := cut_inj (s := x.toNat) (r := y.toNat) (by omega) (by omega) h1
  omega

/-- the trailer bent: refused -/
theorem trail_ne {x t : Int} {j : Nat} (ht : 0 < t ∧ t < 256) (hj : j < 4) : cutI x ≠ bendI (cutI x) j t := by
  intro e
  have h1 : num (nats (cutI x)) = num (nats (bendI (cutI x) j t)) := congrArg (fun l => num (nats l)) e
  rw [bendI_num (cutI_bytes x) ⟨by omega, ht.2⟩ (by rw [cutI_length]; exact hj)] at h1
  have h2 := xor_cancel h1.symm
  have hp := Nat.two_pow_pos (8 * j)
  have h3 := Nat.mul_pos hp (show 0 < t.toNat by omega)
  omega

/-- four bytes put together -/
theorem sum_num {ns : List Int} (h : Bytes ns) (hl : ns.length = 4) : ns.getD 0 0 * 256 ^ 0 + ns.getD 1 0 * 256 ^ 1 + ns.getD 2 0 * 256 ^ 2 + ns.getD 3 0 * 256 ^ 3 = ((num (nats ns) : Nat) : Int) := by
  match ns, hl with
  | [a, b, c, d], _ =>
    have ha := h a (by simp)
    have hb := h b (by simp)
    have hc := h c (by simp)
    have hd := h d (by simp)
    have := num_four (a := a.toNat) (b := b.toNat) (c := c.toNat) (d := d.toNat) (by omega) (by omega) (by omega) (by omega)
    show a * 1 + b * 256 + c * 65536 + d * 16777216 = ((num [a.toNat, b.toNat, c.toNat, d.toNat] : Nat) : Int)
    rw [this]
    omega

theorem trail_change {x t : Int} {j : Nat} (hx : 0 ≤ x ∧ x ≤ 4294967295) (ht : 0 ≤ t ∧ t < 256) (hj : j < 4) :
    Builtin.bitXor ((num (nats (bendI (cutI x) j t)) : Nat) : Int) x = ((2 ^ (8 * j) * t.toNat : Nat) : Int) := by
  have e : x = ((x.toNat : Nat) : Int) := by omega
  rw [bendI_num (cutI_bytes x) ht (by rw [cutI_length]; exact hj), nats_cutI, num_cut (by omega)]
  conv => lhs; arg 2; rw [e]
  rw [xor_nat, xor_back]

/-- where the bent byte lies -/
theorem bend_left {as bs : List Int} {i : Nat} (t : Int) (h : i < as.length) : bendI (as ++ bs) i t = bendI as i t ++ bs := by
  unfold bendI
  rw [List.set_append_left _ _ h, List.getD_eq_getElem?_getD, List.getD_eq_getElem?_getD, List.getElem?_append_left h]
theorem bend_right {as bs : List Int} {i : Nat} (t : Int) (h : as.length ≤ i) : bendI (as ++ bs) i t = as ++ bendI bs (i - as.length) t := by
  unfold bendI
  rw [List.set_append_right _ _ h, List.getD_eq_getElem?_getD, List.getD_eq_getElem?_getD, List.getElem?_append_right h]
end Mine

namespace Mine

theorem off1_ne {d a : Addr} {o : Obj} : ∀ {l : List (Addr × Obj)}, LCg.Off1 d l → (a, o) ∈ l → @Ne Nat a d
  | [], _, h => nomatch h
  | _ :: _, x, h => by
    rcases List.mem_cons.mp h with e | h
    · have := x.1; rw [← e] at this; exact this
    · exact off1_ne x.2 h
theorem off1_ne' {d a : Addr} {o : Obj} {l : List (Addr × Obj)} (x : LCg.Off1 d l) (h : (a, o) ∈ l) : @Ne Nat d a := Ne.symm (off1_ne x h)
theorem off1_lt {d : Addr} : ∀ {l : List (Addr × Obj)}, (∀ p ∈ l, p.1 < d) → LCg.Off1 d l
  | [], _ => trivial
  | p :: _, h => ⟨Nat.ne_of_lt (h p (.head _)), off1_lt fun q hq => h q (.tail _ hq)⟩
theorem off1_cons {d a : Addr} {o : Obj} {l : List (Addr × Obj)} (h : @Ne Nat a d) (r : LCg.Off1 d l) : LCg.Off1 d ((a, o) :: l) := ⟨h, r⟩
theorem off1_nil {d : Addr} : LCg.Off1 d [] := trivial

section
variable {M : Model} {A : Around} {E : Value → Shared → Prop} {s : Shared} {h₀ : Heap} {L : Addr} {m : Str → Option Value} {news : List (Addr × Obj)} {c : Sem Value} {Q : Value → Shared → Prop}

/-- a call's end: a new list of ints of which P is so, all else as it stood -/
def LCut (h₀ : Heap) (L : Addr) (m : Str → Option Value) (news : List (Addr × Obj)) (s : Shared) (P : List Int → Prop) (v : Value) (s' : Shared) : Prop :=
  ∃ (l : Addr) (vs : List Value) (ns : List Int) (n : Nat) (h : Heap) (tk : Nat), v = .ref l ∧ s' = { s with heap := h, toks := tk } ∧ Fr h₀ L h m ∧ News h₀ L h ((l, listOf vs.toArray n) :: news) ∧ LCg.Off1 l news ∧ IntsAre vs ns ∧ P ns
theorem LCut.intro {news' : List (Addr × Obj)} {P : List Int → Prop} {l : Addr} {vs : List Value} {ns : List Int} {n : Nat} {h : Heap} {tk : Nat} (F : Fr h₀ L h m) (N : News h₀ L h news') (hm : (l, listOf vs.toArray n) ∈ news') (hn : ∀ p ∈ news, p ∈ news') (hlt : LCg.Off1 l news) (hi : IntsAre vs ns) (hp : P ns) :
    LCut h₀ L m news s P (.ref l) { s with heap := h, toks := tk } :=
  ⟨l, vs, ns, n, h, tk, rfl, rfl, F, fun _ hp => (List.mem_cons.mp hp).elim (fun e => e ▸ N _ hm) (fun hp => N _ (hn _ hp)), hlt, hi, hp⟩
theorem cut_list (P : List Int → Prop) (_F : Fr h₀ L s.heap m) (_N : News h₀ L s.heap news) (body : wpAny M A c (fun v s' => LCut h₀ L m news s P v s') E s)
    (rest : ∀ l vs ns n h tk, Fr h₀ L h m → News h₀ L h ((l, listOf vs.toArray n) :: news) → LCg.Off1 l news → IntsAre vs ns → P ns → Q (.ref l) { s with heap := h, toks := tk }) : wpAny M A c Q E s := by
  refine wpAny_mono body (fun v s₂ hq => ?_) fun _ _ h => h
  obtain ⟨l, vs, ns, n, h, tk, rfl, rfl, F, N, hlt, hi, hp⟩ := hq
  exact rest l vs ns n h tk F N hlt hi hp

/-- a call's end: an int of which P is so, all else as it stood -/
def ICut (h₀ : Heap) (L : Addr) (m : Str → Option Value) (news : List (Addr × Obj)) (s : Shared) (P : Int → Prop) (v : Value) (s' : Shared) : Prop :=
  ∃ (x : Int) (t : Tok) (h : Heap) (tk : Nat), v = .int x t ∧ s' = { s with heap := h, toks := tk } ∧ Fr h₀ L h m ∧ News h₀ L h news ∧ P x
theorem ICut.intro {news' : List (Addr × Obj)} {P : Int → Prop} {x : Int} {t : Tok} {h : Heap} {tk : Nat} (F : Fr h₀ L h m) (N : News h₀ L h news') (hn : ∀ p ∈ news, p ∈ news') (hp : P x) :
    ICut h₀ L m news s P (.int x t) { s with heap := h, toks := tk } :=
  ⟨x, t, h, tk, rfl, rfl, F, fun _ hp => N _ (hn _ hp), hp⟩
theorem cut_int (P : Int → Prop) (_F : Fr h₀ L s.heap m) (_N : News h₀ L s.heap news) (body : wpAny M A c (fun v s' => ICut h₀ L m news s P v s') E s)
    (rest : ∀ x t h tk, Fr h₀ L h m → News h₀ L h news → P x → Q (.int x t) { s with heap := h, toks := tk }) : wpAny M A c Q E s := by
  refine wpAny_mono body (fun v s₂ hq => ?_) fun _ _ h => h
  obtain ⟨x, t, h, tk, rfl, rfl, F, N, hp⟩ := hq
  exact rest x t h tk F N hp

/-- a call's end: a bool of which P is so, all else as it stood -/
def BCut (h₀ : Heap) (L : Addr) (m : Str → Option Value) (news : List (Addr × Obj)) (s : Shared) (P : Bool → Prop) (v : Value) (s' : Shared) : Prop :=
  ∃ (x : Bool) (h : Heap) (tk : Nat), v = .bool x ∧ s' = { s with heap := h, toks := tk } ∧ Fr h₀ L h m ∧ News h₀ L h news ∧ P x
theorem BCut.intro {news' : List (Addr × Obj)} {P : Bool → Prop} {x : Bool} {h : Heap} {tk : Nat} (F : Fr h₀ L h m) (N : News h₀ L h news') (hn : ∀ p ∈ news, p ∈ news') (hp : P x) :
    BCut h₀ L m news s P (.bool x) { s with heap := h, toks := tk } :=
  ⟨x, h, tk, rfl, rfl, F, fun _ hp => N _ (hn _ hp), hp⟩
theorem cut_bool (P : Bool → Prop) (_F : Fr h₀ L s.heap m) (_N : News h₀ L s.heap news) (body : wpAny M A c (fun v s' => BCut h₀ L m news s P v s') E s)
    (rest : ∀ x h tk, Fr h₀ L h m → News h₀ L h news → P x → Q (.bool x) { s with heap := h, toks := tk }) : wpAny M A c Q E s := by
  refine wpAny_mono body (fun v s₂ hq => ?_) fun _ _ h => h
  obtain ⟨x, h, tk, rfl, rfl, F, N, hp⟩ := hq
  exact rest x h tk F N hp
end
end Mine
namespace Mine
section
variable {M : Model} {A : Around} {E : Value → Shared → Prop} {s : Shared} {h₀ : Heap} {L : Addr} {m : Str → Option Value} {news : List (Addr × Obj)} {Q : Value → Shared → Prop}
/-- a def of one list of ints, or of a list and one thing more, that gives an int -/
theorem cut_int1 {f l : Addr} {vs : List Value} {ns : List Int} {n : Nat} {more : List Value} (P : List Int → Int → Prop) (F : Fr h₀ L s.heap m) (N : News h₀ L s.heap news) (_hm : (l, listOf vs.toArray n) ∈ news) (_hi : IntsAre vs ns)
    (body : wpAny M A (call (.ref f) (.ref l :: more)) (fun v s' => ICut h₀ L m news s (P ns) v s') E s)
    (rest : ∀ x t h tk, Fr h₀ L h m → News h₀ L h news → P ns x → Q (.int x t) { s with heap := h, toks := tk }) : wpAny M A (call (.ref f) (.ref l :: more)) Q E s :=
  cut_int (P ns) F N body rest
end
/-- eight constants, and what grows of them -/
def growC : List Int := [1996959894, 3993919788, 124634137, 249268274, 498536548, 997073096, 1994146192, 3988292384]
/-- its k-th state -/
def grow : Nat → List Int
  | 0 => [0]
  | k + 1 => grow k ++ (grow k).map fun e => Builtin.bitXor e (growC.getD k 0)
theorem grow_zero : [0] = grow 0 := rfl
theorem grow_length : ∀ k, (grow k).length = 2 ^ k
  | 0 => rfl
  | k + 1 => by rw [grow, List.length_append, List.length_map, grow_length k, Nat.pow_succ]; omega
theorem grow_table : grow 8 = table := by decide +kernel
section
variable {prog : Program} {w : World} {A : Around} {E : Value → Shared → Prop} {s : Shared} {h₀ : Heap} {L a b : Addr} {m : Str → Option Value} {news : List (Addr × Obj)} {vs ws : List Value} {ns : List Int} {Q : Value → Shared → Prop}
theorem add_grow {k : Nat} {c : Int} (F : Fr h₀ L s.heap m) (N : News h₀ L s.heap news) (ha : s.heap.IsList a vs.toArray) (hb : s.heap.IsList b ws.toArray) (hi : IntsAre vs ns) (hg : ns = grow k) (hj : IntsAre ws (ns.map fun e => Builtin.bitXor e c)) (hk : k < 8) (hc : growC.getD k 0 = c)
    (h : ∀ D us ms h', Fr h₀ L h' m → News h₀ L h' ((D, listOf (List.toArray us) 0) :: news) → LCg.Off1 D news → IntsAre us ms → ms = grow (k + 1) → ms.length ≤ 256 → Q (.ref D) { s with heap := h' }) : wpAny (model prog w) A (binaryOp .Add (.ref a) (.ref b)) Q E s := by
  subst hg
  subst hc
  have hp : 2 ^ k ≤ 2 ^ 7 := Nat.pow_le_pow_right (by decide) (by omega)
  refine kmk_add_ints F N ha hb hi hj (fun D us h' F' N' l1 hI => h D us _ h' F' N' (off1_lt l1) hI rfl ?_) ?_
  · rw [List.length_append, List.length_map, grow_length]; omega
  · rw [List.length_map, grow_length, sizeLine_eq]; omega
end
end Mine

namespace Mine

theorem snoc_length (pre : List Int) (k : Int) : (pre ++ [k]).length = pre.length + 1 := by simp
theorem bitsOf_succ (n V : Nat) : bitsOf (n + 1) V = bitsOf n V ++ [((V / 2 ^ n % 2 : Nat) : Int)] := by
  rw [bitsOf_add]
  have e : bitsOf 1 (V / 2 ^ n) = [((V / 2 ^ n % 2 : Nat) : Int)] := by
    have h := Nat.mod_two_eq_zero_or_one (V / 2 ^ n)
    rcases h with h | h <;> simp [bitsOf, List.range, List.range.loop, Nat.testBit_zero, h]
  rw [e]

/-- the bits of the bytes pre -/
structure BitsAt (pre bits : List Int) : Prop where
  eq : bits = bitsI pre
/-- and k of one byte more -/
structure InAt (pre : List Int) (k : Nat) (b : Int) (bits : List Int) : Prop where
  eq : bits = bitsI pre ++ bitsOf k b.toNat
/-- k zeros behind -/
structure ZeroAt (ms : List Int) (k : Nat) (bits : List Int) : Prop where
  eq : bits = bitsI ms ++ List.replicate k 0
/-- the first k of them turned -/
structure WorkAt (ms : List Int) (k : Nat) (bits : List Int) : Prop where
  eq : bits = workI ms k
/-- k places divided -/
structure DivAt (ms : List Int) (W k : Nat) (bits : List Int) : Prop where
  eq : bits = divI ms W k
/-- a list of bits as one number -/
structure Flip (bits : List Int) (m V : Nat) : Prop where
  eq : bits = bitsOf m V
/-- the sum of the turned bits -/
structure SumAt (ms : List Int) (W k : Nat) (total : Int) : Prop where
  eq : total = ((2 ^ k - 1 - steps (8 * ms.length) W % 2 ^ k : Nat) : Int)

theorem b_start : BitsAt [] [] ∧ List.length ([] : List Int) = 8 * List.length ([] : List Int) := ⟨⟨rfl⟩, rfl⟩
/- the bits of one byte -/
theorem in_start {bits pre : List Int} {b : Int} (h : BitsAt pre bits) (hl : bits.length = 8 * pre.length) : InAt pre (List.length ([] : List Int)) b bits ∧ bits.length = 8 * pre.length + List.length ([] : List Int) := by
  refine ⟨⟨?_⟩, by simpa using hl⟩
  rw [h.eq]; simp [bitsOf]
theorem in_turn {bits pre done ms : List Int} {b k : Int} (h : InAt pre done.length b bits) (hl : bits.length = 8 * pre.length + done.length) (hk : k = 0 + (done.length : Int)) (hb : Bytes ms) (hm : b ∈ ms) :
    InAt pre (done ++ [k]).length b (bits ++ [Builtin.bitAnd (b.fdiv (2 ^ k.toNat)) 1]) ∧ (bits ++ [Builtin.bitAnd (b.fdiv (2 ^ k.toNat)) 1]).length = 8 * pre.length + (done ++ [k]).length := by
  have ek : k.toNat = done.length := by omega
  have hb0 := (hb b hm).1
  refine ⟨⟨?_⟩, by rw [List.length_append, hl, snoc_length]; simp; omega⟩
  rw [bit_and hb0, ek, snoc_length, bitsOf_succ, h.eq, List.append_assoc]
theorem in_turn7 {bits pre done ms : List Int} {b k : Int} (h : InAt pre done.length b bits) (hl : bits.length = 8 * pre.length + done.length) (hk : k = 0 + (done.length : Int)) (hb : Bytes ms) (hm : b ∈ ms) :
    InAt pre (done ++ [k]).length b (bits ++ [(b.fdiv (2 ^ k.toNat)).fmod 2]) ∧ (bits ++ [(b.fdiv (2 ^ k.toNat)).fmod 2]).length = 8 * pre.length + (done ++ [k]).length := by
  have ek : k.toNat = done.length := by omega
  have hb0 := (hb b hm).1
  refine ⟨⟨?_⟩, by rw [List.length_append, hl, snoc_length]; simp; omega⟩
  rw [bit_mod hb0, ek, snoc_length, bitsOf_succ, h.eq, List.append_assoc]
theorem out_turn {bits pre post ms ks : List Int} {b : Int} (h : InAt pre ks.length b bits) (hl : bits.length = 8 * pre.length + ks.length) (hks : ks.length = 8) (hb : Bytes ms) (he : ms = pre ++ b :: post) :
    BitsAt (pre ++ [b]) bits ∧ bits.length = 8 * (pre ++ [b]).length := by
  have h' := h.eq
  rw [hks] at h' hl
  subst he
  refine ⟨⟨?_⟩, by rw [hl, snoc_length]; omega⟩
  rw [h', bitsI_snoc hb.left]

/- the zeros behind -/
theorem z_start {bits ms : List Int} (h : BitsAt ms bits) (hl : bits.length = 8 * ms.length) : ZeroAt ms (List.length ([] : List Int)) bits ∧ bits.length = 8 * ms.length + List.length ([] : List Int) := by
  refine ⟨⟨?_⟩, by simpa using hl⟩
  rw [h.eq]; simp
theorem z_turn {bits ms done : List Int} {k : Int} (h : ZeroAt ms done.length bits) (hl : bits.length = 8 * ms.length + done.length) : ZeroAt ms (done ++ [k]).length (bits ++ [0]) ∧ (bits ++ [0]).length = 8 * ms.length + (done ++ [k]).length := by
  refine ⟨⟨?_⟩, by rw [List.length_append, hl, snoc_length]; simp; omega⟩
  rw [h.eq, snoc_length, List.replicate_succ', List.append_assoc]

/- the first 32 turned -/
theorem w_start {bits ms ks : List Int} (h : ZeroAt ms ks.length bits) (hl : bits.length = 8 * ms.length + ks.length) (hks : ks.length = 32) (hb : Bytes ms) : WorkAt ms (List.length ([] : List Int)) bits ∧ bits.length = 8 * ms.length + 32 := by
  have h' := h.eq
  rw [hks] at h' hl
  exact ⟨⟨h'.trans (workI_zero hb)⟩, hl⟩
theorem w_turn {bits ms done : List Int} {k : Int} (h : WorkAt ms done.length bits) (hl : bits.length = 8 * ms.length + 32) (hk : k = 0 + (done.length : Int)) (hd : done.length < 8 * ms.length + 32) :
    WorkAt ms (done ++ [k]).length (bits.set k.toNat (1 - bits.getD k.toNat 0)) ∧ (bits.set k.toNat (1 - bits.getD k.toNat 0)).length = 8 * ms.length + 32 := by
  have ek : k.toNat = done.length := by omega
  refine ⟨⟨?_⟩, by rw [List.length_set, hl]⟩
  rw [ek, h.eq, snoc_length]
  exact workI_succ ms hd

/- the division -/
abbrev seed (ms : List Int) : Nat := num (nats ms) ^^^ (2 ^ 32 - 1)
theorem d_start {bits ms ks : List Int} (h : WorkAt ms ks.length bits) (hl : bits.length = 8 * ms.length + 32) (hks : ks.length = 32) : DivAt ms (seed ms) (List.length ([] : List Int)) bits ∧ bits.length = 8 * ms.length + 32 := by
  have h' := h.eq
  rw [hks] at h'
  exact ⟨⟨h'⟩, hl⟩
theorem d_stay {bits ms done : List Int} {k : Int} {W : Nat} (h : DivAt ms W done.length bits) (hl : bits.length = 8 * ms.length + 32) (hk : k = 0 + (done.length : Int)) (hd : done.length < 8 * ms.length) (hn : bits.getD k.toNat 0 ≠ 1) :
    DivAt ms W (done ++ [k]).length bits ∧ bits.length = 8 * ms.length + 32 := by
  have ek : k.toNat = done.length := by omega
  have h' := h.eq
  refine ⟨⟨?_⟩, hl⟩
  rw [snoc_length]
  rw [ek, h'] at hn
  rw [h']
  unfold divI at hn ⊢
  rw [Ne, bit_one (by omega)] at hn
  rw [divs, divStep, if_neg hn]
theorem d_flip {bits ms done : List Int} {W : Nat} (h : DivAt ms W done.length bits) : Flip bits (8 * ms.length + 32) (divs done.length W) := ⟨h.eq⟩
theorem shift_nat {k : Int} {d p a : Nat} (hk : k = 0 + (d : Int)) (e : p + a = 32) : (k + 32 - ((p : Nat) : Int)).toNat = d + a := by omega
theorem shift_nat7 {k : Int} {d a : Nat} (hk : k = 0 + (d : Int)) : (k + ((a : Nat) : Int)).toNat = d + a := by omega
theorem d_done {bits bits₀ ms done : List Int} {k : Int} {W : Nat} (h : DivAt ms W done.length bits₀) (hl : bits.length = bits₀.length) (hl₀ : bits₀.length = 8 * ms.length + 32) (hk : k = 0 + (done.length : Int)) (hd : done.length < 8 * ms.length) (hn : bits₀.getD k.toNat 0 = 1)
    (hf : Flip bits (8 * ms.length + 32) (divs done.length W ^^^ 2 ^ done.length * poly)) :
    DivAt ms W (done ++ [k]).length bits ∧ bits.length = 8 * ms.length + 32 := by
  refine ⟨⟨?_⟩, by rw [hl, hl₀]⟩
  have ek : k.toNat = done.length := by omega
  rw [ek, h.eq] at hn
  unfold divI at hn
  rw [bit_one (by omega)] at hn
  rw [hf.eq, snoc_length]
  unfold divI
  rw [divs, divStep, if_pos hn]
theorem d_turn {bits bits₀ ms done : List Int} {k : Int} {W : Nat} (h : DivAt ms W done.length bits₀) (hl : bits.length = bits₀.length) (hl₀ : bits₀.length = 8 * ms.length + 32) (hk : k = 0 + (done.length : Int)) (hd : done.length < 8 * ms.length) (hn : bits₀.getD k.toNat 0 = 1)
    (hf : Flip bits (8 * ms.length + 32) (divs done.length W ^^^ 2 ^ (k + 32 - 32).toNat ^^^ 2 ^ (k + 32 - 26).toNat ^^^ 2 ^ (k + 32 - 23).toNat ^^^ 2 ^ (k + 32 - 22).toNat ^^^ 2 ^ (k + 32 - 16).toNat ^^^ 2 ^ (k + 32 - 12).toNat ^^^ 2 ^ (k + 32 - 11).toNat ^^^ 2 ^ (k + 32 - 10).toNat ^^^ 2 ^ (k + 32 - 8).toNat ^^^ 2 ^ (k + 32 - 7).toNat ^^^ 2 ^ (k + 32 - 5).toNat ^^^ 2 ^ (k + 32 - 4).toNat ^^^ 2 ^ (k + 32 - 2).toNat ^^^ 2 ^ (k + 32 - 1).toNat ^^^ 2 ^ (k + 32 - 0).toNat)) :
    DivAt ms W (done ++ [k]).length bits ∧ bits.length = 8 * ms.length + 32 := by
  refine d_done h hl hl₀ hk hd hn ⟨?_⟩
  have hf' := hf.eq
  have h0 : (k + 32 - 32).toNat = done.length := shift_nat hk (p := 32) (a := 0) rfl
  have h6 : (k + 32 - 26).toNat = done.length + 6 := shift_nat hk (p := 26) (a := 6) rfl
  have h9 : (k + 32 - 23).toNat = done.length + 9 := shift_nat hk (p := 23) (a := 9) rfl
  have h10 : (k + 32 - 22).toNat = done.length + 10 := shift_nat hk (p := 22) (a := 10) rfl
  have h16 : (k + 32 - 16).toNat = done.length + 16 := shift_nat hk (p := 16) (a := 16) rfl
  have h20 : (k + 32 - 12).toNat = done.length + 20 := shift_nat hk (p := 12) (a := 20) rfl
  have h21 : (k + 32 - 11).toNat = done.length + 21 := shift_nat hk (p := 11) (a := 21) rfl
  have h22 : (k + 32 - 10).toNat = done.length + 22 := shift_nat hk (p := 10) (a := 22) rfl
  have h24 : (k + 32 - 8).toNat = done.length + 24 := shift_nat hk (p := 8) (a := 24) rfl
  have h25 : (k + 32 - 7).toNat = done.length + 25 := shift_nat hk (p := 7) (a := 25) rfl
  have h27 : (k + 32 - 5).toNat = done.length + 27 := shift_nat hk (p := 5) (a := 27) rfl
  have h28 : (k + 32 - 4).toNat = done.length + 28 := shift_nat hk (p := 4) (a := 28) rfl
  have h30 : (k + 32 - 2).toNat = done.length + 30 := shift_nat hk (p := 2) (a := 30) rfl
  have h31 : (k + 32 - 1).toNat = done.length + 31 := shift_nat hk (p := 1) (a := 31) rfl
  have h32 : (k + 32 - 0).toNat = done.length + 32 := shift_nat hk (p := 0) (a := 32) rfl
  rw [h0, h6, h9, h10, h16, h20, h21, h22, h24, h25, h27, h28, h30, h31, h32] at hf'
  rw [hf', ← poly_flips]
theorem d_turn7 {bits bits₀ ms done : List Int} {k : Int} {W : Nat} (h : DivAt ms W done.length bits₀) (hl : bits.length = bits₀.length) (hl₀ : bits₀.length = 8 * ms.length + 32) (hk : k = 0 + (done.length : Int)) (hd : done.length < 8 * ms.length) (hn : bits₀.getD k.toNat 0 = 1)
    (hf : Flip bits (8 * ms.length + 32) (divs done.length W ^^^ 2 ^ (k + 0).toNat ^^^ 2 ^ (k + 6).toNat ^^^ 2 ^ (k + 9).toNat ^^^ 2 ^ (k + 10).toNat ^^^ 2 ^ (k + 16).toNat ^^^ 2 ^ (k + 20).toNat ^^^ 2 ^ (k + 21).toNat ^^^ 2 ^ (k + 22).toNat ^^^ 2 ^ (k + 24).toNat ^^^ 2 ^ (k + 25).toNat ^^^ 2 ^ (k + 27).toNat ^^^ 2 ^ (k + 28).toNat ^^^ 2 ^ (k + 30).toNat ^^^ 2 ^ (k + 31).toNat ^^^ 2 ^ (k + 32).toNat)) :
    DivAt ms W (done ++ [k]).length bits ∧ bits.length = 8 * ms.length + 32 := by
  refine d_done h hl hl₀ hk hd hn ⟨?_⟩
  have hf' := hf.eq
  have h0 : (k + 0).toNat = done.length := shift_nat7 hk (a := 0)
  have h6 : (k + 6).toNat = done.length + 6 := shift_nat7 hk (a := 6)
  have h9 : (k + 9).toNat = done.length + 9 := shift_nat7 hk (a := 9)
  have h10 : (k + 10).toNat = done.length + 10 := shift_nat7 hk (a := 10)
  have h16 : (k + 16).toNat = done.length + 16 := shift_nat7 hk (a := 16)
  have h20 : (k + 20).toNat = done.length + 20 := shift_nat7 hk (a := 20)
  have h21 : (k + 21).toNat = done.length + 21 := shift_nat7 hk (a := 21)
  have h22 : (k + 22).toNat = done.length + 22 := shift_nat7 hk (a := 22)
  have h24 : (k + 24).toNat = done.length + 24 := shift_nat7 hk (a := 24)
  have h25 : (k + 25).toNat = done.length + 25 := shift_nat7 hk (a := 25)
  have h27 : (k + 27).toNat = done.length + 27 := shift_nat7 hk (a := 27)
  have h28 : (k + 28).toNat = done.length + 28 := shift_nat7 hk (a := 28)
  have h30 : (k + 30).toNat = done.length + 30 := shift_nat7 hk (a := 30)
  have h31 : (k + 31).toNat = done.length + 31 := shift_nat7 hk (a := 31)
  have h32 : (k + 32).toNat = done.length + 32 := shift_nat7 hk (a := 32)
  rw [h0, h6, h9, h10, h16, h20, h21, h22, h24, h25, h27, h28, h30, h31, h32] at hf'
  rw [hf', ← poly_flips]

/- the sum of the rest's turned bits -/
theorem t_start (ms : List Int) (U : Nat) : SumAt ms U (List.length ([] : List Int)) 0 := ⟨by simp⟩
theorem t_turn {bits ms done ks : List Int} {k c total : Int} {W : Nat} (h : DivAt ms W ks.length bits) (hks : ks.length = 8 * ms.length) (hc : c = ((8 * ms.length : Nat) : Int)) (hk : k = 0 + (done.length : Int)) (hd : done.length < 32)
    (ht : SumAt ms W done.length total) :
    SumAt ms W (done ++ [k]).length (total + (1 - bits.getD (c + k).toNat 0) * 2 ^ k.toNat) := by
  have e1 : (c + k).toNat = 8 * ms.length + done.length := by omega
  have e2 : k.toNat = done.length := by omega
  have h' := h.eq
  refine ⟨?_⟩
  rw [h', hks, e1, e2, ht.eq, snoc_length]
  unfold divI
  rw [rem_bit (by omega), sum_turned]
theorem t_end {ms ks : List Int} {total : Int} (ht : SumAt ms (seed ms) ks.length total) (hks : ks.length = 32) (hb : Bytes ms) : total = crcI ms := by
  have h' := ht.eq
  rw [hks] at h'
  rw [h', ← rem_crc hb]

section
variable {prog : Program} {w : World} {A : Around} {E : Value → Shared → Prop} {s : Shared} {h₀ : Heap} {L D : Addr} {m : Str → Option Value} {news : List (Addr × Obj)} {vs : List Value} {ns : List Int} {n : Nat} {k x : Int} {t u : Tok}
/-- a store that flips one bit of a list of bits -/
theorem set_flip {Q : Unit → Shared → Prop} {nf : Obj → List (Addr × Obj)} {M V : Nat} (F : Fr h₀ L s.heap m) (N : News h₀ L s.heap news) (U : ∀ o', Upd D (listOf vs.toArray n) o' news (nf o')) (hi : IntsAre vs ns) (hb : Flip ns M V) (hx : x = 1 - ns.getD k.toNat 0) (h0 : 0 ≤ k) (h1 : k < ns.length) (hfit : k < 2 ^ 63)
    (h : ∀ h' vs' ns', Fr h₀ L h' m → News h₀ L h' (nf (listOf (List.toArray vs') n)) → IntsAre vs' ns' → Flip ns' M (V ^^^ 2 ^ k.toNat) → ns'.length = ns.length → Q () { s with heap := h' }) :
    wpAny (model prog w) A (setItem (.ref D) (.int k t) (.int x u)) Q E s := by
  refine ksa_set F N (U _) hi h0 h1 hfit (fun h' F' N' I' hl' _ => h h' _ _ F' N' I' ⟨?_⟩ hl')
  have hb := hb.eq
  subst hx
  subst hb
  rw [bitsOf_length] at h1
  exact bitsOf_set (by omega)
/-- the same, told by ^ 1 -/
theorem set_flip7 {Q : Unit → Shared → Prop} {nf : Obj → List (Addr × Obj)} {M V : Nat} (F : Fr h₀ L s.heap m) (N : News h₀ L s.heap news) (U : ∀ o', Upd D (listOf vs.toArray n) o' news (nf o')) (hi : IntsAre vs ns) (hb : Flip ns M V) (hx : x = Builtin.bitXor (ns.getD k.toNat 0) 1) (h0 : 0 ≤ k) (h1 : k < ns.length) (hfit : k < 2 ^ 63)
    (h : ∀ h' vs' ns', Fr h₀ L h' m → News h₀ L h' (nf (listOf (List.toArray vs') n)) → IntsAre vs' ns' → Flip ns' M (V ^^^ 2 ^ k.toNat) → ns'.length = ns.length → Q () { s with heap := h' }) :
    wpAny (model prog w) A (setItem (.ref D) (.int k t) (.int x u)) Q E s := by
  refine set_flip F N U hi hb ?_ h0 h1 hfit h
  have hb := hb.eq
  subst hb
  rw [bitsOf_length] at h1
  rw [hx, xor_bit_one (by omega)]
end
section
variable {h₀ : Heap} {L : Addr} {s₁ : Shared}
/-- a turn's end of a loop over a written tuple: the ledger stays, but for the iterator -/
theorem unr_end {i : Addr} {o : Obj} {tail : List (Addr × Obj)} {R : (Str → Option Value) → List (Addr × Obj) → Prop} {h' : Heap} {tk : Nat} {m' : Str → Option Value} (F : Fr h₀ L h' m') (N : News h₀ L h' ((i, o) :: tail)) (off : ∀ p ∈ tail, p.1 ≠ i) (r : R m' tail) :
    UnrEndW h₀ L s₁ [(i, o)] (fun m' n' => SubL [] n' ∧ R m' n') { s₁ with heap := h', toks := tk } :=
  ⟨h', tk, m', tail, rfl, F, N, fun p hp q hq => by rw [List.mem_singleton.mp hq]; exact off p hp, trivial, r⟩
end
theorem bit_small {ms bits : List Int} {W k : Nat} (h : DivAt ms W k bits) (j : Nat) : (1 - bits.getD j 0).natAbs < 2 ^ 64 := by
  rw [h.eq]
  unfold divI
  by_cases hj : j < 8 * ms.length + 32
  · have := bit_range (V := divs k W) hj
    omega
  · rw [List.getD_eq_getElem?_getD, List.getElem?_eq_none (by rw [bitsOf_length]; omega)]; decide

/- crc32_eight_steps, crc32_bitwise, crc32_by_table -/
def stepsI : Nat → Int → Int
  | 0, c => c
  | n + 1, c => stepI (stepsI n c)
structure StepsAt (c₀ : Int) (k : Nat) (c : Int) : Prop where
  eq : c = stepsI k c₀
theorem s_start (c : Int) : StepsAt c (List.length ([] : List Int)) c := ⟨rfl⟩
theorem s_odd {c₀ c k : Int} {done : List Int} (h : StepsAt c₀ done.length c) (ho : Builtin.bitAnd c 1 = 1) : StepsAt c₀ (done ++ [k]).length (Builtin.bitXor (c.fdiv (2 ^ (1 : Int).toNat)) 3988292384) := by
  refine ⟨?_⟩
  rw [snoc_length, stepsI, ← h.eq, stepI, if_pos ho]
  rfl
theorem s_even {c₀ c k : Int} {done : List Int} (h : StepsAt c₀ done.length c) (ho : Builtin.bitAnd c 1 ≠ 1) : StepsAt c₀ (done ++ [k]).length (c.fdiv (2 ^ (1 : Int).toNat)) := by
  refine ⟨?_⟩
  rw [snoc_length, stepsI, ← h.eq, stepI, if_neg ho]
  rfl
theorem s_end {c₀ c : Int} {ks : List Int} (h : StepsAt c₀ ks.length c) (hks : ks.length = 8) : c = eightI c₀ := by
  have h' := h.eq
  rw [hks] at h'
  exact h'
structure RegAt (pre : List Int) (c : Int) : Prop where
  eq : c = foldI pre
theorem r_start {c : Int} (h : c = 4294967295) : RegAt [] c := ⟨h⟩
theorem r_turn {pre ms : List Int} {c b x : Int} (h : RegAt pre c) (hx : x = eightI (Builtin.bitXor c b)) (hb : Bytes ms) (hm : b ∈ ms) : RegAt (pre ++ [b]) x := by
  refine ⟨?_⟩
  rw [hx, h.eq, ← foldI_snoc _ (hb b hm).1]
/-- the table of 256 -/
structure TabAt8 (ns : List Int) : Prop where
  eq : ns = table
theorem r_table {pre ms ts : List Int} {c b r : Int} (h : RegAt pre c) (hr : r = Builtin.bitAnd (Builtin.bitXor c b) 255) (ht : TabAt8 ts) (hb : Bytes ms) (hm : b ∈ ms) : RegAt (pre ++ [b]) (Builtin.bitXor (ts.getD r.toNat 0) (c.fdiv (2 ^ (8 : Int).toNat))) := by
  refine ⟨?_⟩
  rw [hr, ht.eq, h.eq, foldI_table _ (hb b hm).1 (hb b hm).2]
  rfl
/-- what a checksum is known by -/
abbrev IsCrc (ns : List Int) (x : Int) : Prop := x = crcI ns ∧ 0 ≤ x ∧ x ≤ 4294967295 ∧ (ns.length ≠ 0 ∨ x = 0)
theorem isCrc_of {ns : List Int} {x : Int} (h : x = crcI ns) : IsCrc ns x := by
  refine ⟨h, by rw [h]; exact crcI_nonneg ns, by rw [h]; exact crcI_le ns, ?_⟩
  cases ns with
  | nil => exact .inr (by rw [h, crcI_nil])
  | cons _ _ => exact .inl (by simp)
theorem r_end {ms : List Int} {c m : Int} (h : RegAt ms c) (hb : Bytes ms) (hm : m = 4294967295) : IsCrc ms (Builtin.bitAnd (Builtin.bitNot c) m) := by
  refine isCrc_of ?_
  rw [hm, h.eq, crcI_inv hb]
theorem t_end' {ms ks : List Int} {total : Int} (ht : SumAt ms (seed ms) ks.length total) (hks : ks.length = 32) (hb : Bytes ms) : IsCrc ms total := isCrc_of (t_end ht hks hb)

section
variable {M : Model} {A : Around} {E : Value → Shared → Prop} {s : Shared} {h₀ : Heap} {L : Addr} {m : Str → Option Value} {news : List (Addr × Obj)} {Q : Value → Shared → Prop}
/-- the eight steps, once for any int -/
theorem cut_eight {f : Addr} {c : Int} {t : Tok} (F : Fr h₀ L s.heap m) (N : News h₀ L s.heap news)
    (body : ∀ c₀ : Int, wpAny M A (call (.ref f) [.int c₀ t]) (fun v s' => ICut h₀ L m news s (fun x => x = eightI c₀) v s') E s)
    (rest : ∀ t h tk, Fr h₀ L h m → News h₀ L h news → Q (.int (eightI c) t) { s with heap := h, toks := tk }) : wpAny M A (call (.ref f) [.int c t]) Q E s :=
  cut_int (fun x => x = eightI c) F N (body c) (fun x t h tk F N e => by rw [e]; exact rest t h tk F N)
end

/- the message -/
/-- a message of at most four bytes -/
abbrev Msg (ns : List Int) : Prop := ns.length ≤ 4 ∧ Bytes ns
theorem fm256 (a : Int) : 0 ≤ a.fmod 256 ∧ a.fmod 256 < 256 := ⟨Int.fmod_nonneg_of_pos a (by decide), Int.fmod_lt_of_pos a (by decide)⟩
theorem bytes_map {n : Nat} {f : Int → Int} (hf : ∀ k, 0 ≤ f k ∧ f k < 256) : Bytes ((rangeKs 0 n).map f) := by
  intro b hb
  obtain ⟨k, _, rfl⟩ := List.mem_map.mp hb
  exact hf k
theorem msg_map {n : Nat} {f : Int → Int} (hn : n ≤ 4) (hf : ∀ k, 0 ≤ f k ∧ f k < 256) : Msg ((rangeKs 0 n).map f) := ⟨by rw [List.length_map, rangeKs_length]; exact hn, bytes_map hf⟩
theorem Bytes.sub {as bs : List Int} (h : Bytes bs) (hs : ∀ x ∈ as, x ∈ bs) : Bytes as := fun b hb => h b (hs b hb)
/-- the table -/
abbrev IsTable (ns : List Int) : Prop := TabAt8 ns ∧ ns.length = 256
theorem isTable_of {ns : List Int} (h : ns = grow 8) : IsTable ns := by
  have e : ns = table := h.trans grow_table
  exact ⟨⟨e⟩, by rw [e, table_length]⟩

section
variable {prog : Program} {w : World} {A : Around} {E : Value → Shared → Prop} {s : Shared} {a d : Int} {t u : Tok} {Q : Value → Shared → Prop}
/-- & 255 -/
theorem and_mask (h : ∀ r, r = Builtin.bitAnd a 255 → 0 ≤ r → r < 256 → Q (.int r s.toks) { s with toks := s.toks + 1 }) : wpAny (model prog w) A (binaryOp .BitAnd (.int a t) (.int 255 u)) Q E s :=
  and_int (h _ rfl (idx_lt a).1 (idx_lt a).2)
/-- a rest by a divisor that is not written -/
theorem mod_rest (hd : 0 < d) (h : ∀ r, 0 ≤ r → r < d → Q (.int r s.toks) { s with toks := s.toks + 1 }) : wpAny (model prog w) A (binaryOp .Mod (.int a t) (.int d u)) Q E s :=
  mod_int' (by omega) (h _ (Int.fmod_nonneg_of_pos a hd) (Int.fmod_lt_of_pos a hd))
end
theorem msg_cat {n m d : Nat} {f g : Int → Int} (hd : n + (m - d) ≤ 4) (hf : ∀ k, 0 ≤ f k ∧ f k < 256) (hg : ∀ k, 0 ≤ g k ∧ g k < 256) : Msg ((rangeKs 0 n).map f ++ ((rangeKs 0 m).map g).drop d) :=
  ⟨by rw [List.length_append, List.length_drop, List.length_map, List.length_map, rangeKs_length, rangeKs_length]; exact hd, (bytes_map hf).append ((bytes_map hg).sub fun _ hx => List.mem_of_mem_drop hx)⟩
end Mine

namespace Mine

theorem bitXor_comm (x y : Int) : Builtin.bitXor x y = Builtin.bitXor y x := by
  rw [bitXor_and, bitXor_and, bitAnd_comm]; omega
section
variable {prog : Program} {w : World} {A : Around} {E : Value → Shared → Prop} {s : Shared} {h₀ : Heap} {L a b : Addr} {m : Str → Option Value} {news : List (Addr × Obj)} {vs ws : List Value} {ns : List Int} {Q : Value → Shared → Prop}
theorem add_grow2 {k : Nat} {c : Int} (F : Fr h₀ L s.heap m) (N : News h₀ L s.heap news) (ha : s.heap.IsList a vs.toArray) (hb : s.heap.IsList b ws.toArray) (hi : IntsAre vs ns) (hg : ns = grow k) (hj : IntsAre ws (ns.map fun e => Builtin.bitXor c e)) (hk : k < 8) (hc : growC.getD k 0 = c)
    (h : ∀ D us ms h', Fr h₀ L h' m → News h₀ L h' ((D, listOf (List.toArray us) 0) :: news) → LCg.Off1 D news → IntsAre us ms → ms = grow (k + 1) → ms.length ≤ 256 → Q (.ref D) { s with heap := h' }) : wpAny (model prog w) A (binaryOp .Add (.ref a) (.ref b)) Q E s := by
  have e : (fun e => Builtin.bitXor c e) = fun e => Builtin.bitXor e c := by funext x; exact bitXor_comm c x
  rw [e] at hj
  exact add_grow F N ha hb hi hg hj hk hc h
/-- a list of one int -/
theorem newList1 {x : Int} {t : Tok} (F : Fr h₀ L s.heap m) (N : News h₀ L s.heap news)
    (h : ∀ l us h', Fr h₀ L h' m → News h₀ L h' ((l, listOf (List.toArray us) 0) :: news) → LCg.Off1 l news → IntsAre us [x] → Q (.ref l) { s with heap := h' }) : wpAny (model prog w) A (newList [.int x t]) Q E s :=
  newList_K F N (fun l h' F' N' l1 => h l [.int x t] h' F' N' (off1_lt l1) (.cons x t .nil))
end
section
variable {prog : Program} {w : World} {A : Around} {E : Value → Shared → Prop} {s : Shared} {a b : Int} {t u : Tok} {Q : Value → Shared → Prop}
/-- << 8 -/
theorem lshift8 (h0 : 0 ≤ a) (h1 : a < 1099511627776) (h : ∀ y, y = a * 256 → Q (.int y s.toks) { s with toks := s.toks + 1 }) : wpAny (model prog w) A (binaryOp .LShift (.int a t) (.int 8 u)) Q E s :=
  lshift_int_small (by decide) (by decide) (by omega) (h _ rfl)
/-- | of two that are not negative -/
theorem or_le (ha : 0 ≤ a) (hb : 0 ≤ b) (h : ∀ y, 0 ≤ y → y ≤ a + b → Q (.int y s.toks) { s with toks := s.toks + 1 }) : wpAny (model prog w) A (binaryOp .BitOr (.int a t) (.int b u)) Q E s := by
  refine or_int (h _ ?_ ?_)
  · have e1 : a = ((a.toNat : Nat) : Int) := by omega
    have e2 : b = ((b.toNat : Nat) : Int) := by omega
    rw [e1, e2, or_nat]; omega
  · rw [bitOr_and]
    have e1 : a = ((a.toNat : Nat) : Int) := by omega
    have e2 : b = ((b.toNat : Nat) : Int) := by omega
    have : 0 ≤ Builtin.bitAnd a b := by rw [e1, e2, and_nat]; omega
    omega
/-- the step by table is eight steps by bits -/
theorem xor_table {ts : List Int} {c d r : Int} (ht : TabAt8 ts) (hr : r = Builtin.bitAnd (Builtin.bitXor c d) 255) (hc : 0 ≤ c) (h0 : 0 ≤ d) (h1 : d < 256) (h : Q (.int (eightI (Builtin.bitXor c d)) s.toks) { s with toks := s.toks + 1 }) :
    wpAny (model prog w) A (binaryOp .BitXor (.int (ts.getD r.toNat 0) t) (.int (c.fdiv (2 ^ (8 : Int).toNat)) u)) Q E s := by
  refine xor_int ?_
  have e := eightI_table hc h0 h1
  rw [ht.eq, hr]
  rw [← e] at h
  exact h
theorem due_all : ∀ d : Fin 256, (4294967295 ^^^ eight (255 - d.val)) ^^^ 16777215 = crc [d.val] := by decide +kernel
/-- the due checksum of one byte -/
theorem xor_due {ts : List Int} {d M : Int} (ht : TabAt8 ts) (h0 : 0 ≤ d) (h1 : d < 256) (hM : M = 4294967295) (h : ∀ x, IsCrc [d] x → Q (.int x s.toks) { s with toks := s.toks + 1 }) :
    wpAny (model prog w) A (binaryOp .BitXor (.int (Builtin.bitXor M (ts.getD (255 - d).toNat 0)) t) (.int 16777215 u)) Q E s := by
  refine xor_int (h _ (isCrc_of ?_))
  have hd : d.toNat < 256 := by omega
  have e := due_all ⟨d.toNat, hd⟩
  have ei : (255 - d).toNat = 255 - d.toNat := by omega
  rw [ht.eq, hM, ei, table_getD (by omega)]
  have x1 := xor_nat 4294967295 (eight (255 - d.toNat))
  have x1' : Builtin.bitXor 4294967295 ((eight (255 - d.toNat) : Nat) : Int) = ((4294967295 ^^^ eight (255 - d.toNat) : Nat) : Int) := x1
  have x2 : Builtin.bitXor (((4294967295 ^^^ eight (255 - d.toNat) : Nat)) : Int) 16777215 = ((4294967295 ^^^ eight (255 - d.toNat) ^^^ 16777215 : Nat) : Int) := xor_nat _ 16777215
  rw [x1', x2]
  show _ = ((crc [d.toNat] : Nat) : Int)
  exact congrArg _ e
end
section
variable {M : Model} {A : Around} {E : Value → Shared → Prop} {s : Shared} {h₀ : Heap} {L : Addr} {m : Str → Option Value} {news : List (Addr × Obj)} {Q : Value → Shared → Prop}
/-- a cell of the script, cut to its modulus -/
theorem cut_cell {f l : Addr} {p k : Int} {t u : Tok} (F : Fr h₀ L s.heap m) (N : News h₀ L s.heap news)
    (body : wpAny M A (call (.ref f) [.ref l, .int p t, .int k u]) (fun v s' => ICut h₀ L m news s (fun x => 0 ≤ x ∧ x < k) v s') E s)
    (rest : ∀ x t h tk, Fr h₀ L h m → News h₀ L h news → 0 ≤ x ∧ x < k → Q (.int x t) { s with heap := h, toks := tk }) : wpAny M A (call (.ref f) [.ref l, .int p t, .int k u]) Q E s :=
  cut_int _ F N body rest
end
theorem cell_fm (a : Int) {k : Int} (hk : 0 < k) : 0 ≤ a.fmod k ∧ a.fmod k < k := ⟨Int.fmod_nonneg_of_pos a hk, Int.fmod_lt_of_pos a hk⟩
theorem pow_small {a : Int} {n : Nat} (h : a.toNat < n) (hn : n ≤ 32) : 0 < (1 : Int) * 2 ^ a.toNat ∧ 1 * 2 ^ a.toNat < (2 : Int) ^ 32 ∧ 2 * (1 * 2 ^ a.toNat) ≤ (2 : Int) ^ n := by
  have h1 : (2 : Int) ^ a.toNat = ((2 ^ a.toNat : Nat) : Int) := by simp
  have h2 : (2 : Nat) ^ a.toNat < 2 ^ 32 := Nat.pow_lt_pow_right (by decide) (by omega)
  have h3 : (2 : Nat) ^ (a.toNat + 1) ≤ 2 ^ n := Nat.pow_le_pow_right (by decide) (by omega)
  have h4 : (2 : Int) ^ n = ((2 ^ n : Nat) : Int) := by simp
  have h5 := Nat.two_pow_pos a.toNat
  rw [Nat.pow_succ] at h3
  rw [h1, h4]
  refine ⟨by omega, by omega, by omega⟩
theorem reg_pow (a : Int) : 0 ≤ (1 : Int) * 2 ^ (a.fmod 32).toNat ∧ 1 * 2 ^ (a.fmod 32).toNat < (4294967296 : Int) := by
  have h := cell_fm a (k := 32) (by decide)
  have := pow_small (a := a.fmod 32) (n := 32) (by omega) (by omega)
  omega
theorem byte_pow (a : Int) : 0 ≤ (1 : Int) * 2 ^ (a.fmod 8).toNat ∧ 1 * 2 ^ (a.fmod 8).toNat < (256 : Int) := by
  have h := cell_fm a (k := 8) (by decide)
  have := pow_small (a := a.fmod 8) (n := 8) (by omega) (by omega)
  omega
theorem byte_inv (a : Int) : 0 ≤ 255 - (1 : Int) * 2 ^ (a.fmod 8).toNat ∧ 255 - (1 : Int) * 2 ^ (a.fmod 8).toNat < 256 := by
  have h := cell_fm a (k := 8) (by decide)
  have := pow_small (a := a.fmod 8) (n := 8) (by omega) (by omega)
  omega
theorem byte_x {a t : Int} (ha : 0 ≤ a) (ha1 : a < 256) (ht : 0 ≤ t ∧ t < 256) : 0 ≤ Builtin.bitXor a t ∧ Builtin.bitXor a t < 256 := by
  have := byte_xor ⟨ha, ha1⟩ ht
  exact ⟨this.1, this.2.1⟩
theorem table_made {n : Nat} (h : n = 256) : IsTable ((rangeKs 0 n).map eightI) := by
  subst h
  have e : (rangeKs 0 256).map eightI = table := by
    unfold rangeKs table
    rw [List.map_map]
    apply List.map_congr_left
    intro i _
    show eightI (0 + (i : Int)) = _
    rw [Int.zero_add, eightI_nat]
  exact ⟨⟨e⟩, by rw [e, table_length]⟩
theorem tab_eq {as bs : List Int} (ha : TabAt8 as) (hb : TabAt8 bs) : as = bs := ha.eq.trans hb.eq.symm
theorem bytes_one {d : Int} (h0 : 0 ≤ d) (h1 : d < 256) : Bytes [d] := fun x hx => by rw [List.mem_singleton.mp hx]; exact ⟨h0, h1⟩
theorem r_turn2 {pre ms : List Int} {c b : Int} (h : RegAt pre c) (hb : Bytes ms) (hm : b ∈ ms) : RegAt (pre ++ [b]) (eightI (Builtin.bitXor c b)) := r_turn h rfl hb hm
theorem reg_nonneg {pre : List Int} {c : Int} (h : RegAt pre c) : 0 ≤ c := by rw [h.eq]; exact foldI_nonneg _
theorem Bytes.lo {ms : List Int} {b : Int} (h : Bytes ms) (hm : b ∈ ms) : 0 ≤ b := (h b hm).1
theorem Bytes.hi {ms : List Int} {b : Int} (h : Bytes ms) (hm : b ∈ ms) : b < 256 := (h b hm).2
end Mine

open Mine
local macro_rules | `(tactic| walk_at "eval Call") => `(tactic| ((with_reducible show wpAny _ _ (eval (Expr.Call (Expr.Name _ _) _ [] _) _) _ _ _); k_dflt (refine Call_ ?_)))
local macro_rules | `(tactic| walk_at "call ref") => `(tactic| k_extra "call ref")
local macro_rules | `(tactic| walk_at "binaryOp Add ref ref") => `(tactic| (
  k_here
  (with_reducible show wpAny _ _ (binaryOp _ (Value.ref _) (Value.ref _)) _ _ _)
  k_dflt (refine' add_grow2 ?zgF ?zgN ?zga ?zgb ?zgi ?zgg ?zgj ?zgk ?zgc ?_; (case zgF => k_asm); (case zgN => k_asm); (case zga => kmk_list); (case zgb => kmk_list); (case zgi => l_ints); (case zgg => (first | assumption | exact grow_zero)); (case zgj => assumption); (case zgk => decide); (case zgc => decide))
  intro D9 us9 ms9 h9 F9 N9 l1 I9 g9 z9
  (try k_sweep)))
local macro_rules | `(tactic| walk_at "newList") => `(tactic| (
  k_here
  (with_reducible show wpAny _ _ (newList [Value.int _ _]) _ _ _)
  k_dflt (refine' newList1 ?znF ?znN ?_; (case znF => k_asm); (case znN => k_asm))
  intro l9 us9 h9 F9 N9 l1 I9
  (try k_sweep)))
local macro_rules | `(tactic| k_ne) => `(tactic| first | (k_dflt exact off1_ne (by with_reducible assumption) (by k_mem)) | (k_dflt exact off1_ne' (by with_reducible assumption) (by k_mem)))
local macro_rules | `(tactic| walk_at "FinE") => `(tactic| ((unfold LCg.FinE); intro D' h' tk' F' N' o1'; (try simp only [List.nil_append, List.cons_append] at N'); (try dsimp only)))
local macro_rules | `(tactic| walk_at "FinA") => `(tactic| ((unfold LCg.FinA); intro D' h' tk' F' N' o1'; (try simp only [List.nil_append, List.cons_append] at N'); (try dsimp only)))
local macro_rules | `(tactic| walk_at "eval ListComp") => `(tactic| (k_here; k_dflt (refine LCg.ListComp_U (F₀ := by k_asm) (by with_unfolding_all rfl) (by decide) (by rfl) (by decide) (by rfl) ?_)))
local macro_rules | `(tactic| walk_at "exec For Name Name cons nil") => `(tactic| (k_here; (rename Fr _ _ _ _ => lF'); (with_unfolding_all refine' For_turnsG lF' ?g ?_; (case g => exact rfl); k_whole)))
local macro_rules | `(tactic| walk_at "UnrEndW") => `(tactic| (
  k_dflt (refine' unr_end ?zzF ?zzN ?zzO ?_; (case zzF => k_asm); (case zzN => k_asm); (case zzO => k_all))
  (try dsimp only)))
local macro_rules | `(tactic| walk_at "binaryOp BitAnd int int") => `(tactic| (k_here; (with_reducible show wpAny _ _ (binaryOp _ (Value.int _ _) (Value.int 255 _)) _ _ _); (with_reducible refine and_mask ?_); intro r9 er9 lo9 hi9))
local macro_rules | `(tactic| walk_at "binaryOp LShift int int") => `(tactic| (k_here; (with_reducible show wpAny _ _ (binaryOp _ (Value.int _ _) (Value.int 8 _)) _ _ _); k_dflt (refine' lshift8 ?zo1 ?zo2 ?_; (case zo1 => omega); (case zo2 => omega)); intro y9 hy9))
local macro_rules | `(tactic| walk_at "binaryOp BitOr int int") => `(tactic| (k_here; k_dflt (refine' or_le ?zo1 ?zo2 ?_; (case zo1 => omega); (case zo2 => omega)); intro y9 lo9 hi9))
local macro_rules | `(tactic| walk_at "binaryOp BitXor int int") => `(tactic| (k_here; (with_reducible show wpAny _ _ (binaryOp _ (Value.int (List.getD _ _ _) _) (Value.int (Int.fdiv _ _) _)) _ _ _); k_dflt (refine' xor_table ?zx1 ?zx2 ?zx3 ?zx4 ?zx5 ?_; (case zx1 => assumption); (case zx2 => assumption); (case zx3 => (first | omega | exact reg_nonneg (by assumption))); (case zx4 => (first | omega | exact Bytes.lo (by assumption) (by assumption))); (case zx5 => (first | omega | exact Bytes.hi (by assumption) (by assumption))))))
local macro_rules | `(tactic| walk_at "binaryOp BitXor int int") => `(tactic| (k_here; (with_reducible show wpAny _ _ (binaryOp _ (Value.int (Builtin.bitXor _ (List.getD _ _ _)) _) (Value.int 16777215 _)) _ _ _); k_dflt (refine' xor_due ?zx1 ?zx2 ?zx3 ?zx4 ?_; (case zx1 => assumption); (case zx2 => omega); (case zx3 => omega); (case zx4 => decide)); intro d9 P9; (obtain ⟨hdu9, hdl9, hdh9, hdn9⟩ := P9)))
local macro_rules | `(tactic| walk_at "LCut") => `(tactic| (
  k_dflt (refine' LCut.intro ?zzF ?zzN ?zzM ?zzS ?zzL ?zzI ?zzP; (case zzF => k_asm); (case zzN => k_asm); (case zzM => k_mem); (case zzS => kcj_all); (case zzI => (first | assumption | l_ints)))
  case zzL => (repeat (refine off1_cons (by k_ne) ?_)); exact off1_nil
  case zzP => k_dflt (k_extra "list end")))
local macro_rules | `(tactic| walk_at "ICut") => `(tactic| (
  k_dflt (refine' ICut.intro ?zzF ?zzN ?zzS ?zzP; (case zzF => k_asm); (case zzN => k_asm); (case zzS => kcj_all))
  case zzP => k_dflt (k_extra "int end")))
local macro_rules | `(tactic| walk_at "InvEndN") => `(tactic| k_dflt kst_close)
set_option maxRecDepth 100000 in
set_option maxHeartbeats 0 in
theorem PySem.Challenge.cw_pd_bitworks_1_02_holds : PySem.Challenge.rw_pd_bitworks_1_02.Holds := by
  (k_with "call ref" => (
    k_here
    (with_reducible show wpAny _ _ (call (Value.ref 69) _) _ _ _)
    k_dflt (refine' cut_int (fun x => 0 ≤ x ∧ x < 4294967296) ?zzF ?zzN ?zzB ?_; (case zzF => k_asm); (case zzN => k_asm); (case zzB => ((k_dflt (refine wpAny_call ?_; k_enter)); k_steps)))
    intro x9 t9 h9 tk9 F9 N9 P9
    (obtain ⟨hclo9, hchi9⟩ := P9)
    (try k_sweep)
    (try k_fold)))
  (k_with "call ref" => (
    k_here
    (with_reducible show wpAny _ _ (call (Value.ref 76) _) _ _ _)
    k_dflt (refine' cut_int (fun x => 0 ≤ x ∧ x < 256) ?zzF ?zzN ?zzB ?_; (case zzF => k_asm); (case zzN => k_asm); (case zzB => ((k_dflt (refine wpAny_call ?_; k_enter)); k_steps)))
    intro x9 t9 h9 tk9 F9 N9 P9
    (obtain ⟨hblo9, hbhi9⟩ := P9)
    (try k_sweep)
    (try k_fold)))
  (k_with "call ref" => (
    k_here
    (with_reducible show wpAny _ _ (call (Value.ref 62) _) _ _ _)
    k_dflt (refine' cut_cell ?zzF ?zzN ?zzB ?_; (case zzF => k_asm); (case zzN => k_asm); (case zzB => ((k_dflt (refine wpAny_call ?_; k_enter)); k_steps)))
    intro x9 t9 h9 tk9 F9 N9 P9
    (obtain ⟨hllo9, hlhi9⟩ := P9)
    (try k_sweep)
    (try k_fold)))
  (k_with "call ref" => (
    k_here
    (with_reducible show wpAny _ _ (call (Value.ref 81) _) _ _ _)
    k_dflt (refine' cut_list IsTable ?zzF ?zzN ?zzB ?_; (case zzF => k_asm); (case zzN => k_asm); (case zzB => ((k_dflt (refine wpAny_call ?_; k_enter)); k_steps)))
    intro l9 vs9 ns9 n9 h9 tk9 F9 N9 l1 I9 P9
    (obtain ⟨htg9, hlg9⟩ := P9)
    (try k_sweep)
    (try k_fold)))
  (k_with "call ref" => (
    k_here
    (with_reducible show wpAny _ _ (call (Value.ref 47) _) _ _ _)
    k_dflt (refine' cut_list IsTable ?zzF ?zzN ?zzB ?_; (case zzF => k_asm); (case zzN => k_asm); (case zzB => ((k_dflt (refine wpAny_call ?_; k_enter)); k_steps)))
    intro l9 vs9 ns9 n9 h9 tk9 F9 N9 l1 I9 P9
    (obtain ⟨htt9, hlt9⟩ := P9)
    (have et9 := tab_eq htt9 htg9)
    (subst et9)
    (try k_sweep)
    (try k_fold)))
  (k_with "call ref" => (
    k_here
    (with_reducible show wpAny _ _ (call (Value.ref 35) _) _ _ _)
    k_dflt (refine' cut_eight ?zzF ?zzN ?zzB ?_; (case zzF => k_asm); (case zzN => k_asm); (case zzB => (intro kC0; (k_dflt (refine wpAny_call ?_; k_enter)); k_steps)))
    intro t9 h9 tk9 F9 N9
    (try k_sweep)
    (try k_fold)))
  (k_with "call ref" => (
    k_here
    (with_reducible show wpAny _ _ (call (Value.ref 42) _) _ _ _)
    (have hby9 := bytes_one hblo9 hbhi9)
    k_dflt (refine' cut_int1 IsCrc ?zzF ?zzN ?zzM ?zzI ?zzB ?_; (case zzF => k_asm); (case zzN => k_asm); (case zzM => k_mem); (case zzI => (first | k_asm | l_ints)); (case zzB => ((k_dflt (refine wpAny_call ?_; k_enter)); k_steps)))
    intro x9 t9 h9 tk9 F9 N9 P9
    (obtain ⟨hcr9, hlo9, hhi9, hni9⟩ := P9)
    (try k_sweep)
    (try k_fold)))
  (k_with "call ref" => (
    k_here
    (with_reducible show wpAny _ _ (call (Value.ref 54) _) _ _ _)
    (have hby9 := bytes_one hblo9 hbhi9)
    k_dflt (refine' cut_int1 IsCrc ?zzF ?zzN ?zzM ?zzI ?zzB ?_; (case zzF => k_asm); (case zzN => k_asm); (case zzM => k_mem); (case zzI => (first | k_asm | l_ints)); (case zzB => ((k_dflt (refine wpAny_call ?_; k_enter)); k_steps)))
    intro x9 t9 h9 tk9 F9 N9 P9
    (obtain ⟨hcr9, hlo9, hhi9, hni9⟩ := P9)
    (try k_sweep)
    (try k_fold)))
  (k_with "pyIter ref" => (k_of "b" => k_state (fun pre c => RegAt pre c) "c"))
  (k_with "pyIter ref" => (k_of "_" => k_state_short (fun pre c => StepsAt kC0 pre.length c) "c"))
  (k_with "pyIter ref" => (k_of "entry" => k_state_given ["grown!"] (fun g0 pre g => g = g0) "grown"))
  (k_with "state" => k_dflt (first
    | with_reducible exact s_start _
    | with_reducible rfl
    | exact s_odd (by with_reducible assumption) (by with_reducible assumption)
    | exact s_even (by with_reducible assumption) (by with_reducible assumption)
    | exact r_turn2 (by assumption) (by assumption) (by assumption)
    | exact r_start (by decide)))
  (k_with "int end" => first
    | exact s_end (by assumption) (by rw [rangeKs_length]; rfl)
    | exact r_end (by assumption) (by assumption) (by decide)
    | omega
    | exact cell_fm _ (by decide)
    | exact reg_pow _
    | exact byte_inv _
    | exact byte_x (by omega) (by omega) (byte_pow _)
    | exact byte_x (by omega) (by omega) (by decide))
  (k_with "list end" => first
    | exact isTable_of (by assumption)
    | exact table_made rfl)
  open_k
