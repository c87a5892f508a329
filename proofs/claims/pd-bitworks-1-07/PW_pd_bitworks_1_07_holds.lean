import PyProof.Rows.All
import Wide.All
import OpenK.AllK
import Wide.FinOn
import PySem.Challenge.RW_pd_bitworks_1_07
open PySem PySem.W PyProof.Rows
set_option Elab.async false
set_option maxRecDepth 100000
namespace Mine
/-- one step by bits, on any natural number -/
def step (c : Nat) : Nat := if c % 2 = 1 then (c / 2) ^^^ 3988292384 else c / 2
def steps : Nat → Nat → Nat
  | 0, c => c
  | n + 1, c => steps n (step c)
def eight (c : Nat) : Nat := steps 8 c

theorem step_xor (x y : Nat) : step (x ^^^ y) = step x ^^^ step y := by
  unfold step
  have h1 : (x ^^^ y) / 2 = x / 2 ^^^ y / 2 := Nat.xor_div_two
  have h2 := @Nat.xor_mod_two_eq_one x y
  by_cases hx : x % 2 = 1 <;> by_cases hy : y % 2 = 1
  · rw [if_neg (by simp [h2, hx, hy]), if_pos hx, if_pos hy, h1]
    apply Nat.eq_of_testBit_eq; intro i; simp only [Nat.testBit_xor]
    cases Nat.testBit (x/2) i <;> cases Nat.testBit (y/2) i <;> cases Nat.testBit 3988292384 i <;> rfl
  · rw [if_pos (by simp [h2, hx, hy]), if_pos hx, if_neg hy, h1]
    apply Nat.eq_of_testBit_eq; intro i; simp only [Nat.testBit_xor]
    cases Nat.testBit (x/2) i <;> cases Nat.testBit (y/2) i <;> cases Nat.testBit 3988292384 i <;> rfl
  · rw [if_pos (by simp [h2, hx, hy]), if_neg hx, if_pos hy, h1]
    apply Nat.eq_of_testBit_eq; intro i; simp only [Nat.testBit_xor]
    cases Nat.testBit (x/2) i <;> cases Nat.testBit (y/2) i <;> cases Nat.testBit 3988292384 i <;> rfl
  · rw [if_neg (by simp [h2, hx, hy]), if_neg hx, if_neg hy, h1]

theorem steps_xor : ∀ (n x y : Nat), steps n (x ^^^ y) = steps n x ^^^ steps n y
  | 0, _, _ => rfl
  | n + 1, x, y => by simp only [steps]; rw [step_xor, steps_xor n]

theorem step_double (y : Nat) : step (2 * y) = y := by
  unfold step
  rw [if_neg (by omega)]; omega

theorem steps_shift : ∀ (n y : Nat), steps n (2 ^ n * y) = y
  | 0, y => by simp [steps]
  | n + 1, y => by
    have e : 2 ^ (n + 1) * y = 2 * (2 ^ n * y) := by rw [Nat.pow_succ, Nat.mul_comm (2 ^ n) 2, Nat.mul_assoc]
    simp only [steps]; rw [e, step_double, steps_shift n]

theorem steps_add : ∀ (m n c : Nat), steps (m + n) c = steps n (steps m c)
  | 0, n, c => by simp [steps]
  | m + 1, n, c => by
    have e : m + 1 + n = (m + n) + 1 := by omega
    rw [e]; simp only [steps]; rw [steps_add m n]

theorem step_lt {c : Nat} (h : c < 2 ^ 32) : step c < 2 ^ 32 := by
  unfold step
  split
  · exact Nat.xor_lt_two_pow (by omega) (by omega)
  · omega
theorem steps_lt : ∀ (n : Nat) {c : Nat}, c < 2 ^ 32 → steps n c < 2 ^ 32
  | 0, _, h => h
  | n + 1, _, h => steps_lt n (step_lt h)

theorem xor_eq_zero {a b : Nat} (h : a ^^^ b = 0) : a = b := by
  apply Nat.eq_of_testBit_eq; intro i
  have h2 := congrArg (fun z => Nat.testBit z i) h
  simp only [Nat.testBit_xor, Nat.zero_testBit] at h2
  revert h2; cases Nat.testBit a i <;> cases Nat.testBit b i <;> simp

theorem step_ne {c : Nat} (h : c < 2 ^ 32) (h0 : c ≠ 0) : step c ≠ 0 := by
  unfold step
  split
  · intro h1
    have := xor_eq_zero h1
    omega
  · omega
theorem steps_ne : ∀ (n : Nat) {c : Nat}, c < 2 ^ 32 → c ≠ 0 → steps n c ≠ 0
  | 0, _, _, h0 => h0
  | n + 1, _, h, h0 => steps_ne n (step_lt h) (step_ne h h0)

/-- a list of bytes as one number, the first lowest -/
def num : List Nat → Nat
  | [] => 0
  | b :: r => b ^^^ (2 ^ 8 * num r)

def crcFold (c : Nat) (bs : List Nat) : Nat := bs.foldl (fun c b => eight (c ^^^ b)) c

theorem crcFold_eq : ∀ (bs : List Nat) (c : Nat), crcFold c bs = steps (8 * bs.length) (c ^^^ num bs)
  | [], c => by simp [crcFold, num, steps]
  | b :: r, c => by
    have e : 8 * (b :: r).length = 8 + 8 * r.length := by simp only [List.length_cons]; omega
    have ih := crcFold_eq r (eight (c ^^^ b))
    simp only [crcFold, List.foldl_cons] at ih ⊢
    rw [ih, e, steps_add, num, ← Nat.xor_assoc, steps_xor 8, steps_shift]
    rfl

theorem num_lt : ∀ {bs : List Nat}, (∀ b ∈ bs, b < 256) → num bs < 2 ^ (8 * bs.length)
  | [], _ => by simp [num]
  | b :: r, h => by
    have hb := h b (.head _)
    have hr := num_lt (bs := r) (fun x hx => h x (.tail _ hx))
    have e : 8 * (b :: r).length = 8 * r.length + 8 := by simp only [List.length_cons]; omega
    rw [num, e]
    apply Nat.xor_lt_two_pow
    · exact Nat.lt_of_lt_of_le (show b < 2 ^ 8 by omega) (Nat.pow_le_pow_right (by decide) (by omega))
    · rw [Nat.pow_add, Nat.mul_comm]
      exact Nat.mul_lt_mul_of_pos_right hr (by decide)

theorem crcFold_lt {bs : List Nat} {c : Nat} (hc : c < 2 ^ 32) (hb : ∀ b ∈ bs, b < 256) : crcFold c bs < 2 ^ 32 := by
  induction bs generalizing c with
  | nil => exact hc
  | cons b r ih =>
    simp only [crcFold, List.foldl_cons]
    apply ih
    · exact steps_lt 8 (Nat.xor_lt_two_pow hc (Nat.lt_of_lt_of_le (hb b (.head _)) (by decide)))
    · exact fun x hx => hb x (.tail _ hx)

end Mine

namespace Mine
/-- the n lowest bits of V as ints, the lowest first -/
def bitsOf (n V : Nat) : List Int := (List.range n).map fun j => if V.testBit j then 1 else 0

theorem bitsOf_length (n V : Nat) : (bitsOf n V).length = n := by simp [bitsOf]
theorem bitsOf_get? {n V j : Nat} (h : j < n) : (bitsOf n V)[j]? = some (if V.testBit j then 1 else 0) := by
  simp [bitsOf, h]
theorem bitsOf_getD {n V j : Nat} (h : j < n) : (bitsOf n V).getD j 0 = if V.testBit j then 1 else 0 := by
  rw [List.getD_eq_getElem?_getD, bitsOf_get? h]; rfl
theorem bitsOf_getD_div {n V j : Nat} (h : j < n) : (bitsOf n V).getD j 0 = ((V / 2 ^ j % 2 : Nat) : Int) := by
  rw [bitsOf_getD h, Nat.testBit_eq_decide_div_mod_eq]
  have := Nat.mod_two_eq_zero_or_one (V / 2 ^ j)
  by_cases e : V / 2 ^ j % 2 = 1
  · simp [e]
  · have e0 : V / 2 ^ j % 2 = 0 := by omega
    simp [e0]

theorem bitsOf_congr {n V W : Nat} (h : ∀ j, j < n → V.testBit j = W.testBit j) : bitsOf n V = bitsOf n W := by
  unfold bitsOf
  apply List.map_congr_left
  intro j hj
  rw [h j (List.mem_range.mp hj)]

theorem bitsOf_set {n V j : Nat} (h : j < n) : (bitsOf n V).set j (1 - (bitsOf n V).getD j 0) = bitsOf n (V ^^^ 2 ^ j) := by
  rw [bitsOf_getD h]
  apply List.ext_getElem
  · simp [bitsOf]
  · intro i h1 h2
    rw [List.length_set, bitsOf_length] at h1
    rw [List.getElem_set]
    simp only [bitsOf, List.getElem_map, List.getElem_range, Nat.testBit_xor, Nat.testBit_two_pow]
    by_cases e : j = i
    · subst e
      cases V.testBit j <;> simp
    · simp [e]

theorem bitsOf_add (m n V : Nat) : bitsOf (m + n) V = bitsOf m V ++ bitsOf n (V / 2 ^ m) := by
  apply List.ext_getElem
  · simp [bitsOf]
  · intro i h1 h2
    rw [bitsOf_length] at h1
    rw [List.getElem_append]
    simp only [bitsOf, List.getElem_map, List.getElem_range, List.length_map, List.length_range, Nat.testBit_div_two_pow]
    by_cases hm : i < m
    · rw [dif_pos hm]
    · rw [dif_neg hm, Nat.sub_add_cancel (by omega)]

theorem bitsOf_low {m V : Nat} (W : Nat) : bitsOf m (V ^^^ 2 ^ m * W) = bitsOf m V := by
  apply bitsOf_congr
  intro j hj
  simp [Nat.testBit_xor, Nat.testBit_two_pow_mul, Nat.not_le.mpr hj]

theorem xor_high {m V : Nat} (h : V < 2 ^ m) (W : Nat) : (V ^^^ 2 ^ m * W) / 2 ^ m = W := by
  apply Nat.eq_of_testBit_eq; intro i
  rw [Nat.testBit_div_two_pow, Nat.testBit_xor, Nat.testBit_two_pow_mul, Nat.testBit_lt_two_pow (x := V) (i := i + m) (Nat.lt_of_lt_of_le h (Nat.pow_le_pow_right (by decide) (by omega)))]
  simp

theorem bitsOf_join {m n V : Nat} (h : V < 2 ^ m) (W : Nat) : bitsOf m V ++ bitsOf n W = bitsOf (m + n) (V ^^^ 2 ^ m * W) := by
  rw [bitsOf_add, bitsOf_low, xor_high h]

theorem bitsOf_zero (n : Nat) : bitsOf n 0 = List.replicate n 0 := by
  apply List.ext_getElem
  · simp [bitsOf]
  · intro i h1 h2
    simp [bitsOf]

theorem bitsOf_zeros {m V : Nat} (h : V < 2 ^ m) (n : Nat) : bitsOf m V ++ List.replicate n 0 = bitsOf (m + n) V := by
  rw [← bitsOf_zero, bitsOf_join h]; simp

theorem mask_succ (k : Nat) : (2 ^ k - 1) ^^^ 2 ^ k = 2 ^ (k + 1) - 1 := by
  apply Nat.eq_of_testBit_eq; intro i
  rw [Nat.testBit_xor, Nat.testBit_two_pow_sub_one, Nat.testBit_two_pow_sub_one, Nat.testBit_two_pow]
  by_cases h1 : i < k
  · simp [h1, show i < k + 1 by omega, show k ≠ i by omega]
  · by_cases h2 : k = i
    · subst h2; simp
    · simp [h1, h2, show ¬ i < k + 1 by omega]

theorem num_append : ∀ (bs : List Nat) (b : Nat), num (bs ++ [b]) = num bs ^^^ 2 ^ (8 * bs.length) * b
  | [], b => by simp [num]
  | a :: r, b => by
    have e : 2 ^ (8 * (a :: r).length) = 2 ^ 8 * 2 ^ (8 * r.length) := by rw [← Nat.pow_add]; congr 1; simp only [List.length_cons]; omega
    rw [List.cons_append, num, num, num_append r b, e, Nat.mul_assoc, Nat.xor_assoc]
    congr 1
    apply Nat.eq_of_testBit_eq; intro i
    simp only [Nat.testBit_xor, Nat.testBit_two_pow_mul]
    by_cases h : 8 ≤ i <;> simp [h]

/-- the polynomial, all 33 of its bits -/
def poly : Nat := 2 * 3988292384 + 1
def divStep (i V : Nat) : Nat := if V.testBit i then V ^^^ 2 ^ i * poly else V

theorem xor_shift (i V W : Nat) : (V ^^^ 2 ^ i * W) / 2 ^ i = V / 2 ^ i ^^^ W := by
  apply Nat.eq_of_testBit_eq; intro j
  simp [Nat.testBit_div_two_pow, Nat.testBit_xor, Nat.testBit_two_pow_mul]

theorem divStep_high (i V : Nat) : divStep i V / 2 ^ (i + 1) = step (V / 2 ^ i) := by
  have e1 : ∀ X : Nat, X / 2 ^ (i + 1) = X / 2 ^ i / 2 := by intro X; rw [Nat.pow_succ, Nat.div_div_eq_div_mul]
  have e2 : V.testBit i = decide (V / 2 ^ i % 2 = 1) := Nat.testBit_eq_decide_div_mod_eq
  unfold divStep step
  rw [e2]
  by_cases h : V / 2 ^ i % 2 = 1
  · simp only [h, decide_true, if_true, e1, xor_shift]
    rw [Nat.xor_div_two]
    congr 1
  · simp only [h, decide_false, if_false, e1]
    simp

theorem steps_succ' : ∀ (n c : Nat), steps (n + 1) c = step (steps n c)
  | 0, _ => rfl
  | n + 1, c => by rw [steps, steps_succ' n (step c)]; rfl

/-- the division, place by place -/
def divs : Nat → Nat → Nat
  | 0, V => V
  | n + 1, V => divStep n (divs n V)
theorem divs_high : ∀ (n V : Nat), divs n V / 2 ^ n = steps n V
  | 0, V => by simp [divs, steps]
  | n + 1, V => by rw [divs, divStep_high, divs_high n, steps_succ']

end Mine

namespace Mine
open PySem
theorem nat_or_and (m : Nat) : ∀ n : Nat, (m ||| n) = (m ^^^ n) + (m &&& n) := by
  induction m using Nat.strongRecOn with
  | ind m ih =>
    intro n
    by_cases h0 : m = 0
    · subst h0; simp
    · have ih' := ih (m / 2) (by omega) (n / 2)
      rw [← Nat.or_div_two, ← Nat.and_div_two, ← Nat.xor_div_two] at ih'
      have o1 := @Nat.or_mod_two_eq_one m n
      have a1 := @Nat.and_mod_two_eq_one m n
      have x1 := @Nat.xor_mod_two_eq_one m n
      omega

theorem and_nat (a b : Nat) : Builtin.bitAnd (a : Int) (b : Int) = ((a &&& b : Nat) : Int) := by
  simp [Builtin.bitAnd]
theorem or_nat (a b : Nat) : Builtin.bitOr (a : Int) (b : Int) = ((a ||| b : Nat) : Int) := by
  have h1 : ¬ (0 ≤ Builtin.bitNot (a : Int)) := by unfold Builtin.bitNot; omega
  have h2 : ¬ (0 ≤ Builtin.bitNot (b : Int)) := by unfold Builtin.bitNot; omega
  have e : ∀ x : Int, Builtin.bitNot (Builtin.bitNot x) = x := by intro x; unfold Builtin.bitNot; omega
  simp [Builtin.bitOr, Builtin.bitAnd, h1, h2, e]
theorem xor_nat (a b : Nat) : Builtin.bitXor (a : Int) (b : Int) = ((a ^^^ b : Nat) : Int) := by
  unfold Builtin.bitXor
  rw [or_nat, and_nat]
  have := nat_or_and a b
  omega
theorem xor_int_nat {x y : Int} (hx : 0 ≤ x) (hy : 0 ≤ y) : Builtin.bitXor x y = ((x.toNat ^^^ y.toNat : Nat) : Int) := by
  have e1 : x = ((x.toNat : Nat) : Int) := by omega
  have e2 : y = ((y.toNat : Nat) : Int) := by omega
  conv => lhs; rw [e1, e2]
  exact xor_nat _ _
theorem fdiv_nat (a k : Nat) : Int.fdiv (a : Int) (2 ^ k) = ((a / 2 ^ k : Nat) : Int) := by
  have h : (2 : Int) ^ k = ((2 ^ k : Nat) : Int) := by simp
  rw [h, Int.fdiv_eq_ediv_of_nonneg _ (Int.natCast_nonneg _), Int.natCast_ediv]
theorem and_one (a : Nat) : Builtin.bitAnd (a : Int) 1 = ((a % 2 : Nat) : Int) := by
  have h := and_nat a 1
  rw [Nat.and_one_is_mod] at h
  exact h
/-- the program's step, as its own operations say it -/
def stepI (c : Int) : Int := if Builtin.bitAnd c 1 = 1 then Builtin.bitXor (c.fdiv (2 ^ 1)) 3988292384 else c.fdiv (2 ^ 1)
theorem stepI_nat (c : Nat) : stepI (c : Int) = ((step c : Nat) : Int) := by
  unfold stepI step
  rw [and_one, fdiv_nat]
  have h2 := xor_nat (c / 2 ^ 1) 3988292384
  have h3 : Builtin.bitXor ((c / 2 ^ 1 : Nat) : Int) 3988292384 = ((c / 2 ^ 1 ^^^ 3988292384 : Nat) : Int) := h2
  rw [h3]
  by_cases h : c % 2 = 1
  · rw [if_pos (by omega), if_pos h]
  · rw [if_neg (by omega), if_neg h]

/-- what crc32_eight_steps gives -/
def eightI (c : Int) : Int := stepI (stepI (stepI (stepI (stepI (stepI (stepI (stepI c)))))))
theorem eightI_nat (c : Nat) : eightI (c : Int) = ((eight c : Nat) : Int) := by
  unfold eightI
  simp only [stepI_nat]
  rfl

/-- what inverted(c, 32) gives -/
theorem inv_eq {c : Int} (h0 : 0 ≤ c) (h1 : c < 2 ^ 32) : Builtin.bitAnd (Builtin.bitNot c) 4294967295 = 4294967295 - c := by
  have hn : ¬ (0 ≤ Builtin.bitNot c) := by unfold Builtin.bitNot; omega
  have e : Builtin.bitNot (Builtin.bitNot c) = c := by unfold Builtin.bitNot; omega
  have hc : c.toNat < 2 ^ 32 := by omega
  have e2 : (4294967295 &&& c.toNat : Nat) = c.toNat := by
    rw [Nat.and_comm, show 4294967295 = 2 ^ 32 - 1 from rfl, Nat.and_two_pow_sub_one_eq_mod, Nat.mod_eq_of_lt hc]
  simp only [Builtin.bitAnd, hn, e, decide_false, show (decide ((0 : Int) ≤ 4294967295)) = true from rfl]
  have e3 : (4294967295 : Int).toNat = 4294967295 := rfl
  rw [e3, e2]
  omega

end Mine

namespace Mine
open PySem
theorem mul_two_pow_xor (k a b : Nat) : 2 ^ k * (a ^^^ b) = 2 ^ k * a ^^^ 2 ^ k * b := by
  apply Nat.eq_of_testBit_eq; intro i
  simp only [Nat.testBit_xor, Nat.testBit_two_pow_mul]
  by_cases h : k ≤ i <;> simp [h]

theorem num_set : ∀ (l : List Nat) (j t : Nat), j < l.length → num (l.set j (l.getD j 0 ^^^ t)) = num l ^^^ 2 ^ (8 * j) * t
  | [], _, _, h => absurd h (Nat.not_lt_zero _)
  | a :: r, 0, t, _ => by
    simp only [List.set_cons_zero, List.getD_cons_zero, num, Nat.mul_zero, Nat.pow_zero, Nat.one_mul]
    rw [Nat.xor_assoc, Nat.xor_assoc, Nat.xor_comm t]
  | a :: r, j + 1, t, h => by
    have ih := num_set r j t (Nat.lt_of_succ_lt_succ h)
    have e : 8 * (j + 1) = 8 + 8 * j := by omega
    simp only [List.set_cons_succ, List.getD_cons_succ, num]
    rw [ih, mul_two_pow_xor, e, Nat.pow_add, Nat.mul_assoc, Nat.xor_assoc]

theorem num_zeros : ∀ n : Nat, num (List.replicate n 0) = 0
  | 0 => rfl
  | n + 1 => by rw [List.replicate_succ, num, num_zeros n]; rfl

theorem num_one {n j t : Nat} (h : j < n) : num ((List.replicate n 0).set j t) = 2 ^ (8 * j) * t := by
  have := num_set (List.replicate n 0) j t (by simpa using h)
  rw [num_zeros] at this
  simpa [List.getD_eq_getElem?_getD, h] using this

theorem byte_add {b : Nat} (h : b < 256) (x : Nat) : b ^^^ 2 ^ 8 * x = b + 256 * x := by
  have := Nat.two_pow_add_eq_or_of_lt (i := 8) (b := b) (by omega) x
  have h2 : 2 ^ 8 * x ||| b = b ^^^ 2 ^ 8 * x := by
    apply Nat.eq_of_testBit_eq; intro i
    rw [Nat.testBit_or, Nat.testBit_xor, Nat.testBit_two_pow_mul]
    by_cases h8 : 8 ≤ i
    · rw [Nat.testBit_lt_two_pow (x := b) (i := i) (Nat.lt_of_lt_of_le (show b < 2 ^ 8 by omega) (Nat.pow_le_pow_right (by decide) h8))]
      simp
    · simp [h8]
  rw [← h2, ← this]
  omega

/-- four bytes, the lowest first -/
def cut (s : Nat) : List Nat := [s % 256, s / 256 % 256, s / 65536 % 256, s / 16777216 % 256]

theorem num_four {a b c d : Nat} (ha : a < 256) (hb : b < 256) (hc : c < 256) (hd : d < 256) : num [a, b, c, d] = a + 256 * b + 65536 * c + 16777216 * d := by
  simp only [num]
  rw [byte_add hd, byte_add hc, byte_add hb, byte_add ha]
  omega
theorem num_cut {s : Nat} (h : s < 2 ^ 32) : num (cut s) = s := by
  unfold cut
  rw [num_four (by omega) (by omega) (by omega) (by omega)]
  omega
theorem cut_inj {s r : Nat} (hs : s < 2 ^ 32) (hr : r < 2 ^ 32) (h : cut s = cut r) : s = r := by
  rw [← num_cut hs, ← num_cut hr, h]
theorem cut_lt (s : Nat) : ∀ b ∈ cut s, b < 256 := by
  intro b hb
  simp only [cut, List.mem_cons, List.not_mem_nil, or_false] at hb
  omega

theorem xor_cancel {a t : Nat} (h : a ^^^ t = a) : t = 0 := by
  have h2 : a ^^^ (a ^^^ t) = 0 := by rw [h, Nat.xor_self]
  rw [← Nat.xor_assoc, Nat.xor_self, Nat.zero_xor] at h2
  exact h2

/-- the checksum -/
def crc (bs : List Nat) : Nat := 4294967295 - crcFold 4294967295 bs
theorem mask_sub {c : Nat} (h : c < 2 ^ 32) : 4294967295 - c = 4294967295 ^^^ c := by
  have e : c ^^^ (4294967295 - c) = 4294967295 := by
    apply Nat.eq_of_testBit_eq; intro i
    have h1 := Nat.testBit_two_pow_sub_succ (x := c) (n := 32) h i
    have e2 : 4294967295 - c = 2 ^ 32 - (c + 1) := by omega
    rw [Nat.testBit_xor, e2, h1, show (4294967295 : Nat) = 2 ^ 32 - 1 from rfl, Nat.testBit_two_pow_sub_one]
    by_cases hi : i < 32
    · simp [hi]
    · rw [Nat.testBit_lt_two_pow (x := c) (i := i) (Nat.lt_of_lt_of_le h (Nat.pow_le_pow_right (by decide) (by omega)))]
      simp [hi]
  have e3 : c ^^^ (c ^^^ (4294967295 - c)) = c ^^^ 4294967295 := by rw [e]
  rw [← Nat.xor_assoc, Nat.xor_self, Nat.zero_xor] at e3
  rw [e3, Nat.xor_comm]
theorem crc_lt (bs : List Nat) : crc bs < 2 ^ 32 := by unfold crc; omega

theorem crc_xor {as bs : List Nat} (hl : as.length = bs.length) (ha : ∀ b ∈ as, b < 256) (hb : ∀ b ∈ bs, b < 256) : crc as ^^^ crc bs = steps (8 * as.length) (num as ^^^ num bs) := by
  have h1 := crcFold_lt (c := 4294967295) (by decide) ha
  have h2 := crcFold_lt (c := 4294967295) (by decide) hb
  unfold crc
  rw [mask_sub h1, mask_sub h2, crcFold_eq, crcFold_eq, ← hl, ← Nat.xor_assoc, Nat.xor_assoc 4294967295, Nat.xor_comm _ 4294967295, ← Nat.xor_assoc, Nat.xor_self, Nat.zero_xor, ← steps_xor]
  congr 1
  rw [← Nat.xor_assoc, Nat.xor_assoc 4294967295, Nat.xor_comm _ 4294967295, ← Nat.xor_assoc, Nat.xor_self, Nat.zero_xor]

/-- the partial sums of the remainder's bits, turned or not -/
theorem low_succ (U k : Nat) : U % 2 ^ (k + 1) = U % 2 ^ k + 2 ^ k * (U / 2 ^ k % 2) := Nat.mod_pow_succ

theorem divs_get {n k V : Nat} : (divs n V) / 2 ^ (n + k) % 2 = steps n V / 2 ^ k % 2 := by
  rw [Nat.pow_add, ← Nat.div_div_eq_div_mul, divs_high]

end Mine

namespace Mine
open PySem
def Bytes (ns : List Int) : Prop := ∀ b ∈ ns, 0 ≤ b ∧ b < 256
def nats (ns : List Int) : List Nat := ns.map Int.toNat
theorem nats_length (ns : List Int) : (nats ns).length = ns.length := by simp [nats]
theorem nats_append (as bs : List Int) : nats (as ++ bs) = nats as ++ nats bs := by simp [nats]
theorem Bytes.nats {ns : List Int} (h : Bytes ns) : ∀ b ∈ nats ns, b < 256 := by
  intro b hb
  obtain ⟨x, hx, rfl⟩ := List.mem_map.mp hb
  have := h x hx
  omega
theorem Bytes.left {as bs : List Int} (h : Bytes (as ++ bs)) : Bytes as := fun b hb => h b (List.mem_append.mpr (.inl hb))
theorem Bytes.nil : Bytes [] := fun _ h => nomatch h
/-- the register behind the bytes ns -/
def foldI (ns : List Int) : Int := ((crcFold 4294967295 (nats ns) : Nat) : Int)
theorem foldI_nonneg (ns : List Int) : 0 ≤ foldI ns := Int.natCast_nonneg _
theorem foldI_lt {ns : List Int} (h : Bytes ns) : foldI ns < 4294967296 := by
  have := crcFold_lt (c := 4294967295) (by decide) h.nats
  unfold foldI
  omega
theorem foldI_snoc (pre : List Int) {b : Int} (h0 : 0 ≤ b) : foldI (pre ++ [b]) = eightI (Builtin.bitXor (foldI pre) b) := by
  have e : b = ((b.toNat : Nat) : Int) := by omega
  unfold foldI
  rw [nats_append]
  conv => rhs; rw [e, xor_nat, eightI_nat]
  simp [crcFold, nats]
/-- the checksum -/
def crcI (ns : List Int) : Int := ((crc (nats ns) : Nat) : Int)
theorem crcI_inv {ns : List Int} (h : Bytes ns) : Builtin.bitAnd (Builtin.bitNot (foldI ns)) 4294967295 = crcI ns := by
  have h1 := foldI_lt h
  rw [inv_eq (foldI_nonneg _) (by omega)]
  unfold crcI crc
  unfold foldI at h1 ⊢
  omega
theorem crcI_nonneg (ns : List Int) : 0 ≤ crcI ns := Int.natCast_nonneg _
theorem crcI_le (ns : List Int) : crcI ns ≤ 4294967295 := by have := crc_lt (nats ns); unfold crcI; omega
theorem crcI_nil : crcI [] = 0 := by decide

/-- the message's bits -/
def bitsI (ns : List Int) : List Int := bitsOf (8 * ns.length) (num (nats ns))
theorem bitsI_snoc {pre : List Int} {b : Int} (h : Bytes pre) : bitsI (pre ++ [b]) = bitsI pre ++ bitsOf 8 b.toNat := by
  unfold bitsI
  rw [bitsOf_join]
  · rw [nats_append, show nats [b] = [b.toNat] from rfl, num_append, nats_length]
    congr 1
    simp only [List.length_append, List.length_cons, List.length_nil]; omega
  · have := num_lt h.nats
    rwa [nats_length] at this
theorem bit_mod {b : Int} (h0 : 0 ≤ b) (k : Nat) : (b.fdiv (2 ^ k)).fmod 2 = ((b.toNat / 2 ^ k % 2 : Nat) : Int) := by
  have e : b = ((b.toNat : Nat) : Int) := by omega
  conv => lhs; rw [e, fdiv_nat]
  rw [Int.fmod_eq_emod_of_nonneg _ (by decide)]
  omega

/-- the work: the bits, 32 zeros behind, k of the first turned -/
def workI (ns : List Int) (k : Nat) : List Int := bitsOf (8 * ns.length + 32) (num (nats ns) ^^^ (2 ^ k - 1))
theorem num_lt_I {ns : List Int} (h : Bytes ns) : num (nats ns) < 2 ^ (8 * ns.length) := by
  have := num_lt h.nats
  rwa [nats_length] at this
theorem workI_zero {ns : List Int} (h : Bytes ns) : bitsI ns ++ List.replicate 32 0 = workI ns 0 := by
  unfold workI bitsI
  rw [bitsOf_zeros (num_lt_I h)]
  simp
theorem workI_succ (ns : List Int) {k : Nat} (h : k < 8 * ns.length + 32) : (workI ns k).set k (1 - (workI ns k).getD k 0) = workI ns (k + 1) := by
  unfold workI
  rw [bitsOf_set h, Nat.xor_assoc, mask_succ]

/-- behind i places of the division; turn is 1 or 0 -/
def divI (ns : List Int) (V : Nat) (i : Nat) : List Int := bitsOf (8 * ns.length + 32) (divs i V)

/-- the end: U, the register behind all places -/
theorem rem_bit {n k V : Nat} {m : Nat} (hk : n + k < m) : (bitsOf m (divs n V)).getD (n + k) 0 = ((steps n V / 2 ^ k % 2 : Nat) : Int) := by
  rw [bitsOf_getD_div hk, divs_get]
theorem sum_turned (U k : Nat) : ((2 ^ k - 1 - U % 2 ^ k : Nat) : Int) + (1 - ((U / 2 ^ k % 2 : Nat) : Int)) * 2 ^ k = ((2 ^ (k + 1) - 1 - U % 2 ^ (k + 1) : Nat) : Int) := by
  have h1 := low_succ U k
  have h2 := Nat.mod_lt U (Nat.two_pow_pos k)
  have h3 : (2 : Nat) ^ (k + 1) = 2 * 2 ^ k := by rw [Nat.pow_succ]; omega
  have h4 := Nat.mod_two_eq_zero_or_one (U / 2 ^ k)
  have h5 : ((2 : Int) ^ k) = ((2 ^ k : Nat) : Int) := by simp
  rw [h1, h3, h5]
  have hp := Nat.two_pow_pos k
  generalize 2 ^ k = p at *
  rcases h4 with h | h
  · rw [h]; simp only [Nat.mul_zero, Nat.add_zero]; omega
  · rw [h]; simp only [Nat.mul_one]; omega
theorem sum_plain (U k : Nat) : ((U % 2 ^ k : Nat) : Int) + ((U / 2 ^ k % 2 : Nat) : Int) * 2 ^ k = ((U % 2 ^ (k + 1) : Nat) : Int) := by
  have h1 := low_succ U k
  have h4 := Nat.mod_two_eq_zero_or_one (U / 2 ^ k)
  have h5 : ((2 : Int) ^ k) = ((2 ^ k : Nat) : Int) := by simp
  rw [h1, h5]
  generalize 2 ^ k = p at *
  rcases h4 with h | h
  · rw [h]; simp only [Nat.mul_zero, Nat.add_zero]; omega
  · rw [h]; simp only [Nat.mul_one]; omega
theorem rem_crc {ns : List Int} (h : Bytes ns) : ((2 ^ 32 - 1 - steps (8 * ns.length) (num (nats ns) ^^^ (2 ^ 32 - 1)) % 2 ^ 32 : Nat) : Int) = crcI ns := by
  have h1 := crcFold_eq (nats ns) 4294967295
  have h2 := crcFold_lt (c := 4294967295) (by decide) h.nats
  rw [nats_length, Nat.xor_comm] at h1
  have e : (2 ^ 32 - 1 : Nat) = 4294967295 := rfl
  rw [e, ← h1, Nat.mod_eq_of_lt h2]
  rfl

end Mine

namespace Mine
open PySem
theorem poly_flips (i V : Nat) : V ^^^ 2 ^ i ^^^ 2 ^ (i + 6) ^^^ 2 ^ (i + 9) ^^^ 2 ^ (i + 10) ^^^ 2 ^ (i + 16) ^^^ 2 ^ (i + 20) ^^^ 2 ^ (i + 21) ^^^ 2 ^ (i + 22) ^^^ 2 ^ (i + 24) ^^^ 2 ^ (i + 25) ^^^ 2 ^ (i + 27) ^^^ 2 ^ (i + 28) ^^^ 2 ^ (i + 30) ^^^ 2 ^ (i + 31) ^^^ 2 ^ (i + 32) = V ^^^ 2 ^ i * poly := by
  have e : (2 : Nat) ^ i = 2 ^ i * 1 := by omega
  have h : ∀ k, (2 : Nat) ^ (i + k) = 2 ^ i * 2 ^ k := fun k => Nat.pow_add 2 i k
  rw [h 6, h 9, h 10, h 16, h 20, h 21, h 22, h 24, h 25, h 27, h 28, h 30, h 31, h 32]
  conv => lhs; arg 1; arg 1; arg 1; arg 1; arg 1; arg 1; arg 1; arg 1; arg 1; arg 1; arg 1; arg 1; arg 1; arg 1; arg 2; rw [e]
  simp only [Nat.xor_assoc, ← mul_two_pow_xor]
  congr 1

theorem xor_bit_one {V j : Nat} {n : Nat} (h : j < n) : Builtin.bitXor ((bitsOf n V).getD j 0) 1 = 1 - (bitsOf n V).getD j 0 := by
  rw [bitsOf_getD h]
  cases V.testBit j <;> decide
theorem bit_one {V j : Nat} {n : Nat} (h : j < n) : (bitsOf n V).getD j 0 = 1 ↔ V.testBit j = true := by
  rw [bitsOf_getD h]
  cases V.testBit j <;> decide
end Mine

namespace Mine
open PySem
theorem nats_set (ns : List Int) (i : Nat) (x : Int) : nats (ns.set i x) = (nats ns).set i x.toNat := by simp [nats, List.map_set]
theorem nats_getD (ns : List Int) (i : Nat) : (nats ns).getD i 0 = (ns.getD i 0).toNat := by
  simp only [nats, List.getD_eq_getElem?_getD, List.getElem?_map]
  cases ns[i]? <;> rfl
theorem getD_mem {ns : List Int} {i : Nat} (h : i < ns.length) : ns.getD i 0 ∈ ns := by
  rw [List.getD_eq_getElem?_getD, List.getElem?_eq_getElem h]
  exact List.getElem_mem h
theorem Bytes.getD {ns : List Int} (h : Bytes ns) (i : Nat) : 0 ≤ ns.getD i 0 ∧ ns.getD i 0 < 256 := by
  by_cases hi : i < ns.length
  · exact h _ (getD_mem hi)
  · rw [List.getD_eq_getElem?_getD, List.getElem?_eq_none (by omega)]; decide
theorem Bytes.append {as bs : List Int} (ha : Bytes as) (hb : Bytes bs) : Bytes (as ++ bs) := by
  intro x hx
  rcases List.mem_append.mp hx with hx | hx
  · exact ha x hx
  · exact hb x hx
theorem Bytes.set {ns : List Int} (h : Bytes ns) (i : Nat) {x : Int} (h0 : 0 ≤ x) (h1 : x < 256) : Bytes (ns.set i x) := by
  intro y hy
  rcases List.mem_or_eq_of_mem_set hy with hy | rfl
  · exact h y hy
  · exact ⟨h0, h1⟩
theorem byte_xor {a t : Int} (ha : 0 ≤ a ∧ a < 256) (ht : 0 ≤ t ∧ t < 256) : 0 ≤ Builtin.bitXor a t ∧ Builtin.bitXor a t < 256 ∧ (Builtin.bitXor a t).toNat = a.toNat ^^^ t.toNat := by
  have e1 : a = ((a.toNat : Nat) : Int) := by omega
  have e2 : t = ((t.toNat : Nat) : Int) := by omega
  have h := Nat.xor_lt_two_pow (x := a.toNat) (y := t.toNat) (n := 8) (by omega) (by omega)
  rw [xor_int_nat ha.1 ht.1]
  refine ⟨by omega, by omega, ?_⟩
  simp

/-- one byte bent -/
def bendI (ns : List Int) (i : Nat) (t : Int) : List Int := ns.set i (Builtin.bitXor (ns.getD i 0) t)
theorem bendI_length (ns : List Int) (i : Nat) (t : Int) : (bendI ns i t).length = ns.length := by simp [bendI]
theorem bendI_bytes {ns : List Int} (h : Bytes ns) (i : Nat) {t : Int} (ht : 0 ≤ t ∧ t < 256) : Bytes (bendI ns i t) := by
  have := byte_xor (h.getD i) ht
  exact h.set i this.1 this.2.1
theorem bendI_num {ns : List Int} (h : Bytes ns) {i : Nat} {t : Int} (ht : 0 ≤ t ∧ t < 256) (hi : i < ns.length) : num (nats (bendI ns i t)) = num (nats ns) ^^^ 2 ^ (8 * i) * t.toNat := by
  have := byte_xor (h.getD i) ht
  unfold bendI
  rw [nats_set, this.2.2, ← nats_getD, num_set _ _ _ (by rw [nats_length]; exact hi)]

/-- what the plain division of a message leaves -/
def remI (ns : List Int) : Int := ((steps (8 * ns.length) (num (nats ns)) % 2 ^ 32 : Nat) : Int)

theorem xor_back (a b : Nat) : a ^^^ b ^^^ a = b := by rw [Nat.xor_comm (a ^^^ b), ← Nat.xor_assoc, Nat.xor_self, Nat.zero_xor]

theorem bent_xor {ns : List Int} (h : Bytes ns) {i : Nat} {t : Int} (ht : 0 ≤ t ∧ t < 256) (hi : i < ns.length) : Builtin.bitXor (crcI (bendI ns i t)) (crcI ns) = ((steps (8 * ns.length) (2 ^ (8 * i) * t.toNat) : Nat) : Int) := by
  unfold crcI
  rw [xor_nat, crc_xor (by rw [nats_length, nats_length, bendI_length]) (bendI_bytes h i ht).nats h.nats, bendI_num h ht hi, nats_length, bendI_length, xor_back]

theorem place_lt {n i t : Nat} (hi : i < n) (hn : n ≤ 4) (ht : t < 256) : 2 ^ (8 * i) * t < 2 ^ 32 := by
  have h1 : 2 ^ (8 * i) * t < 2 ^ (8 * i) * 2 ^ 8 := Nat.mul_lt_mul_of_pos_left (by omega) (Nat.two_pow_pos _)
  rw [← Nat.pow_add] at h1
  exact Nat.lt_of_lt_of_le h1 (Nat.pow_le_pow_right (by decide) (by omega))

theorem diff_rem {n i : Nat} {t : Int} (ht : 0 ≤ t ∧ t < 256) (hi : i < n) (hn : n ≤ 4) : remI ((List.replicate n 0).set i t) = ((steps (8 * n) (2 ^ (8 * i) * t.toNat) : Nat) : Int) := by
  have e : nats ((List.replicate n 0).set i t) = (List.replicate n 0).set i t.toNat := by rw [nats_set]; simp [nats]
  unfold remI
  rw [e, num_one hi, List.length_set, List.length_replicate, Nat.mod_eq_of_lt]
  exact steps_lt _ (place_lt hi hn (by omega))

/-- the change of the checksum -/
theorem body_change {ns : List Int} (h : Bytes ns) {i : Nat} {t : Int} (ht : 0 ≤ t ∧ t < 256) (hi : i < ns.length) (hn : ns.length ≤ 4) : Builtin.bitXor (crcI (bendI ns i t)) (crcI ns) = remI ((List.replicate ns.length 0).set i t) := by
  rw [bent_xor h ht hi, diff_rem ht hi hn]
theorem body_ne {ns : List Int} (h : Bytes ns) {i : Nat} {t : Int} (ht : 0 < t ∧ t < 256) (hi : i < ns.length) (hn : ns.length ≤ 4) : crcI (bendI ns i t) ≠ crcI ns := by
  intro e
  have h1 := bent_xor h (i := i) (t := t) ⟨by omega, ht.2⟩ hi
  rw [e] at h1
  unfold crcI at h1
  rw [xor_nat, Nat.xor_self] at h1
  have hp := Nat.two_pow_pos (8 * i)
  exact steps_ne (8 * ns.length) (place_lt (t := t.toNat) hi hn (by omega)) (Nat.ne_of_gt (Nat.mul_pos hp (by omega))) (by omega)

/-- the seal as four bytes -/
def cutI (x : Int) : List Int := (cut x.toNat).map fun b : Nat => (b : Int)
theorem cutI_length (x : Int) : (cutI x).length = 4 := rfl
theorem cutI_bytes (x : Int) : Bytes (cutI x) := by
  intro b hb
  obtain ⟨y, hy, rfl⟩ := List.mem_map.mp hb
  have := cut_lt _ _ hy
  omega
theorem nats_cutI (x : Int) : nats (cutI x) = cut x.toNat := by
  unfold nats cutI
  rw [List.map_map]
  exact (List.map_congr_left (fun b _ => Int.toNat_natCast b)).trans (List.map_id _)
theorem fdiv_pow (x : Nat) (k p : Nat) (e : p = 256 ^ k) : ((x : Int).fdiv (256 ^ k)).fmod 256 = ((x / p % 256 : Nat) : Int) := by
  subst e
  have h : (256 : Int) ^ k = ((256 ^ k : Nat) : Int) := by simp
  rw [h, Int.fdiv_eq_ediv_of_nonneg _ (Int.natCast_nonneg _), Int.fmod_eq_emod_of_nonneg _ (by decide)]
  simp
theorem cutI_eq {x : Int} (h : 0 ≤ x) : [(x.fdiv (256 ^ 0)).fmod 256, (x.fdiv (256 ^ 1)).fmod 256, (x.fdiv (256 ^ 2)).fmod 256, (x.fdiv (256 ^ 3)).fmod 256] = cutI x := by
  have e : x = ((x.toNat : Nat) : Int) := by omega
  rw [e, fdiv_pow _ 0 1 rfl, fdiv_pow _ 1 256 rfl, fdiv_pow _ 2 65536 rfl, fdiv_pow _ 3 16777216 rfl]
  simp [cutI, cut]
theorem cutI_inj {x y : Int} (hx : 0 ≤ x ∧ x ≤ 4294967295) (hy : 0 ≤ y ∧ y ≤ 4294967295) (h : cutI x = cutI y) : x = y := by
  have h1 := congrArg nats h
  rw [nats_cutI, nats_cutI] at h1
  have := cut_inj (s := x.toNat) (r := y.toNat) (by omega) (by omega) h1
  omega

/-- the trailer bent: refused -/
theorem trail_ne {x t : Int} {j : Nat} (ht : 0 < t ∧ t < 256) (hj : j < 4) : cutI x ≠ bendI (cutI x) j t := by
  intro e
  have h1 : num (nats (cutI x)) = num (nats (bendI (cutI x) j t)) := congrArg (fun l => num (nats l)) e
  rw [bendI_num (cutI_bytes x) ⟨by omega, ht.2⟩ (by rw [cutI_length]; exact hj)] at h1
  have h2 := xor_cancel h1.symm
  have hp := Nat.two_pow_pos (8 * j)
  have h3 := Nat.mul_pos hp (show 0 < t.toNat by omega)
  omega

/-- four bytes put together -/
theorem sum_num {ns : List Int} (h : Bytes ns) (hl : ns.length = 4) : ns.getD 0 0 * 256 ^ 0 + ns.getD 1 0 * 256 ^ 1 + ns.getD 2 0 * 256 ^ 2 + ns.getD 3 0 * 256 ^ 3 = ((num (nats ns) : Nat) : Int) := by
  match ns, hl with
  | [a, b, c, d], _ =>
    have ha := h a (by simp)
    have hb := h b (by simp)
    have hc := h c (by simp)
    have hd := h d (by simp)
    have := num_four (a := a.toNat) (b := b.toNat) (c := c.toNat) (d := d.toNat) (by omega) (by omega) (by omega) (by omega)
    show a * 1 + b * 256 + c * 65536 + d * 16777216 = ((num [a.toNat, b.toNat, c.toNat, d.toNat] : Nat) : Int)
    rw [this]
    omega

theorem trail_change {x t : Int} {j : Nat} (hx : 0 ≤ x ∧ x ≤ 4294967295) (ht : 0 ≤ t ∧ t < 256) (hj : j < 4) :
    Builtin.bitXor ((num (nats (bendI (cutI x) j t)) : Nat) : Int) x = ((2 ^ (8 * j) * t.toNat : Nat) : Int) := by
  have e : x = ((x.toNat : Nat) : Int) := by omega
  rw [bendI_num (cutI_bytes x) ht (by rw [cutI_length]; exact hj), nats_cutI, num_cut (by omega)]
  conv => lhs; arg 2; rw [e]
  rw [xor_nat, xor_back]

/-- where the bent byte lies -/
theorem bend_left {as bs : List Int} {i : Nat} (t : Int) (h : i < as.length) : bendI (as ++ bs) i t = bendI as i t ++ bs := by
  unfold bendI
  rw [List.set_append_left _ _ h, List.getD_eq_getElem?_getD, List.getD_eq_getElem?_getD, List.getElem?_append_left h]
theorem bend_right {as bs : List Int} {i : Nat} (t : Int) (h : as.length ≤ i) : bendI (as ++ bs) i t = as ++ bendI bs (i - as.length) t := by
  unfold bendI
  rw [List.set_append_right _ _ h, List.getD_eq_getElem?_getD, List.getD_eq_getElem?_getD, List.getElem?_append_right h]
end Mine

namespace Mine
theorem off1_ne {d a : Addr} {o : Obj} : ∀ {l : List (Addr × Obj)}, LCg.Off1 d l → (a, o) ∈ l → @Ne Nat a d
  | [], _, h => nomatch h
  | _ :: _, x, h => by
    rcases List.mem_cons.mp h with e | h
    · have := x.1; rw [← e] at this; exact this
    · exact off1_ne x.2 h
theorem off1_ne' {d a : Addr} {o : Obj} {l : List (Addr × Obj)} (x : LCg.Off1 d l) (h : (a, o) ∈ l) : @Ne Nat d a := Ne.symm (off1_ne x h)
theorem off1_lt {d : Addr} : ∀ {l : List (Addr × Obj)}, (∀ p ∈ l, p.1 < d) → LCg.Off1 d l
  | [], _ => trivial
  | p :: _, h => ⟨Nat.ne_of_lt (h p (.head _)), off1_lt fun q hq => h q (.tail _ hq)⟩
theorem off1_cons {d a : Addr} {o : Obj} {l : List (Addr × Obj)} (h : @Ne Nat a d) (r : LCg.Off1 d l) : LCg.Off1 d ((a, o) :: l) := ⟨h, r⟩
theorem off1_nil {d : Addr} : LCg.Off1 d [] := trivial

section
variable {M : Model} {A : Around} {E : Value → Shared → Prop} {s : Shared} {h₀ : Heap} {L : Addr} {m : Str → Option Value} {news : List (Addr × Obj)} {c : Sem Value} {Q : Value → Shared → Prop}
/-- a call's end: a new list of ints of which P is so, all else as it stood -/
def LCut (h₀ : Heap) (L : Addr) (m : Str → Option Value) (news : List (Addr × Obj)) (s : Shared) (P : List Int → Prop) (v : Value) (s' : Shared) : Prop :=
  ∃ (l : Addr) (vs : List Value) (ns : List Int) (n : Nat) (h : Heap) (tk : Nat), v = .ref l ∧ s' = { s with heap := h, toks := tk } ∧ Fr h₀ L h m ∧ News h₀ L h ((l, listOf vs.toArray n) :: news) ∧ LCg.Off1 l news ∧ IntsAre vs ns ∧ P ns
theorem LCut.intro {news' : List (Addr × Obj)} {P : List Int → Prop} {l : Addr} {vs : List Value} {ns : List Int} {n : Nat} {h : Heap} {tk : Nat} (F : Fr h₀ L h m) (N : News h₀ L h news') (hm : (l, listOf vs.toArray n) ∈ news') (hn : ∀ p ∈ news, p ∈ news') (hlt : LCg.Off1 l news) (hi : IntsAre vs ns) (hp : P ns) :
    LCut h₀ L m news s P (.ref l) { s with heap := h, toks := tk } :=
  ⟨l, vs, ns, n, h, tk, rfl, rfl, F, fun _ hp => (List.mem_cons.mp hp).elim (fun e => e ▸ N _ hm) (fun hp => N _ (hn _ hp)), hlt, hi, hp⟩
theorem cut_list (P : List Int → Prop) (_F : Fr h₀ L s.heap m) (_N : News h₀ L s.heap news) (body : wpAny M A c (fun v s' => LCut h₀ L m news s P v s') E s)
    (rest : ∀ l vs ns n h tk, Fr h₀ L h m → News h₀ L h ((l, listOf vs.toArray n) :: news) → LCg.Off1 l news → IntsAre vs ns → P ns → Q (.ref l) { s with heap := h, toks := tk }) : wpAny M A c Q E s := by
  refine wpAny_mono body (fun v s₂ hq => ?_) fun _ _ h => h
  obtain ⟨l, vs, ns, n, h, tk, rfl, rfl, F, N, hlt, hi, hp⟩ := hq
  exact rest l vs ns n h tk F N hlt hi hp

/-- a call's end: an int of which P is so, all else as it stood -/
def ICut (h₀ : Heap) (L : Addr) (m : Str → Option Value) (news : List (Addr × Obj)) (s : Shared) (P : Int → Prop) (v : Value) (s' : Shared) : Prop :=
  ∃ (x : Int) (t : Tok) (h : Heap) (tk : Nat), v = .int x t ∧ s' = { s with heap := h, toks := tk } ∧ Fr h₀ L h m ∧ News h₀ L h news ∧ P x
theorem ICut.intro {news' : List (Addr × Obj)} {P : Int → Prop} {x : Int} {t : Tok} {h : Heap} {tk : Nat} (F : Fr h₀ L h m) (N : News h₀ L h news') (hn : ∀ p ∈ news, p ∈ news') (hp : P x) :
    ICut h₀ L m news s P (.int x t) { s with heap := h, toks := tk } :=
  ⟨x, t, h, tk, rfl, rfl, F, fun _ hp => N _ (hn _ hp), hp⟩
theorem cut_int (P : Int → Prop) (_F : Fr h₀ L s.heap m) (_N : News h₀ L s.heap news) (body : wpAny M A c (fun v s' => ICut h₀ L m news s P v s') E s)
    (rest : ∀ x t h tk, Fr h₀ L h m → News h₀ L h news → P x → Q (.int x t) { s with heap := h, toks := tk }) : wpAny M A c Q E s := by
  refine wpAny_mono body (fun v s₂ hq => ?_) fun _ _ h => h
  obtain ⟨x, t, h, tk, rfl, rfl, F, N, hp⟩ := hq
  exact rest x t h tk F N hp

/-- a call's end: a bool of which P is so, all else as it stood -/
def BCut (h₀ : Heap) (L : Addr) (m : Str → Option Value) (news : List (Addr × Obj)) (s : Shared) (P : Bool → Prop) (v : Value) (s' : Shared) : Prop :=
  ∃ (x : Bool) (h : Heap) (tk : Nat), v = .bool x ∧ s' = { s with heap := h, toks := tk } ∧ Fr h₀ L h m ∧ News h₀ L h news ∧ P x
theorem BCut.intro {news' : List (Addr × Obj)} {P : Bool → Prop} {x : Bool} {h : Heap} {tk : Nat} (F : Fr h₀ L h m) (N : News h₀ L h news') (hn : ∀ p ∈ news, p ∈ news') (hp : P x) :
    BCut h₀ L m news s P (.bool x) { s with heap := h, toks := tk } :=
  ⟨x, h, tk, rfl, rfl, F, fun _ hp => N _ (hn _ hp), hp⟩
theorem cut_bool (P : Bool → Prop) (_F : Fr h₀ L s.heap m) (_N : News h₀ L s.heap news) (body : wpAny M A c (fun v s' => BCut h₀ L m news s P v s') E s)
    (rest : ∀ x h tk, Fr h₀ L h m → News h₀ L h news → P x → Q (.bool x) { s with heap := h, toks := tk }) : wpAny M A c Q E s := by
  refine wpAny_mono body (fun v s₂ hq => ?_) fun _ _ h => h
  obtain ⟨x, h, tk, rfl, rfl, F, N, hp⟩ := hq
  exact rest x h tk F N hp
end
end Mine
namespace Mine
section
variable {M : Model} {A : Around} {E : Value → Shared → Prop} {s : Shared} {h₀ : Heap} {L : Addr} {m : Str → Option Value} {news : List (Addr × Obj)} {Q : Value → Shared → Prop}
end
section
variable {prog : Program} {w : World} {A : Around} {E : Value → Shared → Prop} {s : Shared} {h₀ : Heap} {L a b : Addr} {m : Str → Option Value} {news : List (Addr × Obj)} {vs ws : List Value} {ns : List Int} {Q : Value → Shared → Prop}
end
end Mine

namespace Mine
theorem snoc_length (pre : List Int) (k : Int) : (pre ++ [k]).length = pre.length + 1 := by simp
theorem bitsOf_succ (n V : Nat) : bitsOf (n + 1) V = bitsOf n V ++ [((V / 2 ^ n % 2 : Nat) : Int)] := by
  rw [bitsOf_add]
  have e : bitsOf 1 (V / 2 ^ n) = [((V / 2 ^ n % 2 : Nat) : Int)] := by
    have h := Nat.mod_two_eq_zero_or_one (V / 2 ^ n)
    rcases h with h | h <;> simp [bitsOf, List.range, List.range.loop, Nat.testBit_zero, h]
  rw [e]

/-- the bits of the bytes pre -/
structure BitsAt (pre bits : List Int) : Prop where
  eq : bits = bitsI pre
/-- and k of one byte more -/
structure InAt (pre : List Int) (k : Nat) (b : Int) (bits : List Int) : Prop where
  eq : bits = bitsI pre ++ bitsOf k b.toNat
/-- k zeros behind -/
structure ZeroAt (ms : List Int) (k : Nat) (bits : List Int) : Prop where
  eq : bits = bitsI ms ++ List.replicate k 0
/-- k places divided -/
structure DivAt (ms : List Int) (W k : Nat) (bits : List Int) : Prop where
  eq : bits = divI ms W k
/-- a list of bits as one number -/
structure Flip (bits : List Int) (m V : Nat) : Prop where
  eq : bits = bitsOf m V
theorem b_start : BitsAt [] [] ∧ List.length ([] : List Int) = 8 * List.length ([] : List Int) := ⟨⟨rfl⟩, rfl⟩
/- the bits of one byte -/
theorem in_start {bits pre : List Int} {b : Int} (h : BitsAt pre bits) (hl : bits.length = 8 * pre.length) : InAt pre (List.length ([] : List Int)) b bits ∧ bits.length = 8 * pre.length + List.length ([] : List Int) := by
  refine ⟨⟨?_⟩, by simpa using hl⟩
  rw [h.eq]; simp [bitsOf]
theorem in_turn7 {bits pre done ms : List Int} {b k : Int} (h : InAt pre done.length b bits) (hl : bits.length = 8 * pre.length + done.length) (hk : k = 0 + (done.length : Int)) (hb : Bytes ms) (hm : b ∈ ms) :
    InAt pre (done ++ [k]).length b (bits ++ [(b.fdiv (2 ^ k.toNat)).fmod 2]) ∧ (bits ++ [(b.fdiv (2 ^ k.toNat)).fmod 2]).length = 8 * pre.length + (done ++ [k]).length := by
  have ek : k.toNat = done.length := by omega
  have hb0 := (hb b hm).1
  refine ⟨⟨?_⟩, by rw [List.length_append, hl, snoc_length]; simp; omega⟩
  rw [bit_mod hb0, ek, snoc_length, bitsOf_succ, h.eq, List.append_assoc]
theorem out_turn {bits pre post ms ks : List Int} {b : Int} (h : InAt pre ks.length b bits) (hl : bits.length = 8 * pre.length + ks.length) (hks : ks.length = 8) (hb : Bytes ms) (he : ms = pre ++ b :: post) :
    BitsAt (pre ++ [b]) bits ∧ bits.length = 8 * (pre ++ [b]).length := by
  have h' := h.eq
  rw [hks] at h' hl
  subst he
  refine ⟨⟨?_⟩, by rw [hl, snoc_length]; omega⟩
  rw [h', bitsI_snoc hb.left]

/- the zeros behind -/
theorem z_start {bits ms : List Int} (h : BitsAt ms bits) (hl : bits.length = 8 * ms.length) : ZeroAt ms (List.length ([] : List Int)) bits ∧ bits.length = 8 * ms.length + List.length ([] : List Int) := by
  refine ⟨⟨?_⟩, by simpa using hl⟩
  rw [h.eq]; simp
theorem z_turn {bits ms done : List Int} {k : Int} (h : ZeroAt ms done.length bits) (hl : bits.length = 8 * ms.length + done.length) : ZeroAt ms (done ++ [k]).length (bits ++ [0]) ∧ (bits ++ [0]).length = 8 * ms.length + (done ++ [k]).length := by
  refine ⟨⟨?_⟩, by rw [List.length_append, hl, snoc_length]; simp; omega⟩
  rw [h.eq, snoc_length, List.replicate_succ', List.append_assoc]

/- the first 32 turned -/
/- the division -/
theorem d_stay {bits ms done : List Int} {k : Int} {W : Nat} (h : DivAt ms W done.length bits) (hl : bits.length = 8 * ms.length + 32) (hk : k = 0 + (done.length : Int)) (hd : done.length < 8 * ms.length) (hn : bits.getD k.toNat 0 ≠ 1) :
    DivAt ms W (done ++ [k]).length bits ∧ bits.length = 8 * ms.length + 32 := by
  have ek : k.toNat = done.length := by omega
  have h' := h.eq
  refine ⟨⟨?_⟩, hl⟩
  rw [snoc_length]
  rw [ek, h'] at hn
  rw [h']
  unfold divI at hn ⊢
  rw [Ne, bit_one (by omega)] at hn
  rw [divs, divStep, if_neg hn]
theorem d_flip {bits ms done : List Int} {W : Nat} (h : DivAt ms W done.length bits) : Flip bits (8 * ms.length + 32) (divs done.length W) := ⟨h.eq⟩
theorem shift_nat7 {k : Int} {d a : Nat} (hk : k = 0 + (d : Int)) : (k + ((a : Nat) : Int)).toNat = d + a := by omega
theorem d_done {bits bits₀ ms done : List Int} {k : Int} {W : Nat} (h : DivAt ms W done.length bits₀) (hl : bits.length = bits₀.length) (hl₀ : bits₀.length = 8 * ms.length + 32) (hk : k = 0 + (done.length : Int)) (hd : done.length < 8 * ms.length) (hn : bits₀.getD k.toNat 0 = 1)
    (hf : Flip bits (8 * ms.length + 32) (divs done.length W ^^^ 2 ^ done.length * poly)) :
    DivAt ms W (done ++ [k]).length bits ∧ bits.length = 8 * ms.length + 32 := by
  refine ⟨⟨?_⟩, by rw [hl, hl₀]⟩
  have ek : k.toNat = done.length := by omega
  rw [ek, h.eq] at hn
  unfold divI at hn
  rw [bit_one (by omega)] at hn
  rw [hf.eq, snoc_length]
  unfold divI
  rw [divs, divStep, if_pos hn]
theorem d_turn7 {bits bits₀ ms done : List Int} {k : Int} {W : Nat} (h : DivAt ms W done.length bits₀) (hl : bits.length = bits₀.length) (hl₀ : bits₀.length = 8 * ms.length + 32) (hk : k = 0 + (done.length : Int)) (hd : done.length < 8 * ms.length) (hn : bits₀.getD k.toNat 0 = 1)
    (hf : Flip bits (8 * ms.length + 32) (divs done.length W ^^^ 2 ^ (k + 0).toNat ^^^ 2 ^ (k + 6).toNat ^^^ 2 ^ (k + 9).toNat ^^^ 2 ^ (k + 10).toNat ^^^ 2 ^ (k + 16).toNat ^^^ 2 ^ (k + 20).toNat ^^^ 2 ^ (k + 21).toNat ^^^ 2 ^ (k + 22).toNat ^^^ 2 ^ (k + 24).toNat ^^^ 2 ^ (k + 25).toNat ^^^ 2 ^ (k + 27).toNat ^^^ 2 ^ (k + 28).toNat ^^^ 2 ^ (k + 30).toNat ^^^ 2 ^ (k + 31).toNat ^^^ 2 ^ (k + 32).toNat)) :
    DivAt ms W (done ++ [k]).length bits ∧ bits.length = 8 * ms.length + 32 := by
  refine d_done h hl hl₀ hk hd hn ⟨?_⟩
  have hf' := hf.eq
  have h0 : (k + 0).toNat = done.length := shift_nat7 hk (a := 0)
  have h6 : (k + 6).toNat = done.length + 6 := shift_nat7 hk (a := 6)
  have h9 : (k + 9).toNat = done.length + 9 := shift_nat7 hk (a := 9)
  have h10 : (k + 10).toNat = done.length + 10 := shift_nat7 hk (a := 10)
  have h16 : (k + 16).toNat = done.length + 16 := shift_nat7 hk (a := 16)
  have h20 : (k + 20).toNat = done.length + 20 := shift_nat7 hk (a := 20)
  have h21 : (k + 21).toNat = done.length + 21 := shift_nat7 hk (a := 21)
  have h22 : (k + 22).toNat = done.length + 22 := shift_nat7 hk (a := 22)
  have h24 : (k + 24).toNat = done.length + 24 := shift_nat7 hk (a := 24)
  have h25 : (k + 25).toNat = done.length + 25 := shift_nat7 hk (a := 25)
  have h27 : (k + 27).toNat = done.length + 27 := shift_nat7 hk (a := 27)
  have h28 : (k + 28).toNat = done.length + 28 := shift_nat7 hk (a := 28)
  have h30 : (k + 30).toNat = done.length + 30 := shift_nat7 hk (a := 30)
  have h31 : (k + 31).toNat = done.length + 31 := shift_nat7 hk (a := 31)
  have h32 : (k + 32).toNat = done.length + 32 := shift_nat7 hk (a := 32)
  rw [h0, h6, h9, h10, h16, h20, h21, h22, h24, h25, h27, h28, h30, h31, h32] at hf'
  rw [hf', ← poly_flips]

/- the sum of the rest's turned bits -/
section
variable {prog : Program} {w : World} {A : Around} {E : Value → Shared → Prop} {s : Shared} {h₀ : Heap} {L D : Addr} {m : Str → Option Value} {news : List (Addr × Obj)} {vs : List Value} {ns : List Int} {n : Nat} {k x : Int} {t u : Tok}
/-- a store that flips one bit of a list of bits -/
theorem set_flip {Q : Unit → Shared → Prop} {nf : Obj → List (Addr × Obj)} {M V : Nat} (F : Fr h₀ L s.heap m) (N : News h₀ L s.heap news) (U : ∀ o', Upd D (listOf vs.toArray n) o' news (nf o')) (hi : IntsAre vs ns) (hb : Flip ns M V) (hx : x = 1 - ns.getD k.toNat 0) (h0 : 0 ≤ k) (h1 : k < ns.length) (hfit : k < 2 ^ 63)
    (h : ∀ h' vs' ns', Fr h₀ L h' m → News h₀ L h' (nf (listOf (List.toArray vs') n)) → IntsAre vs' ns' → Flip ns' M (V ^^^ 2 ^ k.toNat) → ns'.length = ns.length → Q () { s with heap := h' }) :
    wpAny (model prog w) A (setItem (.ref D) (.int k t) (.int x u)) Q E s := by
  refine ksa_set F N (U _) hi h0 h1 hfit (fun h' F' N' I' hl' _ => h h' _ _ F' N' I' ⟨?_⟩ hl')
  have hb := hb.eq
  subst hx
  subst hb
  rw [bitsOf_length] at h1
  exact bitsOf_set (by omega)
/-- the same, told by ^ 1 -/
theorem set_flip7 {Q : Unit → Shared → Prop} {nf : Obj → List (Addr × Obj)} {M V : Nat} (F : Fr h₀ L s.heap m) (N : News h₀ L s.heap news) (U : ∀ o', Upd D (listOf vs.toArray n) o' news (nf o')) (hi : IntsAre vs ns) (hb : Flip ns M V) (hx : x = Builtin.bitXor (ns.getD k.toNat 0) 1) (h0 : 0 ≤ k) (h1 : k < ns.length) (hfit : k < 2 ^ 63)
    (h : ∀ h' vs' ns', Fr h₀ L h' m → News h₀ L h' (nf (listOf (List.toArray vs') n)) → IntsAre vs' ns' → Flip ns' M (V ^^^ 2 ^ k.toNat) → ns'.length = ns.length → Q () { s with heap := h' }) :
    wpAny (model prog w) A (setItem (.ref D) (.int k t) (.int x u)) Q E s := by
  refine set_flip F N U hi hb ?_ h0 h1 hfit h
  have hb := hb.eq
  subst hb
  rw [bitsOf_length] at h1
  rw [hx, xor_bit_one (by omega)]
end
section
variable {h₀ : Heap} {L : Addr} {s₁ : Shared}
/-- a turn's end of a loop over a written tuple: the ledger stays, but for the iterator -/
theorem unr_end {i : Addr} {o : Obj} {tail : List (Addr × Obj)} {R : (Str → Option Value) → List (Addr × Obj) → Prop} {h' : Heap} {tk : Nat} {m' : Str → Option Value} (F : Fr h₀ L h' m') (N : News h₀ L h' ((i, o) :: tail)) (off : ∀ p ∈ tail, p.1 ≠ i) (r : R m' tail) :
    UnrEndW h₀ L s₁ [(i, o)] (fun m' n' => SubL [] n' ∧ R m' n') { s₁ with heap := h', toks := tk } :=
  ⟨h', tk, m', tail, rfl, F, N, fun p hp q hq => by rw [List.mem_singleton.mp hq]; exact off p hp, trivial, r⟩
end
/- crc32_eight_steps, crc32_bitwise, crc32_by_table -/
def stepsI : Nat → Int → Int
  | 0, c => c
  | n + 1, c => stepI (stepsI n c)
structure StepsAt (c₀ : Int) (k : Nat) (c : Int) : Prop where
  eq : c = stepsI k c₀
theorem s_start (c : Int) : StepsAt c (List.length ([] : List Int)) c := ⟨rfl⟩
theorem s_odd {c₀ c k : Int} {done : List Int} (h : StepsAt c₀ done.length c) (ho : Builtin.bitAnd c 1 = 1) : StepsAt c₀ (done ++ [k]).length (Builtin.bitXor (c.fdiv (2 ^ (1 : Int).toNat)) 3988292384) := by
  refine ⟨?_⟩
  rw [snoc_length, stepsI, ← h.eq, stepI, if_pos ho]
  rfl
theorem s_even {c₀ c k : Int} {done : List Int} (h : StepsAt c₀ done.length c) (ho : Builtin.bitAnd c 1 ≠ 1) : StepsAt c₀ (done ++ [k]).length (c.fdiv (2 ^ (1 : Int).toNat)) := by
  refine ⟨?_⟩
  rw [snoc_length, stepsI, ← h.eq, stepI, if_neg ho]
  rfl
theorem s_end {c₀ c : Int} {ks : List Int} (h : StepsAt c₀ ks.length c) (hks : ks.length = 8) : c = eightI c₀ := by
  have h' := h.eq
  rw [hks] at h'
  exact h'
structure RegAt (pre : List Int) (c : Int) : Prop where
  eq : c = foldI pre
theorem r_start {c : Int} (h : c = 4294967295) : RegAt [] c := ⟨h⟩
theorem r_turn {pre ms : List Int} {c b x : Int} (h : RegAt pre c) (hx : x = eightI (Builtin.bitXor c b)) (hb : Bytes ms) (hm : b ∈ ms) : RegAt (pre ++ [b]) x := by
  refine ⟨?_⟩
  rw [hx, h.eq, ← foldI_snoc _ (hb b hm).1]
/-- what a checksum is known by -/
abbrev IsCrc (ns : List Int) (x : Int) : Prop := x = crcI ns ∧ 0 ≤ x ∧ x ≤ 4294967295 ∧ (ns.length ≠ 0 ∨ x = 0)
theorem isCrc_of {ns : List Int} {x : Int} (h : x = crcI ns) : IsCrc ns x := by
  refine ⟨h, by rw [h]; exact crcI_nonneg ns, by rw [h]; exact crcI_le ns, ?_⟩
  cases ns with
  | nil => exact .inr (by rw [h, crcI_nil])
  | cons _ _ => exact .inl (by simp)
theorem r_end {ms : List Int} {c m : Int} (h : RegAt ms c) (hb : Bytes ms) (hm : m = 4294967295) : IsCrc ms (Builtin.bitAnd (Builtin.bitNot c) m) := by
  refine isCrc_of ?_
  rw [hm, h.eq, crcI_inv hb]
section
variable {M : Model} {A : Around} {E : Value → Shared → Prop} {s : Shared} {h₀ : Heap} {L : Addr} {m : Str → Option Value} {news : List (Addr × Obj)} {Q : Value → Shared → Prop}
/-- the eight steps, once for any int -/
theorem cut_eight {f : Addr} {c : Int} {t : Tok} (F : Fr h₀ L s.heap m) (N : News h₀ L s.heap news)
    (body : ∀ c₀ : Int, wpAny M A (call (.ref f) [.int c₀ t]) (fun v s' => ICut h₀ L m news s (fun x => x = eightI c₀) v s') E s)
    (rest : ∀ t h tk, Fr h₀ L h m → News h₀ L h news → Q (.int (eightI c) t) { s with heap := h, toks := tk }) : wpAny M A (call (.ref f) [.int c t]) Q E s :=
  cut_int (fun x => x = eightI c) F N (body c) (fun x t h tk F N e => by rw [e]; exact rest t h tk F N)
end
/- the message -/
theorem fm256 (a : Int) : 0 ≤ a.fmod 256 ∧ a.fmod 256 < 256 := ⟨Int.fmod_nonneg_of_pos a (by decide), Int.fmod_lt_of_pos a (by decide)⟩
theorem bytes_map {n : Nat} {f : Int → Int} (hf : ∀ k, 0 ≤ f k ∧ f k < 256) : Bytes ((rangeKs 0 n).map f) := by
  intro b hb
  obtain ⟨k, _, rfl⟩ := List.mem_map.mp hb
  exact hf k
theorem Bytes.sub {as bs : List Int} (h : Bytes bs) (hs : ∀ x ∈ as, x ∈ bs) : Bytes as := fun b hb => h b (hs b hb)
section
variable {prog : Program} {w : World} {A : Around} {E : Value → Shared → Prop} {s : Shared} {a d : Int} {t u : Tok} {Q : Value → Shared → Prop}
/-- a rest by a divisor that is not written -/
theorem mod_rest (hd : 0 < d) (h : ∀ r, 0 ≤ r → r < d → Q (.int r s.toks) { s with toks := s.toks + 1 }) : wpAny (model prog w) A (binaryOp .Mod (.int a t) (.int d u)) Q E s :=
  mod_int' (by omega) (h _ (Int.fmod_nonneg_of_pos a hd) (Int.fmod_lt_of_pos a hd))
end
end Mine

namespace Mine
section
variable {prog : Program} {w : World} {A : Around} {E : Value → Shared → Prop} {s : Shared} {h₀ : Heap} {L a b : Addr} {m : Str → Option Value} {news : List (Addr × Obj)} {vs ws : List Value} {ns : List Int} {Q : Value → Shared → Prop}
end
section
variable {prog : Program} {w : World} {A : Around} {E : Value → Shared → Prop} {s : Shared} {a b : Int} {t u : Tok} {Q : Value → Shared → Prop}
end
section
variable {M : Model} {A : Around} {E : Value → Shared → Prop} {s : Shared} {h₀ : Heap} {L : Addr} {m : Str → Option Value} {news : List (Addr × Obj)} {Q : Value → Shared → Prop}
end
theorem r_turn2 {pre ms : List Int} {c b : Int} (h : RegAt pre c) (hb : Bytes ms) (hm : b ∈ ms) : RegAt (pre ++ [b]) (eightI (Builtin.bitXor c b)) := r_turn h rfl hb hm
theorem Bytes.hi {ms : List Int} {b : Int} (h : Bytes ms) (hm : b ∈ ms) : b < 256 := (h b hm).2
end Mine

namespace Mine
open PySem
/- the turn: 1 turns, 0 does not -/
def maskT (turn : Int) (k : Nat) : Nat := if turn = 1 then 2 ^ k - 1 else 0
theorem maskT_zero (turn : Int) : maskT turn 0 = 0 := by unfold maskT; split <;> rfl
def workT (turn : Int) (ns : List Int) (k : Nat) : List Int := bitsOf (8 * ns.length + 32) (num (nats ns) ^^^ maskT turn k)
def seedT (turn : Int) (ns : List Int) : Nat := num (nats ns) ^^^ maskT turn 32
theorem workT_zero {ns : List Int} (turn : Int) (h : Bytes ns) : bitsI ns ++ List.replicate 32 0 = workT turn ns 0 := by
  rw [workI_zero h]
  unfold workI workT
  rw [maskT_zero]
theorem workT_one (ns : List Int) {k : Nat} (h : k < 8 * ns.length + 32) : (workT 1 ns k).set k (Builtin.bitXor ((workT 1 ns k).getD k 0) 1) = workT 1 ns (k + 1) := by
  have e : ∀ j, workT 1 ns j = workI ns j := fun j => rfl
  rw [e, e, ← workI_succ ns h]
  unfold workI
  rw [xor_bit_one h]
theorem set_self {l : List Int} {k : Nat} (h : k < l.length) : l.set k (l.getD k 0) = l := by
  rw [List.getD_eq_getElem?_getD, List.getElem?_eq_getElem h]
  exact List.set_getElem_self h
theorem xor_bit_zero {V j : Nat} {n : Nat} (h : j < n) : Builtin.bitXor ((bitsOf n V).getD j 0) 0 = (bitsOf n V).getD j 0 := by
  rw [bitsOf_getD h]
  split <;> decide
theorem workT_no (ns : List Int) {k : Nat} (h : k < 8 * ns.length + 32) : (workT 0 ns k).set k (Builtin.bitXor ((workT 0 ns k).getD k 0) 0) = workT 0 ns (k + 1) := by
  have e : workT 0 ns (k + 1) = workT 0 ns k := rfl
  rw [e]
  conv => lhs; unfold workT
  rw [xor_bit_zero h, set_self (by rw [bitsOf_length]; exact h)]
  rfl

/-- what is summed up -/
def sumT (turn : Int) (U k : Nat) : Int := if turn = 1 then ((2 ^ k - 1 - U % 2 ^ k : Nat) : Int) else ((U % 2 ^ k : Nat) : Int)
theorem sumT_zero (turn : Int) (U : Nat) : sumT turn U 0 = 0 := by unfold sumT; split <;> simp [Nat.mod_one]
theorem sumT_one {n m V k : Nat} (h : n + k < m) : sumT 1 (steps n V) k + Builtin.bitXor ((bitsOf m (divs n V)).getD (n + k) 0) 1 * 2 ^ k = sumT 1 (steps n V) (k + 1) := by
  rw [xor_bit_one h, rem_bit h]
  exact sum_turned _ _
theorem sumT_no {n m V k : Nat} (h : n + k < m) : sumT 0 (steps n V) k + Builtin.bitXor ((bitsOf m (divs n V)).getD (n + k) 0) 0 * 2 ^ k = sumT 0 (steps n V) (k + 1) := by
  rw [xor_bit_zero h, rem_bit h]
  exact sum_plain _ _
theorem sumT_crc {ns : List Int} (h : Bytes ns) : sumT 1 (steps (8 * ns.length) (seedT 1 ns)) 32 = crcI ns := rem_crc h
theorem sumT_rem (ns : List Int) : sumT 0 (steps (8 * ns.length) (seedT 0 ns)) 32 = remI ns := by
  have e : seedT 0 ns = num (nats ns) := by unfold seedT maskT; simp
  rw [e]
  rfl

/- where a nibble lies -/
theorem half (p : Int) : 2 * p.fdiv 2 ≤ p ∧ p < 2 * p.fdiv 2 + 2 ∧ p.fmod 2 = p - 2 * p.fdiv 2 := by
  have h1 := Int.mul_fdiv_add_fmod p 2
  have h2 := Int.fmod_nonneg_of_pos p (b := 2) (by decide)
  have h3 := Int.fmod_lt_of_pos p (b := 2) (by decide)
  omega
/-- the nibble's change as its byte's -/
def turnI (d p : Int) : Int := d * 16 ^ (p.fmod 2).toNat
theorem turnI_cases (d p : Int) : (p.fmod 2 = 0 ∧ turnI d p = d) ∨ (p.fmod 2 = 1 ∧ turnI d p = 16 * d) := by
  have h2 := Int.fmod_nonneg_of_pos p (b := 2) (by decide)
  have h3 := Int.fmod_lt_of_pos p (b := 2) (by decide)
  unfold turnI
  by_cases h : p.fmod 2 = 0
  · left; rw [h]; exact ⟨rfl, by simp⟩
  · right
    have h1 : p.fmod 2 = 1 := by omega
    rw [h1]; exact ⟨rfl, by show d * 16 ^ 1 = _; omega⟩
theorem turnI_range {d : Int} (p : Int) (h1 : 1 ≤ d) (h2 : d ≤ 15) : 0 < turnI d p ∧ turnI d p < 256 := by
  rcases turnI_cases d p with ⟨_, h⟩ | ⟨_, h⟩ <;> rw [h] <;> omega

/- the frame, bent or not -/
structure FrameAt (ns : List Int) (x : Int) (fs : List Int) : Prop where
  eq : fs = ns ++ cutI x
structure BentAt (fs : List Int) (q t : Int) (bs : List Int) : Prop where
  eq : bs = bendI fs q.toNat t
/-- the receiver's check -/
structure AccAt (fs : List Int) (b : Bool) : Prop where
  eq : b = true ↔ cutI (crcI (fs.take (fs.length - 4))) = fs.drop (fs.length - 4)
theorem acc_frame {ns fs : List Int} {x : Int} {b : Bool} (hf : FrameAt ns x fs) (hx : x = crcI ns) (h : AccAt fs b) : b = true := by
  refine h.eq.mpr ?_
  have hl : fs.length - 4 = ns.length := by rw [hf.eq, List.length_append, cutI_length]; omega
  rw [hl, hf.eq, List.take_left, List.drop_left, hx]
theorem bent_body {ns fs bs : List Int} {x q t : Int} (hf : FrameAt ns x fs) (hb : BentAt fs q t bs) (hq : q.toNat < ns.length) : bs = bendI ns q.toNat t ++ cutI x := by
  rw [hb.eq, hf.eq, bend_left t hq]
theorem bent_trail {ns fs bs : List Int} {x q t : Int} (hf : FrameAt ns x fs) (hb : BentAt fs q t bs) (hq : ns.length ≤ q.toNat) : bs = ns ++ bendI (cutI x) (q.toNat - ns.length) t := by
  rw [hb.eq, hf.eq, bend_right t hq]
theorem acc_bent {ns fs bs : List Int} {x q t : Int} {b : Bool} (hf : FrameAt ns x fs) (hx : x = crcI ns) (hB : Bytes ns) (hn : ns.length ≤ 4) (hb : BentAt fs q t bs) (ht : 0 < t ∧ t < 256) (_hq0 : 0 ≤ q) (hq : q < ns.length + 4) (h : AccAt bs b) : b = false := by
  rw [← Bool.not_eq_true]
  intro hT
  have h1 := h.eq.mp hT
  by_cases hc : q.toNat < ns.length
  · have e := bent_body hf hb hc
    have hl : bs.length - 4 = (bendI ns q.toNat t).length := by rw [e, List.length_append, cutI_length]; omega
    rw [hl, e, List.take_left, List.drop_left, hx] at h1
    exact body_ne hB ht hc hn (cutI_inj ⟨crcI_nonneg _, crcI_le _⟩ ⟨crcI_nonneg _, crcI_le _⟩ h1)
  · have e := bent_trail hf hb (by omega)
    have hl : bs.length - 4 = ns.length := by rw [e, List.length_append, bendI_length, cutI_length]; omega
    rw [hl, e, List.take_left, List.drop_left, ← hx] at h1
    exact trail_ne ht (by omega) h1
/-- the body of the bent frame -/
theorem fresh_body {ns fs bs ts : List Int} {x q t n : Int} (hf : FrameAt ns x fs) (hb : BentAt fs q t bs) (hn : (ns.length : Int) = n) (ht : ts = bs.take n.toNat) (hq : q.toNat < ns.length) : ts = bendI ns q.toNat t := by
  have hl : n.toNat = (bendI ns q.toNat t).length := by rw [bendI_length]; omega
  rw [ht, bent_body hf hb hq, hl, List.take_left]
theorem fresh_trail {ns fs bs ts : List Int} {x q t n : Int} (hf : FrameAt ns x fs) (hb : BentAt fs q t bs) (hn : (ns.length : Int) = n) (ht : ts = bs.take n.toNat) (hq : ns.length ≤ q.toNat) : ts = ns := by
  have hl : n.toNat = ns.length := by omega
  rw [ht, bent_trail hf hb hq, hl, List.take_left]
/-- which is the same just behind a bent trailer -/
theorem fresh_or {ns fs bs ts : List Int} {x y t n p : Int} (hf : FrameAt ns x fs) (hx : x = crcI ns) (hB : Bytes ns) (hn4 : n < 5) (hb : BentAt fs (p.fdiv 2) t bs) (ht : 0 < t ∧ t < 256) (hn : (ns.length : Int) = n) (hts : ts = bs.take n.toNat) (hy : y = crcI ts) (hp0 : 0 ≤ p) :
    (p < 2 * n ∧ y ≠ x) ∨ (2 * n ≤ p ∧ y = x) := by
  have hh := half p
  by_cases h : p < 2 * n
  · left
    refine ⟨h, ?_⟩
    rw [hy, fresh_body hf hb hn hts (by omega), hx]
    exact body_ne hB ht (by omega) (by omega)
  · right
    refine ⟨by omega, ?_⟩
    rw [hy, fresh_trail hf hb hn hts (by omega), hx]
/-- the change of the checksum is a remainder -/
theorem fresh_xor {ns fs bs ts zs ds : List Int} {x y z t n p : Int} (hf : FrameAt ns x fs) (hx : x = crcI ns) (hB : Bytes ns) (hn4 : n < 5) (hb : BentAt fs (p.fdiv 2) t bs) (ht : 0 < t ∧ t < 256) (hn : (ns.length : Int) = n) (hts : ts = bs.take n.toNat) (hy : y = crcI ts) (hp0 : 0 ≤ p)
    (h : p < 2 * n) (hzs : zs = List.replicate n.toNat 0) (hds : ds = zs.set (p.fdiv 2).toNat t) (hz : z = remI ds) : Builtin.bitXor y x = z := by
  have hh := half p
  have hq : (p.fdiv 2).toNat < ns.length := by omega
  have en : n.toNat = ns.length := by omega
  rw [hy, fresh_body hf hb hn hts hq, hx, hz, hds, hzs, en]
  exact body_change hB ⟨by omega, ht.2⟩ hq (by omega)

theorem pow16 (j : Nat) (r : Int) (d : Int) (_hr : r = 0 ∨ r = 1) : 2 ^ (8 * j) * (d * 16 ^ r.toNat) = d * 16 ^ (2 * j + r.toNat) := by
  have e : (2 : Int) ^ (8 * j) = 16 ^ (2 * j) := by
    rw [show 8 * j = 4 * (2 * j) by omega, Int.pow_mul]; rfl
  rw [Int.pow_add, e, Int.mul_left_comm]
theorem getD_right (as bs : List Int) (k : Nat) : (as ++ bs).getD (as.length + k) 0 = bs.getD k 0 := by
  rw [List.getD_eq_getElem?_getD, List.getD_eq_getElem?_getD, List.getElem?_append_right (by omega)]
  congr 2
  omega
/-- the trailer's change -/
theorem recv_xor {ns fs bs : List Int} {x n p d : Int} (hf : FrameAt ns x fs) (hx : x = crcI ns) (hb : BentAt fs (p.fdiv 2) (turnI d p) bs) (hd1 : 1 ≤ d) (hd2 : d ≤ 15) (hn : (ns.length : Int) = n) (hp0 : 2 * n ≤ p) (hp1 : p < 2 * n + 8) :
    Builtin.bitXor (bs.getD ns.length 0 * 256 ^ 0 + bs.getD (ns.length + 1) 0 * 256 ^ 1 + bs.getD (ns.length + 2) 0 * 256 ^ 2 + bs.getD (ns.length + 3) 0 * 256 ^ 3) x = d * 16 ^ (p - 2 * n).toNat := by
  have hh := half p
  have hr := turnI_range p hd1 hd2
  have hq : ns.length ≤ (p.fdiv 2).toNat := by omega
  have e := bent_trail hf hb hq
  have hj : (p.fdiv 2).toNat - ns.length < 4 := by omega
  have hB := bendI_bytes (cutI_bytes x) ((p.fdiv 2).toNat - ns.length) ⟨by omega, hr.2⟩
  rw [e, show ns.length = ns.length + 0 from rfl, getD_right, Nat.add_zero, getD_right, getD_right, getD_right, sum_num hB (by rw [bendI_length, cutI_length]), trail_change ⟨by rw [hx]; exact crcI_nonneg _, by rw [hx]; exact crcI_le _⟩ ⟨by omega, hr.2⟩ hj]
  have h0 : ((turnI d p).toNat : Int) = turnI d p := by omega
  have hm : p.fmod 2 = 0 ∨ p.fmod 2 = 1 := by omega
  rw [Int.natCast_mul, h0]
  have := pow16 ((p.fdiv 2).toNat - ns.length) (p.fmod 2) d hm
  have e2 : 2 * ((p.fdiv 2).toNat - ns.length) + (p.fmod 2).toNat = (p - 2 * n).toNat := by omega
  rw [e2] at this
  unfold turnI
  rw [← this]
  simp
end Mine

namespace Mine
structure WorkTAt (turn : Int) (ms : List Int) (k : Nat) (bits : List Int) : Prop where
  eq : bits = workT turn ms k
structure SumTAt (turn : Int) (ms : List Int) (k : Nat) (total : Int) : Prop where
  eq : total = sumT turn (steps (8 * ms.length) (seedT turn ms)) k
theorem wt_start {bits ms ks : List Int} {turn : Int} (h : ZeroAt ms ks.length bits) (hl : bits.length = 8 * ms.length + ks.length) (hks : ks.length = 32) (hb : Bytes ms) : WorkTAt turn ms (List.length ([] : List Int)) bits ∧ bits.length = 8 * ms.length + 32 := by
  have h' := h.eq
  rw [hks] at h' hl
  exact ⟨⟨h'.trans (workT_zero turn hb)⟩, hl⟩
theorem wt_one {bits ms done : List Int} {k turn : Int} (hT : turn = 1) (h : WorkTAt turn ms done.length bits) (hl : bits.length = 8 * ms.length + 32) (hk : k = 0 + (done.length : Int)) (hd : done.length < 8 * ms.length + 32) :
    WorkTAt turn ms (done ++ [k]).length (bits.set k.toNat (Builtin.bitXor (bits.getD k.toNat 0) 1)) ∧ (bits.set k.toNat (Builtin.bitXor (bits.getD k.toNat 0) 1)).length = 8 * ms.length + 32 := by
  have ek : k.toNat = done.length := by omega
  refine ⟨⟨?_⟩, by rw [List.length_set, hl]⟩
  subst hT
  rw [ek, h.eq, snoc_length]
  exact workT_one ms hd
theorem wt_no {bits ms done : List Int} {k turn : Int} (hT : turn = 0) (h : WorkTAt turn ms done.length bits) (hl : bits.length = 8 * ms.length + 32) (hk : k = 0 + (done.length : Int)) (hd : done.length < 8 * ms.length + 32) :
    WorkTAt turn ms (done ++ [k]).length (bits.set k.toNat (Builtin.bitXor (bits.getD k.toNat 0) 0)) ∧ (bits.set k.toNat (Builtin.bitXor (bits.getD k.toNat 0) 0)).length = 8 * ms.length + 32 := by
  have ek : k.toNat = done.length := by omega
  refine ⟨⟨?_⟩, by rw [List.length_set, hl]⟩
  subst hT
  rw [ek, h.eq, snoc_length]
  exact workT_no ms hd
theorem dt_start {bits ms ks : List Int} {turn : Int} (h : WorkTAt turn ms ks.length bits) (hl : bits.length = 8 * ms.length + 32) (hks : ks.length = 32) : DivAt ms (seedT turn ms) (List.length ([] : List Int)) bits ∧ bits.length = 8 * ms.length + 32 := by
  have h' := h.eq
  rw [hks] at h'
  exact ⟨⟨h'⟩, hl⟩
theorem tt_start (turn : Int) (ms : List Int) : SumTAt turn ms (List.length ([] : List Int)) 0 := ⟨(sumT_zero _ _).symm⟩
theorem tt_one {bits ms done ks : List Int} {k c total turn : Int} (hT : turn = 1) (h : DivAt ms (seedT turn ms) ks.length bits) (hks : ks.length = 8 * ms.length) (hc : c = ((8 * ms.length : Nat) : Int)) (hk : k = 0 + (done.length : Int)) (hd : done.length < 32)
    (ht : SumTAt turn ms done.length total) :
    SumTAt turn ms (done ++ [k]).length (total + Builtin.bitXor (bits.getD (c + k).toNat 0) 1 * 2 ^ k.toNat) := by
  have e1 : (c + k).toNat = 8 * ms.length + done.length := by omega
  have e2 : k.toNat = done.length := by omega
  have h' := h.eq
  subst hT
  refine ⟨?_⟩
  rw [h', hks, e1, e2, ht.eq, snoc_length]
  unfold divI
  exact sumT_one (by omega)
theorem tt_no {bits ms done ks : List Int} {k c total turn : Int} (hT : turn = 0) (h : DivAt ms (seedT turn ms) ks.length bits) (hks : ks.length = 8 * ms.length) (hc : c = ((8 * ms.length : Nat) : Int)) (hk : k = 0 + (done.length : Int)) (hd : done.length < 32)
    (ht : SumTAt turn ms done.length total) :
    SumTAt turn ms (done ++ [k]).length (total + Builtin.bitXor (bits.getD (c + k).toNat 0) 0 * 2 ^ k.toNat) := by
  have e1 : (c + k).toNat = 8 * ms.length + done.length := by omega
  have e2 : k.toNat = done.length := by omega
  have h' := h.eq
  subst hT
  refine ⟨?_⟩
  rw [h', hks, e1, e2, ht.eq, snoc_length]
  unfold divI
  exact sumT_no (by omega)
/-- what the remainder is known by -/
structure RemAt (ns : List Int) (x : Int) : Prop where
  eq : x = remI ns
theorem tt_end1 {ms ks : List Int} {total turn : Int} (hT : turn = 1) (ht : SumTAt turn ms ks.length total) (hks : ks.length = 32) (hb : Bytes ms) : IsCrc ms total := by
  have h' := ht.eq
  subst hT
  rw [hks, sumT_crc hb] at h'
  exact isCrc_of h'
theorem tt_end0 {ms ks : List Int} {total turn : Int} (hT : turn = 0) (ht : SumTAt turn ms ks.length total) (hks : ks.length = 32) : RemAt ms total := by
  have h' := ht.eq
  subst hT
  rw [hks, sumT_rem] at h'
  exact ⟨h'⟩

theorem frame_bytes {ns fs : List Int} {x : Int} (hf : FrameAt ns x fs) (h : Bytes ns) : Bytes fs := by rw [hf.eq]; exact h.append (cutI_bytes x)
theorem bent_bytes {fs bs : List Int} {q t : Int} (hb : BentAt fs q t bs) (h : Bytes fs) (h0 : 0 < t) (h1 : t < 256) : Bytes bs := by rw [hb.eq]; exact bendI_bytes h _ ⟨by omega, h1⟩
theorem take_bytes {fs ts : List Int} {n : Nat} (ht : ts = fs.take n) (h : Bytes fs) : Bytes ts := by
  subst ht; exact h.sub fun _ hx => List.mem_of_mem_take hx
theorem put_bytes {n : Nat} {zs ds : List Int} {q : Nat} {t : Int} (hz : zs = List.replicate n 0) (hd : ds = zs.set q t) (h0 : 0 < t) (h1 : t < 256) : Bytes ds := by
  subst hz; subst hd
  refine Bytes.set (fun b hb => ?_) q (by omega) h1
  rw [List.eq_of_mem_replicate hb]; decide
/-- the body -/
theorem body_made {n : Nat} {size : Int} {f : Int → Int} (h : (n : Int) = size) (hf : ∀ k, 0 ≤ f k ∧ f k < 256) : Bytes ((rangeKs 0 n).map f) ∧ (((rangeKs 0 n).map f).length : Int) = size :=
  ⟨bytes_map hf, by rw [List.length_map, rangeKs_length]; exact h⟩
theorem zeros_made {n m : Nat} {f : Int → Int} (h : n = m) (hf : ∀ k, f k = 0) : (rangeKs 0 n).map f = List.replicate m 0 := by
  subst h
  apply List.ext_getElem
  · rw [List.length_map, rangeKs_length, List.length_replicate]
  · intro i h1 h2
    rw [List.getElem_map, hf, List.getElem_replicate]
theorem zeros_len {ns : List Int} {n : Nat} (h : ns = List.replicate n 0) : ns.length = n := by rw [h, List.length_replicate]
theorem body_gen {ys : List Value} {n : Nat} {size : Int} {f : Int → Int} (hI : IntsAre ys ((rangeKs 0 n).map f)) (h : (n : Int) = size) (hf : ∀ k, 0 ≤ f k ∧ f k < 256) : ∃ ns, IntsAre ys ns ∧ Bytes ns ∧ (ns.length : Int) = size :=
  ⟨_, hI, (body_made h hf).1, (body_made h hf).2⟩
theorem zeros_gen {ys : List Value} {n m : Nat} {f : Int → Int} (hI : IntsAre ys ((rangeKs 0 n).map f)) (h : n = m) (hf : ∀ k, f k = 0) : ∃ ns, IntsAre ys ns ∧ ns = List.replicate m 0 ∧ ns.length = m :=
  ⟨_, hI, zeros_made h hf, zeros_len (zeros_made h hf)⟩
theorem cut_made {x : Int} {n : Nat} (hn : n = 4) (h0 : 0 ≤ x) : (rangeKs 0 n).map (fun k => (x.fdiv (256 ^ k.toNat)).fmod 256) = cutI x := by
  subst hn
  exact cutI_eq h0
theorem acc_end {fs ts rs cs : List Int} {x y : Int} {b : Bool} (hb : b = true ↔ cs = rs) (hcs : cs = cutI x) (hx : x = crcI ts) (hts : ts = fs.take y.toNat) (hrs : rs = fs.drop y.toNat) (hy : y = (fs.length : Int) - 4) (h4 : 4 ≤ fs.length) : AccAt fs b := by
  have e : y.toNat = fs.length - 4 := by omega
  refine ⟨?_⟩
  rw [hb, hcs, hx, hts, hrs, e]
theorem recv_or {ns fs bs : List Int} {x n p d t : Int} (hf : FrameAt ns x fs) (hx : x = crcI ns) (hb : BentAt fs (p.fdiv 2) t bs) (ht : t = turnI d p) (hd1 : 1 ≤ d) (hd2 : d ≤ 15) (hn : (ns.length : Int) = n) (hp0 : 2 * n ≤ p) (hp1 : p < 2 * n + 8) :
    Builtin.bitXor (0 + bs.getD (n + 0).toNat 0 * 256 ^ (0 : Int).toNat + bs.getD (n + 1).toNat 0 * 256 ^ (1 : Int).toNat + bs.getD (n + 2).toNat 0 * 256 ^ (2 : Int).toNat + bs.getD (n + 3).toNat 0 * 256 ^ (3 : Int).toNat) x = d * 16 ^ (p - 2 * n).toNat := by
  subst ht
  have e := recv_xor hf hx hb hd1 hd2 hn hp0 hp1
  have e0 : (n + 0).toNat = ns.length := by omega
  have e1 : (n + 1).toNat = ns.length + 1 := by omega
  have e2 : (n + 2).toNat = ns.length + 2 := by omega
  have e3 : (n + 3).toNat = ns.length + 3 := by omega
  rw [e0, e1, e2, e3, Int.zero_add]
  exact e

section
variable {prog : Program} {w : World} {A : Around} {E : Value → Shared → Prop} {s : Shared} {h₀ : Heap} {L a b l D : Addr} {m : Str → Option Value} {news : List (Addr × Obj)} {vs ws : List Value} {ns ms : List Int} {Q : Value → Shared → Prop}
/-- a list and [] -/
theorem add_none (F : Fr h₀ L s.heap m) (N : News h₀ L s.heap news) (ha : s.heap.IsList a vs.toArray) (hb : s.heap.IsList b (List.toArray [])) (hi : IntsAre vs ns) (hz : ns.length ≤ 256)
    (h : ∀ D us h', Fr h₀ L h' m → News h₀ L h' ((D, listOf (List.toArray us) 0) :: news) → LCg.Off1 D news → IntsAre us ns → Q (.ref D) { s with heap := h' }) : wpAny (model prog w) A (binaryOp .Add (.ref a) (.ref b)) Q E s :=
  kmk_add_ints F N ha hb hi IntsAre.nil (fun D us h' F' N' l1 hI => h D us h' F' N' (off1_lt l1) (by rw [List.append_nil] at hI; exact hI)) (by rw [sizeLine_eq]; simp; omega)
/-- the frame -/
theorem add_frame {x : Int} (F : Fr h₀ L s.heap m) (N : News h₀ L s.heap news) (ha : s.heap.IsList a vs.toArray) (hb : s.heap.IsList b ws.toArray) (hi : IntsAre vs ns) (hj : IntsAre ws ms) (hc : ms = cutI x) (hz : ns.length ≤ 256)
    (h : ∀ D us fs h', Fr h₀ L h' m → News h₀ L h' ((D, listOf (List.toArray us) 0) :: news) → LCg.Off1 D news → IntsAre us fs → FrameAt ns x fs → fs.length = ns.length + 4 → Q (.ref D) { s with heap := h' }) : wpAny (model prog w) A (binaryOp .Add (.ref a) (.ref b)) Q E s := by
  subst hc
  refine kmk_add_ints F N ha hb hi hj (fun D us h' F' N' l1 hI => h D us _ h' F' N' (off1_lt l1) hI ⟨rfl⟩ ?_) (by rw [sizeLine_eq, cutI_length]; omega)
  rw [List.length_append, cutI_length]
variable {k x : Int} {t u : Tok} {n : Nat}
/-- one byte bent -/
theorem set_bend {Q : Unit → Shared → Prop} {nf : Obj → List (Addr × Obj)} {z y : Int} {bs : List Int} (_hf : FrameAt bs y ns) (F : Fr h₀ L s.heap m) (N : News h₀ L s.heap news) (U : ∀ o', Upd D (listOf vs.toArray n) o' news (nf o')) (hi : IntsAre vs ns) (hx : x = Builtin.bitXor (ns.getD k.toNat 0) z) (h0 : 0 ≤ k) (h1 : k < ns.length) (hfit : k < 2 ^ 63)
    (h : ∀ h' vs' ns', Fr h₀ L h' m → News h₀ L h' (nf (listOf (List.toArray vs') n)) → IntsAre vs' ns' → BentAt ns k z ns' → ns'.length = ns.length → Q () { s with heap := h' }) :
    wpAny (model prog w) A (setItem (.ref D) (.int k t) (.int x u)) Q E s := by
  subst hx
  exact ksa_set F N (U _) hi h0 h1 hfit (fun h' F' N' I' hl' _ => h h' _ _ F' N' I' ⟨rfl⟩ hl')
/-- one item put -/
theorem set_put {Q : Unit → Shared → Prop} {nf : Obj → List (Addr × Obj)} {c : Nat} (_hz : ns = List.replicate c 0) (F : Fr h₀ L s.heap m) (N : News h₀ L s.heap news) (U : ∀ o', Upd D (listOf vs.toArray n) o' news (nf o')) (hi : IntsAre vs ns) (h0 : 0 ≤ k) (h1 : k < ns.length) (hfit : k < 2 ^ 63)
    (h : ∀ h' vs' ns', Fr h₀ L h' m → News h₀ L h' (nf (listOf (List.toArray vs') n)) → IntsAre vs' ns' → ns' = ns.set k.toNat x → ns'.length = ns.length → Q () { s with heap := h' }) :
    wpAny (model prog w) A (setItem (.ref D) (.int k t) (.int x u)) Q E s :=
  ksa_set F N (U _) hi h0 h1 hfit (fun h' F' N' I' hl' _ => h h' _ _ F' N' I' rfl hl')
variable {value slice : PySem.Expr} {vl vu : Value} {y : Int}
theorem slice_upto (F : Fr h₀ L s.heap m) (N : News h₀ L s.heap news) (hl : s.heap.IsList l vs.toArray) (pl : IsPart vl none) (pu : IsPart vu (some y)) (hi : IntsAre vs ns) (hy : 0 ≤ y)
    (h : ∀ D ws ms h', Fr h₀ L h' m → News h₀ L h' ((D, listOf (List.toArray ws) 0) :: news) → LCg.Off1 D news → IntsAre ws ms → ms = ns.take y.toNat → ms.length ≤ ns.length → Q (.ref D) { s with heap := h' })
    (hs : subscripted slice false (.ref l) (.ref s.heap.objs.size) = operate [.ref s.heap.objs.size, .ref l] (getItem (.ref l) (.ref s.heap.objs.size))) (ht : ∀ r, letTemporaryGo value (.ref l) r = pure ()) (hz : ns.length ≤ 256) :
    wpAny (model prog w) A (subscriptTail value slice (.ref l) (.ref s.heap.objs.size)) Q E { s with heap := s.heap.push { cls := .type "slice", data := .fields #[vl, vu, .none] } } :=
  kmk_slice_ints F N hl pl pu hi (kmk_upto hi hy) rfl (fun D ws h' F' N' l1 hI _ hL => h D ws _ h' F' N' (off1_lt l1) hI rfl hL) hs ht (by rw [kmk_size_eq hi, sizeLine_eq]; omega)
theorem slice_from (F : Fr h₀ L s.heap m) (N : News h₀ L s.heap news) (hl : s.heap.IsList l vs.toArray) (pl : IsPart vl (some y)) (pu : IsPart vu none) (hi : IntsAre vs ns) (hy : 0 ≤ y)
    (h : ∀ D ws ms h', Fr h₀ L h' m → News h₀ L h' ((D, listOf (List.toArray ws) 0) :: news) → LCg.Off1 D news → IntsAre ws ms → ms = ns.drop y.toNat → ms.length ≤ ns.length → Q (.ref D) { s with heap := h' })
    (hs : subscripted slice false (.ref l) (.ref s.heap.objs.size) = operate [.ref s.heap.objs.size, .ref l] (getItem (.ref l) (.ref s.heap.objs.size))) (ht : ∀ r, letTemporaryGo value (.ref l) r = pure ()) (hz : ns.length ≤ 256) :
    wpAny (model prog w) A (subscriptTail value slice (.ref l) (.ref s.heap.objs.size)) Q E { s with heap := s.heap.push { cls := .type "slice", data := .fields #[vl, vu, .none] } } :=
  kmk_slice_ints F N hl pl pu hi (kmk_from hi hy) rfl (fun D ws h' F' N' l1 hI _ hL => h D ws _ h' F' N' (off1_lt l1) hI rfl hL) hs ht (by rw [kmk_size_eq hi, sizeLine_eq]; omega)
end
section
variable {prog : Program} {w : World} {A : Around} {E : Value → Shared → Prop} {s : Shared} {a d p : Int} {t u : Tok} {Q : Value → Shared → Prop}
/-- the nibble's change as its byte's -/
theorem mul_turn (h1 : 1 ≤ d) (h2 : d ≤ 15) (h : ∀ z, z = turnI d p → 0 < z → z < 256 → Q (.int z s.toks) { s with toks := s.toks + 1 }) : wpAny (model prog w) A (binaryOp .Mult (.int d t) (.int (16 ^ (p.fmod 2).toNat) u)) Q E s :=
  mul_int (h _ rfl (turnI_range p h1 h2).1 (turnI_range p h1 h2).2)
end
section
variable {M : Model} {A : Around} {E : Value → Shared → Prop} {s : Shared} {h₀ : Heap} {L : Addr} {m : Str → Option Value} {news : List (Addr × Obj)} {Q : Value → Shared → Prop} {f l : Addr} {vs : List Value} {ns : List Int} {n : Nat}
/-- the checksum of a list of bytes -/
theorem cut_crc (F : Fr h₀ L s.heap m) (N : News h₀ L s.heap news) (_hm : (l, listOf vs.toArray n) ∈ news) (_hi : IntsAre vs ns) (hb : Bytes ns)
    (body : Bytes ns → wpAny M A (call (.ref f) [.ref l]) (fun v s' => ICut h₀ L m news s (IsCrc ns) v s') E s)
    (rest : ∀ x t h tk, Fr h₀ L h m → News h₀ L h news → IsCrc ns x → Q (.int x t) { s with heap := h, toks := tk }) : wpAny M A (call (.ref f) [.ref l]) Q E s :=
  cut_int (IsCrc ns) F N (body hb) rest
theorem cut_rem1 {u : Tok} (F : Fr h₀ L s.heap m) (N : News h₀ L s.heap news) (_hm : (l, listOf vs.toArray n) ∈ news) (_hi : IntsAre vs ns) (hb : Bytes ns)
    (body : Bytes ns → ∀ turn : Int, turn = 1 → wpAny M A (call (.ref f) [.ref l, .int 1 u]) (fun v s' => ICut h₀ L m news s (IsCrc ns) v s') E s)
    (rest : ∀ x t h tk, Fr h₀ L h m → News h₀ L h news → IsCrc ns x → Q (.int x t) { s with heap := h, toks := tk }) : wpAny M A (call (.ref f) [.ref l, .int 1 u]) Q E s :=
  cut_int (IsCrc ns) F N (body hb 1 rfl) rest
theorem cut_rem0 {u : Tok} (F : Fr h₀ L s.heap m) (N : News h₀ L s.heap news) (_hm : (l, listOf vs.toArray n) ∈ news) (_hi : IntsAre vs ns) (hb : Bytes ns)
    (body : Bytes ns → ∀ turn : Int, turn = 0 → wpAny M A (call (.ref f) [.ref l, .int 0 u]) (fun v s' => ICut h₀ L m news s (RemAt ns) v s') E s)
    (rest : ∀ x t h tk, Fr h₀ L h m → News h₀ L h news → RemAt ns x → Q (.int x t) { s with heap := h, toks := tk }) : wpAny M A (call (.ref f) [.ref l, .int 0 u]) Q E s :=
  cut_int (RemAt ns) F N (body hb 0 rfl) rest
theorem cut_acc (F : Fr h₀ L s.heap m) (N : News h₀ L s.heap news) (_hm : (l, listOf vs.toArray n) ∈ news) (_hi : IntsAre vs ns)
    (body : wpAny M A (call (.ref f) [.ref l]) (fun v s' => BCut h₀ L m news s (AccAt ns) v s') E s)
    (rest : ∀ x h tk, Fr h₀ L h m → News h₀ L h news → AccAt ns x → Q (.bool x) { s with heap := h, toks := tk }) : wpAny M A (call (.ref f) [.ref l]) Q E s :=
  cut_bool (AccAt ns) F N body rest
theorem cut_four {x : Int} {t : Tok} (F : Fr h₀ L s.heap m) (N : News h₀ L s.heap news)
    (body : wpAny M A (call (.ref f) [.int x t]) (fun v s' => LCut h₀ L m news s (fun ms => ms = cutI x) v s') E s)
    (rest : ∀ l vs ns n h tk, Fr h₀ L h m → News h₀ L h ((l, listOf vs.toArray n) :: news) → LCg.Off1 l news → IntsAre vs ns → ns = cutI x → Q (.ref l) { s with heap := h, toks := tk }) : wpAny M A (call (.ref f) [.int x t]) Q E s :=
  cut_list (fun ms => ms = cutI x) F N body rest
theorem cut_any {c : Sem Value} (F : Fr h₀ L s.heap m) (N : News h₀ L s.heap news) (body : wpAny M A c (fun v s' => ICut h₀ L m news s (fun _ => True) v s') E s)
    (rest : ∀ x t h tk, Fr h₀ L h m → News h₀ L h news → True → Q (.int x t) { s with heap := h, toks := tk }) : wpAny M A c Q E s :=
  cut_int (fun _ => True) F N body rest
end
end Mine
namespace Mine
theorem bit_any (m V j : Nat) : (bitsOf m V).getD j 0 = 0 ∨ (bitsOf m V).getD j 0 = 1 := by
  by_cases hj : j < m
  · rw [bitsOf_getD hj]; split <;> simp
  · left; rw [List.getD_eq_getElem?_getD, List.getElem?_eq_none (by rw [bitsOf_length]; omega)]; rfl
section
variable {prog : Program} {w : World} {A : Around} {E : Value → Shared → Prop} {s : Shared} {t u : Tok} {Q : Value → Shared → Prop}
/-- a bit, turned or not, times its place -/
theorem mul_bit {ms bits : List Int} {W K j : Nat} {z b : Int} (h : DivAt ms W K bits) (hz : z = 0 ∨ z = 1) (hq : Q (.int (Builtin.bitXor (bits.getD j 0) z * b) s.toks) { s with toks := s.toks + 1 }) :
    wpAny (model prog w) A (binaryOp .Mult (.int (Builtin.bitXor (bits.getD j 0) z) t) (.int b u)) Q E s := by
  refine mul_int hq (.of_left ?_)
  rw [h.eq]
  unfold divI
  rcases bit_any (8 * ms.length + 32) (divs K W) j with e | e <;> rcases hz with rfl | rfl <;> rw [e] <;> decide
end
end Mine
namespace Mine
section
variable {prog : Program} {w : World} {A : Around} {E : Value → Shared → Prop} {s : Shared} {t u : Tok} {Q : Value → Shared → Prop}
theorem div256 {a : Int} {n : Nat} (hn : n < 4) (h : Q (.int (a.fdiv (256 ^ n)) s.toks) { s with toks := s.toks + 1 }) : wpAny (model prog w) A (binaryOp .FloorDiv (.int a t) (.int (256 ^ n) u)) Q E s := by
  have hc : n = 0 ∨ n = 1 ∨ n = 2 ∨ n = 3 := by omega
  refine floordiv_int ?_ h (Or.inl (PyProof.noPylong_small ?_))
  · rcases hc with rfl | rfl | rfl | rfl <;> decide
  · rcases hc with rfl | rfl | rfl | rfl <;> decide
end
end Mine
namespace Mine
section
variable {prog : Program} {w : World} {A : Around} {E : Value → Shared → Prop} {s : Shared} {t u : Tok} {Q : Value → Shared → Prop}
theorem pow_four {k : Int} (h0 : 0 ≤ k) (h1 : k < 0 + ((4 - 0 : Int).toNat : Int)) (h : Q (.int (256 ^ k.toNat) s.toks) { s with toks := s.toks + 1 }) : wpAny (model prog w) A (binaryOp .Pow (.int 256 t) (.int k u)) Q E s :=
  pow_int_small h0 (by omega) (by decide) h
theorem div_four {a k : Int} (h0 : 0 ≤ k) (h1 : k < 0 + ((4 - 0 : Int).toNat : Int)) (h : Q (.int (a.fdiv (256 ^ k.toNat)) s.toks) { s with toks := s.toks + 1 }) : wpAny (model prog w) A (binaryOp .FloorDiv (.int a t) (.int (256 ^ k.toNat) u)) Q E s :=
  div256 (by omega) h
end
end Mine
namespace Mine
/- one ledger within another -/
section
variable {a : Addr × Obj} {l r news : List (Addr × Obj)}
theorem al_nil : ∀ p ∈ ([] : List (Addr × Obj)), p ∈ news := fun _ h => nomatch h
theorem al_cons (h1 : a ∈ news) (h2 : ∀ p ∈ l, p ∈ news) : ∀ p ∈ a :: l, p ∈ news := List.forall_mem_cons.mpr ⟨h1, h2⟩
theorem al_refl : ∀ p ∈ l, p ∈ l := fun _ h => h
theorem al_left : ∀ p ∈ l, p ∈ l ++ r := fun _ h => List.mem_append_left _ h
theorem al_right : ∀ p ∈ r, p ∈ l ++ r := fun _ h => List.mem_append_right _ h
theorem al_app (h1 : ∀ p ∈ l, p ∈ news) (h2 : ∀ p ∈ r, p ∈ news) : ∀ p ∈ l ++ r, p ∈ news := List.forall_mem_append.mpr ⟨h1, h2⟩
theorem al_skip (h : ∀ p ∈ l, p ∈ news) : ∀ p ∈ l, p ∈ a :: news := fun p hp => List.mem_cons_of_mem _ (h p hp)
end
end Mine

namespace Mine
section
variable {prog : Program} {w : World} {A : Around} {E : Value → Shared → Prop} {h₀ : Heap} {env : Env} {target : Expr} {body : List Stmt} {Q : Flow → Shared → Prop} {s : Shared} {ws : List (Addr × String)} {keep : List (Addr × Obj)}
theorem unrEndW_mono {L : Addr} {s₁ s₂ : Shared} {its : List (Addr × Obj)} {R R' : (Str → Option Value) → List (Addr × Obj) → Prop} (hR : ∀ m n, R m n → R' m n) (h : UnrEndW h₀ L s₁ its R s₂) : UnrEndW h₀ L s₁ its R' s₂ := by
  obtain ⟨h', tk, m', n', e, F, N, off, r⟩ := h
  exact ⟨h', tk, m', n', e, F, N, off, hR _ _ r⟩
theorem unrPostW_mono {L : Addr} {s₁ s₂ : Shared} {its : List (Addr × Obj)} {R R' : (Str → Option Value) → List (Addr × Obj) → Prop} {f : Flow} (hR : ∀ m n, R m n → R' m n) (h : UnrPostW h₀ L s₁ its R Q f s₂) : UnrPostW h₀ L s₁ its R' Q f s₂ := by
  cases f with
  | ret v => exact h
  | brk => exact h
  | cont => exact unrEndW_mono hR h
  | next => exact unrEndW_mono hR h
/-- all objects of ws -/
theorem allObj_mono {k k' : List (Addr × Obj) → Prop} (hk : ∀ its, k its → k' its) : ∀ {ws : List (Addr × String)}, AllObj ws k → AllObj ws k' := by
  intro ws
  induction ws generalizing k k' with
  | nil => exact hk []
  | cons w r ih => exact fun h o e => ih (fun its => hk _) (h o e)
/-- a loop over written items, by an invariant -/
theorem items_inv (J : List Itm → (Str → Option Value) → List (Addr × Obj) → Prop)
    (step : ∀ a r m news, J (a :: r) m news → ∀ v h tk, a.Is v h → Fr h₀ env.locals h m → AllObj ws (fun its => News h₀ env.locals h (its ++ news) →
      wpAny (model prog w) A (assign target env v) (fun _ s₂ => wpAny (model prog w) A (execs body env) (UnrPostW h₀ env.locals { s with heap := h, toks := tk } its (fun m' n' => SubL keep n' ∧ J r m' n') Q) E s₂) E { s with heap := h, toks := tk }))
    (fin : ∀ m news, J [] m news → ∀ h tk, Fr h₀ env.locals h m → News h₀ env.locals h news → Q .next { s with heap := h, toks := tk }) :
    ∀ (xs : List Itm) (m : Str → Option Value) (news : List (Addr × Obj)), J xs m news → ItemsRest prog w A E h₀ env target body Q s ws keep xs m news
  | [], m, news, hJ => fin m news hJ
  | a :: r, m, news, hJ => by
    intro v h tk hv F
    refine allObj_mono (fun its hk N => ?_) (step a r m news hJ v h tk hv F)
    refine wpAny_mono (hk N) (fun _ s₂ h₂ => ?_) (fun _ _ e => e)
    exact wpAny_mono h₂ (fun f s₃ h₃ => unrPostW_mono (fun m' n' hr => ⟨hr.1, items_inv J step fin r m' n' hr.2⟩) h₃) (fun _ _ e => e)
end
end Mine
namespace Mine
/-- the flips at i + o -/
def flips (i : Int) : List Int → Nat
  | [] => 0
  | o :: r => 2 ^ (i + o).toNat ^^^ flips i r
/-- the end of one flip's turn -/
structure FlipEnd (m : Str → Option Value) (x : Str) (D : Addr) (n : Nat) (tail : List (Addr × Obj)) (N M W : Nat) (m' : Str → Option Value) (n' : List (Addr × Obj)) : Prop where
  at' : ∃ u vs' ns', m' = (fun y => if y = x then u else m y) ∧ n' = (D, listOf (List.toArray vs') n) :: tail ∧ IntsAre vs' ns' ∧ Flip ns' M W ∧ ns'.length = N
theorem FlipEnd.mk' {m : Str → Option Value} {x : Str} {D : Addr} {n : Nat} {tail : List (Addr × Obj)} {N M W : Nat} {u : Option Value} {v : Value} {vs' : List Value} {ns' : List Int} (hi : IntsAre vs' ns') (hf : Flip ns' M W) (hl : ns'.length = N) :
    FlipEnd m x D n tail N M W (fun y => if y = x then some v else (fun y => if y = x then u else m y) y) ((D, listOf (List.toArray vs') n) :: tail) := by
  refine ⟨some v, vs', ns', ?_, rfl, hi, hf, hl⟩
  funext y
  by_cases h : y = x <;> simp [h]
theorem FlipEnd.mk2 {m : Str → Option Value} {x : Str} {D : Addr} {n : Nat} {tail : List (Addr × Obj)} {N M W : Nat} {u : Option Value} {vs' : List Value} {ns' : List Int} (hi : IntsAre vs' ns') (hf : Flip ns' M W) (hl : ns'.length = N) :
    FlipEnd m x D n tail N M W (fun y => if y = x then u else m y) ((D, listOf (List.toArray vs') n) :: tail) := ⟨u, vs', ns', rfl, rfl, hi, hf, hl⟩
section
variable {prog : Program} {w : World} {A : Around} {E : Value → Shared → Prop} {h₀ : Heap} {env : Env} {body : List Stmt} {Q : Flow → Shared → Prop} {s : Shared} {it : Addr} {cls : String} {x : Str} {px : Pos}
theorem items_flip {m : Str → Option Value} {D : Addr} {vs vals : List Value} {ns offs : List Int} {n M V : Nat} {tail : List (Addr × Obj)} (i : Int) (hI : IntsAre vs ns) (hf : Flip ns M V) (hx : IntsAre vals offs) (hr : ∀ o ∈ offs, 0 ≤ o ∧ o ≤ 32)
    (step : ∀ o t u vs' ns' W, 0 ≤ o → o ≤ 32 → IntsAre vs' ns' → Flip ns' M W → ns'.length = ns.length → ∀ h tk ob, ob.cls = .type cls → Fr h₀ env.locals h (fun y => if y = x then u else m y) → News h₀ env.locals h ((it, ob) :: (D, listOf (List.toArray vs') n) :: tail) →
      wpAny (model prog w) A (assign (.Name x px) env (.int o t)) (fun _ s₂ => wpAny (model prog w) A (execs body env) (UnrPostW h₀ env.locals { s with heap := h, toks := tk } [(it, ob)] (fun m' n' => SubL [] n' ∧ FlipEnd m x D n tail ns.length M (W ^^^ 2 ^ (i + o).toNat) m' n') Q) E s₂) E { s with heap := h, toks := tk })
    (fin : ∀ u vs' ns', IntsAre vs' ns' → Flip ns' M (V ^^^ flips i offs) → ns'.length = ns.length → ∀ h tk, Fr h₀ env.locals h (fun y => if y = x then u else m y) → News h₀ env.locals h ((D, listOf (List.toArray vs') n) :: tail) → Q .next { s with heap := h, toks := tk }) :
    ItemsRest prog w A E h₀ env (.Name x px) body Q s [(it, cls)] [] (vals.map Itm.val) m ((D, listOf vs.toArray n) :: tail) := by
  refine items_inv (fun xs m₁ n₁ => ∃ vals' offs' u vs' ns', xs = vals'.map Itm.val ∧ IntsAre vals' offs' ∧ (∀ o ∈ offs', 0 ≤ o ∧ o ≤ 32) ∧ m₁ = (fun y => if y = x then u else m y) ∧ n₁ = (D, listOf (List.toArray vs') n) :: tail ∧ IntsAre vs' ns' ∧ Flip ns' M (V ^^^ flips i offs ^^^ flips i offs') ∧ ns'.length = ns.length) ?_ ?_ _ _ _ ?_
  · intro a r m₁ n₁ hJ v h tk hv F
    obtain ⟨vals', offs', u, vs', ns', hxs, hiv, hro, rfl, rfl, hi', hf', hl'⟩ := hJ
    cases hiv with
    | nil => simp at hxs
    | cons o t hiv =>
      rename_i vr nr
      rw [List.map_cons, List.cons.injEq] at hxs
      obtain ⟨rfl, rfl⟩ := hxs
      have hv' : v = .int o t := hv
      subst hv'
      intro ob hob N
      have ho := hro o (.head _)
      refine wpAny_mono (step o t u vs' ns' _ ho.1 ho.2 hi' hf' hl' h tk ob hob F N) (fun _ s₂ h₂ => ?_) (fun _ _ e => e)
      refine wpAny_mono h₂ (fun f s₃ h₃ => unrPostW_mono (fun m' n' hr' => ⟨hr'.1, ?_⟩) h₃) (fun _ _ e => e)
      obtain ⟨u', vs'', ns'', e1, e2, hi'', hf'', hl''⟩ := hr'.2.at'
      refine ⟨vr, nr, u', vs'', ns'', rfl, hiv, fun o ho => hro o (.tail _ ho), e1, e2, hi'', ?_, hl''⟩
      have e : V ^^^ flips i offs ^^^ flips i (o :: nr) ^^^ 2 ^ (i + o).toNat = V ^^^ flips i offs ^^^ flips i nr := by
        rw [flips, Nat.xor_comm (2 ^ (i + o).toNat), Nat.xor_assoc, Nat.xor_assoc (flips i nr), Nat.xor_self, Nat.xor_zero]
      rw [e] at hf''
      exact hf''
  · intro m₁ n₁ hJ h tk F N
    obtain ⟨vals', offs', u, vs', ns', hxs, hiv, hro, rfl, rfl, hi', hf', hl'⟩ := hJ
    cases hiv with
    | nil => 
      rw [flips, Nat.xor_zero] at hf'
      exact fin u vs' ns' hi' hf' hl' h tk F N
    | cons o t hiv => simp at hxs
  · refine ⟨vals, offs, m x, vs, ns, rfl, hx, hr, ?_, rfl, hI, ?_, rfl⟩
    · funext y
      by_cases h : y = x <;> simp [h]
    · rw [Nat.xor_assoc, Nat.xor_self, Nat.xor_zero]; exact hf
end
theorem d_turn8 {bits bits₀ ms done : List Int} {k : Int} {W : Nat} (h : DivAt ms W done.length bits₀) (hl : bits.length = bits₀.length) (hl₀ : bits₀.length = 8 * ms.length + 32) (hk : k = 0 + (done.length : Int)) (hd : done.length < 8 * ms.length) (hn : bits₀.getD k.toNat 0 = 1)
    (hf : Flip bits (8 * ms.length + 32) (divs done.length W ^^^ flips k [0, 6, 9, 10, 16, 20, 21, 22, 24, 25, 27, 28, 30, 31, 32])) :
    DivAt ms W (done ++ [k]).length bits ∧ bits.length = 8 * ms.length + 32 := by
  refine d_turn7 h hl hl₀ hk hd hn ⟨?_⟩
  rw [hf.eq]
  simp only [flips, Nat.xor_zero, Nat.xor_assoc]
end Mine
open Mine
local macro_rules | `(tactic| k_ne) => `(tactic| first | (k_dflt exact off1_ne (by with_reducible assumption) (by k_mem)) | (k_dflt exact off1_ne' (by with_reducible assumption) (by k_mem)))
local macro_rules
  | `(tactic| walk_at "eval Call") => `(tactic| k_extra "eval Call")
  | `(tactic| walk_at "call ref") => `(tactic| k_extra "call ref")
  | `(tactic| walk_at "binaryOp Mod int int") => `(tactic| k_extra "binaryOp Mod int int")
  | `(tactic| walk_at "compareOp NotEq int int") => `(tactic| k_extra "compareOp NotEq int int")
  | `(tactic| walk_at "binaryOp Pow int int") => `(tactic| k_extra "binaryOp Pow int int")
  | `(tactic| walk_at "binaryOp FloorDiv int int") => `(tactic| k_extra "binaryOp FloorDiv int int")
  | `(tactic| walk_at "binaryOp Mult int int") => `(tactic| k_extra "binaryOp Mult int int")
  | `(tactic| walk_at "binaryOp Add ref ref") => `(tactic| k_extra "binaryOp Add ref ref")
  | `(tactic| walk_at "FinE") => `(tactic| k_extra "FinE")
  | `(tactic| walk_at "FinA") => `(tactic| k_extra "FinA")
  | `(tactic| walk_at "eval ListComp") => `(tactic| k_extra "eval ListComp")
  | `(tactic| walk_at "InvEndN") => `(tactic| k_extra "InvEndN")
  | `(tactic| walk_at "exec For Name Name cons nil") => `(tactic| k_extra "exec For Name Name cons nil")
  | `(tactic| walk_at "setItem ref int") => `(tactic| k_extra "setItem ref int")
  | `(tactic| walk_at "subscriptTail Name Slice ref ref") => `(tactic| k_extra "subscriptTail Name Slice ref ref")
  | `(tactic| walk_at "ItemsRest") => `(tactic| k_extra "ItemsRest")
  | `(tactic| walk_at "FlipEnd") => `(tactic| k_extra "FlipEnd")
  | `(tactic| walk_at "UnrEndW") => `(tactic| k_extra "UnrEndW")
  | `(tactic| walk_at "LCut") => `(tactic| k_extra "LCut")
  | `(tactic| walk_at "ICut") => `(tactic| k_extra "ICut")
  | `(tactic| walk_at "BCut") => `(tactic| k_extra "BCut")
set_option maxRecDepth 100000 in
set_option maxHeartbeats 0 in
theorem PySem.Challenge.cw_pd_bitworks_1_07_holds : PySem.Challenge.rw_pd_bitworks_1_07.Holds := by
  (k_with "eval Call" => ((with_reducible show wpAny _ _ (eval (Expr.Call (Expr.Name _ _) [_] [] _) _) _ _ _); k_dflt (refine Call_ ?_)))
  (k_with "eval Call" => ((with_reducible show wpAny _ _ (eval (Expr.Call (Expr.Name _ _) [Expr.Name _ _, Expr.Constant _ _ _] [] _) _) _ _ _); k_dflt (refine Call_ ?_)))
  (k_with "binaryOp Pow int int" => (k_here; k_dflt (refine' pow_int_small ?zp1 ?zp2 ?zp3 ?_; (case zp1 => omega); (case zp2 => omega); (case zp3 => decide))))
  (k_with "binaryOp Pow int int" => (k_here; (with_reducible refine' pow_four ?zp1 ?zp2 ?_; (case zp1 => assumption); (case zp2 => assumption))))
  (k_with "binaryOp FloorDiv int int" => (k_here; (with_reducible refine' div_four ?zp1 ?zp2 ?_; (case zp1 => assumption); (case zp2 => assumption))))
  (k_with "binaryOp Mult int int" => (k_here; (with_reducible show wpAny _ _ (binaryOp _ (Value.int _ _) (Value.int (HPow.hPow _ (Int.toNat (Int.fmod _ 2))) _)) _ _ _); k_dflt (refine' mul_turn ?zp1 ?zp2 ?_; (case zp1 => omega); (case zp2 => omega)); intro z9 hz9 hzl9 hzh9))
  (k_with "binaryOp Mult int int" => (k_here; (with_reducible show wpAny _ _ (binaryOp _ (Value.int (Builtin.bitXor (List.getD _ _ _) _) _) (Value.int _ _)) _ _ _); k_dflt (refine' mul_bit ?zp1 ?zp2 ?_; (case zp1 => with_reducible assumption); (case zp2 => decide))))
  (k_with "binaryOp Add ref ref" => (
      k_here
      (with_reducible show wpAny _ _ (binaryOp _ (Value.ref _) (Value.ref _)) _ _ _)
      k_dflt (refine' add_frame ?zgF ?zgN ?zga ?zgb ?zgi ?zgj ?zgc ?zgz ?_; (case zgF => k_asm); (case zgN => k_asm); (case zga => kmk_list); (case zgb => kmk_list); (case zgi => l_ints); (case zgj => l_ints); (case zgc => assumption); (case zgz => omega))
      intro D9 us9 fs9 h9 F9 N9 l1 I9 g9 z9
      (have hfb9 := frame_bytes g9 (by with_reducible assumption))
      (try k_sweep)))
  (k_with "binaryOp Add ref ref" => (
      k_here
      (with_reducible show wpAny _ _ (binaryOp _ (Value.ref _) (Value.ref _)) _ _ _)
      k_dflt (refine' add_none ?zgF ?zgN ?zga ?zgb ?zgi ?zgz ?_; (case zgF => k_asm); (case zgN => k_asm); (case zga => kmk_list); (case zgb => kmk_list); (case zgi => l_ints); (case zgz => omega))
      intro D9 us9 h9 F9 N9 l1 I9
      (try k_sweep)))
  (k_with "FinE" => ((unfold LCg.FinE); intro D' h' tk' F' N' o1'; (try simp only [List.nil_append, List.cons_append] at N'); (try dsimp only)))
  (k_with "FinA" => ((unfold LCg.FinA); intro D' h' tk' F' N' o1'; (try simp only [List.nil_append, List.cons_append] at N'); (try dsimp only)))
  (k_with "eval ListComp" => (k_here; k_dflt (refine LCg.ListComp_U (F₀ := by k_asm) (by with_unfolding_all rfl) (by decide) (by rfl) (by decide) (by rfl) ?_)))
  (k_with "InvEndN" => k_dflt kst_close)
  (k_with "InvEndN" => k_dflt (
      (rename News _ _ _ _ => nE')
      (try simp only [List.push_toArray] at nE')
      (first
        | refine kst_end ⟨_, _, _⟩ (by assumption) nE' (by first | ((try dsimp only); (try simp only [List.nil_append, List.cons_append]); (repeat' (first | with_reducible exact al_refl | with_reducible exact List.mem_cons_self | with_reducible exact al_nil | with_reducible exact al_left | with_reducible exact al_right | with_reducible refine al_cons ?_ ?_ | with_reducible refine al_app ?_ ?_ | with_reducible refine al_skip ?_ | with_reducible refine List.mem_cons_of_mem _ ?_)); done) | kst_in | kst_inAny) (by first | ((try dsimp only); (try simp only [List.nil_append, List.cons_append]); (repeat' (first | with_reducible exact al_refl | with_reducible exact List.mem_cons_self | with_reducible exact al_nil | with_reducible exact al_left | with_reducible exact al_right | with_reducible refine al_cons ?_ ?_ | with_reducible refine al_app ?_ ?_ | with_reducible refine al_skip ?_ | with_reducible refine List.mem_cons_of_mem _ ?_)); done) | (intro p9 h9; kst_mem) | kst_anyIn) (by rfl) (by kst_facts) (by kst_all) (by kst_same) (by kst_p)
        | refine kst_end ⟨_, _⟩ (by assumption) nE' (by first | ((try dsimp only); (try simp only [List.nil_append, List.cons_append]); (repeat' (first | with_reducible exact al_refl | with_reducible exact List.mem_cons_self | with_reducible exact al_nil | with_reducible exact al_left | with_reducible exact al_right | with_reducible refine al_cons ?_ ?_ | with_reducible refine al_app ?_ ?_ | with_reducible refine al_skip ?_ | with_reducible refine List.mem_cons_of_mem _ ?_)); done) | kst_in | kst_inAny) (by first | ((try dsimp only); (try simp only [List.nil_append, List.cons_append]); (repeat' (first | with_reducible exact al_refl | with_reducible exact List.mem_cons_self | with_reducible exact al_nil | with_reducible exact al_left | with_reducible exact al_right | with_reducible refine al_cons ?_ ?_ | with_reducible refine al_app ?_ ?_ | with_reducible refine al_skip ?_ | with_reducible refine List.mem_cons_of_mem _ ?_)); done) | (intro p9 h9; kst_mem) | kst_anyIn) (by rfl) (by kst_facts) (by kst_all) (by kst_same) (by kst_p))))
  (k_with "exec For Name Name cons nil" => (k_here; (rename Fr _ _ _ _ => lF'); (with_unfolding_all refine' For_turnsG lF' ?g ?_; (case g => exact rfl); k_whole)))
  (k_with "setItem ref int" => (
      k_here
      (with_reducible show wpAny _ _ (setItem (Value.ref _) (Value.int _ _) (Value.int _ _)) _ _ _)
      k_dflt (refine' set_put ?zkb ?zk1 ?zk2 ?zk3 ?zk4 ?zk5 ?zk6 ?zk7 ?_; (case zk1 => k_asm); (case zk2 => k_asm); (case zk3 => (intro o9; k_upd)); (case zk4 => with_reducible assumption); (case zkb => with_reducible assumption); (case zk5 => omega); (case zk6 => omega); (case zk7 => omega); k_whole)
      intro h9 vs9 ns9 F9 N9 I9 f9 e9
      (try dsimp only at N9)
      (try k_sweep)))
  (k_with "setItem ref int" => (
      k_here
      (with_reducible show wpAny _ _ (setItem (Value.ref _) (Value.int _ _) (Value.int _ _)) _ _ _)
      k_dflt (refine' set_bend ?zkb ?zk1 ?zk2 ?zk3 ?zk4 ?zkx ?zk5 ?zk6 ?zk7 ?_; (case zk1 => k_asm); (case zk2 => k_asm); (case zk3 => (intro o9; k_upd)); (case zk4 => with_reducible assumption); (case zkb => with_reducible assumption); (case zkx => exact rfl); (case zk5 => omega); (case zk6 => omega); (case zk7 => omega); k_whole)
      intro h9 vs9 ns9 F9 N9 I9 f9 e9
      (have hbb9 := bent_bytes f9 (by with_reducible assumption) (by with_reducible assumption) (by with_reducible assumption))
      (try dsimp only at N9)
      (try k_sweep)))
  (k_with "setItem ref int" => (
      k_here
      (with_reducible show wpAny _ _ (setItem (Value.ref _) (Value.int _ _) (Value.int _ _)) _ _ _)
      k_dflt (refine' set_flip7 ?zk1 ?zk2 ?zk3 ?zk4 ?zkb ?zkx ?zk5 ?zk6 ?zk7 ?_; (case zk1 => k_asm); (case zk2 => k_asm); (case zk3 => (intro o9; k_upd)); (case zk4 => with_reducible assumption); (case zkb => (first | with_reducible assumption | exact d_flip (by with_reducible assumption))); (case zkx => exact rfl); (case zk5 => ksa_idx); (case zk6 => ksa_idx); (case zk7 => ksa_idx); k_whole)
      intro h9 vs9 ns9 F9 N9 I9 f9 e9
      (try dsimp only at N9)
      (try k_sweep)))
  (k_with "subscriptTail Name Slice ref ref" => (
      k_here
      (with_reducible show wpAny _ _ (subscriptTail _ (PySem.Expr.Slice none (some _) none _) (Value.ref _) (Value.ref _)) _ _ _)
      k_dflt (refine' slice_upto ?zF ?zN ?zl ?zp ?zq ?zi ?zy ?_ ?zs ?zt ?zz; (case zF => k_asm); (case zN => k_asm); (case zl => kmk_list); (case zp => exact IsPart.none); (case zq => exact IsPart.int _ _); (case zi => l_ints); (case zy => omega); (case zs => with_unfolding_all rfl); (case zt => kmk_pure); (case zz => omega))
      intro D9 ws9 ms9 h9 F9 N9 l1 I9 e9 z9
      (try k_sweep)))
  (k_with "subscriptTail Name Slice ref ref" => (
      k_here
      (with_reducible show wpAny _ _ (subscriptTail _ (PySem.Expr.Slice (some _) none none _) (Value.ref _) (Value.ref _)) _ _ _)
      k_dflt (refine' slice_from ?zF ?zN ?zl ?zp ?zq ?zi ?zy ?_ ?zs ?zt ?zz; (case zF => k_asm); (case zN => k_asm); (case zl => kmk_list); (case zp => exact IsPart.int _ _); (case zq => exact IsPart.none); (case zi => l_ints); (case zy => omega); (case zs => with_unfolding_all rfl); (case zt => kmk_pure); (case zz => omega))
      intro D9 ws9 ms9 h9 F9 N9 l1 I9 e9 z9
      (try k_sweep)))
  (k_with "FlipEnd" => k_dflt (first | (refine' FlipEnd.mk2 ?zi ?zf ?zl; (case zi => with_reducible assumption); (case zf => with_reducible assumption); (case zl => first | exact Eq.trans (by with_reducible assumption) (by with_reducible assumption) | omega)) | (refine' FlipEnd.mk' ?zi ?zf ?zl; (case zi => with_reducible assumption); (case zf => with_reducible assumption); (case zl => first | exact Eq.trans (by with_reducible assumption) (by with_reducible assumption) | omega))))
  (k_with "UnrEndW" => (
      k_dflt (refine' unr_end ?zzF ?zzN ?zzO ?_; (case zzF => k_asm); (case zzN => k_asm); (case zzO => k_all))
      (try dsimp only)))
  (k_with "LCut" => (
      k_dflt (refine' LCut.intro ?zzF ?zzN ?zzM ?zzS ?zzL ?zzI ?zzP; (case zzF => k_asm); (case zzN => k_asm); (case zzM => k_mem); (case zzS => first | ((try dsimp only); (try simp only [List.nil_append, List.cons_append]); (repeat' (first | with_reducible exact al_refl | with_reducible exact List.mem_cons_self | with_reducible exact al_nil | with_reducible exact al_left | with_reducible exact al_right | with_reducible refine al_cons ?_ ?_ | with_reducible refine al_app ?_ ?_ | with_reducible refine al_skip ?_ | with_reducible refine List.mem_cons_of_mem _ ?_)); done) | kcj_all); (case zzI => (first | assumption | l_ints)))
      case zzL => (repeat (refine off1_cons (by k_ne) ?_)); exact off1_nil
      case zzP => k_dflt (k_extra "list end")))
  (k_with "ICut" => (
      k_dflt (refine' ICut.intro ?zzF ?zzN ?zzS ?zzP; (case zzF => k_asm); (case zzN => k_asm); (case zzS => first | ((try dsimp only); (try simp only [List.nil_append, List.cons_append]); (repeat' (first | with_reducible exact al_refl | with_reducible exact List.mem_cons_self | with_reducible exact al_nil | with_reducible exact al_left | with_reducible exact al_right | with_reducible refine al_cons ?_ ?_ | with_reducible refine al_app ?_ ?_ | with_reducible refine al_skip ?_ | with_reducible refine List.mem_cons_of_mem _ ?_)); done) | kcj_all))
      case zzP => k_dflt (k_extra "int end")))
  (k_with "BCut" => (
      k_dflt (refine' BCut.intro ?zzF ?zzN ?zzS ?zzP; (case zzF => k_asm); (case zzN => k_asm); (case zzS => first | ((try dsimp only); (try simp only [List.nil_append, List.cons_append]); (repeat' (first | with_reducible exact al_refl | with_reducible exact List.mem_cons_self | with_reducible exact al_nil | with_reducible exact al_left | with_reducible exact al_right | with_reducible refine al_cons ?_ ?_ | with_reducible refine al_app ?_ ?_ | with_reducible refine al_skip ?_ | with_reducible refine List.mem_cons_of_mem _ ?_)); done) | kcj_all))
      case zzP => k_dflt (k_extra "bool end")))
  (k_with "call ref" => (
    k_here
    (with_reducible show wpAny _ _ (call (Value.ref 50) [_, Value.int 0 _]) _ _ _)
    k_dflt (refine' cut_any ?zzF ?zzN ?zzB ?_; (case zzF => k_asm); (case zzN => k_asm); (case zzB => ((k_dflt (refine wpAny_call ?_; k_enter)); k_steps)))
    intro x9 t9 h9 tk9 F9 N9 P9
    (try k_sweep)
    (try k_fold)))
  (k_with "call ref" => (
    k_here
    (with_reducible show wpAny _ _ (call (Value.ref 50) [_, Value.int 1 _]) _ _ _)
    k_dflt (refine' cut_any ?zzF ?zzN ?zzB ?_; (case zzF => k_asm); (case zzN => k_asm); (case zzB => ((k_dflt (refine wpAny_call ?_; k_enter)); k_steps)))
    intro x9 t9 h9 tk9 F9 N9 P9
    (try k_sweep)
    (try k_fold)))
  (k_with "call ref" => (
    k_here
    (with_reducible show wpAny _ _ (call (Value.ref 50) [_, Value.int 2 _]) _ _ _)
    k_dflt (refine' cut_any ?zzF ?zzN ?zzB ?_; (case zzF => k_asm); (case zzN => k_asm); (case zzB => ((k_dflt (refine wpAny_call ?_; k_enter)); k_steps)))
    intro x9 t9 h9 tk9 F9 N9 P9
    (try k_sweep)
    (try k_fold)))
  (k_with "call ref" => (
    k_here
    (with_reducible show wpAny _ _ (call (Value.ref 42) _) _ _ _)
    k_dflt (refine' cut_crc ?zzF ?zzN ?zzM ?zzI ?zzY ?zzB ?_; (case zzF => k_asm); (case zzN => k_asm); (case zzM => k_mem); (case zzI => (first | k_asm | l_ints)); (case zzY => (first | with_reducible assumption | exact take_bytes (by with_reducible assumption) (by with_reducible assumption) | exact put_bytes (by with_reducible assumption) (by with_reducible assumption) (by with_reducible assumption) (by with_reducible assumption))); (case zzB => (intro hby9; (k_dflt (refine wpAny_call ?_; k_enter)); k_steps)))
    intro x9 t9 h9 tk9 F9 N9 P9
    (obtain ⟨hcr9, hlo9, hhi9, hni9⟩ := P9)
    (try have hfr9 := fresh_or (n := kSize) (p := kPlace) (by with_reducible assumption) (by with_reducible assumption) (by with_reducible assumption) (by with_reducible assumption) (by with_reducible assumption) ⟨by with_reducible assumption, by with_reducible assumption⟩ (by with_reducible assumption) (by with_reducible assumption) hcr9 (by with_reducible assumption))
    (try k_sweep)
    (try k_fold)))
  (k_with "call ref" => (
    k_here
    (with_reducible show wpAny _ _ (call (Value.ref 57) [_, Value.int 1 _]) _ _ _)
    k_dflt (refine' cut_rem1 ?zzF ?zzN ?zzM ?zzI ?zzY ?zzB ?_; (case zzF => k_asm); (case zzN => k_asm); (case zzM => k_mem); (case zzI => (first | k_asm | l_ints)); (case zzY => (first | with_reducible assumption | exact take_bytes (by with_reducible assumption) (by with_reducible assumption) | exact put_bytes (by with_reducible assumption) (by with_reducible assumption) (by with_reducible assumption) (by with_reducible assumption))); (case zzB => (intro hby9 kTurn hT9; (k_dflt (refine wpAny_call ?_; k_enter)); k_steps)))
    intro x9 t9 h9 tk9 F9 N9 P9
    (obtain ⟨hcr9, hlo9, hhi9, hni9⟩ := P9)
    (try k_sweep)
    (try k_fold)))
  (k_with "call ref" => (
    k_here
    (with_reducible show wpAny _ _ (call (Value.ref 57) [_, Value.int 0 _]) _ _ _)
    k_dflt (refine' cut_rem0 ?zzF ?zzN ?zzM ?zzI ?zzY ?zzB ?_; (case zzF => k_asm); (case zzN => k_asm); (case zzM => k_mem); (case zzI => (first | k_asm | l_ints)); (case zzY => (first | with_reducible assumption | exact take_bytes (by with_reducible assumption) (by with_reducible assumption) | exact put_bytes (by with_reducible assumption) (by with_reducible assumption) (by with_reducible assumption) (by with_reducible assumption))); (case zzB => (intro hby9 kTurn hT9; (k_dflt (refine wpAny_call ?_; k_enter)); k_steps)))
    intro x9 t9 h9 tk9 F9 N9 P9
    (have hxr9 := fresh_xor (n := kSize) (p := kPlace) (by with_reducible assumption) (by with_reducible assumption) (by with_reducible assumption) (by with_reducible assumption) (by with_reducible assumption) ⟨by with_reducible assumption, by with_reducible assumption⟩ (by with_reducible assumption) (by with_reducible assumption) (by with_reducible assumption) (by with_reducible assumption) (by with_reducible assumption) (by with_reducible assumption) (by with_reducible assumption) P9.eq)
    (try k_sweep)
    (try k_fold)))
  (k_with "call ref" => (
    k_here
    (with_reducible show wpAny _ _ (call (Value.ref 62) _) _ _ _)
    k_dflt (refine' cut_four ?zzF ?zzN ?zzB ?_; (case zzF => k_asm); (case zzN => k_asm); (case zzB => ((k_dflt (refine wpAny_call ?_; k_enter)); k_steps)))
    intro l9 vs9 ns9 n9 h9 tk9 F9 N9 l1 I9 P9
    (try k_sweep)
    (try k_fold)))
  (k_with "call ref" => (
    k_here
    (with_reducible show wpAny _ _ (call (Value.ref 69) _) _ _ _)
    k_dflt (refine' cut_acc ?zzF ?zzN ?zzM ?zzI ?zzB ?_; (case zzF => k_asm); (case zzN => k_asm); (case zzM => k_mem); (case zzI => (first | k_asm | l_ints)); (case zzB => ((k_dflt (refine wpAny_call ?_; k_enter)); k_steps)))
    intro b9 h9 tk9 F9 N9 P9
    (first | (have hb9 := acc_frame (by with_reducible assumption) (by with_reducible assumption) P9) | (have hb9 := acc_bent (by with_reducible assumption) (by with_reducible assumption) (by with_reducible assumption) (by omega) (by with_reducible assumption) ⟨by with_reducible assumption, by with_reducible assumption⟩ (by omega) (by omega) P9))
    (subst hb9)
    (try k_sweep)
    (try k_fold)))
  (k_with "call ref" => (
    k_here
    (with_reducible show wpAny _ _ (call (Value.ref 35) _) _ _ _)
    k_dflt (refine' cut_eight ?zzF ?zzN ?zzB ?_; (case zzF => k_asm); (case zzN => k_asm); (case zzB => (intro kC0; (k_dflt (refine wpAny_call ?_; k_enter)); k_steps)))
    intro t9 h9 tk9 F9 N9
    (try k_sweep)
    (try k_fold)))
  (k_with "FinA" => ((unfold LCg.FinA); intro D' h' tk' F' N' o1'; (try simp only [List.nil_append, List.cons_append] at N'); (try dsimp only); (with_reducible rename IntsAre _ (List.map (fun _ => Int.fmod _ 256) _) => hI9); (obtain ⟨kBody, hkI, hby9, hbl9⟩ := body_gen (size := kSize) hI9 (by omega) (fun _ => fm256 _)); (clear hI9); (try (with_reducible rename (List.length _ = List.length (List.map _ _)) => hL9); (clear hL9))))
  (k_with "FinA" => ((unfold LCg.FinA); intro D' h' tk' F' N' o1'; (try simp only [List.nil_append, List.cons_append] at N'); (try dsimp only); (with_reducible rename IntsAre _ (List.map _ _) => hI9); (obtain ⟨kZeros, hkI, hkz9, hkzl9⟩ := zeros_gen (m := kSize.toNat) hI9 (by omega) (fun _ => rfl)); (clear hI9); (try (with_reducible rename (List.length _ = List.length (List.map _ _)) => hL9); (clear hL9))))
  (k_with "ItemsRest" => ((k_dflt (refine' items_flip (offs := [0, 6, 9, 10, 16, 20, 21, 22, 24, 25, 27, 28, 30, 31, 32]) kN ?zi ?zf ?zx ?zr ?zs ?_; (case zi => with_reducible assumption); (case zf => exact d_flip (by with_reducible assumption)); (case zx => (repeat (first | exact IntsAre.nil | refine IntsAre.cons _ _ ?_))); (case zr => decide); (case zs => (intro o9 t9 u9 vs9 ns9 W9 ho0 ho1 hi9 hf9 hl9 h9 tk9 ob9 hob9 F9 N9; (try dsimp only at F9); k_steps)))); intro u9 vs9 ns9 hi9 hf9 hl9 h9 tk9 F9 N9; (try dsimp only at F9)))
  (k_with "binaryOp Mod int int" => (k_here; (with_reducible show wpAny _ _ (binaryOp _ (Value.int _ _) (Value.int 5 _)) _ _ _); k_dflt (refine' mod_rest ?zmd ?_; (case zmd => decide)); intro kSize hSlo hShi))
  (k_with "binaryOp Mod int int" => (k_here; (with_reducible show wpAny _ _ (binaryOp _ (Value.int _ _) (Value.int 15 _)) _ _ _); k_dflt (refine' mod_rest ?zmd ?_; (case zmd => decide)); intro kD hDlo hDhi))
  (k_with "binaryOp Mod int int" => (k_here; (with_reducible show wpAny _ _ (binaryOp _ (Value.int _ _) (Value.int (_ + _) _)) _ _ _); k_dflt (refine' mod_rest ?zmd ?_; (case zmd => omega)); intro kPlace hPlo hPhi; (obtain ⟨hh1, hh2, hh3⟩ := half kPlace)))
  (k_with "compareOp NotEq int int" => ((with_reducible show wpAny _ _ (compareOp _ (Value.int (Builtin.bitXor (_ + _) _) _) (Value.int _ _)) _ _ _); (have hrc9 := recv_or (n := kSize) (p := kPlace) (by with_reducible assumption) (by with_reducible assumption) (by with_reducible assumption) (by with_reducible assumption) (by omega) (by omega) (by with_reducible assumption) (by omega) (by omega)); (with_reducible refine ne_int ?_)))
  (k_with "pyIter ref" => (k_of "i" => k_state_given ["message"] (fun ms pre bits => DivAt ms (seedT kTurn ms) pre.length bits ∧ bits.length = 8 * ms.length + 32) "work"))
  (k_with "pyIter ref" => (k_of "byte" => k_state (fun pre bits => BitsAt pre bits ∧ bits.length = 8 * pre.length) "work"))
  (k_with "pyIter ref" => (k_of "b" => k_state (fun pre c => RegAt pre c) "c"))
  (k_with "pyIter ref" => (k_of "_" => k_state_short (fun pre c => StepsAt kC0 pre.length c) "c"))
  (k_with "pyIter ref" => ((with_reducible show wpAny _ _ (pyIter _) (fun it s₂ => LoopAtV _ _ _ _ _ _ [Stmt.Assign [Expr.Name _ _] _ _] _ _ it s₂) _ _); k_state_given ["message"] (fun ms pre total => SumTAt kTurn ms pre.length total) "number"))
  (k_with "pyIter ref" => ((with_reducible show wpAny _ _ (pyIter _) (fun it s₂ => LoopAtV _ _ _ _ _ _ [Stmt.Assign [Expr.Subscript _ _ _] _ _] _ _ it s₂) _ _); k_state_given ["message"] (fun ms pre bits => WorkTAt kTurn ms pre.length bits ∧ bits.length = 8 * ms.length + 32) "work"))
  (k_with "pyIter ref" => ((with_reducible show wpAny _ _ (pyIter _) (fun it s₂ => LoopAtV _ _ _ _ _ _ [Stmt.Expr (Expr.Call _ [Expr.Constant _ _ _] _ _) _] _ _ it s₂) _ _); k_state_given ["message"] (fun ms pre bits => ZeroAt ms pre.length bits ∧ bits.length = 8 * ms.length + pre.length) "work"))
  (k_with "pyIter ref" => ((with_reducible show wpAny _ _ (pyIter _) (fun it s₂ => LoopAtV _ _ _ _ _ _ [Stmt.Expr (Expr.Call _ [Expr.BinOp _ _ _ _] _ _) _] _ _ it s₂) _ _); k_state_short (fun pre bits => InAt kPre pre.length kN bits ∧ bits.length = 8 * kPre.length + pre.length) "work"))
  (k_with "state" => k_dflt (first
    | with_reducible exact s_start _
    | (with_reducible apply s_odd <;> first | with_reducible assumption | omega | (rw [rangeKs_length]; rfl) | (rw [rangeKs_length]; omega) | decide)
    | (with_reducible apply s_even <;> first | with_reducible assumption | omega | (rw [rangeKs_length]; rfl) | (rw [rangeKs_length]; omega) | decide)
    | (with_reducible apply r_start <;> first | with_reducible assumption | omega | (rw [rangeKs_length]; rfl) | (rw [rangeKs_length]; omega) | decide)
    | (with_reducible apply r_turn2 <;> first | with_reducible assumption | omega | (rw [rangeKs_length]; rfl) | (rw [rangeKs_length]; omega) | decide)
    | with_reducible exact b_start
    | (with_reducible apply in_start <;> first | with_reducible assumption | omega | (rw [rangeKs_length]; rfl) | (rw [rangeKs_length]; omega) | decide)
    | (with_reducible apply in_turn7 <;> first | with_reducible assumption | omega | (rw [rangeKs_length]; rfl) | (rw [rangeKs_length]; omega) | decide)
    | (with_reducible apply out_turn <;> first | with_reducible assumption | omega | (rw [rangeKs_length]; rfl) | (rw [rangeKs_length]; omega) | decide)
    | (with_reducible apply z_start <;> first | with_reducible assumption | omega | (rw [rangeKs_length]; rfl) | (rw [rangeKs_length]; omega) | decide)
    | (with_reducible apply z_turn <;> first | with_reducible assumption | omega | (rw [rangeKs_length]; rfl) | (rw [rangeKs_length]; omega) | decide)
    | (with_reducible apply wt_start <;> first | with_reducible assumption | omega | (rw [rangeKs_length]; rfl) | (rw [rangeKs_length]; omega) | decide)
    | ((have hT1 : kTurn = 1 := by with_reducible assumption); (with_reducible apply wt_one hT1 <;> first | with_reducible assumption | omega | (rw [rangeKs_length]; rfl) | (rw [rangeKs_length]; omega) | decide))
    | ((have hT1 : kTurn = 0 := by with_reducible assumption); (with_reducible apply wt_no hT1 <;> first | with_reducible assumption | omega | (rw [rangeKs_length]; rfl) | (rw [rangeKs_length]; omega) | decide))
    | (with_reducible apply dt_start <;> first | with_reducible assumption | omega | (rw [rangeKs_length]; rfl) | (rw [rangeKs_length]; omega) | decide)
    | (with_reducible apply d_stay <;> first | with_reducible assumption | omega | (rw [rangeKs_length]; rfl) | (rw [rangeKs_length]; omega) | decide)
    | (with_reducible apply d_turn8 <;> first | with_reducible assumption | omega | (rw [rangeKs_length]; rfl) | (rw [rangeKs_length]; omega) | decide)
    | with_reducible exact tt_start _ _
    | ((have hT1 : kTurn = 1 := by with_reducible assumption); (with_reducible apply tt_one hT1 <;> first | with_reducible assumption | omega | (rw [rangeKs_length]; rfl) | (rw [rangeKs_length]; omega) | decide))
    | ((have hT1 : kTurn = 0 := by with_reducible assumption); (with_reducible apply tt_no hT1 <;> first | with_reducible assumption | omega | (rw [rangeKs_length]; rfl) | (rw [rangeKs_length]; omega) | decide))
    | exact s_start _
    | (apply s_odd <;> first | with_reducible assumption | omega | (rw [rangeKs_length]; rfl) | (rw [rangeKs_length]; omega) | decide)
    | (apply s_even <;> first | with_reducible assumption | omega | (rw [rangeKs_length]; rfl) | (rw [rangeKs_length]; omega) | decide)
    | (apply r_start <;> first | with_reducible assumption | omega | (rw [rangeKs_length]; rfl) | (rw [rangeKs_length]; omega) | decide)
    | (apply r_turn2 <;> first | with_reducible assumption | omega | (rw [rangeKs_length]; rfl) | (rw [rangeKs_length]; omega) | decide)
    | exact b_start
    | (apply in_start <;> first | with_reducible assumption | omega | (rw [rangeKs_length]; rfl) | (rw [rangeKs_length]; omega) | decide)
    | (apply in_turn7 <;> first | with_reducible assumption | omega | (rw [rangeKs_length]; rfl) | (rw [rangeKs_length]; omega) | decide)
    | (apply out_turn <;> first | with_reducible assumption | omega | (rw [rangeKs_length]; rfl) | (rw [rangeKs_length]; omega) | decide)
    | (apply z_start <;> first | with_reducible assumption | omega | (rw [rangeKs_length]; rfl) | (rw [rangeKs_length]; omega) | decide)
    | (apply z_turn <;> first | with_reducible assumption | omega | (rw [rangeKs_length]; rfl) | (rw [rangeKs_length]; omega) | decide)
    | (apply wt_start <;> first | with_reducible assumption | omega | (rw [rangeKs_length]; rfl) | (rw [rangeKs_length]; omega) | decide)
    | ((have hT1 : kTurn = 1 := by with_reducible assumption); (apply wt_one hT1 <;> first | with_reducible assumption | omega | (rw [rangeKs_length]; rfl) | (rw [rangeKs_length]; omega) | decide))
    | ((have hT1 : kTurn = 0 := by with_reducible assumption); (apply wt_no hT1 <;> first | with_reducible assumption | omega | (rw [rangeKs_length]; rfl) | (rw [rangeKs_length]; omega) | decide))
    | (apply dt_start <;> first | with_reducible assumption | omega | (rw [rangeKs_length]; rfl) | (rw [rangeKs_length]; omega) | decide)
    | (apply d_stay <;> first | with_reducible assumption | omega | (rw [rangeKs_length]; rfl) | (rw [rangeKs_length]; omega) | decide)
    | (apply d_turn8 <;> first | with_reducible assumption | omega | (rw [rangeKs_length]; rfl) | (rw [rangeKs_length]; omega) | decide)
    | exact tt_start _ _
    | ((have hT1 : kTurn = 1 := by with_reducible assumption); (apply tt_one hT1 <;> first | with_reducible assumption | omega | (rw [rangeKs_length]; rfl) | (rw [rangeKs_length]; omega) | decide))
    | ((have hT1 : kTurn = 0 := by with_reducible assumption); (apply tt_no hT1 <;> first | with_reducible assumption | omega | (rw [rangeKs_length]; rfl) | (rw [rangeKs_length]; omega) | decide))))
  (k_with "int end" => first
    | exact trivial
    | ((have hT1 : kTurn = 1 := by with_reducible assumption); (with_reducible apply tt_end1 hT1 <;> first | with_reducible assumption | omega | (rw [rangeKs_length]; rfl) | (rw [rangeKs_length]; omega) | decide))
    | ((have hT1 : kTurn = 0 := by with_reducible assumption); (with_reducible apply tt_end0 hT1 <;> first | with_reducible assumption | omega | (rw [rangeKs_length]; rfl) | (rw [rangeKs_length]; omega) | decide))
    | (with_reducible apply s_end <;> first | with_reducible assumption | omega | (rw [rangeKs_length]; rfl) | (rw [rangeKs_length]; omega) | decide)
    | (with_reducible apply r_end <;> first | with_reducible assumption | omega | (rw [rangeKs_length]; rfl) | (rw [rangeKs_length]; omega) | decide)
    | (apply s_end <;> first | with_reducible assumption | omega | (rw [rangeKs_length]; rfl) | (rw [rangeKs_length]; omega) | decide)
    | (apply r_end <;> first | with_reducible assumption | omega | (rw [rangeKs_length]; rfl) | (rw [rangeKs_length]; omega) | decide))
  (k_with "list end" => (refine cut_made ?_ ?_; (rfl); (with_reducible assumption)))
  (k_with "bool end" => (apply acc_end decide_eq_true_iff <;> first | with_reducible assumption | omega | (rw [rangeKs_length]; rfl) | (rw [rangeKs_length]; omega) | decide))
  open_k
