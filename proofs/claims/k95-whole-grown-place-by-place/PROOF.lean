import PyProof.Rows.All
import Wide.All
import OpenK.AllK
import Wide.FinOn
import HandS.ForExc
import HandS.Comp
import HandS.Dict
import HandS.Iter
import HandS.Text
import HandS.WordsDict
import HandS.Wide
import HandS.WideBits
import HandS.DeepEq
import HandS.TupAny
import HandS.Zip
import HandS.Small
import KE.GoesMore
import KE.GoesEnum
import KE.KDictZip
import HandS.IsInst
import HandS.Ends
import HandS.ForMost
import PySem.Challenge.RW_farquotient_k95_whole_grown_place_by_pla
section
set_option Elab.async false
namespace FQ
/-! ### numbers as two whole numbers in lowest terms -/
theorem emod_gcd {a b : Int} (ha : 0 ≤ a) (hb : 0 < b) : Int.gcd b (a % b) = Int.gcd a b := by
  obtain ⟨n, rfl⟩ := Int.eq_ofNat_of_zero_le ha
  obtain ⟨m, rfl⟩ := Int.eq_ofNat_of_zero_le (Int.le_of_lt hb)
  show Nat.gcd m (Int.natAbs ((n : Int) % (m : Int))) = Nat.gcd n m
  rw [← Int.natCast_emod, Int.natAbs_natCast, Nat.gcd_comm n m, Nat.gcd_rec m n, Nat.gcd_comm]
theorem divInt_num (t b : Int) (hb : 0 < b) : (Rat.divInt t b).num = t / (Int.gcd t b : Int) := by
  rw [Rat.num_divInt, Int.sign_eq_one_of_pos hb, Int.one_mul, Int.gcd_comm]
theorem divInt_den (t b : Int) (hb : 0 < b) : ((Rat.divInt t b).den : Int) = b / (Int.gcd t b : Int) := by
  rw [Rat.den_divInt, if_neg (by omega), Int.gcd_comm]
  rw [Int.natCast_ediv]
  congr 1
  omega
theorem add_eq (a b : Rat) : Rat.divInt (a.num * b.den + b.num * a.den) (a.den * b.den) = a + b := by
  have h := Rat.divInt_add_divInt a.num b.num (d₁ := a.den) (d₂ := b.den) (by have := a.den_nz; omega) (by have := b.den_nz; omega)
  rw [Rat.num_divInt_den, Rat.num_divInt_den] at h
  exact h.symm
theorem sub_eq (a b : Rat) : Rat.divInt (a.num * b.den - b.num * a.den) (a.den * b.den) = a - b := by
  have h := Rat.divInt_sub_divInt a.num b.num (d₁ := a.den) (d₂ := b.den) (by have := a.den_nz; omega) (by have := b.den_nz; omega)
  rw [Rat.num_divInt_den, Rat.num_divInt_den] at h
  exact h.symm
theorem mul_eq (a b : Rat) : Rat.divInt (a.num * b.num) (a.den * b.den) = a * b := by
  have h := Rat.divInt_mul_divInt a.num b.num (d₁ := a.den) (d₂ := b.den)
  rw [Rat.num_divInt_den, Rat.num_divInt_den] at h
  exact h.symm
theorem div_eq (a b : Rat) : Rat.divInt (a.num * b.den) (a.den * b.num) = a / b := by
  have h := Rat.divInt_mul_divInt a.num b.den (d₁ := a.den) (d₂ := b.num)
  rw [Rat.num_divInt_den] at h
  rw [Rat.div_def, Rat.inv_def]
  exact h.symm
theorem den_pos' (a : Rat) : (0 : Int) < a.den := by
  have := a.den_nz
  omega
theorem num_ne (a : Rat) (h : a ≠ 0) : a.num ≠ 0 := fun e => h (by
  rw [← Rat.num_divInt_den a, e, Rat.zero_divInt])
theorem num_zero (a : Rat) : a.num = 0 ↔ a = 0 := ⟨fun e => by rw [← Rat.num_divInt_den a, e, Rat.zero_divInt], fun e => by rw [e]; rfl⟩
end FQ
end
section
set_option Elab.async false
namespace FQ

/-! ### finite sums -/
def sumTo : Nat → (Nat → Rat) → Rat
  | 0, _ => 0
  | n + 1, f => sumTo n f + f n

theorem sumTo_congr {f g : Nat → Rat} : ∀ {n : Nat}, (∀ i, i < n → f i = g i) → sumTo n f = sumTo n g
  | 0, _ => rfl
  | n + 1, h => by
    simp only [sumTo]
    rw [sumTo_congr (n := n) fun i hi => h i (by omega), h n (by omega)]
theorem sumTo_zero {f : Nat → Rat} : ∀ {n : Nat}, (∀ i, i < n → f i = 0) → sumTo n f = 0
  | 0, _ => rfl
  | n + 1, h => by
    simp only [sumTo]
    rw [sumTo_zero (n := n) fun i hi => h i (by omega), h n (by omega)]
    grind
theorem sumTo_add (f g : Nat → Rat) : ∀ n : Nat, sumTo n (fun i => f i + g i) = sumTo n f + sumTo n g
  | 0 => by simp only [sumTo]; grind
  | n + 1 => by simp only [sumTo, sumTo_add f g n]; grind
theorem sumTo_mul (c : Rat) (f : Nat → Rat) : ∀ n : Nat, sumTo n (fun i => c * f i) = c * sumTo n f
  | 0 => by simp only [sumTo]; grind
  | n + 1 => by simp only [sumTo, sumTo_mul c f n]; grind
theorem sumTo_mulR (c : Rat) (f : Nat → Rat) (n : Nat) : sumTo n (fun i => f i * c) = sumTo n f * c := by
  rw [show (fun i => f i * c) = (fun i => c * f i) from funext fun i => by grind, sumTo_mul]
  grind
theorem sumTo_neg (f : Nat → Rat) : ∀ n : Nat, sumTo n (fun i => - f i) = - sumTo n f
  | 0 => by simp only [sumTo]; grind
  | n + 1 => by simp only [sumTo, sumTo_neg f n]; grind
theorem sumTo_first (f : Nat → Rat) : ∀ n : Nat, sumTo (n + 1) f = f 0 + sumTo n (fun i => f (i + 1))
  | 0 => by simp only [sumTo]; grind
  | n + 1 => by
    rw [sumTo, sumTo_first f n, sumTo]
    grind
theorem sumTo_rev (f : Nat → Rat) : ∀ n : Nat, sumTo (n + 1) (fun i => f (n - i)) = sumTo (n + 1) f
  | 0 => rfl
  | n + 1 => by
    rw [sumTo_first, sumTo_congr (g := fun i => f (n - i)), sumTo_rev f n]
    · show f (n + 1 - 0) + sumTo (n + 1) f = sumTo (n + 1) f + f (n + 1)
      simp only [Nat.sub_zero]; grind
    · intro i hi
      show f (n + 1 - (i + 1)) = f (n - i)
      rw [Nat.add_sub_add_right]
theorem sumTo_one {f : Nat → Rat} {k : Nat} : ∀ {n : Nat}, k < n → (∀ i, i < n → i ≠ k → f i = 0) → sumTo n f = f k
  | 0, h, _ => absurd h (Nat.not_lt_zero _)
  | n + 1, h, hz => by
    simp only [sumTo]
    by_cases e : k = n
    · subst e
      rw [sumTo_zero fun i hi => hz i (by omega) (by omega)]
      grind
    · rw [sumTo_one (k := k) (n := n) (by omega) fun i hi hk => hz i (by omega) hk, hz n (by omega) (by omega)]
      grind
theorem sumTo_ext {f : Nat → Rat} {n : Nat} : ∀ {m : Nat}, n ≤ m → (∀ i, n ≤ i → i < m → f i = 0) → sumTo m f = sumTo n f
  | 0, h, _ => by
    have : n = 0 := by omega
    rw [this]
  | m + 1, h, hz => by
    by_cases e : n = m + 1
    · rw [e]
    · simp only [sumTo]
      rw [sumTo_ext (m := m) (by omega) fun i h1 h2 => hz i h1 (by omega), hz m (by omega) (by omega)]
      grind
theorem sumTo_tri (F : Nat → Nat → Rat) : ∀ n : Nat, sumTo n (fun i => sumTo (i + 1) (fun j => F j (i - j))) = sumTo n (fun j => sumTo (n - j) (fun l => F j l))
  | 0 => rfl
  | n + 1 => by
    show sumTo n _ + sumTo (n + 1) _ = sumTo n _ + sumTo (n + 1 - n) _
    rw [sumTo_tri F n, sumTo_congr (n := n) (f := fun j => sumTo (n + 1 - j) (fun l => F j l)) (g := fun j => sumTo (n - j) (fun l => F j l) + F j (n - j)),
      sumTo_add]
    · show _ + (sumTo n _ + F n (n - n)) = _
      have e : sumTo (n + 1 - n) (fun l => F n l) = F n 0 := by
        rw [show n + 1 - n = 1 by omega]
        simp only [sumTo]
        grind
      rw [e, Nat.sub_self]
      grind
    · intro j hj
      show sumTo (n + 1 - j) (fun l => F j l) = _
      rw [show n + 1 - j = (n - j) + 1 by omega, sumTo]

/-! ### power series -/
structure Ser where
  co : Nat → Rat
namespace Ser
instance : CoeFun Ser (fun _ => Nat → Rat) := ⟨Ser.co⟩
theorem ext {f g : Ser} (h : ∀ i : Nat, f i = g i) : f = g := by
  cases f; cases g
  exact congrArg Ser.mk (funext h)
def C (r : Rat) : Ser := ⟨fun i => if i = 0 then r else 0⟩
def add (f g : Ser) : Ser := ⟨fun i => f i + g i⟩
def neg (f : Ser) : Ser := ⟨fun i => - f i⟩
def mul (f g : Ser) : Ser := ⟨fun k => sumTo (k + 1) fun i => f i * g (k - i)⟩
theorem C_co' (r : Rat) (i : Nat) : (C r).co i = if i = 0 then r else 0 := rfl
theorem add_co' (f g : Ser) (i : Nat) : (add f g).co i = f.co i + g.co i := rfl
theorem neg_co' (f : Ser) (i : Nat) : (neg f).co i = - f.co i := rfl
theorem mul_co' (f g : Ser) (k : Nat) : (mul f g).co k = sumTo (k + 1) fun i => f.co i * g.co (k - i) := rfl
def npow (f : Ser) : Nat → Ser
  | 0 => C 1
  | n + 1 => mul (npow f n) f
theorem mul_comm' (f g : Ser) : mul f g = mul g f := ext fun k => by
  rw [mul_co', mul_co', ← sumTo_rev]
  exact sumTo_congr fun i hi => by
    rw [show k - (k - i) = i by omega]
    grind
theorem mul_assoc' (f g h : Ser) : mul (mul f g) h = mul f (mul g h) := ext fun k => by
  show sumTo (k + 1) (fun i => sumTo (i + 1) (fun j => f j * g (i - j)) * h (k - i)) = sumTo (k + 1) (fun i => f i * sumTo (k - i + 1) (fun j => g j * h (k - i - j)))
  rw [sumTo_congr (n := k + 1) (g := fun i => sumTo (i + 1) (fun j => (fun j l => f j * g l * h (k - j - l)) j (i - j))), sumTo_tri fun j l => f j * g l * h (k - j - l)]
  · refine sumTo_congr fun j hj => ?_
    rw [show k + 1 - j = k - j + 1 by omega, ← sumTo_mul]
    exact sumTo_congr fun l hl => by grind
  · intro i hi
    show sumTo (i + 1) (fun j => f j * g (i - j)) * h (k - i) = sumTo (i + 1) (fun j => f j * g (i - j) * h (k - j - (i - j)))
    rw [← sumTo_mulR]
    refine sumTo_congr fun j hj => ?_
    show f j * g (i - j) * h (k - i) = f j * g (i - j) * h (k - j - (i - j))
    rw [show k - j - (i - j) = k - i by omega]
theorem mul_one' (f : Ser) : mul f (C 1) = f := ext fun k => by
  rw [mul_co', sumTo_one (k := k) (by omega)]
  · rw [Nat.sub_self]
    show f k * (if 0 = 0 then 1 else 0) = f k
    simp
  · intro i hi hk
    show f i * (if k - i = 0 then 1 else 0) = 0
    rw [if_neg (by omega)]
    grind
theorem C_mul (c : Rat) (f : Ser) (k : Nat) : mul (C c) f k = c * f k := by
  rw [mul_co', sumTo_one (k := 0) (by omega)]
  · show (if 0 = 0 then c else 0) * f (k - 0) = _
    rw [if_pos rfl, Nat.sub_zero]
  · intro i hi hk
    show (if i = 0 then c else 0) * f (k - i) = 0
    rw [if_neg hk]
    grind
theorem left_distrib' (f g h : Ser) : mul f (add g h) = add (mul f g) (mul f h) := ext fun k => by
  rw [add_co', mul_co', mul_co', mul_co', ← sumTo_add]
  exact sumTo_congr fun i _ => by rw [add_co']; grind
theorem C_add (a b : Rat) : C (a + b) = add (C a) (C b) := ext fun i => by
  rw [add_co', C_co', C_co', C_co']
  split <;> grind
theorem C_neg (a : Rat) : C (-a) = neg (C a) := ext fun i => by
  rw [neg_co', C_co', C_co']
  split <;> grind
instance : Lean.Grind.CommRing Ser where
  add := add
  mul := mul
  neg := neg
  sub := fun f g => add f (neg g)
  natCast := ⟨fun n => C n⟩
  ofNat := fun n => ⟨C n⟩
  intCast := ⟨fun n => C n⟩
  nsmul := ⟨fun n f => mul (C n) f⟩
  zsmul := ⟨fun n f => mul (C n) f⟩
  npow := ⟨npow⟩
  add_zero := fun f => ext fun i => by
    show f i + C ((0 : Nat) : Rat) i = f i
    rw [C_co']
    split <;> grind
  add_comm := fun f g => ext fun i => by
    show f i + g i = g i + f i
    grind
  add_assoc := fun f g h => ext fun i => by
    show f i + g i + h i = f i + (g i + h i)
    grind
  mul_assoc := mul_assoc'
  mul_one := mul_one'
  one_mul := fun f => by
    show mul (C 1) f = f
    rw [mul_comm', mul_one']
  left_distrib := left_distrib'
  right_distrib := fun f g h => by
    show mul (add f g) h = add (mul f h) (mul g h)
    rw [mul_comm', left_distrib', mul_comm' h f, mul_comm' h g]
  zero_mul := fun f => ext fun k => by
    show mul (C ((0 : Nat) : Rat)) f k = C ((0 : Nat) : Rat) k
    rw [C_mul]
    rw [C_co']
    split <;> grind
  mul_zero := fun f => ext fun k => by
    show mul f (C ((0 : Nat) : Rat)) k = C ((0 : Nat) : Rat) k
    rw [mul_comm', C_mul]
    rw [C_co']
    split <;> grind
  pow_zero := fun _ => rfl
  pow_succ := fun _ _ => rfl
  ofNat_succ := fun n => by
    show C ((n + 1 : Nat) : Rat) = add (C (n : Rat)) (C ((1 : Nat) : Rat))
    rw [← C_add, Rat.natCast_add]
  neg_add_cancel := fun f => ext fun i => by
    show - f i + f i = C ((0 : Nat) : Rat) i
    rw [C_co']
    split <;> grind
  sub_eq_add_neg := fun _ _ => rfl
  neg_zsmul := fun n f => ext fun i => by
    show mul (C ((-n : Int) : Rat)) f i = - mul (C (n : Rat)) f i
    rw [C_mul, C_mul, Rat.intCast_neg]
    grind
  intCast_neg := fun n => by
    show C ((-n : Int) : Rat) = neg (C (n : Rat))
    rw [← C_neg, Rat.intCast_neg]
  mul_comm := mul_comm'

/-! coefficients -/
theorem add_co (f g : Ser) (i : Nat) : (f + g) i = f i + g i := rfl
theorem sub_co (f g : Ser) (i : Nat) : (f - g) i = f i - g i := by
  show f i + - g i = _
  grind
theorem neg_co (f : Ser) (i : Nat) : (- f) i = - f i := rfl
theorem mul_co (f g : Ser) (k : Nat) : (f * g) k = sumTo (k + 1) fun i => f i * g (k - i) := rfl
theorem zero_co (i : Nat) : (0 : Ser) i = 0 := by
  show C ((0 : Nat) : Rat) i = 0
  rw [C_co']
  split <;> rfl
theorem one_co (i : Nat) : (1 : Ser) i = if i = 0 then 1 else 0 := rfl
theorem Cmul_co (c : Rat) (f : Ser) (k : Nat) : (C c * f) k = c * f k := C_mul c f k
/-- x to the power n -/
def X (n : Nat) : Ser := ⟨fun i => if i = n then 1 else 0⟩
theorem X_co (n i : Nat) : X n i = if i = n then 1 else 0 := rfl
theorem Xmul_co (n : Nat) (f : Ser) (k : Nat) : (X n * f) k = if n ≤ k then f (k - n) else 0 := by
  rw [mul_co]
  split
  · rename_i h
    rw [sumTo_one (k := n) (by omega)]
    · rw [X_co]
      simp
    · intro i hi hk
      rw [X_co, if_neg hk]
      grind
  · rename_i h
    refine sumTo_zero fun i hi => ?_
    rw [X_co, if_neg (by omega)]
    grind
theorem X_zero : X 0 = 1 := rfl
theorem X_add (a b : Nat) : X (a + b) = X a * X b := ext fun k => by
  rw [Xmul_co, X_co, X_co]
  split <;> split <;> first | rfl | omega | (split <;> first | rfl | omega)
end Ser
end FQ
example (a b c : FQ.Ser) (h : a * b = c) : b * a * a = c * a := by grind
example (a b c : FQ.Ser) : (a - b) * c = a * c - c * b := by grind
end
section
set_option Elab.async false
namespace FQ
open Ser
/-! ### degrees -/
def Lt (f : Ser) (n : Nat) : Prop := ∀ i, n ≤ i → f i = 0
def Low (f : Ser) (n : Nat) : Prop := ∀ i, i < n → f i = 0
def Mod (N : Nat) (f g : Ser) : Prop := ∀ i, i < N → f i = g i
def IsLen (f : Ser) (n : Nat) : Prop := Lt f n ∧ (n = 0 ∨ f (n - 1) ≠ 0)
def Poly (f : Ser) : Prop := ∃ n, Lt f n

theorem Lt.mono {f : Ser} {n m : Nat} (h : Lt f n) (hm : n ≤ m) : Lt f m := fun i hi => h i (by omega)
theorem Lt.add {f g : Ser} {n : Nat} (hf : Lt f n) (hg : Lt g n) : Lt (f + g) n := fun i hi => by rw [add_co, hf i hi, hg i hi]; grind
theorem Lt.sub {f g : Ser} {n : Nat} (hf : Lt f n) (hg : Lt g n) : Lt (f - g) n := fun i hi => by rw [sub_co, hf i hi, hg i hi]; grind
theorem Lt.neg {f : Ser} {n : Nat} (hf : Lt f n) : Lt (- f) n := fun i hi => by rw [neg_co, hf i hi]; grind
theorem Lt.zero (n : Nat) : Lt (0 : Ser) n := fun i _ => zero_co i
theorem Lt.one : Lt (1 : Ser) 1 := fun i hi => by rw [one_co, if_neg (by omega)]
theorem Lt.C (c : Rat) : Lt (Ser.C c) 1 := fun i hi => by rw [C_co', if_neg (by omega)]
theorem Lt.X (n : Nat) : Lt (Ser.X n) (n + 1) := fun i hi => by rw [X_co, if_neg (by omega)]
theorem Lt.mul {f g : Ser} {a b c : Nat} (hf : Lt f a) (hg : Lt g b) (h : a + b ≤ c + 1) : Lt (f * g) c := fun i hi => by
  rw [mul_co]
  refine sumTo_zero fun j hj => ?_
  by_cases e : j < a
  · rw [hg (i - j) (by omega)]
    grind
  · rw [hf j (by omega)]
    grind
theorem Lt.Cmul {f : Ser} {a : Nat} (c : Rat) (hf : Lt f a) : Lt (Ser.C c * f) a := fun i hi => by rw [Cmul_co, hf i hi]; grind
theorem Lt.Xmul {f : Ser} {a n : Nat} (hf : Lt f a) : Lt (Ser.X n * f) (n + a) := fun i hi => by
  rw [Xmul_co]
  split
  · exact hf _ (by omega)
  · rfl
theorem top_mul {f g : Ser} {a b : Nat} (hf : Lt f (a + 1)) (hg : Lt g (b + 1)) : (f * g) (a + b) = f a * g b := by
  rw [mul_co, sumTo_one (k := a) (by omega)]
  · rw [show a + b - a = b by omega]
  · intro i hi hk
    by_cases e : i < a
    · rw [hg (a + b - i) (by omega)]
      grind
    · rw [hf i (by omega)]
      grind
theorem low_mul {f g : Ser} {a b : Nat} (hf : Low f a) (hg : Low g b) : (f * g) (a + b) = f a * g b := by
  rw [mul_co, sumTo_one (k := a) (by omega)]
  · rw [show a + b - a = b by omega]
  · intro i hi hk
    by_cases e : i < a
    · rw [hf i e]
      grind
    · rw [hg (a + b - i) (by omega)]
      grind
theorem Low.mul {f g : Ser} {a b : Nat} (hf : Low f a) (hg : Low g b) : Low (f * g) (a + b) := fun i hi => by
  rw [mul_co]
  refine sumTo_zero fun j hj => ?_
  by_cases e : j < a
  · rw [hf j e]
    grind
  · rw [hg (i - j) (by omega)]
    grind

theorem Poly.add {f g : Ser} (hf : Poly f) (hg : Poly g) : Poly (f + g) :=
  let ⟨a, ha⟩ := hf; let ⟨b, hb⟩ := hg; ⟨a + b, (ha.mono (by omega)).add (hb.mono (by omega))⟩
theorem Poly.sub {f g : Ser} (hf : Poly f) (hg : Poly g) : Poly (f - g) :=
  let ⟨a, ha⟩ := hf; let ⟨b, hb⟩ := hg; ⟨a + b, (ha.mono (by omega)).sub (hb.mono (by omega))⟩
theorem Poly.mul {f g : Ser} (hf : Poly f) (hg : Poly g) : Poly (f * g) :=
  let ⟨_, ha⟩ := hf; let ⟨_, hb⟩ := hg; ⟨_, ha.mul hb (Nat.le_succ _)⟩
theorem Poly.C (c : Rat) : Poly (Ser.C c) := ⟨_, Lt.C c⟩
theorem Poly.X (n : Nat) : Poly (Ser.X n) := ⟨_, Lt.X n⟩
theorem Poly.zero : Poly (0 : Ser) := ⟨0, Lt.zero 0⟩
theorem Poly.one : Poly (1 : Ser) := ⟨1, Lt.one⟩
theorem Poly.neg {f : Ser} (hf : Poly f) : Poly (- f) := let ⟨a, ha⟩ := hf; ⟨a, ha.neg⟩

theorem eq_zero_of {f : Ser} (h : ∀ i, f i = 0) : f = 0 := Ser.ext fun i => by rw [h i, zero_co]
theorem Lt.eq_zero {f : Ser} (h : Lt f 0) : f = 0 := eq_zero_of fun i => h i (Nat.zero_le _)
theorem IsLen.zero : IsLen (0 : Ser) 0 := ⟨Lt.zero 0, .inl rfl⟩
theorem IsLen.one : IsLen (1 : Ser) 1 := ⟨Lt.one, .inr (by rw [one_co]; simp)⟩
theorem len_of {f : Ser} : ∀ {n : Nat}, Lt f n → ∃ k, k ≤ n ∧ IsLen f k
  | 0, h => ⟨0, Nat.le_refl _, h, .inl rfl⟩
  | n + 1, h => by
    by_cases e : f n = 0
    · obtain ⟨k, hk, hl⟩ := len_of (f := f) (n := n) fun i hi => by
        by_cases q : i = n
        · rw [q, e]
        · exact h i (by omega)
      exact ⟨k, by omega, hl⟩
    · exact ⟨n + 1, Nat.le_refl _, h, .inr e⟩
theorem Poly.len {f : Ser} (h : Poly f) : ∃ k, IsLen f k := let ⟨_, h⟩ := h; let ⟨k, _, hk⟩ := len_of h; ⟨k, hk⟩
theorem IsLen.poly {f : Ser} {n : Nat} (h : IsLen f n) : Poly f := ⟨n, h.1⟩
theorem IsLen.unique {f : Ser} {n m : Nat} (h : IsLen f n) (h' : IsLen f m) : n = m := by
  rcases Nat.lt_trichotomy n m with l | l | l
  · rcases h'.2 with e | e
    · omega
    · exact absurd (h.1 (m - 1) (by omega)) e
  · exact l
  · rcases h.2 with e | e
    · omega
    · exact absurd (h'.1 (n - 1) (by omega)) e
theorem IsLen.eq_zero {f : Ser} (h : IsLen f 0) : f = 0 := h.1.eq_zero
theorem IsLen.ne_zero {f : Ser} {n : Nat} (h : IsLen f (n + 1)) : f ≠ 0 := fun e => by
  rcases h.2 with q | q
  · cases q
  · rw [e, zero_co] at q
    exact q rfl
theorem IsLen.last {f : Ser} {n : Nat} (h : IsLen f (n + 1)) : f n ≠ 0 := by
  rcases h.2 with q | q
  · cases q
  · exact q
theorem IsLen.le {f : Ser} {n m : Nat} (h : IsLen f n) (h' : Lt f m) : n ≤ m := by
  rcases h.2 with q | q
  · omega
  · refine Nat.le_of_not_lt fun hl => q (h' (n - 1) (by omega))
theorem IsLen.pos {f : Ser} {n : Nat} (h : IsLen f n) (hf : f ≠ 0) : 0 < n := by
  refine Nat.pos_of_ne_zero fun e => hf ?_
  subst e
  exact h.eq_zero
theorem IsLen.mul {f g : Ser} {n m : Nat} (hf : IsLen f (n + 1)) (hg : IsLen g (m + 1)) : IsLen (f * g) (n + m + 1) :=
  ⟨hf.1.mul hg.1 (by omega), .inr (by
    show (f * g) (n + m) ≠ 0
    rw [top_mul hf.1 hg.1]
    have := hf.last
    have := hg.last
    grind)⟩

theorem ord_of {f : Ser} (h : f ≠ 0) : ∃ k, Low f k ∧ f k ≠ 0 := by
  refine Classical.byContradiction fun hn => h (eq_zero_of fun i => ?_)
  have key : ∀ n, Low f n := by
    intro n
    induction n with
    | zero => exact fun i hi => absurd hi (Nat.not_lt_zero _)
    | succ n ih =>
      intro i hi
      by_cases e : i = n
      · subst e
        refine Classical.byContradiction fun q => hn ⟨i, ih, q⟩
      · exact ih i (by omega)
  exact key (i + 1) i (by omega)
theorem mul_ne_zero {f g : Ser} (hf : f ≠ 0) (hg : g ≠ 0) : f * g ≠ 0 := fun e => by
  obtain ⟨a, la, na⟩ := ord_of hf
  obtain ⟨b, lb, nb⟩ := ord_of hg
  have h := low_mul la lb
  rw [e, zero_co] at h
  grind
theorem mul_cancel {f g h : Ser} (hf : f ≠ 0) (e : f * g = f * h) : g = h := by
  refine Classical.byContradiction fun q => ?_
  have : g - h ≠ 0 := fun z => q (by grind)
  exact mul_ne_zero hf this (by grind)

/-! ### modulo x to the power N -/
theorem Mod.refl {N : Nat} (f : Ser) : Mod N f f := fun _ _ => rfl
theorem Mod.of_eq {N : Nat} {f g : Ser} (h : f = g) : Mod N f g := h ▸ Mod.refl f
theorem Mod.symm {N : Nat} {f g : Ser} (h : Mod N f g) : Mod N g f := fun i hi => (h i hi).symm
theorem Mod.trans {N : Nat} {f g h : Ser} (a : Mod N f g) (b : Mod N g h) : Mod N f h := fun i hi => (a i hi).trans (b i hi)
theorem Mod.mono {N M : Nat} {f g : Ser} (a : Mod N f g) (h : M ≤ N) : Mod M f g := fun i hi => a i (by omega)
theorem Mod.add {N : Nat} {f g h k : Ser} (a : Mod N f g) (b : Mod N h k) : Mod N (f + h) (g + k) := fun i hi => by rw [add_co, add_co, a i hi, b i hi]
theorem Mod.sub {N : Nat} {f g h k : Ser} (a : Mod N f g) (b : Mod N h k) : Mod N (f - h) (g - k) := fun i hi => by rw [sub_co, sub_co, a i hi, b i hi]
theorem Mod.mul {N : Nat} {f g h k : Ser} (a : Mod N f g) (b : Mod N h k) : Mod N (f * h) (g * k) := fun i hi => by
  rw [mul_co, mul_co]
  exact sumTo_congr fun j hj => by rw [a j (by omega), b (i - j) (by omega)]
theorem Mod.mulL {N : Nat} {g h : Ser} (f : Ser) (a : Mod N g h) : Mod N (f * g) (f * h) := (Mod.refl f).mul a
theorem Mod.eq {N : Nat} {f g : Ser} (h : Mod N f g) (hf : Lt f N) (hg : Lt g N) : f = g := Ser.ext fun i => by
  by_cases e : i < N
  · exact h i e
  · rw [hf i (by omega), hg i (by omega)]
theorem Low.of_Mod {N : Nat} {f : Ser} (h : Mod N f 0) : Low f N := fun i hi => by rw [h i hi, zero_co]
theorem Mod.of_Low {N : Nat} {f : Ser} (h : Low f N) : Mod N f 0 := fun i hi => by rw [h i hi, zero_co]
theorem Low.Xmul {f : Ser} {n : Nat} : Low (Ser.X n * f) n := fun i hi => by rw [Xmul_co, if_neg (by omega)]
/-- a factor whose number 0 is not nought falls away -/
theorem Low.unit {f g : Ser} {N : Nat} (hf : f 0 ≠ 0) (h : Low (f * g) N) : Low g N := by
  induction N with
  | zero => exact fun i hi => absurd hi (Nat.not_lt_zero _)
  | succ N ih =>
    intro i hi
    have l : Low g N := ih fun j hj => h j (by omega)
    by_cases e : i = N
    · subst e
      have q := low_mul (f := f) (g := g) (a := 0) (b := i) (fun j hj => absurd hj (Nat.not_lt_zero _)) l
      rw [Nat.zero_add, h i (by omega)] at q
      grind
    · exact l i (by omega)
theorem Low.Xmul_iff {f : Ser} {n N : Nat} (h : Low (Ser.X n * f) (n + N)) : Low f N := fun i hi => by
  have q := h (n + i) (by omega)
  rw [Xmul_co, if_pos (by omega), show n + i - n = i by omega] at q
  exact q
/-- x to the power of the order, and the rest -/
theorem split_ord {f : Ser} {k : Nat} (h : Low f k) : ∃ g : Ser, f = Ser.X k * g ∧ g 0 = f k := by
  refine ⟨⟨fun i => f (k + i)⟩, Ser.ext fun i => ?_, rfl⟩
  rw [Xmul_co]
  split
  · show f i = f (k + (i - k))
    rw [show k + (i - k) = i by omega]
  · exact h i (by omega)
theorem X_ne_zero (n : Nat) : Ser.X n ≠ 0 := fun e => by
  have : Ser.X n n = (0 : Ser) n := by rw [e]
  rw [X_co, if_pos rfl, zero_co] at this
  grind
theorem Poly.of_Xmul {f : Ser} {n : Nat} (h : Poly (Ser.X n * f)) : Poly f := by
  obtain ⟨a, ha⟩ := h
  refine ⟨a, fun i hi => ?_⟩
  have q := ha (n + i) (by omega)
  rw [Xmul_co, if_pos (by omega), show n + i - n = i by omega] at q
  exact q

/-! ### coprime pairs -/
def Cop (a b : Ser) : Prop := ∃ u v : Ser, Poly u ∧ Poly v ∧ u * a + v * b = 1
/-- a quotient: polynomials without a common factor, below's number 0 being 1 -/
structure Quo (a b : Ser) : Prop where
  pa : Poly a
  pb : Poly b
  b0 : b 0 = 1
  cop : Cop a b
theorem Cop.divides {a b p q : Ser} (h : Cop a b) (hp : Poly p) (hq : Poly q) (e : p * b = a * q) : ∃ t, Poly t ∧ p = t * a ∧ q = t * b := by
  obtain ⟨u, v, pu, pv, e1⟩ := h
  exact ⟨u * p + v * q, (pu.mul hp).add (pv.mul hq), by grind, by grind⟩
theorem Quo.b_ne {a b : Ser} (h : Quo a b) : b ≠ 0 := fun e => by
  have := h.b0
  rw [e, zero_co] at this
  grind
theorem Quo.unique {a b a' b' : Ser} (h : Quo a b) (h' : Quo a' b') (e : a * b' = a' * b) : a = a' ∧ b = b' := by
  obtain ⟨t, pt, e1, e2⟩ := h'.cop.divides h.pa h.pb (by grind)
  obtain ⟨s, ps, e3, e4⟩ := h.cop.divides h'.pa h'.pb (by grind)
  have e5 : b' * (s * t) = b' * 1 := by grind
  have e6 := mul_cancel h'.b_ne e5
  -- s t = 1, polys: constants
  have ts : s ≠ 0 := fun z => by
    rw [z] at e6
    have : (0 * t : Ser) 0 = (1 : Ser) 0 := by rw [e6]
    rw [show (0 * t : Ser) = 0 by grind, zero_co, one_co] at this
    simp at this
  have tt : t ≠ 0 := fun z => by
    rw [z] at e6
    have : (s * 0 : Ser) 0 = (1 : Ser) 0 := by rw [e6]
    rw [show (s * 0 : Ser) = 0 by grind, zero_co, one_co] at this
    simp at this
  obtain ⟨n, hn⟩ := pt.len
  obtain ⟨m, hm⟩ := ps.len
  have n0 := hn.pos tt
  have m0 := hm.pos ts
  obtain ⟨n, rfl⟩ : ∃ k, n = k + 1 := ⟨n - 1, by omega⟩
  obtain ⟨m, rfl⟩ : ∃ k, m = k + 1 := ⟨m - 1, by omega⟩
  have l1 := hm.mul hn
  rw [e6] at l1
  have l2 := l1.unique IsLen.one
  have nz : n = 0 := by omega
  subst nz
  have t0 : t 0 = 1 := by
    have q : (t * b') 0 = 1 := by rw [← e2]; exact h.b0
    rw [low_mul (a := 0) (b := 0) (fun j hj => absurd hj (Nat.not_lt_zero _)) (fun j hj => absurd hj (Nat.not_lt_zero _)), h'.b0] at q
    grind
  have et : t = 1 := Ser.ext fun i => by
    by_cases hi : i = 0
    · rw [hi, t0, one_co]; simp
    · rw [hn.1 i (by omega), one_co, if_neg hi]
  rw [et] at e1 e2
  exact ⟨by grind, by grind⟩

/-! ### pairs that agree with a row at as many places as their degrees make sure -/
structure Sol (R : Ser) (a b : Nat) (p q : Ser) : Prop where
  lp : Lt p a
  lq : Lt q b
  nz : q ≠ 0
  ag : Mod (a + b - 1) (q * R) p
theorem Sol.pos {R : Ser} {a b : Nat} {p q : Ser} (s : Sol R a b p q) : 0 < b := Nat.pos_of_ne_zero fun e => s.nz (by
  have := s.lq
  rw [e] at this
  exact this.eq_zero)
theorem Sol.cross {R : Ser} {a b : Nat} {p q p' q' : Ser} (s : Sol R a b p q) (s' : Sol R a b p' q') : p * q' = p' * q := by
  have e : Mod (a + b - 1) (p * q') (p' * q) := by
    have h1 : Mod (a + b - 1) (q' * (q * R)) (q' * p) := s.ag.mulL q'
    have h2 : Mod (a + b - 1) (q * (q' * R)) (q * p') := s'.ag.mulL q
    refine (Mod.of_eq (by grind : p * q' = q' * p)).trans (h1.symm.trans ((Mod.of_eq (by grind : q' * (q * R) = q * (q' * R))).trans (h2.trans (Mod.of_eq (by grind)))))
  have := s.pos
  exact e.eq (s.lp.mul s'.lq (by omega)) (s'.lp.mul s.lq (by omega))
end FQ
end
section
set_option Elab.async false
namespace FQ
/-! ### what the program reckons, and which numbers it meets on the way -/
/-- the most bits of a number that is reckoned with -/
@[irreducible] def BB : Nat := 67108864
theorem BB_eq : BB = 67108864 := by unfold BB; rfl
def Fit (x : Rat) : Prop := x.num.natAbs < 2 ^ BB ∧ x.den < 2 ^ BB
def FitP (f : Ser) : Prop := ∀ i, Fit (f i)

/-- the sum of the first i products that come to place k -/
def mpart (f g : Ser) (i k : Nat) : Rat := sumTo (min i (k + 1)) fun a => f a * g (k - a)
structure MulOK (f g : Ser) : Prop where
  ff : FitP f
  fg : FitP g
  pr : ∀ i j, Fit (f i * g j)
  pt : ∀ i k, Fit (mpart f g i k)

/-- the rest behind t steps of parting f by g (of length ng), many steps in all -/
def rst (f g : Ser) (ng many : Nat) : Nat → Ser
  | 0 => f
  | t + 1 => rst f g ng many t - Ser.C (rst f g ng many t (many - 1 - t + ng - 1) / g (ng - 1)) * (Ser.X (many - 1 - t) * g)
def shr (f g : Ser) (ng many t : Nat) : Rat := rst f g ng many t (many - 1 - t + ng - 1) / g (ng - 1)
def quo (f g : Ser) (ng many : Nat) : Ser := ⟨fun p => if p < many then shr f g ng many (many - 1 - p) else 0⟩
def rem (f g : Ser) (ng many : Nat) : Ser := rst f g ng many many
structure DivOK (f g : Ser) (ng many : Nat) : Prop where
  fg : FitP g
  rs : ∀ t, t < many → FitP (rst f g ng many t)
  sh : ∀ t, t < many → Fit (shr f g ng many t)
  pr : ∀ t, t < many → ∀ j, Fit (shr f g ng many t * g j)
inductive Euc : Ser → Ser → Ser → Prop
  | done (f : Ser) : Euc f 0 f
  | step {f g h : Ser} {nf ng : Nat} (hf : IsLen f nf) (hg : IsLen g (ng + 1)) (ok : DivOK f g (ng + 1) (nf + 1 - (ng + 1))) (r : Euc g (rem f g (ng + 1) (nf + 1 - (ng + 1))) h) : Euc f g h
/-- every number parted by c -/
def scl (f : Ser) (c : Rat) : Ser := ⟨fun i => f i / c⟩
/-- quotient_in of f by g gives a by b -/
structure QuoOK (f g a b : Ser) : Prop where
  ex : ∃ (h s A U : Ser) (nf ng nh : Nat), IsLen f nf ∧ IsLen g (ng + 1) ∧ Euc f g h ∧ IsLen h (nh + 1) ∧ FitP h ∧ s = scl h (h nh) ∧ IsLen s (nh + 1) ∧
    DivOK f s (nh + 1) (nf + 1 - (nh + 1)) ∧ DivOK g s (nh + 1) (ng + 1 + 1 - (nh + 1)) ∧ A = quo f s (nh + 1) (nf + 1 - (nh + 1)) ∧ U = quo g s (nh + 1) (ng + 1 + 1 - (nh + 1)) ∧
    U 0 ≠ 0 ∧ FitP A ∧ FitP U ∧ a = scl A (U 0) ∧ b = scl U (U 0)
  len : Lt f 400 ∧ Lt g 400
end FQ
end
section
set_option Elab.async false
namespace FQ
/-! ### the chain of a row that grows -/
structure ChS where
  s : Nat → Rat
  k : Nat
  C : Ser
  nC : Nat
  L : Nat
  B : Ser
  nB : Nat
  b : Rat
  since : Nat
def gapS (C : Ser) (s : Nat → Rat) (k : Nat) (x : Rat) (j : Nat) : Rat := x + sumTo j fun i => C (i + 1) * s (k - 1 - i)
def ChS.gj (st : ChS) : Nat := min st.nC (st.k + 1) - 1
def ChS.gap (st : ChS) (x : Rat) : Rat := gapS st.C st.s st.k x st.gj
def ChS.row (st : ChS) (x : Rat) : Nat → Rat := fun i => if i = st.k then x else st.s i
def ChS.madeG (st : ChS) (g : Rat) : Ser := st.C - Ser.C (g / st.b) * (Ser.X st.since * st.B)
def ChS.made (st : ChS) (x : Rat) : Ser := st.madeG (st.gap x)
structure MendOK (st : ChS) (g : Rat) : Prop where
  fg : Fit g
  fC : FitP st.C
  b0 : st.b ≠ 0
  fb : Fit st.b
  fB : FitP st.B
  sh : Fit (g / st.b)
  sB : ∀ i, Fit (g / st.b * st.B i)
  n2 : st.nC ≤ 400
  n3 : st.nB + st.since ≤ 400
  lC : Lt st.C st.nC
  lB : Lt st.B st.nB
def ChS.stay (st : ChS) (x : Rat) : ChS := { st with s := st.row x, k := st.k + 1, since := st.since + 1 }
def ChS.mend (st : ChS) (x : Rat) : ChS := { st with s := st.row x, k := st.k + 1, C := st.made x, nC := max st.nC (st.nB + st.since), since := st.since + 1 }
def ChS.jump (st : ChS) (x : Rat) : ChS := { s := st.row x, k := st.k + 1, C := st.made x, nC := max st.nC (st.nB + st.since), L := st.k + 1 - st.L, B := st.C, nB := st.nC, b := st.gap x, since := 1 }
def ChS.put (st : ChS) (x : Rat) : ChS := if st.gap x = 0 then st.stay x else if st.L < st.k + 1 - st.L then st.jump x else st.mend x
def ChS.start : ChS := { s := fun _ => 0, k := 0, C := 1, nC := 1, L := 0, B := 1, nB := 1, b := 1, since := 1 }
structure PutOK (st : ChS) (x : Rat) : Prop where
  fx : Fit x
  fs : ∀ i, i < st.k → Fit (st.s i)
  fC : FitP st.C
  pr : ∀ i, i < st.gj → Fit (st.C (i + 1) * st.s (st.k - 1 - i))
  pt : ∀ j, j ≤ st.gj → Fit (gapS st.C st.s st.k x j)
  n1 : 1 ≤ st.nC
  n2 : st.nC ≤ 400
  n4 : st.k ≤ 400
  n5 : st.L ≤ st.k
  mend : st.gap x ≠ 0 → MendOK st (st.gap x)
/-! ### the grower -/
structure GrS where
  off : Int
  r : Nat → Rat
  n : Nat
  ch : ChS
def GrS.start (off : Int) : GrS := { off := off, r := fun _ => 0, n := 0, ch := ChS.start }
def GrS.put (g : GrS) (x : Rat) : GrS := { g with r := fun i => if i = g.n then x else g.r i, n := g.n + 1, ch := if ((g.n + 1 : Nat) : Int) > g.off + 1 then g.ch.put x else g.ch }
/-- the first n numbers -/
def trn (n : Nat) (r : Nat → Rat) : Ser := ⟨fun i => if i < n then r i else 0⟩
structure GrownOK (C : Ser) (nC : Nat) (m : Nat) (n : Nat) (r : Nat → Rat) (a b : Ser) : Prop where
  lC : Lt C nC
  nC4 : nC ≤ 200
  n4 : n ≤ 200
  mul : MulOK C (trn n r)
  quo : QuoOK (trn m (C * trn n r).co) C a b
end FQ
end
section
set_option Elab.async false
namespace FQ
/-! ### equations, as the program solves them -/
/-- a row's number at a place, nought below place 0 -/
def rowB (r : Nat → Rat) (z : Int) : Rat := if z < 0 then 0 else r z.toNat
abbrev Line := Nat → Rat
def clr (l p : Line) (c : Nat) : Line := fun i => l i - l c / p c * p i
structure ClrOK (wd : Nat) (l p : Line) (c : Nat) : Prop where
  cw : c < wd
  pc : p c ≠ 0
  fl : ∀ i, i < wd → Fit (l i)
  fp : ∀ i, i < wd → Fit (p i)
  sh : Fit (l c / p c)
  pr : ∀ i, i < wd → Fit (l c / p c * p i)
def clrAll (fs : List (Nat × Line)) (l : Line) : Line := fs.foldl (fun l p => clr l p.2 p.1) l
/-- the first column of so many at which a line isn't nought -/
def firstNZ (l : Line) : Nat → Option Nat
  | 0 => none
  | w + 1 => match firstNZ l w with
    | some c => some c
    | none => if l w = 0 then none else some w
def pivStep (wd : Nat) (fs : List (Nat × Line)) (l : Line) : List (Nat × Line) :=
  match firstNZ (clrAll fs l) wd with
  | none => fs
  | some c => fs.map (fun p => (p.1, clr p.2 (clrAll fs l) c)) ++ [(c, clrAll fs l)]
structure PivOK (wd : Nat) (fs : List (Nat × Line)) (l : Line) : Prop where
  a : ∀ k p, fs[k]? = some p → ClrOK wd (clrAll (fs.take k) l) p.2 p.1
  b : ∀ c, firstNZ (clrAll fs l) wd = some c → ∀ p ∈ fs, ClrOK wd p.2 (clrAll fs l) c
def pivots (wd : Nat) (ls : List Line) : List (Nat × Line) := ls.foldl (pivStep wd) []
structure PivsOK (wd : Nat) (ls : List Line) : Prop where
  ok : ∀ k l, ls[k]? = some l → PivOK wd (pivots wd (ls.take k)) l
  n : ls.length ≤ 200
  w : wd ≤ 200
/-- the first column of so many that is no pivot's -/
def freeCol (fs : List (Nat × Line)) : Nat → Option Nat
  | 0 => none
  | w + 1 => match freeCol fs w with
    | some c => some c
    | none => if w ∈ fs.map (·.1) then none else some w
/-- the numbers that are told: 1 at the free column -/
def nullN (fs : List (Nat × Line)) (fr : Nat) : Nat → Rat := fun i =>
  if i = fr then 1 else match fs.find? fun p => p.1 == i with
    | some p => 0 - p.2 fr / p.2 p.1
    | none => 0
structure NullOK (wd : Nat) (fs : List (Nat × Line)) (fr : Nat) : Prop where
  free : freeCol fs wd = some fr
  nd : (fs.map (·.1)).Nodup
  cw : ∀ p ∈ fs, p.1 < wd
  pc : ∀ p ∈ fs, p.2 p.1 ≠ 0
  f1 : ∀ p ∈ fs, Fit (p.2 fr)
  f2 : ∀ p ∈ fs, Fit (p.2 p.1)
  f3 : ∀ p ∈ fs, Fit (p.2 fr / p.2 p.1)
  f0 : Fit 0
/-- the number at a place of row times below, the first j terms -/
def patS (g : Nat → Rat) (r : Nat → Rat) (place : Nat) (j : Nat) : Rat := sumTo j fun i => g i * rowB r ((place : Int) - (i : Int))
structure PatOK (g : Nat → Rat) (nb : Nat) (r : Nat → Rat) (place : Nat) : Prop where
  fg : ∀ i, i < nb → Fit (g i)
  fr : ∀ i, i < nb → Fit (rowB r ((place : Int) - (i : Int)))
  pr : ∀ i, i < nb → Fit (g i * rowB r ((place : Int) - (i : Int)))
  pt : ∀ j, j ≤ nb → Fit (patS g r place j)
def lineF (r : Nat → Rat) (m k : Nat) : Line := fun j => rowB r (((m + 1 + k : Nat) : Int) - (j : Int))
def linesF (r : Nat → Rat) (m n : Nat) : List Line := (List.range n).map (lineF r m)
structure FormOK (r : Nat → Rat) (m n : Nat) (a b : Ser) : Prop where
  ex : ∃ fr, PivsOK (n + 1) (linesF r m n) ∧ NullOK (n + 1) (pivots (n + 1) (linesF r m n)) fr ∧
    (∀ p, p ≤ m → PatOK (nullN (pivots (n + 1) (linesF r m n)) fr) (n + 1) r p) ∧
    QuoOK ⟨fun i => if i ≤ m then patS (nullN (pivots (n + 1) (linesF r m n)) fr) r i (n + 1) else 0⟩ ⟨fun i => if i ≤ n then nullN (pivots (n + 1) (linesF r m n)) fr i else 0⟩ a b
  m1 : m ≤ 100
  n1 : n ≤ 100
end FQ
end
section
set_option Elab.async false
namespace FQ
/-! ### parting step by step -/
inductive Par (m : Nat) : Ser → Ser → Ser → Ser → Ser → Ser → Prop
  | stop {ra ta r t : Ser} (h : Lt r (m + 1)) : Par m ra ta r t r t
  | step {ra ta r t r' t' : Ser} {na nr : Nat} (ha : IsLen ra na) (hr : IsLen r (nr + 1)) (hm : m < nr) (ok : DivOK ra r (nr + 1) (na + 1 - (nr + 1))) (mul : MulOK (quo ra r (nr + 1) (na + 1 - (nr + 1))) t)
      (fa : FitP ta) (fq : FitP (quo ra r (nr + 1) (na + 1 - (nr + 1)) * t)) (la : Lt ra 400) (lr : Lt r 400) (lta : Lt ta 400) (lt : Lt t 400) (lqt : Lt (quo ra r (nr + 1) (na + 1 - (nr + 1)) * t) 400)
      (next : Par m r t (rem ra r (nr + 1) (na + 1 - (nr + 1))) (ta - quo ra r (nr + 1) (na + 1 - (nr + 1)) * t) r' t') : Par m ra ta r t r' t'
structure PartOK (r : Nat → Rat) (m n : Nat) (a b : Ser) : Prop where
  ex : ∃ r' t', Par m (Ser.X (m + n + 1)) 0 (trn (m + n + 1) r) 1 r' t' ∧ QuoOK r' t' a b
  m1 : m ≤ 100
  n1 : n ≤ 100
end FQ
end
section
set_option Elab.async false
namespace FQ
/-! ### sizes -/
theorem icast_ne {D : Int} (h : D ≠ 0) : (D : Rat) ≠ 0 := fun e => h (by exact_mod_cast e)
theorem sz_eq {x : Rat} {z D : Int} (hD : D ≠ 0) (h : x * (D : Rat) = (z : Rat)) : x = Rat.divInt z D := by
  have := icast_ne hD
  rw [Rat.divInt_eq_div]
  grind
theorem sz_bd {x : Rat} {z D : Int} (hD : D ≠ 0) (h : x * (D : Rat) = (z : Rat)) : x.num.natAbs ≤ z.natAbs ∧ x.den ≤ D.natAbs := by
  have key : ∀ z D : Int, 0 < D → (Rat.divInt z D).num.natAbs ≤ z.natAbs ∧ (Rat.divInt z D).den ≤ D.natAbs := by
    intro z D hD
    refine ⟨?_, ?_⟩
    · rw [divInt_num z D hD]
      exact Int.natAbs_ediv_le_natAbs _ _
    · have e := divInt_den z D hD
      have h2 : D / (Int.gcd z D : Nat) ≤ D := Int.ediv_le_self _ (by omega)
      omega
  rw [sz_eq hD h]
  rcases Int.lt_or_gt_of_ne hD with hn | hp
  · have := key (-z) (-D) (by omega)
    rw [Rat.neg_divInt_neg] at this
    omega
  · exact key z D hp
/-- x is z by D, both of fewer than 2 ^ h -/
structure Sz (x : Rat) (h : Nat) : Prop where
  ex : ∃ z D : Int, D ≠ 0 ∧ x * (D : Rat) = (z : Rat) ∧ z.natAbs < 2 ^ h ∧ D.natAbs < 2 ^ h
theorem pow_mono {a b : Nat} (h : a ≤ b) : 2 ^ a ≤ 2 ^ b := Nat.pow_le_pow_right (by decide) h
theorem Sz.fit {x : Rat} {h : Nat} (s : Sz x h) (hk : h ≤ BB) : Fit x := by
  obtain ⟨z, D, hD, e, hz, hd⟩ := s.ex
  have b := sz_bd hD e
  have p := pow_mono hk
  exact ⟨Nat.lt_of_lt_of_le (Nat.lt_of_le_of_lt b.1 hz) p, Nat.lt_of_lt_of_le (Nat.lt_of_le_of_lt b.2 hd) p⟩
theorem Sz.mono {x : Rat} {a b : Nat} (s : Sz x a) (h : a ≤ b) : Sz x b := by
  obtain ⟨z, D, hD, e, hz, hd⟩ := s.ex
  have p := pow_mono h
  exact ⟨z, D, hD, e, Nat.lt_of_lt_of_le hz p, Nat.lt_of_lt_of_le hd p⟩
theorem lt_mul {a b p q : Nat} (h1 : a < 2 ^ p) (h2 : b < 2 ^ q) : a * b < 2 ^ (p + q) := by
  rw [Nat.pow_add]
  exact Nat.mul_lt_mul'' h1 h2
theorem abs_mul {a b : Int} {p q : Nat} (h1 : a.natAbs < 2 ^ p) (h2 : b.natAbs < 2 ^ q) : (a * b).natAbs < 2 ^ (p + q) := by
  rw [Int.natAbs_mul]
  exact lt_mul h1 h2
theorem abs_add {a b : Int} {p : Nat} (h1 : a.natAbs < 2 ^ p) (h2 : b.natAbs < 2 ^ p) : (a + b).natAbs < 2 ^ (p + 1) := by
  have := Int.natAbs_add_le a b
  rw [Nat.pow_succ]
  omega
theorem abs_sub {a b : Int} {p : Nat} (h1 : a.natAbs < 2 ^ p) (h2 : b.natAbs < 2 ^ p) : (a - b).natAbs < 2 ^ (p + 1) := by
  rw [Int.sub_eq_add_neg]
  exact abs_add h1 (by rw [Int.natAbs_neg]; exact h2)
theorem abs_mono {a : Int} {p q : Nat} (h : a.natAbs < 2 ^ p) (hq : p ≤ q) : a.natAbs < 2 ^ q := Nat.lt_of_lt_of_le h (pow_mono hq)
theorem abs_zero {p : Nat} : (0 : Int).natAbs < 2 ^ p := Nat.pos_of_ne_zero fun e => by
  have := Nat.one_le_two_pow (n := p)
  omega
/-- f is c times whole numbers by a whole number -/
structure SV (c : Rat) (f : Ser) (h : Nat) : Prop where
  ex : ∃ (φ : Nat → Int) (σ : Int), σ ≠ 0 ∧ (∀ i, f i * (σ : Rat) = c * (φ i : Rat)) ∧ (∀ i, (φ i).natAbs < 2 ^ h) ∧ σ.natAbs < 2 ^ h
theorem SV.mono {c : Rat} {f : Ser} {a b : Nat} (s : SV c f a) (h : a ≤ b) : SV c f b := by
  obtain ⟨φ, σ, h1, h2, h3, h4⟩ := s.ex
  exact ⟨φ, σ, h1, h2, fun i => abs_mono (h3 i) h, abs_mono h4 h⟩
/-- c z by D, c being small -/
theorem sz_scale {c x : Rat} {z D : Int} {w h : Nat} (hc : Sz c w) (hD : D ≠ 0) (e : x * (D : Rat) = c * (z : Rat)) (hz : z.natAbs < 2 ^ h) (hd : D.natAbs < 2 ^ h) : Sz x (h + w) := by
  obtain ⟨u, v, hv, e2, hu, hv2⟩ := hc.ex
  refine ⟨z * u, D * v, Int.mul_ne_zero hD hv, ?_, abs_mul hz hu, abs_mul hd hv2⟩
  push_cast
  have : x * ((D : Rat) * (v : Rat)) = (z : Rat) * (c * (v : Rat)) := by grind
  rw [this, e2]
theorem SV.sz {c : Rat} {f : Ser} {h w : Nat} (s : SV c f h) (hc : Sz c w) (i : Nat) : Sz (f i) (h + w) := by
  obtain ⟨φ, σ, h1, h2, h3, h4⟩ := s.ex
  exact sz_scale hc h1 (h2 i) (h3 i) h4
/-- t steps of parting -/
theorem rst_sv {c : Rat} {f g : Ser} {hf hg ng many : Nat} {φ γ : Nat → Int} {σ τ : Int} (c0 : c ≠ 0) (hσ : σ ≠ 0) (hτ : τ ≠ 0) (ef : ∀ i, f i * (σ : Rat) = c * (φ i : Rat)) (eg : ∀ i, g i * (τ : Rat) = c * (γ i : Rat))
    (bf : ∀ i, (φ i).natAbs < 2 ^ hf) (bg : ∀ i, (γ i).natAbs < 2 ^ hg) (gl : γ ng ≠ 0) :
    ∀ t, ∃ ψ : Nat → Int, (∀ i, rst f g (ng + 1) many t i * ((σ * γ ng ^ t : Int) : Rat) = c * (ψ i : Rat)) ∧ ∀ i, (ψ i).natAbs < 2 ^ (hf + t * (hg + 1))
  | 0 => ⟨φ, fun i => by
      show f i * ((σ * γ ng ^ 0 : Int) : Rat) = _
      rw [Int.pow_zero, Int.mul_one]
      exact ef i, fun i => abs_mono (bf i) (by omega)⟩
  | t + 1 => by
    obtain ⟨ψ, e, b⟩ := rst_sv (many := many) c0 hσ hτ ef eg bf bg gl t
    refine ⟨fun i => γ ng * ψ i - ψ (many - 1 - t + (ng + 1) - 1) * (if many - 1 - t ≤ i then γ (i - (many - 1 - t)) else 0), fun i => ?_, fun i => ?_⟩
    · have el := e (many - 1 - t + (ng + 1) - 1)
      have ei := e i
      have gn := eg ng
      have n1 := icast_ne hσ
      have n2 := icast_ne hτ
      have n3 := icast_ne gl
      have n4 : ((γ ng ^ t : Int) : Rat) ≠ 0 := icast_ne (Int.pow_ne_zero gl)
      have gne : g ng ≠ 0 := fun z => by
        rw [z] at gn
        grind
      show (rst f g (ng + 1) many t - Ser.C (rst f g (ng + 1) many t (many - 1 - t + (ng + 1) - 1) / g (ng + 1 - 1)) * (Ser.X (many - 1 - t) * g)) i * _ = _
      rw [Ser.sub_co, Ser.Cmul_co, Ser.Xmul_co, Nat.add_sub_cancel]
      rw [Int.pow_succ]
      push_cast
      push_cast at el ei n4
      generalize rst f g (ng + 1) many t = R at *
      generalize many - 1 - t + (ng + 1) - 1 = l at *
      generalize ((γ ng : Int) : Rat) ^ t = G at *
      split
      · have ej := eg (i - (many - 1 - t))
        generalize g (i - (many - 1 - t)) = gj at *
        generalize γ (i - (many - 1 - t)) = cj at *
        generalize γ ng = cn at *
        generalize g ng = gnn at *
        have h1 : gj * (cn : Rat) = gnn * (cj : Rat) := by
          have : (τ : Rat) * (gj * (cn : Rat) - gnn * (cj : Rat)) = 0 := by grind
          grind
        have h2 : R l / gnn * gj * (cn : Rat) = R l * (cj : Rat) := by
          have : R l / gnn * gj * (cn : Rat) = R l / gnn * (gnn * (cj : Rat)) := by rw [← h1]; grind
          rw [this]
          grind
        have h3 : (R i - R l / gnn * gj) * ((σ : Rat) * (G * (cn : Rat))) = (R i * ((σ : Rat) * G)) * (cn : Rat) - (R l / gnn * gj * (cn : Rat)) * ((σ : Rat) * G) := by grind
        rw [h3, h2, ei]
        have h4 : R l * (cj : Rat) * ((σ : Rat) * G) = (R l * ((σ : Rat) * G)) * (cj : Rat) := by grind
        rw [h4, el]
        grind
      · push_cast
        grind
    · refine abs_mono (abs_sub (p := hf + t * (hg + 1) + hg) ?_ ?_) (by rw [Nat.succ_mul]; omega)
      · rw [Int.mul_comm]
        exact abs_mul (b i) (bg ng)
      · split
        · exact abs_mul (b _) (bg _)
        · rw [Int.mul_zero]
          exact abs_zero
end FQ
end
section
set_option Elab.async false
namespace FQ
theorem SV.fitP {c : Rat} {f : Ser} {h w : Nat} (s : SV c f h) (hc : Sz c w) (hb : h + w ≤ BB) : FitP f := fun i => (s.sz hc i).fit hb
/-- one parting: what is met is small, and so is the rest -/
theorem div_ok {c : Rat} {f g : Ser} {hf hg w ng many : Nat} (c0 : c ≠ 0) (hc : Sz c w) (sf : SV c f hf) (sg : SV c g hg) (gl : g ng ≠ 0) (hb : hf + many * (hg + 1) + hg + w ≤ BB) :
    DivOK f g (ng + 1) many ∧ SV c (rem f g (ng + 1) many) (hf + many * (hg + 1)) := by
  obtain ⟨φ, σ, hσ, ef, bf, bσ⟩ := sf.ex
  obtain ⟨γ, τ, hτ, eg, bg, bτ⟩ := sg.ex
  have n1 := icast_ne hσ
  have n2 := icast_ne hτ
  have cl : γ ng ≠ 0 := fun z => gl (by
    have e := eg ng
    rw [z] at e
    grind)
  have n3 := icast_ne cl
  have bp : ∀ t, (γ ng ^ t).natAbs < 2 ^ (t * (hg + 1) + 1) := fun t => by
    induction t with
    | zero => rw [Int.pow_zero]; show 1 < 2 ^ (0 * (hg + 1) + 1); rw [Nat.zero_mul]; decide
    | succ t ih =>
      rw [Int.pow_succ]
      exact abs_mono (abs_mul ih (bg ng)) (by rw [Nat.succ_mul]; omega)
  have bp2 : ∀ t, (σ * γ ng ^ t).natAbs < 2 ^ (hf + t * (hg + 1)) := fun t => by
    induction t with
    | zero => rw [Int.pow_zero, Int.mul_one, Nat.zero_mul]; exact bσ
    | succ t ih =>
      rw [Int.pow_succ, ← Int.mul_assoc]
      exact abs_mono (abs_mul ih (bg ng)) (by rw [Nat.succ_mul]; omega)
  have key := rst_sv (many := many) c0 hσ hτ ef eg bf bg cl
  have nz : ∀ t, σ * γ ng ^ t ≠ 0 := fun t => Int.mul_ne_zero hσ (Int.pow_ne_zero cl)
  have svt : ∀ t, SV c (rst f g (ng + 1) many t) (hf + t * (hg + 1)) := fun t => by
    obtain ⟨ψ, e, b⟩ := key t
    exact ⟨ψ, σ * γ ng ^ t, nz t, e, b, bp2 t⟩
  have mono : ∀ t, t ≤ many → t * (hg + 1) ≤ many * (hg + 1) := fun t h => Nat.mul_le_mul_right _ h
  have shq : ∀ t, ∃ z D : Int, D ≠ 0 ∧ shr f g (ng + 1) many t * (D : Rat) = (z : Rat) ∧ z.natAbs < 2 ^ (hf + t * (hg + 1) + hg) ∧ D.natAbs < 2 ^ (hf + t * (hg + 1) + hg) ∧ True := fun t => by
    obtain ⟨ψ, e, b⟩ := key t
    refine ⟨ψ (many - 1 - t + (ng + 1) - 1) * τ, σ * γ ng ^ t * γ ng, Int.mul_ne_zero (nz t) cl, ?_, abs_mul (b _) bτ, abs_mul (bp2 t) (bg ng), trivial⟩
    have el := e (many - 1 - t + (ng + 1) - 1)
    have gn := eg ng
    have gne := gl
    unfold shr
    rw [Nat.add_sub_cancel]
    push_cast
    push_cast at el
    generalize rst f g (ng + 1) many t (many - 1 - t + (ng + 1) - 1) = R at *
    generalize (ψ (many - 1 - t + (ng + 1) - 1) : Rat) = P at *
    generalize ((γ ng : Int) : Rat) = cn at *
    generalize g ng = gnn at *
    have h0 : R / gnn * ((σ : Rat) * cn ^ t * cn) = (R * ((σ : Rat) * cn ^ t)) * (cn / gnn) := by grind
    rw [h0, el]
    have h1 : c * (cn / gnn) = (τ : Rat) := by grind
    have : c * P * (cn / gnn) = (c * (cn / gnn)) * P := by grind
    rw [this, h1]
    grind
  refine ⟨⟨sg.fitP hc (by omega), fun t ht => (svt t).fitP hc (by have := mono t (by omega); omega), fun t ht => ?_, fun t ht j => ?_⟩, svt many⟩
  · obtain ⟨z, D, h1, h2, h3, h4, _⟩ := shq t
    have := mono t (by omega)
    exact Sz.fit ⟨z, D, h1, h2, h3, h4⟩ (by omega)
  · obtain ⟨ψ, e, b⟩ := key t
    have := mono t (by omega)
    refine Sz.fit (sz_scale (z := ψ (many - 1 - t + (ng + 1) - 1) * γ j) (D := σ * γ ng ^ t * γ ng) hc (Int.mul_ne_zero (nz t) cl) ?_ (abs_mul (b _) (bg j)) (abs_mul (bp2 t) (bg ng))) (by omega)
    have el := e (many - 1 - t + (ng + 1) - 1)
    have gn := eg ng
    have gj := eg j
    unfold shr
    rw [Nat.add_sub_cancel]
    push_cast
    push_cast at el
    generalize rst f g (ng + 1) many t (many - 1 - t + (ng + 1) - 1) = R at *
    generalize (ψ (many - 1 - t + (ng + 1) - 1) : Rat) = P at *
    generalize ((γ ng : Int) : Rat) = cn at *
    generalize ((γ j : Int) : Rat) = cj at *
    generalize g ng = gnn at *
    generalize g j = gjj at *
    have h0 : R / gnn * gjj * ((σ : Rat) * cn ^ t * cn) = (R * ((σ : Rat) * cn ^ t)) * (gjj * cn / gnn) := by grind
    rw [h0, el]
    have h1 : gjj * cn = gnn * cj := by
      have : (τ : Rat) * (gjj * cn - gnn * cj) = 0 := by grind
      grind
    rw [h1]
    grind
end FQ
namespace FQ
/-! ### parting with rest -/
def qpart (f g : Ser) (ng many t : Nat) : Ser := ⟨fun p => if p < many ∧ many - t ≤ p then shr f g ng many (many - 1 - p) else 0⟩
theorem rst_sum (f g : Ser) (ng many : Nat) : ∀ t, t ≤ many → rst f g ng many t = f - qpart f g ng many t * g
  | 0, _ => by
    have e : qpart f g ng many 0 = 0 := Ser.ext fun p => by
      show (if p < many ∧ many - 0 ≤ p then _ else (0 : Rat)) = _
      rw [if_neg (by omega), Ser.zero_co]
    rw [e]
    show f = _
    grind
  | t + 1, h => by
    have e : qpart f g ng many (t + 1) = qpart f g ng many t + Ser.C (shr f g ng many t) * Ser.X (many - 1 - t) := Ser.ext fun p => by
      rw [Ser.add_co, Ser.Cmul_co, Ser.X_co]
      show (if p < many ∧ many - (t + 1) ≤ p then shr f g ng many (many - 1 - p) else (0 : Rat)) = (if p < many ∧ many - t ≤ p then shr f g ng many (many - 1 - p) else (0 : Rat)) + _
      by_cases e1 : p = many - 1 - t
      · subst e1
        rw [if_pos (by omega), if_neg (by omega), if_pos rfl, show many - 1 - (many - 1 - t) = t by omega]
        grind
      · by_cases e2 : p < many ∧ many - t ≤ p
        · rw [if_pos e2, if_pos (by omega), if_neg e1]
          grind
        · rw [if_neg e2, if_neg (by omega), if_neg e1]
          grind
    have ih := rst_sum f g ng many t (by omega)
    rw [e]
    show rst f g ng many t - Ser.C (shr f g ng many t) * (Ser.X (many - 1 - t) * g) = _
    rw [ih]
    grind
theorem rem_eq (f g : Ser) (ng many : Nat) : rem f g ng many = f - quo f g ng many * g := by
  have e : quo f g ng many = qpart f g ng many many := Ser.ext fun p => by
    show (if p < many then shr f g ng many (many - 1 - p) else (0 : Rat)) = (if p < many ∧ many - many ≤ p then _ else (0 : Rat))
    by_cases h : p < many
    · rw [if_pos h, if_pos ⟨h, by omega⟩]
    · rw [if_neg h, if_neg (fun z => h z.1)]
  rw [e]
  exact rst_sum f g ng many many (Nat.le_refl _)
theorem lt_rst {f g : Ser} {nf ng : Nat} (hf : Lt f nf) (hg : IsLen g (ng + 1)) (hm : ng + 1 ≤ nf + 1) : ∀ t, t ≤ nf + 1 - (ng + 1) → Lt (rst f g (ng + 1) (nf + 1 - (ng + 1)) t) (nf - t)
  | 0, _ => hf
  | t + 1, ht => by
    have ih := lt_rst hf hg hm t (by omega)
    intro i hi
    show (rst f g (ng + 1) (nf + 1 - (ng + 1)) t - Ser.C _ * (Ser.X _ * g)) i = 0
    rw [Ser.sub_co, Ser.Cmul_co, Ser.Xmul_co]
    by_cases e : i = nf - t - 1
    · rw [e, show nf + 1 - (ng + 1) - 1 - t + (ng + 1) - 1 = nf - t - 1 by omega, if_pos (by omega), show nf - t - 1 - (nf + 1 - (ng + 1) - 1 - t) = ng by omega, show ng + 1 - 1 = ng by omega]
      have := hg.last
      grind
    · rw [ih i (by omega)]
      split
      · rw [hg.1 (i - (nf + 1 - (ng + 1) - 1 - t)) (by omega)]
        grind
      · grind
theorem lt_rem {f g : Ser} {nf ng : Nat} (hf : Lt f nf) (hg : IsLen g (ng + 1)) : Lt (rem f g (ng + 1) (nf + 1 - (ng + 1))) (min ng nf) := by
  by_cases h : ng + 1 ≤ nf + 1
  · exact (lt_rst hf hg h _ (Nat.le_refl _)).mono (by omega)
  · unfold rem
    rw [show nf + 1 - (ng + 1) = 0 by omega]
    exact hf.mono (by omega)
theorem lt_quo (f g : Ser) (ng many : Nat) : Lt (quo f g ng many) many := fun i hi => by
  show (if i < many then _ else (0 : Rat)) = 0
  rw [if_neg (by omega)]
theorem three_pow (d : Nat) : d + 3 ≤ 3 ^ (d + 1) := by
  induction d with
  | zero => decide
  | succ d ih => rw [Nat.pow_succ]; omega
/-- Euclid's steps: what is met is small; the last is a common factor and a combination -/
theorem euc_ok {c : Rat} {w j : Nat} (c0 : c ≠ 0) (hc : Sz c w) : ∀ (n : Nat) (f g : Ser) (hf hg nf : Nat), IsLen f nf → IsLen g n → Low f j → Low g j → SV c f hf → SV c g hg → hf + w ≤ BB →
    (1 ≤ n → (hf + (nf + 1 - n) * (hg + 1) + hg + 1) * 3 ^ (n - 1 - j) + w ≤ BB) →
    ∃ h u v a b : Ser, Euc f g h ∧ Poly u ∧ Poly v ∧ Poly a ∧ Poly b ∧ h = u * f + v * g ∧ f = a * h ∧ g = b * h ∧ ∃ hh, SV c h hh ∧ hh + w ≤ BB := by
  intro n
  induction n using Nat.strongRecOn with
  | ind n ih =>
    intro f g hf hg nf lf lg wf wg sf sg hb hbn
    cases n with
    | zero =>
      have g0 := lg.eq_zero
      subst g0
      exact ⟨f, 1, 0, 1, 0, Euc.done f, Poly.one, Poly.zero, Poly.one, Poly.zero, by grind, by grind, by grind, hf, sf, hb⟩
    | succ ng =>
      have hB := hbn (by omega)
      rw [Nat.add_sub_cancel] at hB
      have hj : j ≤ ng := Nat.le_of_not_lt fun z => lg.last (wg ng z)
      have p3 : 1 ≤ 3 ^ (ng - j) := Nat.one_le_pow _ _ (by decide)
      have hS : hf + (nf + 1 - (ng + 1)) * (hg + 1) + hg + 1 + w ≤ BB := by
        have := Nat.le_mul_of_pos_right (hf + (nf + 1 - (ng + 1)) * (hg + 1) + hg + 1) p3
        omega
      obtain ⟨ok, sr⟩ := div_ok (many := nf + 1 - (ng + 1)) c0 hc sf sg lg.last (by omega)
      have lr := lt_rem lf.1 lg
      have re := rem_eq f g (ng + 1) (nf + 1 - (ng + 1))
      have wr : Low (rem f g (ng + 1) (nf + 1 - (ng + 1))) j := fun i hi => by
        have h0 : Low (quo f g (ng + 1) (nf + 1 - (ng + 1)) * g) (0 + j) := Low.mul (fun j hj => absurd hj (Nat.not_lt_zero _)) wg
        rw [re, Ser.sub_co, wf i hi, h0 i (by omega)]
        grind
      obtain ⟨n', hn', lr'⟩ := len_of lr
      have hn2 : n' ≤ ng := by omega
      obtain ⟨h, u, v, a, b, eu, pu, pv, pa, pb, e1, e2, e3, hh⟩ := ih n' (by omega) g (rem f g (ng + 1) (nf + 1 - (ng + 1))) hg (hf + (nf + 1 - (ng + 1)) * (hg + 1)) (ng + 1) lg lr' wg wr sg sr (by omega) (fun h1 => by
        have hj' : j + 1 ≤ n' := by
          rcases lr'.2 with z | z
          · omega
          · exact Nat.le_of_not_lt fun z2 => z (wr _ (by omega))
        generalize hV : hf + (nf + 1 - (ng + 1)) * (hg + 1) = V at *
        obtain ⟨d, hd⟩ : ∃ d, ng - j = (n' - 1 - j) + (d + 1) := ⟨ng - n', by omega⟩
        have e5 : ng + 1 + 1 - n' = d + 2 := by omega
        rw [e5]
        have p5 : 3 ^ (ng - j) = 3 ^ (n' - 1 - j) * 3 ^ (d + 1) := by rw [hd, Nat.pow_add]
        have t3 := three_pow d
        rw [p5] at hB
        have key : hg + (d + 2) * (V + 1) + V + 1 ≤ (V + hg + 1) * 3 ^ (d + 1) := by
          have k1 : (V + hg + 1) * (d + 3) ≤ (V + hg + 1) * 3 ^ (d + 1) := Nat.mul_le_mul_left _ t3
          have k2 : hg + (d + 2) * (V + 1) + V + 1 ≤ (V + hg + 1) * (d + 3) := by
            have : (V + hg + 1) * (d + 3) = (V + 1) * (d + 3) + hg * (d + 3) := by rw [← Nat.add_mul]; congr 1; omega
            have k4 : (V + 1) * (d + 3) = (d + 2) * (V + 1) + (V + 1) := by rw [Nat.mul_comm, Nat.succ_mul]
            have k5 : hg ≤ hg * (d + 3) := Nat.le_mul_of_pos_right _ (by omega)
            omega
          omega
        have := Nat.mul_le_mul_right (3 ^ (n' - 1 - j)) key
        have e6 : (V + hg + 1) * 3 ^ (d + 1) * 3 ^ (n' - 1 - j) = (V + hg + 1) * (3 ^ (n' - 1 - j) * 3 ^ (d + 1)) := by rw [Nat.mul_assoc, Nat.mul_comm (3 ^ (d + 1))]
        omega)
      have pq : Poly (quo f g (ng + 1) (nf + 1 - (ng + 1))) := ⟨_, lt_quo _ _ _ _⟩
      refine ⟨h, v, u - v * quo f g (ng + 1) (nf + 1 - (ng + 1)), b + quo f g (ng + 1) (nf + 1 - (ng + 1)) * a, a, Euc.step lf lg ok eu, pv, pu.sub (pv.mul pq), pb.add (pq.mul pa), pa, ?_, ?_, e2, hh⟩
      · rw [re] at e1
        rw [e1]
        grind
      · have : f = rem f g (ng + 1) (nf + 1 - (ng + 1)) + quo f g (ng + 1) (nf + 1 - (ng + 1)) * g := by rw [re]; grind
        rw [this, e3]
        grind
/-! ### factors of a power of x -/
theorem len_CX {c : Rat} (c0 : c ≠ 0) (N : Nat) : IsLen (Ser.C c * Ser.X N) (N + 1) := by
  refine ⟨fun i hi => ?_, .inr ?_⟩
  · rw [Ser.Cmul_co, Ser.X_co, if_neg (by omega)]
    grind
  · show (Ser.C c * Ser.X N) N ≠ 0
    rw [Ser.Cmul_co, Ser.X_co, if_pos rfl]
    grind
theorem low_CX (c : Rat) (N : Nat) : Low (Ser.C c * Ser.X N) N := fun i hi => by
  rw [Ser.Cmul_co, Ser.X_co, if_neg (by omega)]
  grind
theorem mono_factor {h w : Ser} {c : Rat} {N : Nat} (c0 : c ≠ 0) (ph : Poly h) (pw : Poly w) (e : w * h = Ser.C c * Ser.X N) : ∃ (l : Rat) (j : Nat), l ≠ 0 ∧ j ≤ N ∧ h = Ser.C l * Ser.X j := by
  have lp := len_CX c0 N
  have h0 : h ≠ 0 := fun z => by
    rw [z] at e
    have z0 : w * 0 = 0 := by grind
    rw [z0] at e
    exact lp.ne_zero e.symm
  have w0 : w ≠ 0 := fun z => by
    rw [z] at e
    have z0 : 0 * h = 0 := by grind
    rw [z0] at e
    exact lp.ne_zero e.symm
  obtain ⟨nh, lh⟩ := ph.len
  obtain ⟨nw, lw⟩ := pw.len
  have nh1 := lh.pos h0
  have nw1 := lw.pos w0
  obtain ⟨nh, rfl⟩ : ∃ k, nh = k + 1 := ⟨nh - 1, by omega⟩
  obtain ⟨nw, rfl⟩ : ∃ k, nw = k + 1 := ⟨nw - 1, by omega⟩
  have l2 := lw.mul lh
  rw [e] at l2
  have en := l2.unique lp
  obtain ⟨oh, loh, noh⟩ := ord_of h0
  obtain ⟨ow, low, now⟩ := ord_of w0
  have t := low_mul low loh
  rw [e, Ser.Cmul_co, Ser.X_co] at t
  have eo : ow + oh = N := by
    refine Classical.byContradiction fun z => ?_
    rw [if_neg z] at t
    grind
  have b1 : oh ≤ nh := Nat.le_of_not_lt fun z => noh (lh.1 oh (by omega))
  have b2 : ow ≤ nw := Nat.le_of_not_lt fun z => now (lw.1 ow (by omega))
  have eoh : oh = nh := by omega
  subst eoh
  refine ⟨h oh, oh, noh, by omega, Ser.ext fun i => ?_⟩
  rw [Ser.Cmul_co, Ser.X_co]
  by_cases e1 : i = oh
  · rw [e1, if_pos rfl]
    grind
  · rw [if_neg e1]
    by_cases e2 : i < oh
    · rw [loh i e2]
      grind
    · rw [lh.1 i (by omega)]
      grind
end FQ
end
section
set_option Elab.async false
namespace FQ
theorem SV.cx {c : Rat} {a : Ser} {h : Nat} (s : SV 1 a h) (j : Nat) : SV c (Ser.C c * (Ser.X j * a)) h := by
  obtain ⟨φ, σ, h1, h2, h3, h4⟩ := s.ex
  refine ⟨fun i => if j ≤ i then φ (i - j) else 0, σ, h1, fun i => ?_, fun i => ?_, h4⟩
  · rw [Ser.Cmul_co, Ser.Xmul_co]
    by_cases hj : j ≤ i
    · have := h2 (i - j)
      simp only [if_pos hj]
      grind
    · simp only [if_neg hj]
      push_cast
      grind
  · show (if j ≤ i then φ (i - j) else 0).natAbs < _
    split
    · exact h3 _
    · exact abs_zero
theorem low_cx (c : Rat) (a : Ser) (j : Nat) : Low (Ser.C c * (Ser.X j * a)) j := fun i hi => by
  rw [Ser.Cmul_co, Ser.Xmul_co, if_neg (by omega)]
  grind
theorem len_cx {c : Rat} (c0 : c ≠ 0) {a : Ser} {n : Nat} (j : Nat) (h : IsLen a (n + 1)) : IsLen (Ser.C c * (Ser.X j * a)) (n + j + 1) := by
  refine ⟨fun i hi => ?_, .inr ?_⟩
  · rw [Ser.Cmul_co, Ser.Xmul_co, if_pos (by omega), h.1 _ (by omega)]
    grind
  · show (Ser.C c * (Ser.X j * a)) (n + j) ≠ 0
    rw [Ser.Cmul_co, Ser.Xmul_co, if_pos (by omega), show n + j - j = n by omega]
    have := h.last
    grind
/-- what is met at parting by a power of x -/
theorem divX_ok {f : Ser} {h many j : Nat} (s : SV 1 f h) (hb : h + many * 2 + 1 + 1 ≤ BB) : DivOK f (Ser.X j) (j + 1) many := by
  have sx : SV 1 (Ser.X j) 1 := by
    refine ⟨fun i => if i = j then 1 else 0, 1, by decide, fun i => ?_, fun i => ?_, by decide⟩
    · rw [Ser.X_co]
      by_cases hj : i = j
      · simp only [if_pos hj]
      · simp only [if_neg hj]
        push_cast
        grind
    · show (if i = j then (1 : Int) else 0).natAbs < _
      split <;> decide
  have c1 : Sz 1 1 := ⟨1, 1, by decide, by grind, by decide, by decide⟩
  exact (div_ok (many := many) (by decide) c1 s sx (by rw [Ser.X_co, if_pos rfl]; decide) (by omega)).1
/-- quotient_in of a multiple of a quotient -/
theorem quoOK_of {f g a b : Ser} {c : Rat} {j w H na nb : Nat} (c0 : c ≠ 0) (hc : Sz c w) (q : Quo a b) (sa : SV 1 a H) (sb : SV 1 b H) (la : IsLen a na) (lb : IsLen b (nb + 1)) (ef : f = Ser.C c * (Ser.X j * a)) (eg : g = Ser.C c * (Ser.X j * b))
    (hb : (H + (na + 1 - (nb + 1)) * (H + 1) + H + 1) * 3 ^ nb + w ≤ BB) (hb2 : H + w + 2000 ≤ BB) (hn : na + nb + j ≤ 300) : QuoOK f g a b := by
  have sf : SV c f H := by rw [ef]; exact sa.cx j
  have sg : SV c g H := by rw [eg]; exact sb.cx j
  have wf : Low f j := by rw [ef]; exact low_cx c a j
  have wg : Low g j := by rw [eg]; exact low_cx c b j
  have lg : IsLen g (nb + j + 1) := by rw [eg]; exact len_cx c0 j lb
  have lf : ∃ nf, IsLen f nf ∧ nf ≤ na + j ∧ (na = 0 → nf = 0) ∧ (na ≠ 0 → nf = na + j) := by
    cases na with
    | zero =>
      have a0 := la.eq_zero
      refine ⟨0, ?_, by omega, fun _ => rfl, fun z => absurd rfl z⟩
      rw [ef, a0, show Ser.C c * (Ser.X j * 0) = 0 by grind]
      exact IsLen.zero
    | succ n =>
      refine ⟨n + j + 1, by rw [ef]; exact len_cx c0 j la, by omega, fun z => by omega, fun _ => by omega⟩
  obtain ⟨nf, lf, nf1, nf2, nf3⟩ := lf
  have pf := lf.poly
  have pg := lg.poly
  obtain ⟨h, u, v, A', B', eu, pu, pv, pA, pB, e1, e2, e3, hh, sh, bh⟩ := euc_ok (j := j) c0 hc (nb + j + 1) f g H H nf lf lg wf wg sf sg (by omega) (fun _ => by
    rw [show nb + j + 1 - 1 - j = nb by omega]
    refine Nat.le_trans (Nat.add_le_add_right (Nat.mul_le_mul_right _ ?_) _) hb
    have : nf + 1 - (nb + j + 1) ≤ na + 1 - (nb + 1) := by omega
    have := Nat.mul_le_mul_right (H + 1) this
    omega)
  obtain ⟨U, V, pU, pV, eUV⟩ := q.cop
  have ph : Poly h := by rw [e1]; exact (pu.mul pf).add (pv.mul pg)
  have ecx : Ser.C c * Ser.X j = (U * A' + V * B') * h := by
    have : Ser.C c * Ser.X j = U * f + V * g := by
      rw [ef, eg]
      have : Ser.C c * Ser.X j = Ser.C c * Ser.X j * (U * a + V * b) := by rw [eUV]; grind
      rw [this]
      grind
    rw [this]
    grind
  obtain ⟨l, j2, l0, hj2, eh⟩ := mono_factor c0 ph ((pU.mul pA).add (pV.mul pB)) ecx.symm
  have ej : j2 = j := by
    refine Nat.le_antisymm hj2 (Nat.le_of_not_lt fun z => ?_)
    have lowh : Low h j := fun i hi => by
      have h1 : Low (u * f) (0 + j) := Low.mul (fun j hj => absurd hj (Nat.not_lt_zero _)) wf
      have h2 : Low (v * g) (0 + j) := Low.mul (fun j hj => absurd hj (Nat.not_lt_zero _)) wg
      rw [e1, Ser.add_co, h1 i (by omega), h2 i (by omega)]
      grind
    have := lowh j2 z
    rw [eh, Ser.Cmul_co, Ser.X_co, if_pos rfl] at this
    grind
  subst ej
  have lh : IsLen h (j2 + 1) := by rw [eh]; exact len_CX l0 j2
  have hl : h j2 = l := by rw [eh, Ser.Cmul_co, Ser.X_co, if_pos rfl]; grind
  have es : scl h (h j2) = Ser.X j2 := Ser.ext fun i => by
    show h i / h j2 = _
    rw [hl, eh, Ser.Cmul_co, Ser.X_co]
    split <;> grind
  have one : Sz 1 1 := ⟨1, 1, by decide, by grind, by decide, by decide⟩
  have s1 : ∀ {x : Ser}, SV c x H → SV 1 x (H + w) := fun {x} s => by
    obtain ⟨φ, σ, h1, h2, h3, h4⟩ := s.ex
    obtain ⟨z, D, hD, e, bz, bD⟩ := hc.ex
    refine ⟨fun i => φ i * z, σ * D, Int.mul_ne_zero h1 hD, fun i => ?_, fun i => abs_mul (h3 i) bz, abs_mul h4 bD⟩
    push_cast
    have := h2 i
    have h5 : x i * ((σ : Rat) * (D : Rat)) = (x i * (σ : Rat)) * (D : Rat) := by grind
    rw [h5, this]
    have h6 : c * (φ i : Rat) * (D : Rat) = (c * (D : Rat)) * (φ i : Rat) := by grind
    rw [h6, e]
    grind
  have quoX : ∀ {x y : Ser} {n : Nat}, x = Ser.C c * (Ser.X j2 * y) → Lt x n → quo x (Ser.X j2) (j2 + 1) (n + 1 - (j2 + 1)) = Ser.C c * y := fun {x y n} ex lx => by
    have r := rem_eq x (Ser.X j2) (j2 + 1) (n + 1 - (j2 + 1))
    have lX : IsLen (Ser.X j2) (j2 + 1) := ⟨Lt.X j2, .inr (by show Ser.X j2 j2 ≠ 0; rw [Ser.X_co, if_pos rfl]; decide)⟩
    have lr := lt_rem lx lX
    have r0 : rem x (Ser.X j2) (j2 + 1) (n + 1 - (j2 + 1)) = 0 := eq_zero_of fun i => by
      by_cases hi : i < j2
      · rw [r, Ser.sub_co, ex, low_cx c y j2 i hi]
        have h1 : Low (quo (Ser.C c * (Ser.X j2 * y)) (Ser.X j2) (j2 + 1) (n + 1 - (j2 + 1)) * Ser.X j2) (0 + j2) := Low.mul (fun j hj => absurd hj (Nat.not_lt_zero _)) (fun i hi => by rw [Ser.X_co, if_neg (by omega)])
        rw [h1 i (by omega)]
        grind
      · exact lr i (by omega)
    rw [r0] at r
    refine mul_cancel (X_ne_zero j2) ?_
    have : Ser.X j2 * quo x (Ser.X j2) (j2 + 1) (n + 1 - (j2 + 1)) = x := by grind
    rw [this, ex]
    grind
  have lX : IsLen (Ser.X j2) (j2 + 1) := ⟨Lt.X j2, .inr (by show Ser.X j2 j2 ≠ 0; rw [Ser.X_co, if_pos rfl]; decide)⟩
  have fitc : ∀ {y : Ser}, SV 1 y H → FitP (Ser.C c * y) := fun {y} s => by
    have : SV c (Ser.C c * y) H := by
      obtain ⟨φ, σ, h1, h2, h3, h4⟩ := s.ex
      refine ⟨φ, σ, h1, fun i => ?_, h3, h4⟩
      rw [Ser.Cmul_co]
      have := h2 i
      grind
    exact this.fitP hc (by omega)
  have sclc : ∀ y : Ser, scl (Ser.C c * y) c = y := fun y => Ser.ext fun i => by
    show (Ser.C c * y) i / c = y i
    rw [Ser.Cmul_co]
    grind
  have u0 : (Ser.C c * b) 0 = c := by
    rw [Ser.Cmul_co, q.b0]
    grind
  refine ⟨⟨h, Ser.X j2, Ser.C c * a, Ser.C c * b, nf, nb + j2, j2, lf, lg, eu, lh, sh.fitP hc bh, es.symm, lX, ?_, ?_, (quoX ef lf.1).symm, (quoX eg lg.1).symm, ?_, fitc sa, fitc sb, ?_, ?_⟩, lf.1.mono (by omega), lg.1.mono (by omega)⟩
  · exact divX_ok (s1 sf) (by omega)
  · exact divX_ok (s1 sg) (by omega)
  · rw [u0]; exact c0
  · rw [u0, sclc]
  · rw [u0, sclc]
end FQ
end
section
set_option Elab.async false
namespace FQ
/-! ### the quotient that a pair stands for -/
theorem gcd_ex : ∀ (n : Nat) (f g : Ser), Poly f → IsLen g n → ∃ h u v a b : Ser, Poly u ∧ Poly v ∧ Poly a ∧ Poly b ∧ h = u * f + v * g ∧ f = a * h ∧ g = b * h := by
  intro n
  induction n using Nat.strongRecOn with
  | ind n ih =>
    intro f g pf lg
    cases n with
    | zero =>
      have g0 := lg.eq_zero
      subst g0
      exact ⟨f, 1, 0, 1, 0, Poly.one, Poly.zero, Poly.one, Poly.zero, by grind, by grind, by grind⟩
    | succ ng =>
      obtain ⟨nf, lf⟩ := pf.len
      have lr := lt_rem lf.1 lg
      obtain ⟨n', hn', lr'⟩ := len_of lr
      obtain ⟨h, u, v, a, b, pu, pv, pa, pb, e1, e2, e3⟩ := ih n' (by omega) g (rem f g (ng + 1) (nf + 1 - (ng + 1))) lg.poly lr'
      have re := rem_eq f g (ng + 1) (nf + 1 - (ng + 1))
      have pq : Poly (quo f g (ng + 1) (nf + 1 - (ng + 1))) := ⟨_, lt_quo _ _ _ _⟩
      refine ⟨h, v, u - v * quo f g (ng + 1) (nf + 1 - (ng + 1)), b + quo f g (ng + 1) (nf + 1 - (ng + 1)) * a, a, pv, pu.sub (pv.mul pq), pb.add (pq.mul pa), pa, ?_, ?_, e2⟩
      · rw [re] at e1
        rw [e1]
        grind
      · have : f = rem f g (ng + 1) (nf + 1 - (ng + 1)) + quo f g (ng + 1) (nf + 1 - (ng + 1)) * g := by rw [re]; grind
        rw [this, e3]
        grind
theorem co_zero_mul (f g : Ser) : (f * g) 0 = f 0 * g 0 := by
  have := low_mul (f := f) (g := g) (a := 0) (b := 0) (fun j hj => absurd hj (Nat.not_lt_zero _)) (fun j hj => absurd hj (Nat.not_lt_zero _))
  exact this
theorem canon {p q : Ser} (pp : Poly p) (pq : Poly q) (q0 : q ≠ 0) (lo : ∀ j, Low q j → Low p j) : ∃ a b h : Ser, Quo a b ∧ Poly h ∧ h ≠ 0 ∧ p = h * a ∧ q = h * b := by
  obtain ⟨n, lq⟩ := pq.len
  obtain ⟨h0, u, v, a0, b0, pu, pv, pa, pb, e1, e2, e3⟩ := gcd_ex n p q pp lq
  have hne : h0 ≠ 0 := fun z => q0 (by rw [e3, z]; grind)
  have eone : u * a0 + v * b0 = 1 := by
    refine mul_cancel hne ?_
    have : h0 * (u * a0 + v * b0) = u * (a0 * h0) + v * (b0 * h0) := by grind
    rw [this, ← e2, ← e3, ← e1]
    grind
  have ph : Poly h0 := by rw [e1]; exact (pu.mul pp).add (pv.mul pq)
  have bz : b0 0 ≠ 0 := fun z => by
    obtain ⟨o, lo0, no⟩ := ord_of hne
    have lq1 : Low q (o + 1) := fun i hi => by
      rw [e3]
      by_cases e : i = o
      · have := low_mul (f := b0) (g := h0) (a := 0) (b := o) (fun j hj => absurd hj (Nat.not_lt_zero _)) lo0
        rw [e]
        rw [Nat.zero_add] at this
        rw [this, z]
        grind
      · have : Low (b0 * h0) (0 + o) := Low.mul (fun j hj => absurd hj (Nat.not_lt_zero _)) lo0
        exact this i (by omega)
    have lp1 := lo _ lq1
    have ap : a0 0 = 0 := by
      have := low_mul (f := a0) (g := h0) (a := 0) (b := o) (fun j hj => absurd hj (Nat.not_lt_zero _)) lo0
      rw [Nat.zero_add, ← e2, lp1 o (by omega)] at this
      grind
    have : (u * a0 + v * b0) 0 = (1 : Ser) 0 := by rw [eone]
    rw [Ser.add_co, co_zero_mul, co_zero_mul, ap, z, Ser.one_co] at this
    simp at this
    grind
  have cc : ∀ x : Ser, Ser.C (b0 0) * h0 * (Ser.C (1 / b0 0) * x) = h0 * x := fun x => by
    have e : Ser.C (b0 0) * Ser.C (1 / b0 0) = 1 := Ser.ext fun i => by
      rw [Ser.Cmul_co, Ser.one_co, Ser.C_co']
      by_cases hi : i = 0
      · rw [if_pos hi, if_pos hi]
        grind
      · rw [if_neg hi, if_neg hi]
        grind
    have : Ser.C (b0 0) * h0 * (Ser.C (1 / b0 0) * x) = (Ser.C (b0 0) * Ser.C (1 / b0 0)) * (h0 * x) := by grind
    rw [this, e]
    grind
  refine ⟨Ser.C (1 / b0 0) * a0, Ser.C (1 / b0 0) * b0, Ser.C (b0 0) * h0, ⟨(Poly.C _).mul pa, (Poly.C _).mul pb, ?_, Ser.C (b0 0) * u, Ser.C (b0 0) * v, (Poly.C _).mul pu, (Poly.C _).mul pv, ?_⟩, (Poly.C _).mul ph, ?_, ?_, ?_⟩
  · rw [Ser.Cmul_co]
    grind
  · have e : Ser.C (b0 0) * Ser.C (1 / b0 0) = 1 := Ser.ext fun i => by
      rw [Ser.Cmul_co, Ser.one_co, Ser.C_co']
      by_cases hi : i = 0
      · rw [if_pos hi, if_pos hi]
        grind
      · rw [if_neg hi, if_neg hi]
        grind
    have : Ser.C (b0 0) * u * (Ser.C (1 / b0 0) * a0) + Ser.C (b0 0) * v * (Ser.C (1 / b0 0) * b0) = (Ser.C (b0 0) * Ser.C (1 / b0 0)) * (u * a0 + v * b0) := by grind
    rw [this, e, eone]
    grind
  · refine mul_ne_zero (fun z => ?_) hne
    have : (Ser.C (b0 0)) 0 = (0 : Ser) 0 := by rw [z]
    rw [Ser.C_co', if_pos rfl, Ser.zero_co] at this
    exact bz this
  · rw [cc, e2]
    grind
  · rw [cc, e3]
    grind
end FQ
end
section
set_option Elab.async false
namespace FQ
/-! ### the shortest chain -/
/-- a pair of an unknown length that a chain of places keeps: (q R) is nought from n + m on, at the first m + k places -/
def Keeps (R : Ser) (m k : Nat) (q : Ser) (n : Nat) : Prop := ∀ i, n + m ≤ i → i < m + k → (q * R) i = 0
theorem Keeps.less {R : Ser} {m k k' : Nat} {q : Ser} {n : Nat} (h : Keeps R m k q n) (hk : k' ≤ k) : Keeps R m k' q n := fun i h1 h2 => h i h1 (by omega)
structure BM (R : Ser) (m : Nat) (st : ChS) : Prop where
  s : ∀ i, i < st.k → st.s i = R (i + m)
  lk : st.L ≤ st.k
  c0 : st.C 0 = 1
  lC : Lt st.C (st.L + 1)
  lCn : Lt st.C st.nC
  lBn : Lt st.B st.nB
  n1 : 1 ≤ st.nC
  n2 : 1 ≤ st.nB
  nC : st.nC ≤ st.k + 1
  nB : st.nB + st.since ≤ st.k + 2
  si : 1 ≤ st.since
  ag : Keeps R m st.k st.C st.L
  b : st.b ≠ 0
  hist : (st.L = 0 ∧ st.B = 1 ∧ st.since = st.k + 1 ∧ st.C = 1) ∨
    ∃ LB, Lt st.B (LB + 1) ∧ LB + st.since + st.L = st.k + 1 ∧ st.since ≤ st.k ∧ Keeps R m (st.k - st.since) st.B LB ∧ (st.B * R) (m + (st.k - st.since)) = st.b
  least : ∀ q n, q 0 ≠ 0 → Lt q (n + 1) → Keeps R m st.k q n → st.L ≤ n
theorem bm_start (R : Ser) (m : Nat) : BM R m ChS.start where
  s := fun i hi => absurd hi (Nat.not_lt_zero _)
  lk := Nat.le_refl _
  c0 := rfl
  lC := Lt.one
  lCn := Lt.one
  lBn := Lt.one
  n1 := Nat.le_refl _
  n2 := Nat.le_refl _
  nC := Nat.le_refl _
  nB := Nat.le_refl _
  si := Nat.le_refl _
  ag := fun i h1 h2 => by
    have h1' : 0 + m ≤ i := h1
    have h2' : i < m + 0 := h2
    omega
  b := by show (1 : Rat) ≠ 0; decide
  hist := .inl ⟨rfl, rfl, rfl, rfl⟩
  least := fun q n _ _ _ => Nat.zero_le _
theorem one_mul_co (R : Ser) (i : Nat) : ((1 : Ser) * R) i = R i := by
  have : (1 : Ser) * R = R := by grind
  rw [this]
/-- the gap is what the chain misses at the next place -/
theorem BM.gap_eq {R : Ser} {m : Nat} {st : ChS} (h : BM R m st) : st.gap (R (m + st.k)) = (st.C * R) (m + st.k) := by
  have hz : ∀ j, st.gj < j → st.C j = 0 := fun j hj => by
    have hgj : st.gj = min st.nC (st.k + 1) - 1 := rfl
    have := h.n1
    have := h.lk
    by_cases e : st.nC ≤ j
    · exact h.lCn j e
    · exact h.lC j (by omega)
  have hg : st.gj ≤ st.k := by
    have hgj : st.gj = min st.nC (st.k + 1) - 1 := rfl
    omega
  rw [Ser.mul_co, sumTo_ext (n := st.gj + 1) (by omega) (fun i h1 h2 => by rw [hz i (by omega)]; grind), sumTo_first]
  unfold ChS.gap gapS
  rw [h.c0, Nat.sub_zero]
  have e : sumTo st.gj (fun i => st.C (i + 1) * st.s (st.k - 1 - i)) = sumTo st.gj (fun i => st.C (i + 1) * R (m + st.k - (i + 1))) := sumTo_congr fun i hi => by
    rw [h.s _ (by omega), show st.k - 1 - i + m = m + st.k - (i + 1) by omega]
  rw [e]
  grind
/-- a chain that misses a place, and one that meets it -/
theorem massey {R : Ser} {m k : Nat} {C q : Ser} {L n : Nat} (lC : Lt C (L + 1)) (aC : Keeps R m k C L) (gC : (C * R) (m + k) ≠ 0) (q0 : q 0 ≠ 0) (lq : Lt q (n + 1)) (aq : Keeps R m (k + 1) q n) : k + 1 ≤ n + L := by
  refine Nat.le_of_not_lt fun hl => gC ?_
  have e1 : (q * (C * R)) (m + k) = q 0 * (C * R) (m + k) := by
    rw [Ser.mul_co, sumTo_first, sumTo_zero fun j hj => ?_]
    · rw [Nat.sub_zero]
      grind
    · by_cases e : n + 1 ≤ j + 1
      · rw [lq _ e]
        grind
      · rw [aC (m + k - (j + 1)) (by omega) (by omega)]
        grind
  have e2 : (C * (q * R)) (m + k) = 0 := by
    rw [Ser.mul_co]
    refine sumTo_zero fun j hj => ?_
    by_cases e : L + 1 ≤ j
    · rw [lC _ e]
      grind
    · rw [aq (m + k - j) (by omega) (by omega)]
      grind
  have e3 : q * (C * R) = C * (q * R) := by grind
  rw [e3, e2] at e1
  grind
theorem row_at {R : Ser} {m : Nat} {st : ChS} (h : BM R m st) : ∀ i, i < st.k + 1 → st.row (R (m + st.k)) i = R (i + m) := fun i hi => by
  show (if i = st.k then R (m + st.k) else st.s i) = _
  by_cases e : i = st.k
  · rw [if_pos e, e, Nat.add_comm]
  · rw [if_neg e]
    exact h.s i (by omega)
theorem bm_stay {R : Ser} {m : Nat} {st : ChS} (h : BM R m st) (g : st.gap (R (m + st.k)) = 0) : BM R m (st.stay (R (m + st.k))) where
  s := row_at h
  lk := Nat.le_succ_of_le h.lk
  c0 := h.c0
  lC := h.lC
  lCn := h.lCn
  lBn := h.lBn
  n1 := h.n1
  n2 := h.n2
  nC := Nat.le_succ_of_le h.nC
  nB := by
    have := h.nB
    show st.nB + (st.since + 1) ≤ st.k + 1 + 2
    omega
  si := Nat.le_succ_of_le h.si
  ag := fun i h1 h2 => by
    have h1' : st.L + m ≤ i := h1
    have h2' : i < m + (st.k + 1) := h2
    by_cases e : i = m + st.k
    · rw [e]
      show (st.C * R) (m + st.k) = 0
      rw [← h.gap_eq, g]
    · exact h.ag i h1' (by omega)
  b := h.b
  hist := by
    rcases h.hist with ⟨a1, a2, a3, a4⟩ | ⟨LB, b1, b2, b3, b4, b5⟩
    · refine .inl ⟨a1, a2, ?_, a4⟩
      show st.since + 1 = st.k + 1 + 1
      omega
    · refine .inr ⟨LB, b1, ?_, ?_, ?_, ?_⟩
      · show LB + (st.since + 1) + st.L = st.k + 1 + 1
        omega
      · show st.since + 1 ≤ st.k + 1
        omega
      · show Keeps R m (st.k + 1 - (st.since + 1)) st.B LB
        rw [Nat.add_sub_add_right]
        exact b4
      · show (st.B * R) (m + (st.k + 1 - (st.since + 1))) = st.b
        rw [Nat.add_sub_add_right]
        exact b5
  least := fun q n h1 h2 h3 => h.least q n h1 h2 (h3.less (Nat.le_succ _))
/-- what is mended keeps the next place, too -/
theorem BM.made_ok {R : Ser} {m : Nat} {st : ChS} (h : BM R m st) (g : st.gap (R (m + st.k)) ≠ 0) (L' : Nat) (hL : L' = max st.L (st.k + 1 - st.L)) :
    (st.made (R (m + st.k))) 0 = 1 ∧ Lt (st.made (R (m + st.k))) (L' + 1) ∧ Lt (st.made (R (m + st.k))) (max st.nC (st.nB + st.since)) ∧ Keeps R m (st.k + 1) (st.made (R (m + st.k))) L' ∧ (st.L < st.k + 1 - st.L ∨ L' = st.L) := by
  have hs := h.si
  have hlk := h.lk
  generalize hgv : st.gap (R (m + st.k)) = gv at *
  have em : st.made (R (m + st.k)) = st.C - Ser.C (gv / st.b) * (Ser.X st.since * st.B) := by
    unfold ChS.made ChS.madeG
    rw [hgv]
  rw [em]
  refine ⟨?_, ?_, ?_, ?_, by omega⟩
  · rw [Ser.sub_co, Ser.Cmul_co, Ser.Xmul_co, if_neg (by omega), h.c0]
    grind
  · refine Lt.sub (h.lC.mono (by omega)) (Lt.Cmul _ ?_)
    rcases h.hist with ⟨a1, a2, a3, a4⟩ | ⟨LB, b1, b2, b3, b4, b5⟩
    · rw [a2]
      exact (Lt.Xmul Lt.one).mono (by omega)
    · exact (Lt.Xmul b1).mono (by omega)
  · exact Lt.sub (h.lCn.mono (by omega)) (Lt.Cmul _ ((Lt.Xmul h.lBn).mono (by omega)))
  · intro i h1 h2
    have ex : (st.C - Ser.C (gv / st.b) * (Ser.X st.since * st.B)) * R = st.C * R - Ser.C (gv / st.b) * (Ser.X st.since * (st.B * R)) := by grind
    rw [ex, Ser.sub_co, Ser.Cmul_co, Ser.Xmul_co]
    rcases h.hist with ⟨a1, a2, a3, a4⟩ | ⟨LB, b1, b2, b3, b4, b5⟩
    · omega
    · have hb := h.b
      rw [if_pos (by omega)]
      by_cases e : i = m + st.k
      · rw [e, ← h.gap_eq, hgv, show m + st.k - st.since = m + (st.k - st.since) by omega, b5]
        grind
      · rw [h.ag i (by omega) (by omega), b4 (i - st.since) (by omega) (by omega)]
        grind
theorem bm_jump {R : Ser} {m : Nat} {st : ChS} (h : BM R m st) (g : st.gap (R (m + st.k)) ≠ 0) (hl : st.L < st.k + 1 - st.L) : BM R m (st.jump (R (m + st.k))) := by
  have hlk := h.lk
  obtain ⟨c0, lC, lCn, ag, _⟩ := h.made_ok g (st.k + 1 - st.L) (by omega)
  have hh := h.nC
  have hb := h.nB
  exact {
    s := row_at h
    lk := by
      show st.k + 1 - st.L ≤ st.k + 1
      omega
    c0 := c0
    lC := lC
    lCn := lCn
    lBn := h.lCn
    n1 := by
      have := h.n1
      show 1 ≤ max st.nC (st.nB + st.since)
      omega
    n2 := h.n1
    nC := by
      show max st.nC (st.nB + st.since) ≤ st.k + 1 + 1
      omega
    nB := by
      show st.nC + 1 ≤ st.k + 1 + 2
      omega
    si := Nat.le_refl _
    ag := ag
    b := g
    hist := .inr ⟨st.L, h.lC, by
      show st.L + 1 + (st.k + 1 - st.L) = st.k + 1 + 1
      omega, by
      show 1 ≤ st.k + 1
      omega, by
      show Keeps R m (st.k + 1 - 1) st.C st.L
      exact h.ag, by
      show (st.C * R) (m + (st.k + 1 - 1)) = st.gap (R (m + st.k))
      rw [h.gap_eq]
      rfl⟩
    least := fun q n h1 h2 h3 => by
      have h3' : Keeps R m (st.k + 1) q n := h3
      have := massey h.lC h.ag (by rw [← h.gap_eq]; exact g) h1 h2 h3'
      show st.k + 1 - st.L ≤ n
      omega }
theorem bm_mend {R : Ser} {m : Nat} {st : ChS} (h : BM R m st) (g : st.gap (R (m + st.k)) ≠ 0) (hl : ¬ st.L < st.k + 1 - st.L) : BM R m (st.mend (R (m + st.k))) := by
  have hlk := h.lk
  obtain ⟨c0, lC, lCn, ag, _⟩ := h.made_ok g st.L (by omega)
  have hh := h.nC
  have hb := h.nB
  exact {
    s := row_at h
    lk := Nat.le_succ_of_le h.lk
    c0 := c0
    lC := lC
    lCn := lCn
    lBn := h.lBn
    n1 := by
      have := h.n1
      show 1 ≤ max st.nC (st.nB + st.since)
      omega
    n2 := h.n2
    nC := by
      show max st.nC (st.nB + st.since) ≤ st.k + 1 + 1
      omega
    nB := by
      show st.nB + (st.since + 1) ≤ st.k + 1 + 2
      omega
    si := Nat.le_succ_of_le h.si
    ag := ag
    b := h.b
    hist := by
      rcases h.hist with ⟨a1, a2, a3, a4⟩ | ⟨LB, b1, b2, b3, b4, b5⟩
      · omega
      · refine .inr ⟨LB, b1, ?_, ?_, ?_, ?_⟩
        · show LB + (st.since + 1) + st.L = st.k + 1 + 1
          omega
        · show st.since + 1 ≤ st.k + 1
          omega
        · show Keeps R m (st.k + 1 - (st.since + 1)) st.B LB
          rw [Nat.add_sub_add_right]
          exact b4
        · show (st.B * R) (m + (st.k + 1 - (st.since + 1))) = st.b
          rw [Nat.add_sub_add_right]
          exact b5
    least := fun q n h1 h2 h3 => h.least q n h1 h2 (Keeps.less (show Keeps R m (st.k + 1) q n from h3) (Nat.le_succ _)) }
theorem bm_put {R : Ser} {m : Nat} {st : ChS} (h : BM R m st) : BM R m (st.put (R (m + st.k))) := by
  unfold ChS.put
  by_cases g : st.gap (R (m + st.k)) = 0
  · rw [if_pos g]
    exact bm_stay h g
  · rw [if_neg g]
    by_cases hl : st.L < st.k + 1 - st.L
    · rw [if_pos hl]
      exact bm_jump h g hl
    · rw [if_neg hl]
      exact bm_mend h g hl
end FQ
end
section
set_option Elab.async false
namespace FQ
/-! ### the grower, place by place -/
def gs (off : Int) (r : Nat → Rat) : Nat → GrS
  | 0 => GrS.start off
  | k + 1 => (gs off r k).put (r k)
theorem gs_n (off : Int) (r : Nat → Rat) : ∀ k, (gs off r k).n = k
  | 0 => rfl
  | k + 1 => by
    show (gs off r k).n + 1 = k + 1
    rw [gs_n off r k]
theorem gs_off (off : Int) (r : Nat → Rat) : ∀ k, (gs off r k).off = off
  | 0 => rfl
  | k + 1 => by
    show (gs off r k).off = off
    exact gs_off off r k
theorem gs_r (off : Int) (r : Nat → Rat) : ∀ k i, i < k → (gs off r k).r i = r i
  | 0, i, h => absurd h (Nat.not_lt_zero _)
  | k + 1, i, h => by
    show (if i = (gs off r k).n then r k else (gs off r k).r i) = r i
    rw [gs_n]
    by_cases e : i = k
    · rw [if_pos e, e]
    · rw [if_neg e]
      exact gs_r off r k i (by omega)
theorem gs_ch (off : Int) (r : Nat → Rat) (k : Nat) : (gs off r (k + 1)).ch = if ((k + 1 : Nat) : Int) > off + 1 then (gs off r k).ch.put (r k) else (gs off r k).ch := by
  show (if (((gs off r k).n + 1 : Nat) : Int) > (gs off r k).off + 1 then _ else _) = _
  rw [gs_n, gs_off]
theorem gs_bm {off : Int} {r : Nat → Rat} {m : Nat} (hm : off + 1 = (m : Int)) : ∀ k, BM ⟨r⟩ m (gs off r k).ch ∧ (gs off r k).ch.k = k - m
  | 0 => ⟨bm_start _ _, by show 0 = 0 - m; omega⟩
  | k + 1 => by
    obtain ⟨h, hk⟩ := gs_bm (r := r) hm k
    rw [gs_ch]
    by_cases c : ((k + 1 : Nat) : Int) > off + 1
    · rw [if_pos c]
      have e : m + (gs off r k).ch.k = k := by omega
      have h2 := bm_put h
      rw [e] at h2
      refine ⟨h2, ?_⟩
      have : ∀ x, ((gs off r k).ch.put x).k = (gs off r k).ch.k + 1 := fun x => by
        unfold ChS.put
        split
        · rfl
        · split <;> rfl
      rw [this]
      omega
    · rw [if_neg c]
      exact ⟨h, by omega⟩
/-- a length that is off one more is never longer -/
theorem gs_less {off : Int} (h : -1 ≤ off) (r : Nat → Rat) (k : Nat) : (gs (off + 1) r k).ch.L ≤ (gs off r k).ch.L := by
  obtain ⟨m, hm⟩ : ∃ m : Nat, off + 1 = (m : Int) := ⟨(off + 1).toNat, by omega⟩
  obtain ⟨h1, k1⟩ := gs_bm (r := r) hm k
  obtain ⟨h2, k2⟩ := gs_bm (off := off + 1) (r := r) (m := m + 1) (by omega) k
  refine h2.least _ _ (by rw [h1.c0]; decide) h1.lC fun i a b => ?_
  exact h1.ag i (by omega) (by omega)
theorem put_L (st : ChS) (x : Rat) : (st.put x).L = st.L ∨ ((st.put x).L = st.k + 1 - st.L ∧ st.L < (st.put x).L ∧ st.gap x ≠ 0) := by
  unfold ChS.put
  split
  · exact .inl rfl
  · rename_i g
    split
    · rename_i h
      exact .inr ⟨rfl, h, g⟩
    · exact .inl rfl
theorem gs_mono (off : Int) (r : Nat → Rat) (k : Nat) : (gs off r k).ch.L ≤ (gs off r (k + 1)).ch.L := by
  rw [gs_ch]
  split
  · rcases put_L (gs off r k).ch (r k) with h | ⟨_, h, _⟩ <;> omega
  · exact Nat.le_refl _
/-- where the length rises -/
theorem gs_rise {off : Int} {r : Nat → Rat} {m : Nat} (hm : off + 1 = (m : Int)) {k : Nat} (h : (gs off r k).ch.L < (gs off r (k + 1)).ch.L) :
    m ≤ k ∧ (gs off r k).ch.L + (gs off r (k + 1)).ch.L = k + 1 - m ∧ ((gs off r k).ch.C * (⟨r⟩ : Ser)) k ≠ 0 := by
  obtain ⟨h1, k1⟩ := gs_bm (r := r) hm k
  rw [gs_ch] at h ⊢
  by_cases c : ((k + 1 : Nat) : Int) > off + 1
  · rw [if_pos c] at h ⊢
    have hlk := h1.lk
    have e : m + (gs off r k).ch.k = k := by omega
    rcases put_L (gs off r k).ch (r k) with z | ⟨z1, z2, z3⟩
    · omega
    · refine ⟨by omega, by omega, ?_⟩
      have := h1.gap_eq
      rw [e] at this
      rw [← this]
      exact z3
  · rw [if_neg c] at h
    omega
end FQ
end
section
set_option Elab.async false
namespace FQ
/-! ### small whole solutions of few equations -/
theorem pigeon : ∀ (m n : Nat) (g : Nat → Nat), m < n → (∀ x, x < n → g x < m) → ∃ x y, x < y ∧ y < n ∧ g x = g y
  | 0, n, g, h, hg => absurd (hg 0 h) (Nat.not_lt_zero _)
  | m + 1, n, g, h, hg => by
    by_cases ex : ∃ x, x < n ∧ g x = m
    · obtain ⟨x0, hx0, gx0⟩ := ex
      by_cases ey : ∃ y, y < n ∧ y ≠ x0 ∧ g y = m
      · obtain ⟨y, hy, ny, gy⟩ := ey
        rcases Nat.lt_or_gt_of_ne ny with l | l
        · exact ⟨y, x0, l, hx0, by rw [gy, gx0]⟩
        · exact ⟨x0, y, l, hy, by rw [gy, gx0]⟩
      · have key : ∀ x, x < n → x ≠ x0 → g x < m := fun x hx nx => by
          have := hg x hx
          refine Nat.lt_of_le_of_ne (by omega) fun e => ey ⟨x, hx, nx, e⟩
        obtain ⟨x, y, hxy, hy, e⟩ := pigeon m (n - 1) (fun x => g (if x < x0 then x else x + 1)) (by omega) (fun x hx => by
          show g (if x < x0 then x else x + 1) < m
          split
          · exact key _ (by omega) (by omega)
          · exact key _ (by omega) (by omega))
        refine ⟨if x < x0 then x else x + 1, if y < x0 then y else y + 1, ?_, ?_, e⟩
        · split <;> split <;> omega
        · split <;> omega
    · exact pigeon m n g (by omega) fun x hx => by
        have := hg x hx
        refine Nat.lt_of_le_of_ne (by omega) fun e => ex ⟨x, hx, e⟩
def isum : Nat → (Nat → Int) → Int
  | 0, _ => 0
  | n + 1, f => isum n f + f n
theorem isum_sub (f g : Nat → Int) : ∀ n, isum n (fun i => f i - g i) = isum n f - isum n g
  | 0 => rfl
  | n + 1 => by
    rw [isum, isum, isum, isum_sub f g n]
    omega
theorem isum_congr {f g : Nat → Int} : ∀ {n : Nat}, (∀ i, i < n → f i = g i) → isum n f = isum n g
  | 0, _ => rfl
  | n + 1, h => by rw [isum, isum, isum_congr (fun i hi => h i (by omega)), h n (by omega)]
theorem isum_abs {f : Nat → Int} {c : Nat} : ∀ {n : Nat}, (∀ i, i < n → (f i).natAbs ≤ c) → (isum n f).natAbs ≤ n * c
  | 0, _ => by rw [isum]; simp
  | n + 1, h => by
    have a := isum_abs (n := n) fun i hi => h i (by omega)
    have b := h n (by omega)
    rw [isum, Nat.succ_mul]
    have := Int.natAbs_add_le (isum n f) (f n)
    omega
/-- digits to the base b -/
theorem digits_inj {b : Nat} (hb : 0 < b) : ∀ (n x y : Nat), x < b ^ n → y < b ^ n → (∀ j, j < n → x / b ^ j % b = y / b ^ j % b) → x = y
  | 0, x, y, hx, hy, _ => by
    rw [Nat.pow_zero] at hx hy
    omega
  | n + 1, x, y, hx, hy, h => by
    have h0 := h 0 (by omega)
    rw [Nat.pow_zero, Nat.div_one, Nat.div_one] at h0
    have := digits_inj hb n (x / b) (y / b) (by rw [Nat.div_lt_iff_lt_mul hb, ← Nat.pow_succ]; exact hx) (by rw [Nat.div_lt_iff_lt_mul hb, ← Nat.pow_succ]; exact hy) fun j hj => by
      have := h (j + 1) (by omega)
      rw [Nat.pow_succ, Nat.mul_comm, ← Nat.div_div_eq_div_mul, ← Nat.div_div_eq_div_mul] at this
      exact this
    rw [← Nat.div_add_mod x b, ← Nat.div_add_mod y b, this, h0]
/-- numbers below W as one number -/
def code (W : Nat) (v : Nat → Nat) : Nat → Nat
  | 0 => 0
  | n + 1 => code W v n * W + v n
theorem code_lt {W : Nat} {v : Nat → Nat} : ∀ n, (∀ i, i < n → v i < W) → code W v n < W ^ n
  | 0, _ => by rw [Nat.pow_zero]; exact Nat.one_pos
  | n + 1, h => by
    have a := code_lt n fun i hi => h i (by omega)
    have b := h n (by omega)
    rw [code, Nat.pow_succ]
    have : (code W v n + 1) * W ≤ W ^ n * W := Nat.mul_le_mul_right _ a
    rw [Nat.succ_mul] at this
    omega
theorem code_inj {W : Nat} {v u : Nat → Nat} : ∀ n, (∀ i, i < n → v i < W) → (∀ i, i < n → u i < W) → code W v n = code W u n → ∀ i, i < n → v i = u i
  | 0, _, _, _, i, hi => absurd hi (Nat.not_lt_zero _)
  | n + 1, h1, h2, e, i, hi => by
    rw [code, code] at e
    have a := h1 n (by omega)
    have b := h2 n (by omega)
    have hW : 0 < W := by omega
    have e1 : (code W v n * W + v n) % W = (code W u n * W + u n) % W := by rw [e]
    rw [Nat.mul_comm, Nat.mul_add_mod, Nat.mul_comm (code W u n), Nat.mul_add_mod, Nat.mod_eq_of_lt a, Nat.mod_eq_of_lt b] at e1
    have e2 : code W v n * W = code W u n * W := by omega
    have e3 := Nat.eq_of_mul_eq_mul_right hW e2
    by_cases z : i = n
    · rw [z]; exact e1
    · exact code_inj n (fun i hi => h1 i (by omega)) (fun i hi => h2 i (by omega)) e3 i (by omega)
theorem siegel (k M : Nat) (a : Nat → Nat → Int) (ha : ∀ i j, i < k → j < k + 1 → (a i j).natAbs ≤ M) :
    ∃ z : Nat → Int, (∃ j, j < k + 1 ∧ z j ≠ 0) ∧ (∀ j, (z j).natAbs ≤ (2 * ((k + 1) * M) + 1) ^ k) ∧ ∀ i, i < k → isum (k + 1) (fun j => a i j * z j) = 0 := by
  generalize hc : (k + 1) * M = c
  generalize hB : (2 * c + 1) ^ k = B
  have B1 : 1 ≤ B := by rw [← hB]; exact Nat.one_le_pow _ _ (by omega)
  -- the value of row i at the vector of x
  let dg : Nat → Nat → Nat := fun x j => x / (B + 1) ^ j % (B + 1)
  have hdg : ∀ x j, dg x j ≤ B := fun x j => by
    have := Nat.mod_lt (x / (B + 1) ^ j) (show 0 < B + 1 by omega)
    show x / (B + 1) ^ j % (B + 1) ≤ B
    omega
  let vi : Nat → Nat → Int := fun x i => isum (k + 1) fun j => a i j * (dg x j : Int)
  have hvi : ∀ x i, i < k → (vi x i).natAbs ≤ c * B := fun x i hi => by
    have := isum_abs (n := k + 1) (f := fun j => a i j * (dg x j : Int)) (c := M * B) fun j hj => by
      show (a i j * (dg x j : Int)).natAbs ≤ M * B
      rw [Int.natAbs_mul, Int.natAbs_natCast]
      exact Nat.mul_le_mul (ha i j hi hj) (hdg x j)
    rw [← hc, Nat.mul_assoc]
    exact this
  have hW : ∀ x i, i < k → (vi x i + (c * B : Nat)).toNat < 2 * (c * B) + 1 := fun x i hi => by
    have := hvi x i hi
    omega
  have cnt : (2 * (c * B) + 1) ^ k < (B + 1) ^ (k + 1) := by
    have h1 : 2 * (c * B) + 1 ≤ (2 * c + 1) * B := by
      rw [Nat.add_mul, Nat.mul_assoc]
      omega
    have h2 : (2 * (c * B) + 1) ^ k ≤ ((2 * c + 1) * B) ^ k := Nat.pow_le_pow_left h1 k
    have h3 : ((2 * c + 1) * B) ^ k = B ^ (k + 1) := by rw [Nat.mul_pow, hB, Nat.pow_succ, Nat.mul_comm]
    have h4 : B ^ (k + 1) < (B + 1) ^ (k + 1) := Nat.pow_lt_pow_left (Nat.lt_succ_self B) (by omega)
    omega
  obtain ⟨x, y, hxy, hy, e⟩ := pigeon _ _ (fun x => code (2 * (c * B) + 1) (fun i => (vi x i + (c * B : Nat)).toNat) k) cnt fun x _ => code_lt k fun i hi => hW x i hi
  have ev : ∀ i, i < k → vi x i = vi y i := fun i hi => by
    have := code_inj k (fun i hi => hW x i hi) (fun i hi => hW y i hi) e i hi
    have h1 := hvi x i hi
    have h2 := hvi y i hi
    omega
  refine ⟨fun j => (dg x j : Int) - (dg y j : Int), ?_, fun j => ?_, fun i hi => ?_⟩
  · refine Classical.byContradiction fun hn => ?_
    have : x = y := digits_inj (show 0 < B + 1 by omega) (k + 1) x y (by omega) hy fun j hj => by
      have h1 : ¬ ((dg x j : Int) - (dg y j : Int) ≠ 0) := fun z => hn ⟨j, hj, z⟩
      have h2 : (dg x j : Int) - (dg y j : Int) = 0 := Classical.byContradiction h1
      show dg x j = dg y j
      omega
    omega
  · have := hdg x j
    have := hdg y j
    show ((dg x j : Int) - (dg y j : Int)).natAbs ≤ B
    omega
  · have : isum (k + 1) (fun j => a i j * ((dg x j : Int) - (dg y j : Int))) = vi x i - vi y i := by
      show _ = isum (k + 1) _ - isum (k + 1) _
      rw [← isum_sub]
      exact isum_congr fun j _ => by rw [Int.mul_sub]
    rw [this, ev i hi]
    omega
end FQ
end
section
set_option Elab.async false
namespace FQ
/-! ### a quotient's own row -/
def ownT (f g : Ser) : Nat → Nat → Rat
  | 0 => fun _ => 0
  | n + 1 => fun i => if i = n then f n - sumTo n (fun j => g (j + 1) * ownT f g n (n - 1 - j)) else ownT f g n i
def own (f g : Ser) (i : Nat) : Rat := ownT f g (i + 1) i
theorem ownT_eq (f g : Ser) : ∀ n i, i < n → ownT f g n i = own f g i
  | 0, i, h => absurd h (Nat.not_lt_zero _)
  | n + 1, i, h => by
    by_cases e : i = n
    · rw [e]
      rfl
    · show (if i = n then _ else ownT f g n i) = _
      rw [if_neg e]
      exact ownT_eq f g n i (by omega)
theorem own_eq (f g : Ser) (i : Nat) : own f g i = f i - sumTo i (fun j => g (j + 1) * own f g (i - 1 - j)) := by
  show (if i = i then f i - sumTo i (fun j => g (j + 1) * ownT f g i (i - 1 - j)) else _) = _
  rw [if_pos rfl]
  congr 1
  exact sumTo_congr fun j hj => by rw [ownT_eq f g i _ (by omega)]
/-- the first m terms of a place -/
def opart (f g : Ser) (s : Nat → Rat) (i m : Nat) : Rat := f i - sumTo m fun j => g (j + 1) * s (i - 1 - j)
theorem own_min {f g : Ser} {nb : Nat} (lb : Lt g (nb + 1)) (i : Nat) : own f g i = opart f g (own f g) i (min i nb) := by
  rw [own_eq]
  unfold opart
  congr 1
  exact sumTo_ext (Nat.min_le_left _ _) fun j h1 h2 => by
    rw [lb (j + 1) (by omega)]
    grind
/-- below times the own row is the top -/
theorem own_mul {f g : Ser} (g0 : g 0 = 1) : g * (⟨own f g⟩ : Ser) = f := Ser.ext fun i => by
  rw [Ser.mul_co, sumTo_first, g0, Nat.sub_zero]
  show 1 * own f g i + sumTo i (fun j => g (j + 1) * own f g (i - (j + 1))) = f i
  have e : sumTo i (fun j => g (j + 1) * own f g (i - (j + 1))) = sumTo i (fun j => g (j + 1) * own f g (i - 1 - j)) := sumTo_congr fun j hj => by
    rw [show i - (j + 1) = i - 1 - j by omega]
  rw [e, own_eq f g i]
  grind
/-- rows that agree with a quotient's at the first places -/
theorem own_agree {f g R : Ser} (g0 : g 0 = 1) {m : Nat} (h : Mod m (g * R) f) : ∀ i, i < m → R i = own f g i := by
  have e := own_mul (f := f) g0
  have l : Low (g * (R - ⟨own f g⟩)) m := fun i hi => by
    have : g * (R - ⟨own f g⟩) = g * R - f := by rw [← e]; grind
    rw [this, Ser.sub_co, h i hi]
    grind
  have l2 := Low.unit (f := g) (by rw [g0]; decide) l
  intro i hi
  have := l2 i hi
  rw [Ser.sub_co] at this
  show R i = (⟨own f g⟩ : Ser) i
  grind
theorem own_miss {f g R : Ser} (g0 : g 0 = 1) {m : Nat} (h : Mod m (g * R) f) (hm : (g * R) m ≠ f m) : R m ≠ own f g m := fun e => hm (by
  have a := own_agree g0 h
  have e2 := own_mul (f := f) g0
  have : (g * R) m = (g * (⟨own f g⟩ : Ser)) m := by
    rw [Ser.mul_co, Ser.mul_co]
    refine sumTo_congr fun j hj => ?_
    by_cases z : m - j = m
    · rw [z, e]
    · rw [a (m - j) (by omega)]
  rw [this, e2])
/-- sums of whole numbers' shares -/
theorem sumTo_int {f : Nat → Rat} {D : Rat} {z : Nat → Int} : ∀ m, (∀ j, j < m → f j * D = (z j : Rat)) → sumTo m f * D = ((isum m z : Int) : Rat)
  | 0, _ => by
    rw [sumTo, isum]
    push_cast
    grind
  | m + 1, h => by
    have a := sumTo_int m fun j hj => h j (by omega)
    have b := h m (by omega)
    rw [sumTo, isum]
    push_cast
    grind
theorem isum_bits {z : Nat → Int} {p : Nat} {m : Nat} (hm : m ≤ 32) (h : ∀ j, j < m → (z j).natAbs < 2 ^ p) : (isum m z).natAbs < 2 ^ (p + 5) := by
  have a := isum_abs (f := z) (n := m) (c := 2 ^ p - 1) fun j hj => by
    have := h j hj
    omega
  have b : m * (2 ^ p - 1) ≤ 32 * (2 ^ p - 1) := Nat.mul_le_mul_right _ hm
  have c := Nat.one_le_two_pow (n := p)
  rw [Nat.pow_add]
  omega
theorem abs_pow {a : Int} {p : Nat} (h : a.natAbs < 2 ^ p) (a0 : a ≠ 0) : ∀ n, (a ^ n).natAbs < 2 ^ (n * p + 1)
  | 0 => by rw [Int.pow_zero, Nat.zero_mul]; decide
  | n + 1 => by
    rw [Int.pow_succ]
    exact abs_mono (abs_mul (abs_pow h a0 n) h) (by rw [Nat.succ_mul]; omega)
theorem own_sz {f g : Ser} {H : Nat} (sf : SV 1 f H) (sg : SV 1 g H) : ∃ (σ τ : Int) (γ : Nat → Int) (z : Nat → Int), σ ≠ 0 ∧ τ ≠ 0 ∧ σ.natAbs < 2 ^ H ∧ τ.natAbs < 2 ^ H ∧ (∀ i, g i * (τ : Rat) = (γ i : Rat)) ∧ (∀ i, (γ i).natAbs < 2 ^ H) ∧
    ∀ i, i ≤ 31 → (own f g i * ((σ * τ ^ i : Int) : Rat) = (z i : Rat) ∧ (z i).natAbs < 2 ^ ((i + 1) * (H + 7))) ∧
      ∀ m, m ≤ i → ∃ y : Int, opart f g (own f g) i m * ((σ * τ ^ i : Int) : Rat) = (y : Rat) ∧ y.natAbs < 2 ^ ((i + 1) * (H + 7)) := by
  obtain ⟨φ, σ, hσ, ef, bf, bσ⟩ := sf.ex
  obtain ⟨γ, τ, hτ, eg, bg, bτ⟩ := sg.ex
  have nσ := icast_ne hσ
  have nτ := icast_ne hτ
  -- every number has a whole one
  have key : ∀ i, i ≤ 31 → ∃ z : Int, (own f g i * ((σ * τ ^ i : Int) : Rat) = (z : Rat) ∧ z.natAbs < 2 ^ ((i + 1) * (H + 7))) ∧
      ∀ m, m ≤ i → ∃ y : Int, opart f g (own f g) i m * ((σ * τ ^ i : Int) : Rat) = (y : Rat) ∧ y.natAbs < 2 ^ ((i + 1) * (H + 7)) := by
    intro i
    induction i using Nat.strongRecOn with
    | ind i ih =>
      intro hi
      have zz : ∀ l, ∃ z : Int, l < i → own f g l * ((σ * τ ^ l : Int) : Rat) = (z : Rat) ∧ z.natAbs < 2 ^ ((l + 1) * (H + 7)) := fun l => by
        by_cases hl : l < i
        · obtain ⟨z, h, _⟩ := ih l hl (by omega)
          exact ⟨z, fun _ => h⟩
        · exact ⟨0, fun h => absurd h hl⟩
      have zf : ∃ zf : Nat → Int, ∀ l, l < i → own f g l * ((σ * τ ^ l : Int) : Rat) = (zf l : Rat) ∧ (zf l).natAbs < 2 ^ ((l + 1) * (H + 7)) := ⟨fun l => (zz l).choose, fun l => (zz l).choose_spec⟩
      obtain ⟨zf, hz⟩ := zf
      have part : ∀ m, m ≤ i → ∃ y : Int, opart f g (own f g) i m * ((σ * τ ^ i : Int) : Rat) = (y : Rat) ∧ y.natAbs < 2 ^ ((i + 1) * (H + 7)) := fun m hm => by
        have hs := sumTo_int (f := fun j => g (j + 1) * own f g (i - 1 - j)) (D := ((σ * τ ^ i : Int) : Rat)) (z := fun j => γ (j + 1) * zf (i - 1 - j) * τ ^ j) m fun j hj => by
          obtain ⟨e1, _⟩ := hz (i - 1 - j) (by omega)
          have e2 := eg (j + 1)
          have e3 : (τ : Int) ^ i = τ ^ (i - 1 - j) * τ * τ ^ j := by
            rw [← Int.pow_succ, ← Int.pow_add]
            congr 1
            omega
          rw [e3]
          push_cast
          push_cast at e1
          have h5 : g (j + 1) * own f g (i - 1 - j) * ((σ : Rat) * ((τ : Rat) ^ (i - 1 - j) * (τ : Rat) * (τ : Rat) ^ j)) = (g (j + 1) * (τ : Rat)) * (own f g (i - 1 - j) * ((σ : Rat) * (τ : Rat) ^ (i - 1 - j))) * (τ : Rat) ^ j := by grind
          rw [h5, e1, e2]
          grind
        refine ⟨φ i * τ ^ i - isum m (fun j => γ (j + 1) * zf (i - 1 - j) * τ ^ j), ?_, ?_⟩
        · unfold opart
          push_cast
          push_cast at hs
          have e1 := ef i
          have h6 : (f i - sumTo m (fun j => g (j + 1) * own f g (i - 1 - j))) * ((σ : Rat) * (τ : Rat) ^ i) = (f i * (σ : Rat)) * (τ : Rat) ^ i - sumTo m (fun j => g (j + 1) * own f g (i - 1 - j)) * ((σ : Rat) * (τ : Rat) ^ i) := by grind
          rw [h6, hs, e1]
          grind
        · have b1 : (φ i * τ ^ i).natAbs < 2 ^ (i * (H + 7) + H + 6) := abs_mono (abs_mul (bf i) (abs_pow bτ hτ i)) (by
            have : i * H ≤ i * (H + 7) := Nat.mul_le_mul_left _ (by omega)
            omega)
          have b2 : (isum m (fun j => γ (j + 1) * zf (i - 1 - j) * τ ^ j)).natAbs < 2 ^ (i * (H + 7) + H + 1 + 5) := isum_bits (by omega) fun j hj => by
            obtain ⟨_, e2⟩ := hz (i - 1 - j) (by omega)
            refine abs_mono (abs_mul (abs_mul (bg (j + 1)) e2) (abs_pow bτ hτ j)) ?_
            have : i * (H + 7) = (i - 1 - j + 1) * (H + 7) + j * (H + 7) := by rw [← Nat.add_mul]; congr 1; omega
            have h2 : j * H ≤ j * (H + 7) := Nat.mul_le_mul_left _ (by omega)
            omega
          refine abs_mono (abs_sub b1 b2) ?_
          rw [Nat.succ_mul]
          omega
      obtain ⟨y, hy⟩ := part i (Nat.le_refl _)
      refine ⟨y, ⟨?_, hy.2⟩, part⟩
      rw [← hy.1]
      congr 1
      exact own_eq f g i
  have hk : ∀ i, ∃ z : Int, i ≤ 31 → (own f g i * ((σ * τ ^ i : Int) : Rat) = (z : Rat) ∧ z.natAbs < 2 ^ ((i + 1) * (H + 7))) ∧
      ∀ m, m ≤ i → ∃ y : Int, opart f g (own f g) i m * ((σ * τ ^ i : Int) : Rat) = (y : Rat) ∧ y.natAbs < 2 ^ ((i + 1) * (H + 7)) := fun i => by
    by_cases hi : i ≤ 31
    · obtain ⟨z, h⟩ := key i hi
      exact ⟨z, fun _ => h⟩
    · exact ⟨0, fun h => absurd h hi⟩
  exact ⟨σ, τ, γ, fun i => (hk i).choose, hσ, hτ, bσ, bτ, fun i => by rw [eg i]; grind, bg, fun i hi => (hk i).choose_spec hi⟩
/-- what is met at reckoning an own row -/
theorem own_ok {f g : Ser} {H : Nat} (sf : SV 1 f H) (sg : SV 1 g H) (i : Nat) (hi : i ≤ 31) : Sz (own f g i) ((i + 2) * (H + 7)) ∧ (∀ m, m ≤ i → Sz (opart f g (own f g) i m) ((i + 2) * (H + 7))) ∧ ∀ j, Sz (g j * own f g i) ((i + 2) * (H + 7)) := by
  obtain ⟨σ, τ, γ, z, hσ, hτ, bσ, bτ, eg, bg, h⟩ := own_sz sf sg
  obtain ⟨⟨e1, b1⟩, hp⟩ := h i hi
  have nz : σ * τ ^ i ≠ 0 := Int.mul_ne_zero hσ (Int.pow_ne_zero hτ)
  have le : (i + 1) * (H + 7) ≤ (i + 2) * (H + 7) := Nat.mul_le_mul_right _ (by omega)
  have e2 : (i + 2) * (H + 7) = (i + 1) * (H + 7) + (H + 7) := by rw [← Nat.succ_mul]
  have h2 : i * H ≤ i * (H + 7) := Nat.mul_le_mul_left _ (by omega)
  have e3 : (i + 1) * (H + 7) = i * (H + 7) + (H + 7) := by rw [← Nat.succ_mul]
  have bd : (σ * τ ^ i).natAbs < 2 ^ ((i + 1) * (H + 7)) := abs_mono (abs_mul bσ (abs_pow bτ hτ i)) (by omega)
  refine ⟨⟨z i, _, nz, e1, abs_mono b1 le, abs_mono bd le⟩, fun m hm => ?_, fun j => ?_⟩
  · obtain ⟨y, e, b⟩ := hp m hm
    exact ⟨y, _, nz, e, abs_mono b le, abs_mono bd le⟩
  · refine ⟨γ j * z i, τ * (σ * τ ^ i), Int.mul_ne_zero hτ nz, ?_, abs_mono (abs_mul (bg j) b1) (by omega), abs_mono (abs_mul bτ bd) (by omega)⟩
    have eg' := eg j
    have : g j * own f g i * ((τ * (σ * τ ^ i) : Int) : Rat) = (g j * (τ : Rat)) * (own f g i * ((σ * τ ^ i : Int) : Rat)) := by
      push_cast
      grind
    rw [this, eg', e1]
    push_cast
    rfl
end FQ
end
section
set_option Elab.async false
namespace FQ
/-! ### the chain's numbers are small -/
structure ChSz (A : Nat) (D : Int) (st : ChS) (u v : Nat) : Prop where
  vu : v ≤ u
  row : ∀ i, i < st.k → ∃ z : Int, st.s i * (D : Rat) = (z : Rat) ∧ z.natAbs < 2 ^ A
  c : ∃ c : Nat → Int, c 0 ≠ 0 ∧ (∀ i, st.C i * (c 0 : Rat) = (c i : Rat)) ∧ ∀ i, (c i).natAbs < 2 ^ u
  b : ∃ (b : Nat → Int) (β : Int), b 0 ≠ 0 ∧ (∀ i, st.B i * (b 0 : Rat) = (b i : Rat)) ∧ (∀ i, (b i).natAbs < 2 ^ v) ∧ st.b * ((b 0 * D : Int) : Rat) = (β : Rat) ∧ β.natAbs < 2 ^ (v + A + 6)
theorem chsz_start (A : Nat) (D : Int) (hd : D.natAbs < 2 ^ A) : ChSz A D ChS.start 1 1 where
  vu := Nat.le_refl _
  row := fun i hi => absurd hi (Nat.not_lt_zero _)
  c := ⟨fun i => if i = 0 then 1 else 0, by decide, fun i => by
    show (1 : Ser) i * ((if 0 = 0 then (1 : Int) else 0 : Int) : Rat) = ((if i = 0 then (1 : Int) else 0 : Int) : Rat)
    rw [if_pos rfl, Ser.one_co]
    by_cases h : i = 0
    · rw [if_pos h, if_pos h]
      grind
    · rw [if_neg h, if_neg h]
      push_cast
      grind, fun i => by
    show (if i = 0 then (1 : Int) else 0).natAbs < 2 ^ 1
    split <;> decide⟩
  b := ⟨fun i => if i = 0 then 1 else 0, D, by decide, fun i => by
    show (1 : Ser) i * ((if 0 = 0 then (1 : Int) else 0 : Int) : Rat) = ((if i = 0 then (1 : Int) else 0 : Int) : Rat)
    rw [if_pos rfl, Ser.one_co]
    by_cases h : i = 0
    · rw [if_pos h, if_pos h]
      grind
    · rw [if_neg h, if_neg h]
      push_cast
      grind, fun i => by
    show (if i = 0 then (1 : Int) else 0).natAbs < 2 ^ 1
    split <;> decide, by
    show (1 : Rat) * (((if 0 = 0 then (1 : Int) else 0) * D : Int) : Rat) = (D : Rat)
    rw [if_pos rfl, Int.one_mul]
    grind, abs_mono hd (by omega)⟩
theorem put_ok {R : Ser} {m A : Nat} {D : Int} {st : ChS} {u v : Nat} {x : Rat} {xz : Int} (h : BM R m st) (hs : ChSz A D st u v) (hD : D ≠ 0) (hd : D.natAbs < 2 ^ A) (ex : x * (D : Rat) = (xz : Rat)) (bx : xz.natAbs < 2 ^ A)
    (hk : st.k ≤ 30) (hb : u + v + A + 20 ≤ BB) (hx : x = R (m + st.k)) : PutOK st x ∧ ChSz A D (st.put x) (u + v + A + 7) u := by
  obtain ⟨c, c0, ec, bc⟩ := hs.c
  obtain ⟨b, β, b0, eb, bb, eβ, bβ⟩ := hs.b
  have vu := hs.vu
  have nD := icast_ne hD
  have nc := icast_ne c0
  have nb := icast_ne b0
  have nC := h.nC
  have nB := h.nB
  have hn1 := h.n1
  have hlk := h.lk
  have hgj : st.gj = min st.nC (st.k + 1) - 1 := rfl
  obtain ⟨ρ, hρ⟩ : ∃ ρ : Nat → Int, ∀ i, i < st.k → st.s i * (D : Rat) = (ρ i : Rat) ∧ (ρ i).natAbs < 2 ^ A := by
    have : ∀ i, ∃ z : Int, i < st.k → st.s i * (D : Rat) = (z : Rat) ∧ z.natAbs < 2 ^ A := fun i => by
      by_cases hi : i < st.k
      · obtain ⟨z, q⟩ := hs.row i hi
        exact ⟨z, fun _ => q⟩
      · exact ⟨0, fun z => absurd z hi⟩
    exact ⟨fun i => (this i).choose, fun i => (this i).choose_spec⟩
  have szC : ∀ i, Sz (st.C i) u := fun i => ⟨c i, c 0, c0, ec i, bc i, bc 0⟩
  have szB : ∀ i, Sz (st.B i) v := fun i => ⟨b i, b 0, b0, eb i, bb i, bb 0⟩
  have szs : ∀ i, i < st.k → Sz (st.s i) A := fun i hi => ⟨ρ i, D, hD, (hρ i hi).1, (hρ i hi).2, hd⟩
  have cD : c 0 * D ≠ 0 := Int.mul_ne_zero c0 hD
  have bcD : (c 0 * D).natAbs < 2 ^ (u + A) := abs_mul (bc 0) hd
  have prd : ∀ i, i < st.gj → st.C (i + 1) * st.s (st.k - 1 - i) * ((c 0 * D : Int) : Rat) = ((c (i + 1) * ρ (st.k - 1 - i) : Int) : Rat) := fun i hi => by
    have e1 := ec (i + 1)
    have e2 := (hρ (st.k - 1 - i) (by omega)).1
    push_cast
    have : st.C (i + 1) * st.s (st.k - 1 - i) * ((c 0 : Rat) * (D : Rat)) = (st.C (i + 1) * (c 0 : Rat)) * (st.s (st.k - 1 - i) * (D : Rat)) := by grind
    rw [this, e1, e2]
  have prb : ∀ i, i < st.gj → (c (i + 1) * ρ (st.k - 1 - i)).natAbs < 2 ^ (u + A) := fun i hi => abs_mul (bc _) (hρ _ (by omega)).2
  have gp : ∀ j, j ≤ st.gj → ∃ y : Int, gapS st.C st.s st.k x j * ((c 0 * D : Int) : Rat) = (y : Rat) ∧ y.natAbs < 2 ^ (u + A + 6) := fun j hj => by
    have hsum := sumTo_int (f := fun i => st.C (i + 1) * st.s (st.k - 1 - i)) (D := ((c 0 * D : Int) : Rat)) (z := fun i => c (i + 1) * ρ (st.k - 1 - i)) j fun i hi => prd i (by omega)
    refine ⟨xz * c 0 + isum j (fun i => c (i + 1) * ρ (st.k - 1 - i)), ?_, ?_⟩
    · unfold gapS
      push_cast
      push_cast at hsum
      have : (x + sumTo j fun i => st.C (i + 1) * st.s (st.k - 1 - i)) * ((c 0 : Rat) * (D : Rat)) = (x * (D : Rat)) * (c 0 : Rat) + (sumTo j fun i => st.C (i + 1) * st.s (st.k - 1 - i)) * ((c 0 : Rat) * (D : Rat)) := by grind
      rw [this, ex, hsum]
    · refine abs_add (p := u + A + 5) (abs_mono (abs_mul bx (bc 0)) (by omega)) (isum_bits (by omega) fun i hi => prb i (by omega))
  obtain ⟨γ, eγ, bγ⟩ := gp st.gj (Nat.le_refl _)
  have hgap : st.gap x = gapS st.C st.s st.k x st.gj := rfl
  rw [← hgap] at eγ
  have b1 : st.b ≠ 0 := h.b
  have β0 : β ≠ 0 := fun z => b1 (by
    rw [z] at eβ
    push_cast at eβ
    grind)
  have nβ := icast_ne β0
  -- a share
  have shr : ∀ (y : Rat) (w : Int), y * (b 0 : Rat) = (w : Rat) → st.gap x / st.b * y * ((c 0 * β : Int) : Rat) = ((γ * w : Int) : Rat) := fun y w ey => by
    push_cast
    push_cast at eγ eβ
    have h1 : st.gap x / st.b * y * ((c 0 : Rat) * (β : Rat)) = st.gap x / st.b * y * (c 0 : Rat) * (st.b * ((b 0 : Rat) * (D : Rat))) := by rw [eβ]; grind
    have h2 : st.gap x / st.b * y * (c 0 : Rat) * (st.b * ((b 0 : Rat) * (D : Rat))) = (st.gap x * ((c 0 : Rat) * (D : Rat))) * (y * (b 0 : Rat)) := by grind
    rw [h1, h2, eγ, ey]
  have cβ : c 0 * β ≠ 0 := Int.mul_ne_zero c0 β0
  have bcβ : (c 0 * β).natAbs < 2 ^ (u + v + A + 6) := abs_mono (abs_mul (bc 0) bβ) (by omega)
  have mend : MendOK st (st.gap x) := by
    refine ⟨Sz.fit ⟨γ, _, cD, eγ, abs_mono bγ (Nat.le_refl _), abs_mono bcD (by omega)⟩ (by omega), fun i => (szC i).fit (by omega), b1, Sz.fit ⟨β, _, Int.mul_ne_zero b0 hD, eβ, bβ, abs_mono (abs_mul (bb 0) hd) (by omega)⟩ (by omega), fun i => (szB i).fit (by omega), ?_, fun i => ?_, by omega, by omega, h.lCn, h.lBn⟩
    · have := shr 1 (b 0) (by grind)
      refine Sz.fit ⟨γ * b 0, _, cβ, ?_, abs_mono (abs_mul bγ (bb 0)) (show u + A + 6 + v ≤ u + v + A + 6 by omega), bcβ⟩ (by omega)
      rw [← this]
      grind
    · exact Sz.fit ⟨γ * b i, _, cβ, shr _ _ (eb i), abs_mono (abs_mul bγ (bb i)) (show u + A + 6 + v ≤ u + v + A + 6 by omega), bcβ⟩ (by omega)
  refine ⟨⟨Sz.fit ⟨xz, D, hD, ex, bx, hd⟩ (by omega), fun i hi => (szs i hi).fit (by omega), fun i => (szC i).fit (by omega), fun i hi => ?_, fun j hj => ?_, hn1, by omega, by omega, hlk, fun _ => mend⟩, ?_⟩
  · exact Sz.fit ⟨_, _, cD, prd i hi, prb i hi, bcD⟩ (by omega)
  · obtain ⟨y, e, b⟩ := gp j hj
    exact Sz.fit ⟨y, _, cD, e, b, abs_mono bcD (by omega)⟩ (by omega)
  · -- the state behind
    have row' : ∀ i, i < st.k + 1 → ∃ z : Int, st.row x i * (D : Rat) = (z : Rat) ∧ z.natAbs < 2 ^ A := fun i hi => by
      show ∃ z : Int, (if i = st.k then x else st.s i) * (D : Rat) = (z : Rat) ∧ z.natAbs < 2 ^ A
      by_cases e : i = st.k
      · rw [if_pos e]
        exact ⟨xz, ex, bx⟩
      · rw [if_neg e]
        exact hs.row i (by omega)
    have vecC : ∀ {w : Nat}, u ≤ w → ∃ c : Nat → Int, c 0 ≠ 0 ∧ (∀ i, st.C i * (c 0 : Rat) = (c i : Rat)) ∧ ∀ i, (c i).natAbs < 2 ^ w := fun {w} hw => ⟨c, c0, ec, fun i => abs_mono (bc i) hw⟩
    have vecB : ∃ (b : Nat → Int) (β : Int), b 0 ≠ 0 ∧ (∀ i, st.B i * (b 0 : Rat) = (b i : Rat)) ∧ (∀ i, (b i).natAbs < 2 ^ u) ∧ st.b * ((b 0 * D : Int) : Rat) = (β : Rat) ∧ β.natAbs < 2 ^ (u + A + 6) := ⟨b, β, b0, eb, fun i => abs_mono (bb i) vu, eβ, abs_mono bβ (by omega)⟩
    have hsi := h.si
    have vecM : ∃ c : Nat → Int, c 0 ≠ 0 ∧ (∀ i, st.made x i * (c 0 : Rat) = (c i : Rat)) ∧ ∀ i, (c i).natAbs < 2 ^ (u + v + A + 7) := by
      refine ⟨fun i => β * c i - γ * (if st.since ≤ i then b (i - st.since) else 0), ?_, fun i => ?_, fun i => ?_⟩
      · show β * c 0 - γ * (if st.since ≤ 0 then b (0 - st.since) else 0) ≠ 0
        rw [if_neg (by omega), Int.mul_zero, Int.sub_zero]
        exact Int.mul_ne_zero β0 c0
      · show (st.C - Ser.C (st.gap x / st.b) * (Ser.X st.since * st.B)) i * ((β * c 0 - γ * (if st.since ≤ 0 then b (0 - st.since) else 0) : Int) : Rat) = ((β * c i - γ * (if st.since ≤ i then b (i - st.since) else 0) : Int) : Rat)
        rw [if_neg (by omega), Int.mul_zero, Int.sub_zero, Ser.sub_co, Ser.Cmul_co, Ser.Xmul_co]
        have e1 := ec i
        by_cases hi : st.since ≤ i
        · rw [if_pos hi, if_pos hi]
          have e2 := shr _ _ (eb (i - st.since))
          push_cast
          push_cast at e2
          have : (st.C i - st.gap x / st.b * st.B (i - st.since)) * ((β : Rat) * (c 0 : Rat)) = (st.C i * (c 0 : Rat)) * (β : Rat) - st.gap x / st.b * st.B (i - st.since) * ((c 0 : Rat) * (β : Rat)) := by grind
          rw [this, e1, e2]
          grind
        · rw [if_neg hi, if_neg hi]
          push_cast
          grind
      · show (β * c i - γ * (if st.since ≤ i then b (i - st.since) else 0)).natAbs < _
        refine abs_sub (p := u + v + A + 6) (abs_mono (abs_mul bβ (bc i)) (by omega)) ?_
        split
        · exact abs_mono (abs_mul bγ (bb _)) (by omega)
        · rw [Int.mul_zero]
          exact abs_zero
    unfold ChS.put
    by_cases g : st.gap x = 0
    · rw [if_pos g]
      exact ⟨by omega, row', vecC (by omega), vecB⟩
    · rw [if_neg g]
      by_cases hl : st.L < st.k + 1 - st.L
      · rw [if_pos hl]
        exact ⟨by omega, row', vecM, ⟨c, γ, c0, ec, bc, eγ, bγ⟩⟩
      · rw [if_neg hl]
        exact ⟨by omega, row', vecM, vecB⟩
end FQ
end
section
set_option Elab.async false
namespace FQ
/-! ### a quotient's numbers are small -/
theorem pow_bits {k A : Nat} (hk : k + 1 ≤ 15) : (2 * ((k + 1) * 2 ^ A) + 1) ^ k < 2 ^ (k * (A + 5) + 1) := by
  have h1 : 2 * ((k + 1) * 2 ^ A) + 1 ≤ 2 ^ (A + 5) := by
    have := Nat.mul_le_mul_right (2 ^ A) hk
    have p := Nat.one_le_two_pow (n := A)
    rw [Nat.pow_add]
    omega
  have h2 := Nat.pow_le_pow_left h1 k
  rw [← Nat.pow_mul] at h2
  have h3 : (A + 5) * k = k * (A + 5) := Nat.mul_comm _ _
  rw [h3] at h2
  rw [Nat.pow_succ]
  have := Nat.one_le_two_pow (n := k * (A + 5))
  omega
theorem isum_last (z : Nat → Int) : ∀ n, (∀ j, j < n → z j = 0) → isum n z = 0
  | 0, _ => rfl
  | n + 1, h => by rw [isum, isum_last z n (fun j hj => h j (by omega)), h n (by omega)]; rfl
theorem quo_small {R a b : Ser} {na nb A N : Nat} {D : Int} {ρ : Nat → Int} (q : Quo a b) (la : Lt a na) (lb : IsLen b (nb + 1)) (ag : Mod (na + nb) (b * R) a) (hD : D ≠ 0) (hd : D.natAbs < 2 ^ A)
    (hρ : ∀ i, i < N → R i * (D : Rat) = (ρ i : Rat) ∧ (ρ i).natAbs < 2 ^ A) (hN : na + nb ≤ N) (hnb : nb + 1 ≤ 15) : SV 1 a (nb * (A + 5) + A + 6) ∧ SV 1 b (nb * (A + 5) + A + 6) := by
  obtain ⟨z, ⟨j0, hj0, z0⟩, bz, ez⟩ := siegel nb (2 ^ A) (fun i j => if j ≤ na + i then ρ (na + i - j) else 0) (fun i j hi hj => by
    show (if j ≤ na + i then ρ (na + i - j) else 0).natAbs ≤ 2 ^ A
    split
    · exact Nat.le_of_lt (hρ _ (by omega)).2
    · exact Nat.zero_le _)
  have bz2 : ∀ j, (z j).natAbs < 2 ^ (nb * (A + 5) + 1) := fun j => Nat.lt_of_le_of_lt (bz j) (pow_bits hnb)
  have nD := icast_ne hD
  let qs : Ser := ⟨fun j => if j < nb + 1 then (z j : Rat) else 0⟩
  have lq : Lt qs (nb + 1) := fun i hi => by
    show (if i < nb + 1 then (z i : Rat) else 0) = 0
    rw [if_neg (by omega)]
  have qz : qs ≠ 0 := fun e => z0 (by
    have : qs j0 = (0 : Ser) j0 := by rw [e]
    rw [Ser.zero_co] at this
    have h2 : (if j0 < nb + 1 then (z j0 : Rat) else 0) = 0 := this
    rw [if_pos hj0] at h2
    exact_mod_cast h2)
  -- times the row, whole
  have qR : ∀ i, i < N → (qs * R) i * (D : Rat) = ((isum (nb + 1) (fun j => (if j ≤ i then ρ (i - j) else 0) * z j) : Int) : Rat) := fun i hi => by
    have e : (qs * R) i = sumTo (nb + 1) fun j => (if j ≤ i then qs j * R (i - j) else 0) := by
      rw [Ser.mul_co]
      by_cases h : nb + 1 ≤ i + 1
      · rw [sumTo_ext h fun j h1 h2 => by rw [lq j h1]; grind]
        exact sumTo_congr fun j hj => by rw [if_pos (by omega)]
      · rw [sumTo_ext (n := i + 1) (m := nb + 1) (by omega) fun j h1 h2 => if_neg (by omega)]
        exact sumTo_congr fun j hj => by rw [if_pos (by omega)]
    rw [e]
    refine sumTo_int (nb + 1) fun j hj => ?_
    by_cases h : j ≤ i
    · rw [if_pos h, if_pos h]
      have e1 := (hρ (i - j) (by omega)).1
      have e2 : qs j = (z j : Rat) := if_pos hj
      rw [e2]
      push_cast
      grind
    · rw [if_neg h, if_neg h]
      push_cast
      grind
  have van : ∀ i, na ≤ i → i < na + nb → (qs * R) i = 0 := fun i h1 h2 => by
    have e := qR i (by omega)
    have e2 := ez (i - na) (by omega)
    rw [show na + (i - na) = i by omega] at e2
    rw [e2] at e
    push_cast at e
    grind
  have lp : Lt (trn na (qs * R).co) na := fun i hi => by
    show (if i < na then (qs * R) i else 0) = 0
    rw [if_neg (by omega)]
  have s1 : Sol R na (nb + 1) (trn na (qs * R).co) qs := ⟨lp, lq, qz, fun i hi => by
    show (qs * R) i = if i < na then (qs * R) i else 0
    by_cases h : i < na
    · rw [if_pos h]
    · rw [if_neg h]
      exact van i (by omega) (by omega)⟩
  have s2 : Sol R na (nb + 1) a b := ⟨la, lb.1, q.b_ne, ag⟩
  obtain ⟨t, pt, e1, e2⟩ := q.cop.divides ⟨_, lp⟩ ⟨_, lq⟩ (by have := s1.cross s2; rw [this])
  have t0 : t ≠ 0 := fun e => qz (by rw [e2, e]; grind)
  obtain ⟨nt, lt⟩ := pt.len
  have nt1 := lt.pos t0
  obtain ⟨nt, rfl⟩ : ∃ k, nt = k + 1 := ⟨nt - 1, by omega⟩
  have lm := lt.mul lb
  rw [← e2] at lm
  have le := lm.le lq
  have ntz : nt = 0 := by omega
  subst ntz
  have tc : ∀ (f : Ser) i, (t * f) i = t 0 * f i := fun f i => by
    have : t = Ser.C (t 0) := Ser.ext fun j => by
      rw [Ser.C_co']
      by_cases h : j = 0
      · rw [h, if_pos rfl]
      · rw [if_neg h]
        exact lt.1 j (by omega)
    rw [this, Ser.Cmul_co, Ser.C_co', if_pos rfl]
  have qj : ∀ j, qs j = t 0 * b j := fun j => by rw [e2, tc]
  have pj : ∀ j, trn na (qs * R).co j = t 0 * a j := fun j => by rw [e1, tc]
  have q00 : (z 0 : Rat) = t 0 := by
    have := qj 0
    rw [q.b0] at this
    have h2 : qs 0 = (z 0 : Rat) := by
      show (if 0 < nb + 1 then (z 0 : Rat) else 0) = _
      rw [if_pos (Nat.succ_pos nb)]
    rw [h2] at this
    grind
  have zz : z 0 ≠ 0 := fun e => by
    have := lt.last
    rw [← q00, e] at this
    exact this (by push_cast; rfl)
  refine ⟨⟨fun i => if i < na then isum (nb + 1) (fun j => (if j ≤ i then ρ (i - j) else 0) * z j) else 0, z 0 * D, Int.mul_ne_zero zz hD, fun i => ?_, fun i => ?_, abs_mono (abs_mul (bz2 0) hd) (by omega)⟩,
    ⟨fun j => if j < nb + 1 then z j else 0, z 0, zz, fun i => ?_, fun i => ?_, abs_mono (bz2 0) (by omega)⟩⟩
  · show a i * ((z 0 * D : Int) : Rat) = 1 * ((if i < na then isum (nb + 1) (fun j => (if j ≤ i then ρ (i - j) else 0) * z j) else 0 : Int) : Rat)
    by_cases h : i < na
    · rw [if_pos h, ← qR i (by omega)]
      have := pj i
      have h2 : trn na (qs * R).co i = (qs * R) i := if_pos h
      rw [h2] at this
      rw [this]
      push_cast
      rw [q00]
      grind
    · rw [if_neg h, la i (by omega)]
      push_cast
      grind
  · show (if i < na then isum (nb + 1) (fun j => (if j ≤ i then ρ (i - j) else 0) * z j) else 0).natAbs < _
    split
    · refine abs_mono (isum_bits (p := A + (nb * (A + 5) + 1)) (by omega) fun j hj => ?_) (by omega)
      by_cases h : j ≤ i
      · rw [if_pos h]
        exact abs_mul (hρ _ (by omega)).2 (bz2 j)
      · rw [if_neg h, Int.zero_mul]
        exact abs_zero
    · exact abs_zero
  · show b i * (z 0 : Rat) = 1 * ((if i < nb + 1 then z i else 0 : Int) : Rat)
    have := qj i
    by_cases h : i < nb + 1
    · rw [if_pos h]
      have h2 : qs i = (z i : Rat) := if_pos h
      rw [h2] at this
      rw [q00]
      grind
    · rw [if_neg h, lb.1 i (by omega)]
      push_cast
      grind
  · show (if i < nb + 1 then z i else 0).natAbs < _
    split
    · exact abs_mono (bz2 i) (by omega)
    · exact abs_zero
end FQ
end
section
set_option Elab.async false
namespace FQ
/-! ### what the chain tells -/
theorem lt_trn' (n : Nat) (f : Nat → Rat) : Lt (trn n f) n := fun i hi => by
  show (if i < n then f i else 0) = 0
  rw [if_neg (by omega)]
theorem mul_trn (C : Ser) (r : Nat → Rat) (N i : Nat) (hi : i < N) : (C * trn N r) i = (C * (⟨r⟩ : Ser)) i := by
  rw [Ser.mul_co, Ser.mul_co]
  refine sumTo_congr fun j hj => ?_
  have : trn N r (i - j) = (⟨r⟩ : Ser) (i - j) := by
    show (if i - j < N then r (i - j) else 0) = r (i - j)
    rw [if_pos (by omega)]
  rw [this]
/-- the top of a pair that keeps a row -/
def topOf (R C : Ser) (n : Nat) : Ser := trn n (C * R).co
theorem topOf_mod {R C : Ser} {m k n : Nat} (h : Keeps R m k C n) : Mod (m + k) (C * R) (topOf R C (n + m)) := fun i hi => by
  show (C * R) i = if i < n + m then (C * R) i else 0
  by_cases e : i < n + m
  · rw [if_pos e]
  · rw [if_neg e]
    exact h i (by omega) hi
/-- a factor h of a pair: what is left keeps the row, too, and is shorter -/
theorem factor_keeps {R p q a b h : Ser} {N : Nat} (e1 : p = h * a) (e2 : q = h * b) (h0 : h 0 ≠ 0) (m : Mod N (q * R) p) : Mod N (b * R) a := by
  have l : Low (h * (b * R - a)) N := fun i hi => by
    have : h * (b * R - a) = q * R - p := by rw [e1, e2]; grind
    rw [this, Ser.sub_co, m i hi]
    grind
  intro i hi
  have := Low.unit h0 l i hi
  rw [Ser.sub_co] at this
  grind
theorem len_factor {p h a : Ser} {nh n : Nat} (e : p = h * a) (lh : IsLen h (nh + 1)) (pa : Poly a) (lp : Lt p n) : Lt a (n - nh) := by
  obtain ⟨na, la⟩ := pa.len
  cases na with
  | zero => exact la.1.mono (Nat.zero_le _)
  | succ na =>
    have l := lh.mul la
    rw [← e] at l
    have := l.le lp
    exact la.1.mono (by omega)
theorem told_quo {R : Ser} {m : Nat} {st : ChS} (h : BM R m st) : Quo (topOf R st.C (st.L + m)) st.C := by
  have tm := topOf_mod h.ag
  have pC : Poly st.C := ⟨_, h.lC⟩
  have pT : Poly (topOf R st.C (st.L + m)) := ⟨_, lt_trn' _ _⟩
  have C0 : st.C ≠ 0 := fun e => by
    have := h.c0
    rw [e, Ser.zero_co] at this
    exact absurd this (by decide)
  obtain ⟨a, b, f, q, pf, f0, e1, e2⟩ := canon pT pC C0 fun j hj => by
    have : j = 0 := Nat.le_zero.mp (Nat.le_of_not_lt fun z => by
      have := hj 0 z
      rw [h.c0] at this
      exact absurd this (by decide))
    subst this
    exact fun i hi => absurd hi (Nat.not_lt_zero _)
  have f00 : f 0 = 1 := by
    have := congrArg (fun s : Ser => s 0) e2
    have h2 : st.C 0 = (f * b) 0 := this
    rw [co_zero_mul, h.c0, q.b0] at h2
    grind
  obtain ⟨nf, lf⟩ := pf.len
  have nf1 := lf.pos f0
  obtain ⟨nf, rfl⟩ : ∃ k, nf = k + 1 := ⟨nf - 1, by omega⟩
  have lb := len_factor e2 lf q.pb h.lC
  have la := len_factor e1 lf q.pa (lt_trn' _ _)
  have hb := factor_keeps e1 e2 (by rw [f00]; decide) tm
  have nfL : nf ≤ st.L := by
    obtain ⟨nb, lb'⟩ := q.pb.len
    have nb1 := lb'.pos q.b_ne
    obtain ⟨nb, rfl⟩ : ∃ k, nb = k + 1 := ⟨nb - 1, by omega⟩
    have l := lf.mul lb'
    rw [← e2] at l
    have := l.le h.lC
    omega
  have := h.least b (st.L - nf) (by rw [q.b0]; decide) (lb.mono (by omega)) fun i h1 h2 => by
    rw [hb i h2]
    exact la i (by omega)
  have nf0 : nf = 0 := by omega
  subst nf0
  have ef : f = 1 := Ser.ext fun i => by
    rw [Ser.one_co]
    by_cases hi : i = 0
    · rw [hi, if_pos rfl, f00]
    · rw [if_neg hi]
      exact lf.1 i (by omega)
  rw [ef] at e1 e2
  have x1 : (1 : Ser) * a = a := by grind
  have x2 : (1 : Ser) * b = b := by grind
  rw [e1, e2, x1, x2]
  exact q
/-- told: what is met is small -/
theorem grown_ok {r : Nat → Rat} {m A N u v : Nat} {D : Int} {ρ : Nat → Int} {st : ChS} (h : BM ⟨r⟩ m st) (hs : ChSz A D st u v) (hk : N = m + st.k) (h2 : 2 * st.L + m ≤ N) (hN : N ≤ 30) (hD : D ≠ 0) (hd : D.natAbs < 2 ^ A)
    (hρ : ∀ i, i < N → r i * (D : Rat) = (ρ i : Rat) ∧ (ρ i).natAbs < 2 ^ A) (hu : u + A + 20 ≤ BB)
    (hb : ∀ na nb, na + nb ≤ N → na ≤ st.L + m → nb ≤ st.L → nb + 1 ≤ 15 ∧ (nb * (A + 5) + A + 6 + (na + 1 - (nb + 1)) * (nb * (A + 5) + A + 6 + 1) + (nb * (A + 5) + A + 6) + 1) * 3 ^ nb + 3000 ≤ BB) :
    GrownOK st.C st.nC (st.L + m) N r (topOf ⟨r⟩ st.C (st.L + m)) st.C := by
  have q := told_quo h
  have tm := topOf_mod h.ag
  rw [← hk] at tm
  have hlk := h.lk
  obtain ⟨na, hna, la⟩ := len_of (lt_trn' (st.L + m) (st.C * (⟨r⟩ : Ser)).co)
  obtain ⟨nb, hnb, lb⟩ := len_of h.lC
  have nb1 := lb.pos q.b_ne
  obtain ⟨nb, rfl⟩ : ∃ k, nb = k + 1 := ⟨nb - 1, by omega⟩
  obtain ⟨n15, big⟩ := hb na nb (by omega) hna (by omega)
  obtain ⟨sa, sb⟩ := quo_small (N := N) q la.1 lb (tm.mono (by omega)) hD hd hρ (by omega) n15
  obtain ⟨c, c0, ec, bc⟩ := hs.c
  have nC := h.nC
  have eT : trn (st.L + m) (st.C * trn N r).co = topOf ⟨r⟩ st.C (st.L + m) := Ser.ext fun i => by
    show (if i < st.L + m then (st.C * trn N r) i else 0) = if i < st.L + m then (st.C * (⟨r⟩ : Ser)) i else 0
    by_cases e : i < st.L + m
    · rw [if_pos e, if_pos e, mul_trn _ _ _ _ (by omega)]
    · rw [if_neg e, if_neg e]
  have one : Sz 1 1 := ⟨1, 1, by decide, by grind, by decide, by decide⟩
  have tr : ∀ j, ∃ z : Int, trn N r j * (D : Rat) = (z : Rat) ∧ z.natAbs < 2 ^ A := fun j => by
    show ∃ z : Int, (if j < N then r j else 0) * (D : Rat) = (z : Rat) ∧ z.natAbs < 2 ^ A
    by_cases e : j < N
    · rw [if_pos e]
      exact ⟨ρ j, hρ j e⟩
    · rw [if_neg e]
      exact ⟨0, by push_cast; grind, abs_zero⟩
  have cD : c 0 * D ≠ 0 := Int.mul_ne_zero c0 hD
  have bcD : (c 0 * D).natAbs < 2 ^ (u + A) := abs_mul (bc 0) hd
  have prd : ∀ i j, ∃ z : Int, st.C i * trn N r j * ((c 0 * D : Int) : Rat) = (z : Rat) ∧ z.natAbs < 2 ^ (u + A) := fun i j => by
    obtain ⟨z, ez, bz⟩ := tr j
    refine ⟨c i * z, ?_, abs_mul (bc i) bz⟩
    push_cast
    have e1 := ec i
    have : st.C i * trn N r j * ((c 0 : Rat) * (D : Rat)) = (st.C i * (c 0 : Rat)) * (trn N r j * (D : Rat)) := by grind
    rw [this, e1, ez]
  refine ⟨h.lCn, by omega, by omega, ⟨fun i => Sz.fit ⟨c i, c 0, c0, ec i, bc i, bc 0⟩ (by omega), fun j => ?_, fun i j => ?_, fun i k => ?_⟩, ?_⟩
  · obtain ⟨z, ez, bz⟩ := tr j
    exact Sz.fit ⟨z, D, hD, ez, bz, hd⟩ (by omega)
  · obtain ⟨z, ez, bz⟩ := prd i j
    exact Sz.fit ⟨z, _, cD, ez, bz, bcD⟩ (by omega)
  · -- a partial sum: C has at most st.nC <= 31 numbers
    have e : mpart st.C (trn N r) i k = sumTo (min (min i (k + 1)) st.nC) fun a => st.C a * trn N r (k - a) := by
      unfold mpart
      exact sumTo_ext (Nat.min_le_left _ _) fun j h1 h2 => by rw [h.lCn j (by omega)]; grind
    rw [e]
    have ch : ∃ zf : Nat → Int, ∀ a, st.C a * trn N r (k - a) * ((c 0 * D : Int) : Rat) = (zf a : Rat) ∧ (zf a).natAbs < 2 ^ (u + A) := ⟨fun a => (prd a (k - a)).choose, fun a => (prd a (k - a)).choose_spec⟩
    obtain ⟨zf, hz⟩ := ch
    have hsum := sumTo_int (D := ((c 0 * D : Int) : Rat)) (z := zf) (min (min i (k + 1)) st.nC) fun a _ => (hz a).1
    exact Sz.fit ⟨_, _, cD, hsum, isum_bits (by omega) fun a _ => (hz a).2, abs_mono bcD (by omega)⟩ (show u + A + 5 ≤ BB by omega)
  · rw [eT]
    refine quoOK_of (c := 1) (j := 0) (w := 1) (by decide) one q sa sb la lb ?_ ?_ (by omega) ?_ (by omega)
    · rw [show Ser.X 0 = 1 from rfl]
      have : Ser.C 1 = (1 : Ser) := rfl
      rw [this]
      grind
    · rw [show Ser.X 0 = 1 from rfl]
      have : Ser.C 1 = (1 : Ser) := rfl
      rw [this]
      grind
    · have p3 : 1 ≤ 3 ^ nb := Nat.one_le_pow _ _ (by decide)
      have := Nat.le_mul_of_pos_right (nb * (A + 5) + A + 6 + (na + 1 - (nb + 1)) * (nb * (A + 5) + A + 6 + 1) + (nb * (A + 5) + A + 6) + 1) p3
      omega
end FQ
end
section
set_option Elab.async false
namespace FQ
/-! ### the chain's sizes, place by place -/
def fb (A : Nat) : Nat → Nat × Nat
  | 0 => (1, 1)
  | K + 1 => ((fb A K).1 + (fb A K).2 + A + 7, (fb A K).1)
theorem fb_mono (A : Nat) : ∀ K, (fb A K).1 ≤ (fb A (K + 1)).1 ∧ (fb A K).2 ≤ (fb A (K + 1)).2 ∧ (fb A K).2 ≤ (fb A K).1
  | 0 => ⟨by show 1 ≤ 1 + 1 + A + 7; omega, by show 1 ≤ 1; omega, by show 1 ≤ 1; omega⟩
  | K + 1 => by
    obtain ⟨h1, h2, h3⟩ := fb_mono A K
    refine ⟨?_, h1, ?_⟩
    · show (fb A (K + 1)).1 ≤ (fb A (K + 1)).1 + (fb A (K + 1)).2 + A + 7
      omega
    · show (fb A K).1 ≤ (fb A K).1 + (fb A K).2 + A + 7
      omega
theorem fb_le (A : Nat) {K K' : Nat} (h : K ≤ K') : (fb A K).1 ≤ (fb A K').1 := by
  induction h with
  | refl => exact Nat.le_refl _
  | step _ ih => exact Nat.le_trans ih (fb_mono A _).1
theorem gs_sz {off : Int} {r : Nat → Rat} {m A many : Nat} {D : Int} {ρ : Nat → Int} (hm : off + 1 = (m : Int)) (hD : D ≠ 0) (hd : D.natAbs < 2 ^ A) (hρ : ∀ i, i < many → r i * (D : Rat) = (ρ i : Rat) ∧ (ρ i).natAbs < 2 ^ A)
    (h30 : many ≤ 30) (hb : 2 * (fb A many).1 + A + 20 ≤ BB) : ∀ k, k ≤ many → ChSz A D (gs off r k).ch (fb A (k - m)).1 (fb A (k - m)).2 ∧ (k < many → ((k + 1 : Nat) : Int) > off + 1 → PutOK (gs off r k).ch (r k) ∧ (gs off r k).ch.k ≤ k)
  | 0, _ => by
    have z : (0 : Nat) - m = 0 := Nat.zero_sub m
    refine ⟨by rw [z]; exact chsz_start A D hd, fun h1 h2 => ?_⟩
    obtain ⟨bm, hk⟩ := gs_bm (r := r) hm 0
    have e : m + (gs off r 0).ch.k = 0 := by omega
    have := put_ok (x := r 0) (xz := ρ 0) bm (chsz_start A D hd) hD hd (hρ 0 h1).1 (hρ 0 h1).2 (by omega) (by have := fb_le A (Nat.zero_le many); have : (fb A 0).1 = 1 := rfl; omega) (by rw [e])
    exact ⟨this.1, by omega⟩
  | k + 1, hk1 => by
    obtain ⟨cs, put⟩ := gs_sz hm hD hd hρ h30 hb k (by omega)
    obtain ⟨bm, hk⟩ := gs_bm (r := r) hm k
    have next : ChSz A D (gs off r (k + 1)).ch (fb A (k + 1 - m)).1 (fb A (k + 1 - m)).2 := by
      rw [gs_ch]
      by_cases c : ((k + 1 : Nat) : Int) > off + 1
      · rw [if_pos c]
        have e : m + (gs off r k).ch.k = k := by omega
        have e2 : k + 1 - m = (k - m) + 1 := by omega
        rw [e2]
        have l1 := fb_le A (show k - m ≤ many by omega)
        have l2 := (fb_mono A (k - m)).2.2
        exact (put_ok (x := r k) (xz := ρ k) bm cs hD hd (hρ k (by omega)).1 (hρ k (by omega)).2 (by omega) (by omega) (by rw [e])).2
      · rw [if_neg c]
        have e2 : k + 1 - m = k - m := by omega
        rw [e2]
        exact cs
    refine ⟨next, fun h1 h2 => ?_⟩
    obtain ⟨bm2, hk2⟩ := gs_bm (r := r) hm (k + 1)
    have e : m + (gs off r (k + 1)).ch.k = k + 1 := by omega
    have l1 := fb_le A (show k + 1 - m ≤ many by omega)
    have l2 := (fb_mono A (k + 1 - m)).2.2
    exact ⟨(put_ok (x := r (k + 1)) (xz := ρ (k + 1)) bm2 next hD hd (hρ (k + 1) h1).1 (hρ (k + 1) h1).2 (by omega) (by omega) (by rw [e])).1, by omega⟩
theorem fb_64 : (fb 64 18).1 ≤ 600000 := by decide +kernel
theorem fb_600 : (fb 600 6).1 ≤ 600000 := by decide +kernel
end FQ
end
section
set_option Elab.async false
namespace FQ
/-! ### parting with the other column -/
def rst2 (f g ta t : Ser) (ng many : Nat) : Nat → Ser
  | 0 => ta
  | s + 1 => rst2 f g ta t ng many s - Ser.C (shr f g ng many s) * (Ser.X (many - 1 - s) * t)
theorem rst2_sum (f g ta t : Ser) (ng many : Nat) : ∀ s, s ≤ many → rst2 f g ta t ng many s = ta - qpart f g ng many s * t
  | 0, _ => by
    have e : qpart f g ng many 0 = 0 := Ser.ext fun p => by
      show (if p < many ∧ many - 0 ≤ p then _ else (0 : Rat)) = _
      rw [if_neg (by omega), Ser.zero_co]
    rw [e]
    show ta = _
    grind
  | s + 1, h => by
    have e : qpart f g ng many (s + 1) = qpart f g ng many s + Ser.C (shr f g ng many s) * Ser.X (many - 1 - s) := Ser.ext fun p => by
      rw [Ser.add_co, Ser.Cmul_co, Ser.X_co]
      show (if p < many ∧ many - (s + 1) ≤ p then shr f g ng many (many - 1 - p) else (0 : Rat)) = (if p < many ∧ many - s ≤ p then shr f g ng many (many - 1 - p) else (0 : Rat)) + _
      by_cases e1 : p = many - 1 - s
      · subst e1
        rw [if_pos (by omega), if_neg (by omega), if_pos rfl, show many - 1 - (many - 1 - s) = s by omega]
        grind
      · by_cases e2 : p < many ∧ many - s ≤ p
        · rw [if_pos e2, if_pos (by omega), if_neg e1]
          grind
        · rw [if_neg e2, if_neg (by omega), if_neg e1]
          grind
    have ih := rst2_sum f g ta t ng many s (by omega)
    rw [e]
    show rst2 f g ta t ng many s - Ser.C (shr f g ng many s) * (Ser.X (many - 1 - s) * t) = _
    rw [ih]
    grind
theorem rst2_eq (f g ta t : Ser) (ng many : Nat) : rst2 f g ta t ng many many = ta - quo f g ng many * t := by
  have e : quo f g ng many = qpart f g ng many many := Ser.ext fun p => by
    show (if p < many then shr f g ng many (many - 1 - p) else (0 : Rat)) = (if p < many ∧ many - many ≤ p then _ else (0 : Rat))
    by_cases h : p < many
    · rw [if_pos h, if_pos ⟨h, by omega⟩]
    · rw [if_neg h, if_neg (fun z => h z.1)]
  rw [e]
  exact rst2_sum f g ta t ng many many (Nat.le_refl _)
/-- s steps of both columns over one whole number -/
theorem rst2_sv {f g ta t : Ser} {hf hg ng many : Nat} {φ γ χ θ : Nat → Int} {σ τ : Int} (hσ : σ ≠ 0) (hτ : τ ≠ 0) (ef : ∀ i, f i * (σ : Rat) = (φ i : Rat)) (eg : ∀ i, g i * (τ : Rat) = (γ i : Rat))
    (ea : ∀ i, ta i * (σ : Rat) = (χ i : Rat)) (et : ∀ i, t i * (τ : Rat) = (θ i : Rat)) (bf : ∀ i, (φ i).natAbs < 2 ^ hf) (bg : ∀ i, (γ i).natAbs < 2 ^ hg) (ba : ∀ i, (χ i).natAbs < 2 ^ hf) (bt : ∀ i, (θ i).natAbs < 2 ^ hg) (gl : γ ng ≠ 0) :
    ∀ s, ∃ ψ ω : Nat → Int, (∀ i, rst f g (ng + 1) many s i * ((σ * γ ng ^ s : Int) : Rat) = (ψ i : Rat)) ∧ (∀ i, (ψ i).natAbs < 2 ^ (hf + s * (hg + 1))) ∧
      (∀ i, rst2 f g ta t (ng + 1) many s i * ((σ * γ ng ^ s : Int) : Rat) = (ω i : Rat)) ∧ ∀ i, (ω i).natAbs < 2 ^ (hf + s * (hg + 1))
  | 0 => ⟨φ, χ, fun i => by
      show f i * ((σ * γ ng ^ 0 : Int) : Rat) = _
      rw [Int.pow_zero, Int.mul_one]
      exact ef i, fun i => abs_mono (bf i) (by omega), fun i => by
      show ta i * ((σ * γ ng ^ 0 : Int) : Rat) = _
      rw [Int.pow_zero, Int.mul_one]
      exact ea i, fun i => abs_mono (ba i) (by omega)⟩
  | s + 1 => by
    obtain ⟨ψ, ω, e, b, e', b'⟩ := rst2_sv (many := many) hσ hτ ef eg ea et bf bg ba bt gl s
    have step : ∀ (F y : Ser) (u v : Nat → Int), (∀ i, F i * ((σ * γ ng ^ s : Int) : Rat) = (u i : Rat)) → (∀ i, y i * (τ : Rat) = (v i : Rat)) → ∀ i, (F - Ser.C (shr f g (ng + 1) many s) * (Ser.X (many - 1 - s) * y)) i * ((σ * γ ng ^ (s + 1) : Int) : Rat) =
        ((γ ng * u i - ψ (many - 1 - s + (ng + 1) - 1) * (if many - 1 - s ≤ i then v (i - (many - 1 - s)) else 0) : Int) : Rat) := fun F y u v eF ey i => by
      have el := e (many - 1 - s + (ng + 1) - 1)
      have ei := eF i
      have gn := eg ng
      have n1 := icast_ne hσ
      have n2 := icast_ne hτ
      have n3 := icast_ne gl
      have gne : g ng ≠ 0 := fun z => by
        rw [z] at gn
        grind
      unfold shr
      rw [Ser.sub_co, Ser.Cmul_co, Ser.Xmul_co, Nat.add_sub_cancel]
      rw [Int.pow_succ]
      push_cast
      push_cast at el ei
      generalize rst f g (ng + 1) many s (many - 1 - s + (ng + 1) - 1) = R at *
      generalize (ψ (many - 1 - s + (ng + 1) - 1) : Rat) = P at *
      generalize ((γ ng : Int) : Rat) ^ s = G at *
      generalize ((γ ng : Int) : Rat) = cn at *
      generalize g ng = gnn at *
      by_cases hi : many - 1 - s ≤ i
      · rw [if_pos hi, if_pos hi]
        have ej := ey (i - (many - 1 - s))
        generalize y (i - (many - 1 - s)) = yj at *
        generalize (v (i - (many - 1 - s)) : Rat) = vj at *
        have h1 : yj * cn = gnn * vj := by
          have : (τ : Rat) * (yj * cn - gnn * vj) = 0 := by grind
          grind
        have h2 : R / gnn * yj * cn = R * vj := by
          have : R / gnn * yj * cn = R / gnn * (gnn * vj) := by rw [← h1]; grind
          rw [this]
          grind
        have h3 : (F i - R / gnn * yj) * ((σ : Rat) * (G * cn)) = (F i * ((σ : Rat) * G)) * cn - (R / gnn * yj * cn) * ((σ : Rat) * G) := by grind
        rw [h3, h2, ei]
        have h4 : R * vj * ((σ : Rat) * G) = (R * ((σ : Rat) * G)) * vj := by grind
        rw [h4, el]
        grind
      · rw [if_neg hi, if_neg hi]
        push_cast
        grind
    have bits : ∀ (u v : Nat → Int), (∀ i, (u i).natAbs < 2 ^ (hf + s * (hg + 1))) → (∀ i, (v i).natAbs < 2 ^ hg) → ∀ i, (γ ng * u i - ψ (many - 1 - s + (ng + 1) - 1) * (if many - 1 - s ≤ i then v (i - (many - 1 - s)) else 0)).natAbs < 2 ^ (hf + (s + 1) * (hg + 1)) := fun u v bu bv i => by
      refine abs_mono (abs_sub (p := hf + s * (hg + 1) + hg) ?_ ?_) (by rw [Nat.succ_mul]; omega)
      · rw [Int.mul_comm]
        exact abs_mul (bu i) (bg ng)
      · split
        · exact abs_mul (b _) (bv _)
        · rw [Int.mul_zero]
          exact abs_zero
    exact ⟨_, _, step _ g ψ γ e eg, bits ψ γ b bg, step _ t ω θ e' et, bits ω θ b' bt⟩
end FQ
end
section
set_option Elab.async false
namespace FQ
/-- two columns over one whole number -/
structure PV (f t : Ser) (h : Nat) : Prop where
  ex : ∃ (φ θ : Nat → Int) (σ : Int), σ ≠ 0 ∧ (∀ i, f i * (σ : Rat) = (φ i : Rat)) ∧ (∀ i, t i * (σ : Rat) = (θ i : Rat)) ∧ (∀ i, (φ i).natAbs < 2 ^ h) ∧ (∀ i, (θ i).natAbs < 2 ^ h) ∧ σ.natAbs < 2 ^ h
theorem PV.l {f t : Ser} {h : Nat} (p : PV f t h) : SV 1 f h := by
  obtain ⟨φ, θ, σ, h1, h2, h3, h4, h5, h6⟩ := p.ex
  exact ⟨φ, σ, h1, fun i => by rw [h2 i]; grind, h4, h6⟩
theorem PV.r {f t : Ser} {h : Nat} (p : PV f t h) : SV 1 t h := by
  obtain ⟨φ, θ, σ, h1, h2, h3, h4, h5, h6⟩ := p.ex
  exact ⟨θ, σ, h1, fun i => by rw [h3 i]; grind, h5, h6⟩
theorem pv_step {ra ta r t : Ser} {x y nr many : Nat} (p : PV ra ta x) (q : PV r t y) (gl : r nr ≠ 0) :
    PV (rem ra r (nr + 1) many) (ta - quo ra r (nr + 1) many * t) (x + many * (y + 1)) := by
  obtain ⟨φ, χ, σ, hσ, ef, ea, bf, ba, bσ⟩ := p.ex
  obtain ⟨γ, θ, τ, hτ, eg, et, bg, bt, bτ⟩ := q.ex
  have n2 := icast_ne hτ
  have cl : γ nr ≠ 0 := fun z => gl (by
    have e := eg nr
    rw [z] at e
    push_cast at e
    grind)
  obtain ⟨ψ, ω, e, b, e', b'⟩ := rst2_sv (many := many) hσ hτ ef eg ea et bf bg ba bt cl many
  have bp2 : ∀ t, (σ * γ nr ^ t).natAbs < 2 ^ (x + t * (y + 1)) := fun t => by
    induction t with
    | zero => rw [Int.pow_zero, Int.mul_one, Nat.zero_mul]; exact bσ
    | succ t ih =>
      rw [Int.pow_succ, ← Int.mul_assoc]
      exact abs_mono (abs_mul ih (bg nr)) (by rw [Nat.succ_mul]; omega)
  refine ⟨ψ, ω, σ * γ nr ^ many, Int.mul_ne_zero hσ (Int.pow_ne_zero cl), e, fun i => ?_, b, b', bp2 many⟩
  rw [← rst2_eq ra r ta t (nr + 1) many]
  exact e' i
end FQ
end
section
set_option Elab.async false
namespace FQ
theorem one_sz : Sz 1 1 := ⟨1, 1, by decide, by grind, by decide, by decide⟩
/-- the quotient of a parting over one whole number -/
theorem quo_sv {f g : Ser} {hf hg ng many : Nat} (sf : SV 1 f hf) (sg : SV 1 g hg) (gl : g ng ≠ 0) : SV 1 (quo f g (ng + 1) many) (hf + many * (hg + 1)) := by
  obtain ⟨φ, σ, hσ, ef, bf, bσ⟩ := sf.ex
  obtain ⟨γ, τ, hτ, eg, bg, bτ⟩ := sg.ex
  have n2 := icast_ne hτ
  have cl : γ ng ≠ 0 := fun z => gl (by
    have e := eg ng
    rw [z] at e
    push_cast at e
    grind)
  have key := rst_sv (many := many) (by decide : (1 : Rat) ≠ 0) hσ hτ ef eg bf bg cl
  have ch : ∃ Ψ : Nat → Nat → Int, ∀ t, (∀ i, rst f g (ng + 1) many t i * ((σ * γ ng ^ t : Int) : Rat) = 1 * (Ψ t i : Rat)) ∧ ∀ i, (Ψ t i).natAbs < 2 ^ (hf + t * (hg + 1)) := ⟨fun t => (key t).choose, fun t => (key t).choose_spec⟩
  obtain ⟨Ψ, hΨ⟩ := ch
  have bp2 : ∀ t, (σ * γ ng ^ t).natAbs < 2 ^ (hf + t * (hg + 1)) := fun t => by
    induction t with
    | zero => rw [Int.pow_zero, Int.mul_one, Nat.zero_mul]; exact bσ
    | succ t ih =>
      rw [Int.pow_succ, ← Int.mul_assoc]
      exact abs_mono (abs_mul ih (bg ng)) (by rw [Nat.succ_mul]; omega)
  refine ⟨fun p => if p < many then Ψ (many - 1 - p) (p + ng) * τ * γ ng ^ p else 0, σ * γ ng ^ many, Int.mul_ne_zero hσ (Int.pow_ne_zero cl), fun p => ?_, fun p => ?_, bp2 many⟩
  · show (if p < many then shr f g (ng + 1) many (many - 1 - p) else 0) * _ = 1 * ((if p < many then Ψ (many - 1 - p) (p + ng) * τ * γ ng ^ p else 0 : Int) : Rat)
    by_cases hp : p < many
    · rw [if_pos hp, if_pos hp]
      have e1 := (hΨ (many - 1 - p)).1 (p + ng)
      have e2 := eg ng
      unfold shr
      rw [show many - 1 - (many - 1 - p) + (ng + 1) - 1 = p + ng by omega, Nat.add_sub_cancel]
      have e3 : γ ng ^ many = γ ng ^ (many - 1 - p) * (γ ng * γ ng ^ p) := by
        rw [← Int.pow_succ', ← Int.pow_add]
        congr 1
        omega
      rw [e3]
      push_cast
      push_cast at e1
      generalize rst f g (ng + 1) many (many - 1 - p) (p + ng) = R at *
      generalize (Ψ (many - 1 - p) (p + ng) : Rat) = P at *
      generalize ((γ ng : Int) : Rat) ^ (many - 1 - p) = G at *
      generalize ((γ ng : Int) : Rat) ^ p = G2 at *
      generalize ((γ ng : Int) : Rat) = cn at *
      generalize g ng = gnn at *
      have h0 : R / gnn * ((σ : Rat) * (G * (cn * G2))) = (R * ((σ : Rat) * G)) * (cn / gnn) * G2 := by grind
      rw [h0, e1]
      have h1 : cn / gnn = (τ : Rat) := by grind
      rw [h1]
      grind
    · rw [if_neg hp, if_neg hp]
      push_cast
      grind
  · show (if p < many then Ψ (many - 1 - p) (p + ng) * τ * γ ng ^ p else 0).natAbs < _
    by_cases hp : p < many
    · rw [if_pos hp]
      obtain ⟨q, hq⟩ : ∃ q, many = q + p + 1 := ⟨many - 1 - p, by omega⟩
      have hq2 : many - 1 - p = q := by omega
      have b1 := (hΨ (many - 1 - p)).2 (p + ng)
      rw [hq2] at b1 ⊢
      rw [hq]
      refine abs_mono (abs_mul (abs_mul b1 bτ) (abs_pow (bg ng) cl p)) ?_
      have : (q + p + 1) * (hg + 1) = q * (hg + 1) + p * hg + p + hg + 1 := by
        rw [Nat.add_mul, Nat.add_mul, Nat.mul_succ p hg]
        omega
      omega
    · rw [if_neg hp]
      exact abs_zero
theorem mul_ok {f g : Ser} {x y n : Nat} (sf : SV 1 f x) (sg : SV 1 g y) (lf : Lt f n) (hn : n ≤ 32) (hb : x + y + 10 ≤ BB) : MulOK f g ∧ SV 1 (f * g) (x + y + 5) := by
  have ff := sf.fitP one_sz (by omega)
  have fg := sg.fitP one_sz (by omega)
  obtain ⟨φ, σ, hσ, ef, bf, bσ⟩ := sf.ex
  obtain ⟨γ, τ, hτ, eg, bg, bτ⟩ := sg.ex
  have nz : σ * τ ≠ 0 := Int.mul_ne_zero hσ hτ
  have bd : (σ * τ).natAbs < 2 ^ (x + y) := abs_mul bσ bτ
  have pr : ∀ i j, f i * g j * ((σ * τ : Int) : Rat) = ((φ i * γ j : Int) : Rat) := fun i j => by
    have e1 := ef i
    have e2 := eg j
    push_cast
    have : f i * g j * ((σ : Rat) * (τ : Rat)) = (f i * (σ : Rat)) * (g j * (τ : Rat)) := by grind
    rw [this, e1, e2]
    grind
  have pb : ∀ i j, (φ i * γ j).natAbs < 2 ^ (x + y) := fun i j => abs_mul (bf i) (bg j)
  have part : ∀ i k, mpart f g i k * ((σ * τ : Int) : Rat) = ((isum (min (min i (k + 1)) n) (fun a => φ a * γ (k - a)) : Int) : Rat) := fun i k => by
    have e : mpart f g i k = sumTo (min (min i (k + 1)) n) fun a => f a * g (k - a) := by
      unfold mpart
      exact sumTo_ext (Nat.min_le_left _ _) fun j h1 h2 => by rw [lf j (by omega)]; grind
    rw [e]
    exact sumTo_int _ fun a _ => pr a (k - a)
  have pbits : ∀ i k, (isum (min (min i (k + 1)) n) (fun a => φ a * γ (k - a))).natAbs < 2 ^ (x + y + 5) := fun i k => isum_bits (by omega) fun a _ => pb a (k - a)
  refine ⟨⟨ff, fg, fun i j => Sz.fit ⟨_, _, nz, pr i j, pb i j, bd⟩ (by omega), fun i k => Sz.fit ⟨_, _, nz, part i k, pbits i k, abs_mono bd (by omega)⟩ (show x + y + 5 ≤ BB by omega)⟩, ?_⟩
  refine ⟨fun k => isum (min (min (k + 1) (k + 1)) n) (fun a => φ a * γ (k - a)), σ * τ, nz, fun k => ?_, fun k => pbits (k + 1) k, abs_mono bd (by omega)⟩
  have e := part (k + 1) k
  have e2 : (f * g) k = mpart f g (k + 1) k := by
    unfold mpart
    rw [Nat.min_self]
    rfl
  rw [e2, e]
  grind
/-! ### parting step by step -/
structure PS (R : Ser) (N : Nat) (ra ta r t : Ser) (na nt x y : Nat) : Prop where
  det : ∃ s : Rat, s ≠ 0 ∧ ra * t - r * ta = Ser.C s * Ser.X N
  aa : Mod N (ta * R) ra
  ar : Mod N (t * R) r
  la : IsLen ra na
  lt : IsLen t (nt + 1)
  lta : Lt ta (nt + 1)
  deg : na + nt = N + 1
  lr : Lt r (na - 1)
  pa : PV ra ta x
  pr : PV r t y
theorem par_ex {R : Ser} {m n N M : Nat} (hN : N = m + n + 1) (hN2 : N ≤ 30) (hM : 4 * M + 100 ≤ BB) : ∀ (na : Nat) (ra ta r t : Ser) (nt x y W : Nat), PS R N ra ta r t na nt x y → m + 2 ≤ na → x + 1 ≤ W → y + 1 ≤ W → W * 3 ^ (n - nt) ≤ M →
    ∃ r' t' : Ser, Par m ra ta r t r' t' ∧ Mod N (t' * R) r' ∧ Lt r' (m + 1) ∧ Lt t' (n + 1) ∧ t' ≠ 0 ∧ (∃ (A B : Ser) (s : Rat), Poly A ∧ Poly B ∧ s ≠ 0 ∧ A * t' - r' * B = Ser.C s * Ser.X N) ∧ ∃ z, PV r' t' z ∧ z ≤ M := by
  intro na
  induction na using Nat.strongRecOn with
  | ind na ih =>
    intro ra ta r t nt x y W h hm hx hy hW
    have hdeg := h.deg
    have p3 : 1 ≤ 3 ^ (n - nt) := Nat.one_le_pow _ _ (by decide)
    have hWM : W ≤ M := Nat.le_trans (Nat.le_mul_of_pos_right W p3) hW
    by_cases hs : Lt r (m + 1)
    · obtain ⟨s, s0, e⟩ := h.det
      exact ⟨r, t, Par.stop hs, h.ar, hs, h.lt.1.mono (by omega), h.lt.ne_zero, ⟨ra, ta, s, h.la.poly, ⟨_, h.lta⟩, s0, e⟩, y, h.pr, by omega⟩
    · obtain ⟨nr, hnr, lr⟩ := len_of h.lr
      have nr1 : m + 1 < nr := Nat.lt_of_not_le fun z => hs (lr.1.mono (by omega))
      obtain ⟨nr, rfl⟩ : ∃ k, nr = k + 1 := ⟨nr - 1, by omega⟩
      obtain ⟨d, hd⟩ : ∃ d, na = nr + 2 + d := ⟨na - nr - 2, by omega⟩
      have hmany : na + 1 - (nr + 1) = d + 2 := by omega
      have hgl : r nr ≠ 0 := lr.last
      -- sizes
      have t3 := three_pow d
      have hS : x + (d + 2) * (y + 1) + 1 ≤ (d + 3) * W := by
        have : (d + 2) * (y + 1) ≤ (d + 2) * W := Nat.mul_le_mul_left _ hy
        have : (d + 3) * W = (d + 2) * W + W := Nat.succ_mul (d + 2) W
        omega
      have hS2 : (d + 3) * W ≤ W * 3 ^ (d + 1) := by
        rw [Nat.mul_comm]
        exact Nat.mul_le_mul_left _ t3
      have hpow : W * 3 ^ (d + 1) * 3 ^ (n - (nt + d + 1)) ≤ M := by
        have : n - nt = (d + 1) + (n - (nt + d + 1)) := by omega
        rw [this, Nat.pow_add, ← Nat.mul_assoc] at hW
        exact hW
      have p4 : 1 ≤ 3 ^ (n - (nt + d + 1)) := Nat.one_le_pow _ _ (by decide)
      have hWM2 : W * 3 ^ (d + 1) ≤ M := Nat.le_trans (Nat.le_mul_of_pos_right _ p4) hpow
      have hWW : W ≤ W * 3 ^ (d + 1) := Nat.le_mul_of_pos_right _ (Nat.one_le_pow _ _ (by decide))
      have hz : x + (d + 2) * (y + 1) + 1 ≤ M := by omega
      have pv := pv_step (many := na + 1 - (nr + 1)) h.pa h.pr hgl
      have qsv := quo_sv (many := na + 1 - (nr + 1)) h.pa.l h.pr.l hgl
      have dok := (div_ok (many := na + 1 - (nr + 1)) (by decide) one_sz h.pa.l h.pr.l hgl (by rw [hmany]; omega)).1
      have lq := lt_quo ra r (nr + 1) (na + 1 - (nr + 1))
      obtain ⟨mok, psv⟩ := mul_ok qsv h.pr.r lq (by omega) (by rw [hmany]; omega)
      have lrem := lt_rem h.la.1 lr
      have re := rem_eq ra r (nr + 1) (na + 1 - (nr + 1))
      generalize hq : quo ra r (nr + 1) (na + 1 - (nr + 1)) = q at *
      generalize hr' : rem ra r (nr + 1) (na + 1 - (nr + 1)) = r2 at *
      rw [hmany] at pv qsv psv
      obtain ⟨s, s0, e⟩ := h.det
      have e2 : r * (ta - q * t) - r2 * t = Ser.C (-s) * Ser.X N := by
        have : r * (ta - q * t) - r2 * t = - (ra * t - r * ta) := by rw [re]; grind
        rw [this, e]
        have : Ser.C (-s) = - Ser.C s := Ser.C_neg s
        rw [this]
        grind
      -- the new column's length
      have lt2 : IsLen (ta - q * t) (nt + d + 1 + 1) := by
        have pq : Poly q := ⟨_, lq⟩
        have pt : Poly (ta - q * t) := Poly.sub ⟨_, h.lta⟩ (pq.mul h.lt.poly)
        obtain ⟨k, lk⟩ := pt.len
        have e3 : r * (ta - q * t) = Ser.C (-s) * Ser.X N + r2 * t := by rw [← e2]; grind
        have lp : IsLen (r * (ta - q * t)) (N + 1) := by
          have l1 := len_CX (c := -s) (by grind) N
          have l2 : Lt (r2 * t) N := (lrem.mul h.lt.1 (c := N) (by omega))
          rw [e3]
          refine ⟨l1.1.add (l2.mono (by omega)), .inr ?_⟩
          show (Ser.C (-s) * Ser.X N + r2 * t) N ≠ 0
          rw [Ser.add_co, l2 N (Nat.le_refl _)]
          have := l1.last
          grind
        cases k with
        | zero =>
          rw [lk.eq_zero] at lp
          have : r * 0 = 0 := by grind
          rw [this] at lp
          exact absurd (lp.unique IsLen.zero) (by omega)
        | succ k =>
          have := (lr.mul lk).unique lp
          have e5 : k + 1 = nt + d + 1 + 1 := by omega
          rw [← e5]
          exact lk
      have st : PS R N r t r2 (ta - q * t) (nr + 1) (nt + d + 1) y (x + (d + 2) * (y + 1)) := by
        refine ⟨⟨-s, by grind, e2⟩, h.ar, ?_, lr, lt2, h.lt.1.mono (by omega), by omega, ?_, h.pr, pv⟩
        · have a1 : Mod N (q * (t * R)) (q * r) := h.ar.mulL q
          rw [re]
          exact (Mod.of_eq (by grind : (ta - q * t) * R = ta * R - q * (t * R))).trans (h.aa.sub a1)
        · rw [Nat.add_sub_cancel]
          exact lrem.mono (Nat.min_le_left _ _)
      obtain ⟨r', t', pp, b1, b2, b3, b4, b5, b6⟩ := ih (nr + 1) (by omega) r t r2 (ta - q * t) (nt + d + 1) y (x + (d + 2) * (y + 1)) (W * 3 ^ (d + 1)) st (by omega) (by omega) (by omega) hpow
      refine ⟨r', t', ?_, b1, b2, b3, b4, b5, b6⟩
      refine Par.step h.la lr (by omega) dok ?_ ?_ ?_ (h.la.1.mono (by omega)) (lr.1.mono (by omega)) (h.lta.mono (by omega)) (h.lt.1.mono (by omega)) ?_ ?_
      · rw [hq]; exact mok
      · exact h.pa.r.fitP one_sz (by omega)
      · rw [hq]; exact psv.fitP one_sz (by omega)
      · rw [hq]
        exact (lq.mul h.lt.1 (c := 100) (by omega)).mono (by omega)
      · rw [hq, hr']
        exact pp
end FQ
end
section
set_option Elab.async false
namespace FQ
/-- a monomial's number is one of the column's -/
theorem scale_sz {l : Rat} {j : Nat} {b t : Ser} {z : Nat} (b0 : b 0 = 1) (e : t = Ser.C l * (Ser.X j * b)) (s : SV 1 t z) : Sz l z := by
  obtain ⟨θ, σ, h1, h2, h3, h4⟩ := s.ex
  refine ⟨θ j, σ, h1, ?_, h3 j, h4⟩
  have := h2 j
  rw [e, Ser.Cmul_co, Ser.Xmul_co, if_pos (Nat.le_refl _), Nat.sub_self, b0] at this
  grind
/-- whatever pair l x^j (a, b) is -/
theorem quoOK_at {R f g a b : Ser} {l : Rat} {j A N w : Nat} {D : Int} {ρ : Nat → Int} {na nb : Nat} (q : Quo a b) (la : IsLen a na) (lb : IsLen b (nb + 1)) (hN : na + nb ≤ N) (ag : Mod (na + nb) (b * R) a) (hD : D ≠ 0) (hd : D.natAbs < 2 ^ A)
    (hρ : ∀ i, i < N → R i * (D : Rat) = (ρ i : Rat) ∧ (ρ i).natAbs < 2 ^ A) (n15 : nb + 1 ≤ 15)
    (hb : (nb * (A + 5) + A + 6 + (na + 1 - (nb + 1)) * (nb * (A + 5) + A + 6 + 1) + (nb * (A + 5) + A + 6) + 1) * 3 ^ nb + w + 3000 ≤ BB)
    (l0 : l ≠ 0) (hl : Sz l w) (ef : f = Ser.C l * (Ser.X j * a)) (eg : g = Ser.C l * (Ser.X j * b)) (hj : na + nb + j ≤ 300) : QuoOK f g a b := by
  obtain ⟨sa, sb⟩ := quo_small q la.1 lb ag hD hd hρ hN n15
  have p3 : 1 ≤ 3 ^ nb := Nat.one_le_pow _ _ (by decide)
  have := Nat.le_mul_of_pos_right (nb * (A + 5) + A + 6 + (na + 1 - (nb + 1)) * (nb * (A + 5) + A + 6 + 1) + (nb * (A + 5) + A + 6) + 1) p3
  exact quoOK_of l0 hl q sa sb la lb ef eg (by omega) (by omega) hj
theorem part_ok {r : Nat → Rat} {m n A N M na nb : Nat} {D : Int} {ρ : Nat → Int} {a b : Ser} (hN : N = m + n + 1) (hN2 : N ≤ 30) (q : Quo a b) (la : IsLen a na) (lb : IsLen b (nb + 1)) (ha : na ≤ m + 1) (hnb : nb ≤ n)
    (ag : Mod N (b * ⟨r⟩) a) (hD : D ≠ 0) (hd : D.natAbs < 2 ^ A) (hρ : ∀ i, i < N → r i * (D : Rat) = (ρ i : Rat) ∧ (ρ i).natAbs < 2 ^ A) (hM : 4 * M + 100 ≤ BB) (hA : (A + 2) * 3 ^ n ≤ M) (n15 : nb + 1 ≤ 15)
    (hb : (nb * (A + 5) + A + 6 + (na + 1 - (nb + 1)) * (nb * (A + 5) + A + 6 + 1) + (nb * (A + 5) + A + 6) + 1) * 3 ^ nb + M + 3000 ≤ BB) : PartOK r m n a b := by
  have tr : ∀ j, ∃ z : Int, trn N r j * (D : Rat) = (z : Rat) ∧ z.natAbs < 2 ^ (A + 1) := fun j => by
    show ∃ z : Int, (if j < N then r j else 0) * (D : Rat) = (z : Rat) ∧ z.natAbs < 2 ^ (A + 1)
    by_cases e : j < N
    · rw [if_pos e]
      exact ⟨ρ j, (hρ j e).1, abs_mono (hρ j e).2 (by omega)⟩
    · rw [if_neg e]
      exact ⟨0, by push_cast; grind, abs_zero⟩
  have mr : Mod N (⟨r⟩ : Ser) (trn N r) := fun i hi => by
    show r i = if i < N then r i else 0
    rw [if_pos hi]
  have start : PS (⟨r⟩ : Ser) N (Ser.X N) 0 (trn N r) 1 (N + 1) 0 1 (A + 1) := by
    refine ⟨⟨1, by decide, ?_⟩, ?_, ?_, ⟨Lt.X N, .inr ?_⟩, IsLen.one, Lt.zero _, by omega, ?_, ?_, ?_⟩
    · have : Ser.C 1 = (1 : Ser) := rfl
      rw [this]
      grind
    · refine (Mod.of_eq (by grind : (0 : Ser) * ⟨r⟩ = 0)).trans fun i hi => ?_
      rw [Ser.zero_co, Ser.X_co, if_neg (by omega)]
    · exact (Mod.of_eq (by grind : (1 : Ser) * ⟨r⟩ = ⟨r⟩)).trans mr
    · show Ser.X N N ≠ 0
      rw [Ser.X_co, if_pos rfl]
      decide
    · rw [Nat.add_sub_cancel]
      exact lt_trn' N r
    · refine ⟨fun i => if i = N then 1 else 0, fun _ => 0, 1, by decide, fun i => ?_, fun i => ?_, fun i => ?_, fun i => abs_zero, by decide⟩
      · rw [Ser.X_co]
        by_cases h : i = N
        · rw [if_pos h]
          simp only [if_pos h]
          grind
        · rw [if_neg h]
          simp only [if_neg h]
          push_cast
          grind
      · rw [Ser.zero_co]
        push_cast
        grind
      · show (if i = N then (1 : Int) else 0).natAbs < 2 ^ 1
        split <;> decide
    · refine ⟨fun i => (tr i).choose, fun i => if i = 0 then D else 0, D, hD, fun i => (tr i).choose_spec.1, fun i => ?_, fun i => (tr i).choose_spec.2, fun i => ?_, abs_mono hd (by omega)⟩
      · rw [Ser.one_co]
        by_cases h : i = 0
        · rw [if_pos h]
          simp only [if_pos h]
          grind
        · rw [if_neg h]
          simp only [if_neg h]
          push_cast
          grind
      · show (if i = 0 then D else 0).natAbs < _
        split
        · exact abs_mono hd (by omega)
        · exact abs_zero
  obtain ⟨r', t', pp, b1, b2, b3, b4, ⟨U, V, s, pU, pV, s0, e⟩, z, pz, hz⟩ := par_ex (m := m) (n := n) hN hN2 hM (N + 1) (Ser.X N) 0 (trn N r) 1 0 1 (A + 1) (A + 2) start (by omega) (by omega) (by omega) (by rw [Nat.sub_zero]; exact hA)
  have sol1 : Sol ⟨r⟩ (m + 1) (n + 1) r' t' := ⟨b2, b3, b4, b1.mono (by omega)⟩
  have sol2 : Sol ⟨r⟩ (m + 1) (n + 1) a b := ⟨la.1.mono ha, lb.1.mono (by omega), q.b_ne, ag.mono (by omega)⟩
  obtain ⟨h, ph, e1, e2⟩ := q.cop.divides ⟨_, b2⟩ ⟨_, b3⟩ (sol1.cross sol2)
  have ex : (U * b - a * V) * h = Ser.C s * Ser.X N := by rw [← e, e1, e2]; grind
  obtain ⟨l, j, l0, hj, eh⟩ := mono_factor s0 ph ((pU.mul q.pb).sub (q.pa.mul pV)) ex
  have e1' : r' = Ser.C l * (Ser.X j * a) := by rw [e1, eh]; grind
  have e2' : t' = Ser.C l * (Ser.X j * b) := by rw [e2, eh]; grind
  refine ⟨⟨r', t', ?_, quoOK_at (A := A) (N := N) (w := M) q la lb (by omega) (ag.mono (by omega)) hD hd hρ n15 hb l0 ((scale_sz q.b0 e2' pz.r).mono hz) e1' e2' (by omega)⟩, by omega, by omega⟩
  rw [← hN]
  exact pp
end FQ
end
section
set_option Elab.async false
namespace FQ
/-! ### the equations' lines: sizes and what they mean -/
/-- a line of whole numbers by a whole number -/
structure LV (l : Line) (h : Nat) : Prop where
  ex : ∃ (φ : Nat → Int) (σ : Int), σ ≠ 0 ∧ (∀ i, l i * (σ : Rat) = (φ i : Rat)) ∧ (∀ i, (φ i).natAbs < 2 ^ h) ∧ σ.natAbs < 2 ^ h
theorem LV.mono {l : Line} {a b : Nat} (s : LV l a) (h : a ≤ b) : LV l b := by
  obtain ⟨φ, σ, h1, h2, h3, h4⟩ := s.ex
  exact ⟨φ, σ, h1, h2, fun i => abs_mono (h3 i) h, abs_mono h4 h⟩
theorem LV.sz {l : Line} {h : Nat} (s : LV l h) (i : Nat) : Sz (l i) h := by
  obtain ⟨φ, σ, h1, h2, h3, h4⟩ := s.ex
  exact ⟨φ i, σ, h1, h2 i, h3 i, h4⟩
/-- a share of two numbers of a line -/
theorem LV.share {l : Line} {h : Nat} (s : LV l h) (i c : Nat) (hc : l c ≠ 0) : Sz (l i / l c) h := by
  obtain ⟨φ, σ, h1, h2, h3, h4⟩ := s.ex
  have n1 := icast_ne h1
  have e1 := h2 i
  have e2 := h2 c
  have c0 : φ c ≠ 0 := fun z => hc (by
    rw [z] at e2
    push_cast at e2
    grind)
  have n2 := icast_ne c0
  refine ⟨φ i, φ c, c0, ?_, h3 i, h3 c⟩
  generalize (φ i : Rat) = a at *
  generalize (φ c : Rat) = b at *
  generalize l i = x at *
  generalize l c = y at *
  have : x / y * b = x * (b / y) := by grind
  rw [this]
  have : b / y = (σ : Rat) := by grind
  rw [this, e1]
theorem clr_ok {wd c x y : Nat} {l p : Line} (sl : LV l x) (sp : LV p y) (hc : c < wd) (pc : p c ≠ 0) (hb : x + y + 2 ≤ BB) : ClrOK wd l p c ∧ LV (clr l p c) (x + y + 1) := by
  have fl := fun i => (sl.sz i).fit (show x ≤ BB by omega)
  have fp := fun i => (sp.sz i).fit (show y ≤ BB by omega)
  obtain ⟨φ, σ, hσ, ef, bf, bσ⟩ := sl.ex
  obtain ⟨γ, τ, hτ, eg, bg, bτ⟩ := sp.ex
  have n1 := icast_ne hσ
  have n2 := icast_ne hτ
  have c0 : γ c ≠ 0 := fun z => pc (by
    have e := eg c
    rw [z] at e
    push_cast at e
    grind)
  have n3 := icast_ne c0
  have el := ef c
  have ec := eg c
  have nz : σ * γ c ≠ 0 := Int.mul_ne_zero hσ c0
  have bd : (σ * γ c).natAbs < 2 ^ (x + y) := abs_mul bσ (bg c)
  have hsh : l c / p c * ((σ * γ c : Int) : Rat) = ((φ c * τ : Int) : Rat) := by
    push_cast
    generalize (φ c : Rat) = a at *
    generalize (γ c : Rat) = b at *
    generalize l c = u at *
    generalize p c = v at *
    have h1 : u / v * ((σ : Rat) * b) = (u * (σ : Rat)) * (b / v) := by grind
    have h2 : b / v = (τ : Rat) := by grind
    rw [h1, h2, el]
  have hpr : ∀ i, l c / p c * p i * ((σ * γ c : Int) : Rat) = ((φ c * γ i : Int) : Rat) := fun i => by
    have ei := eg i
    have h1 : l c / p c * p i * ((σ * γ c : Int) : Rat) = l c / p c * ((σ * γ c : Int) : Rat) * p i := by grind
    rw [h1, hsh]
    push_cast
    have h2 : (φ c : Rat) * (τ : Rat) * p i = (φ c : Rat) * (p i * (τ : Rat)) := by grind
    rw [h2, ei]
  refine ⟨⟨hc, pc, fun i _ => fl i, fun i _ => fp i, Sz.fit ⟨_, _, nz, hsh, abs_mul (bf c) bτ, bd⟩ (by omega), fun i _ => Sz.fit ⟨_, _, nz, hpr i, abs_mul (bf c) (bg i), bd⟩ (by omega)⟩, ?_⟩
  refine ⟨fun i => φ i * γ c - φ c * γ i, σ * γ c, nz, fun i => ?_, fun i => abs_sub (abs_mul (bf i) (bg c)) (abs_mul (bf c) (bg i)), abs_mono bd (by omega)⟩
  show (l i - l c / p c * p i) * _ = _
  have h0 := hpr i
  have e1 := ef i
  push_cast
  push_cast at h0
  have h1 : (l i - l c / p c * p i) * ((σ : Rat) * (γ c : Rat)) = (l i * (σ : Rat)) * (γ c : Rat) - l c / p c * p i * ((σ : Rat) * (γ c : Rat)) := by grind
  rw [h1, h0, e1]
theorem clrAll_ok {wd y : Nat} : ∀ (fs : List (Nat × Line)) (l : Line) (x : Nat), (∀ p ∈ fs, LV p.2 y ∧ p.1 < wd ∧ p.2 p.1 ≠ 0) → LV l x → x + fs.length * (y + 1) + y + 2 ≤ BB →
    (∀ k p, fs[k]? = some p → ClrOK wd (clrAll (fs.take k) l) p.2 p.1) ∧ LV (clrAll fs l) (x + fs.length * (y + 1))
  | [], l, x, _, sl, _ => ⟨fun k p h => by simp at h, by
    show LV l (x + 0 * (y + 1))
    rw [Nat.zero_mul]
    exact sl⟩
  | p :: fs, l, x, h, sl, hb => by
    obtain ⟨sp, pw, pn⟩ := h p (List.mem_cons_self ..)
    rw [List.length_cons, Nat.succ_mul] at hb ⊢
    obtain ⟨a, b⟩ := clr_ok sl sp pw pn (by omega)
    obtain ⟨c, d⟩ := clrAll_ok fs (clr l p.2 p.1) (x + y + 1) (fun q hq => h q (List.mem_cons_of_mem _ hq)) b (by omega)
    refine ⟨fun k q hq => ?_, d.mono (by omega)⟩
    cases k with
    | zero =>
      rw [List.getElem?_cons_zero] at hq
      cases hq
      exact a
    | succ k =>
      rw [List.getElem?_cons_succ] at hq
      exact c k q hq
/-! what lines mean -/
def dot (wd : Nat) (l y : Line) : Rat := sumTo wd fun i => l i * y i
theorem dot_clr (wd : Nat) (l p y : Line) (c : Nat) : dot wd (clr l p c) y = dot wd l y - l c / p c * dot wd p y := by
  unfold dot
  rw [← sumTo_mul]
  have : (fun i => clr l p c i * y i) = fun i => l i * y i + - (l c / p c * (p i * y i)) := funext fun i => by
    show (l i - l c / p c * p i) * y i = _
    grind
  rw [this, sumTo_add, sumTo_neg]
  grind
theorem dot_clrAll {wd : Nat} {y : Line} : ∀ (fs : List (Nat × Line)) (l : Line), (∀ p ∈ fs, dot wd p.2 y = 0) → dot wd (clrAll fs l) y = dot wd l y
  | [], l, _ => rfl
  | p :: fs, l, h => by
    have e := dot_clrAll fs (clr l p.2 p.1) fun q hq => h q (List.mem_cons_of_mem _ hq)
    show dot wd (clrAll fs (clr l p.2 p.1)) y = _
    rw [e, dot_clr, h p (List.mem_cons_self ..)]
    grind
theorem clrAll_col {c : Nat} : ∀ (fs : List (Nat × Line)) (l : Line), (∀ p ∈ fs, (p.1 = c ∧ p.2 c ≠ 0) ∨ p.2 c = 0) → (l c = 0 ∨ ∃ p ∈ fs, p.1 = c ∧ p.2 c ≠ 0) → clrAll fs l c = 0
  | [], l, _, h => by
    rcases h with h | ⟨p, hp, _⟩
    · exact h
    · cases hp
  | p :: fs, l, h, h2 => by
    refine clrAll_col fs (clr l p.2 p.1) (fun q hq => h q (List.mem_cons_of_mem _ hq)) ?_
    rcases h p (List.mem_cons_self ..) with ⟨e, n⟩ | z
    · left
      show l c - l p.1 / p.2 p.1 * p.2 c = 0
      rw [e]
      grind
    · rcases h2 with a | ⟨q, hq, e, n⟩
      · left
        show l c - l p.1 / p.2 p.1 * p.2 c = 0
        rw [a, z]
        grind
      · rcases List.mem_cons.mp hq with rfl | hq
        · exact absurd z n
        · exact .inr ⟨q, hq, e, n⟩
theorem firstNZ_none {l : Line} : ∀ {w : Nat}, firstNZ l w = none → ∀ i, i < w → l i = 0
  | 0, _, i, hi => absurd hi (Nat.not_lt_zero _)
  | w + 1, h, i, hi => by
    unfold firstNZ at h
    split at h
    · cases h
    · rename_i h2
      split at h
      · rename_i z
        by_cases e : i = w
        · rw [e, z]
        · exact firstNZ_none h2 i (by omega)
      · cases h
theorem firstNZ_some {l : Line} {c : Nat} : ∀ {w : Nat}, firstNZ l w = some c → c < w ∧ l c ≠ 0 ∧ ∀ i, i < c → l i = 0
  | 0, h => by cases h
  | w + 1, h => by
    unfold firstNZ at h
    split at h
    · rename_i c' h2
      cases h
      obtain ⟨a, b, d⟩ := firstNZ_some h2
      exact ⟨by omega, b, d⟩
    · rename_i h2
      split at h
      · cases h
      · rename_i z
        cases h
        exact ⟨Nat.lt_succ_self _, z, fun i hi => firstNZ_none h2 i hi⟩
/-! ### the pivots -/
def gb (A : Nat) : Nat → Nat
  | 0 => 0
  | t + 1 => gb A t + (A + t * (gb A t + 1)) + 1
structure GI (wd A t : Nat) (ls : List Line) (fs : List (Nat × Line)) : Prop where
  len : fs.length ≤ t
  cw : ∀ p ∈ fs, p.1 < wd
  pc : ∀ p ∈ fs, p.2 p.1 ≠ 0
  nd : (fs.map (·.1)).Nodup
  red : ∀ p ∈ fs, ∀ q ∈ fs, p.1 ≠ q.1 → p.2 q.1 = 0
  lead : ∀ p ∈ fs, ∀ i, i < p.1 → p.2 i = 0
  lv : ∀ p ∈ fs, LV p.2 (gb A t)
  ker : ∀ y, (∀ l ∈ ls, dot wd l y = 0) ↔ ∀ p ∈ fs, dot wd p.2 y = 0
theorem gi_start (wd A : Nat) : GI wd A 0 [] [] where
  len := Nat.le_refl _
  cw := fun _ h => absurd h List.not_mem_nil
  pc := fun _ h => absurd h List.not_mem_nil
  nd := List.nodup_nil
  red := fun _ h => absurd h List.not_mem_nil
  lead := fun _ h => absurd h List.not_mem_nil
  lv := fun _ h => absurd h List.not_mem_nil
  ker := fun _ => ⟨fun _ _ h => absurd h List.not_mem_nil, fun _ _ h => absurd h List.not_mem_nil⟩
theorem gi_step {wd A t : Nat} {ls : List Line} {fs : List (Nat × Line)} {l : Line} (g : GI wd A t ls fs) (sl : LV l A) (hb : gb A (t + 1) + 2 ≤ BB) : PivOK wd fs l ∧ GI wd A (t + 1) (ls ++ [l]) (pivStep wd fs l) := by
  have hgb : gb A (t + 1) = gb A t + (A + t * (gb A t + 1)) + 1 := rfl
  have hlen := Nat.mul_le_mul_right (gb A t + 1) g.len
  have hA : A + fs.length * (gb A t + 1) ≤ A + t * (gb A t + 1) := by omega
  obtain ⟨ca, cl⟩ := clrAll_ok (wd := wd) (y := gb A t) fs l A (fun p hp => ⟨g.lv p hp, g.cw p hp, g.pc p hp⟩) sl (by omega)
  have col0 : ∀ p ∈ fs, clrAll fs l p.1 = 0 := fun p hp => clrAll_col fs l (fun q hq => by
    by_cases e : q.1 = p.1
    · left
      refine ⟨e, ?_⟩
      rw [← e]
      exact g.pc q hq
    · exact .inr (g.red q hq p hp e)) (.inr ⟨p, hp, rfl, g.pc p hp⟩)
  have dall : ∀ y, (∀ p ∈ fs, dot wd p.2 y = 0) → dot wd (clrAll fs l) y = dot wd l y := fun y h => dot_clrAll fs l h
  have kerl : ∀ y, (∀ x ∈ ls ++ [l], dot wd x y = 0) ↔ ((∀ p ∈ fs, dot wd p.2 y = 0) ∧ dot wd (clrAll fs l) y = 0) := fun y => by
    constructor
    · intro h
      have h1 := (g.ker y).mp fun x hx => h x (List.mem_append_left _ hx)
      refine ⟨h1, ?_⟩
      rw [dall y h1]
      exact h l (List.mem_append_right _ (List.mem_singleton.mpr rfl))
    · intro ⟨h1, h2⟩ x hx
      rcases List.mem_append.mp hx with hx | hx
      · exact (g.ker y).mpr h1 x hx
      · rw [List.mem_singleton.mp hx, ← dall y h1]
        exact h2
  generalize hL : clrAll fs l = L at *
  unfold pivStep
  rw [hL]
  cases hf : firstNZ L wd with
  | none =>
    refine ⟨⟨ca, fun c hc => ?_⟩, ⟨Nat.le_succ_of_le g.len, g.cw, g.pc, g.nd, g.red, g.lead, fun p hp => (g.lv p hp).mono (by omega), fun y => ?_⟩⟩
    · rw [hL, hf] at hc
      cases hc
    · rw [kerl y]
      have : dot wd L y = 0 := sumTo_zero fun i hi => by rw [firstNZ_none hf i hi]; grind
      exact ⟨fun h => h.1, fun h => ⟨h, this⟩⟩
  | some c =>
    obtain ⟨c1, c2, c3⟩ := firstNZ_some hf
    have cne : ∀ p ∈ fs, p.1 ≠ c := fun p hp e => c2 (by rw [← e]; exact col0 p hp)
    have key : ∀ p ∈ fs, ClrOK wd p.2 L c ∧ LV (clr p.2 L c) (gb A (t + 1)) := fun p hp => by
      obtain ⟨a, b⟩ := clr_ok (g.lv p hp) cl c1 c2 (by omega)
      exact ⟨a, b.mono (by omega)⟩
    have memb : ∀ q, q ∈ fs.map (fun p => (p.1, clr p.2 L c)) ++ [(c, L)] → (∃ p ∈ fs, q = (p.1, clr p.2 L c)) ∨ q = (c, L) := fun q hq => by
      rcases List.mem_append.mp hq with h | h
      · obtain ⟨p, hp, e⟩ := List.mem_map.mp h
        exact .inl ⟨p, hp, e.symm⟩
      · exact .inr (List.mem_singleton.mp h)
    have clrv : ∀ p ∈ fs, ∀ q ∈ fs, clr p.2 L c q.1 = p.2 q.1 := fun p hp q hq => by
      show p.2 q.1 - p.2 c / L c * L q.1 = _
      rw [col0 q hq]
      grind
    have clrc : ∀ p ∈ fs, clr p.2 L c c = 0 := fun p hp => by
      show p.2 c - p.2 c / L c * L c = 0
      grind
    refine ⟨⟨ca, fun c' hc p hp => ?_⟩, ⟨?_, ?_, ?_, ?_, ?_, ?_, ?_, ?_⟩⟩
    · rw [hL, hf] at hc
      cases hc
      rw [hL]
      exact (key p hp).1
    · show (fs.map _ ++ [(c, L)]).length ≤ t + 1
      rw [List.length_append, List.length_map, List.length_singleton]
      have := g.len
      omega
    · intro q hq
      rcases memb q hq with ⟨p, hp, rfl⟩ | rfl
      · exact g.cw p hp
      · exact c1
    · intro q hq
      rcases memb q hq with ⟨p, hp, rfl⟩ | rfl
      · show clr p.2 L c p.1 ≠ 0
        rw [clrv p hp p hp]
        exact g.pc p hp
      · exact c2
    · show ((fs.map (fun p => (p.1, clr p.2 L c)) ++ [(c, L)]).map (·.1)).Nodup
      rw [List.map_append, List.map_map]
      have e : ((fun x : Nat × Line => x.1) ∘ fun p : Nat × Line => (p.1, clr p.2 L c)) = fun x => x.1 := rfl
      rw [e]
      refine List.nodup_append.mpr ⟨g.nd, (by simp), fun a ha b hb => ?_⟩
      obtain ⟨p, hp, e⟩ := List.mem_map.mp ha
      have hb' : b = c := List.mem_singleton.mp hb
      rw [hb', ← e]
      exact cne p hp
    · intro q hq q' hq' hne
      rcases memb q hq with ⟨p, hp, rfl⟩ | rfl
      · rcases memb q' hq' with ⟨p', hp', rfl⟩ | rfl
        · show clr p.2 L c p'.1 = 0
          rw [clrv p hp p' hp']
          exact g.red p hp p' hp' hne
        · exact clrc p hp
      · rcases memb q' hq' with ⟨p', hp', rfl⟩ | rfl
        · exact col0 p' hp'
        · exact absurd rfl hne
    · intro q hq i hi
      rcases memb q hq with ⟨p, hp, rfl⟩ | rfl
      · have hi' : i < p.1 := hi
        show p.2 i - p.2 c / L c * L i = 0
        rw [g.lead p hp i hi']
        by_cases h : c < p.1
        · rw [g.lead p hp c h]
          grind
        · rw [c3 i (by omega)]
          grind
      · exact c3 i hi
    · intro q hq
      rcases memb q hq with ⟨p, hp, rfl⟩ | rfl
      · exact (key p hp).2
      · exact cl.mono (by omega)
    · intro y
      rw [kerl y]
      constructor
      · intro ⟨h1, h2⟩ q hq
        rcases memb q hq with ⟨p, hp, rfl⟩ | rfl
        · show dot wd (clr p.2 L c) y = 0
          rw [dot_clr, h1 p hp, h2]
          grind
        · exact h2
      · intro h
        have h2 : dot wd L y = 0 := h (c, L) (List.mem_append_right _ (List.mem_singleton.mpr rfl))
        refine ⟨fun p hp => ?_, h2⟩
        have h3 : dot wd (clr p.2 L c) y = 0 := h (p.1, clr p.2 L c) (List.mem_append_left _ (List.mem_map.mpr ⟨p, hp, rfl⟩))
        rw [dot_clr, h2] at h3
        grind
theorem gb_mono (A : Nat) : ∀ t, gb A t ≤ gb A (t + 1) := fun t => by
  show gb A t ≤ gb A t + (A + t * (gb A t + 1)) + 1
  omega
theorem gb_le (A : Nat) {s t : Nat} (h : s ≤ t) : gb A s ≤ gb A t := by
  induction h with
  | refl => exact Nat.le_refl _
  | step _ ih => exact Nat.le_trans ih (gb_mono A _)
theorem gi_all {wd A : Nat} (ls : List Line) (hl : ∀ l ∈ ls, LV l A) (hb : gb A ls.length + 2 ≤ BB) : ∀ t, t ≤ ls.length → GI wd A t (ls.take t) (pivots wd (ls.take t)) ∧ ∀ k l, k < t → ls[k]? = some l → PivOK wd (pivots wd (ls.take k)) l
  | 0, _ => ⟨by rw [List.take_zero]; exact gi_start wd A, fun k l h => absurd h (Nat.not_lt_zero _)⟩
  | t + 1, ht => by
    obtain ⟨g, ok⟩ := gi_all (wd := wd) ls hl hb t (by omega)
    have hg : ls[t]? = some ls[t] := List.getElem?_eq_getElem (by omega)
    have e : ls.take (t + 1) = ls.take t ++ [ls[t]] := by
      rw [List.take_add_one, hg]
      rfl
    have hle := gb_le A ht
    obtain ⟨a, b⟩ := gi_step (l := ls[t]) g (hl _ (List.getElem_mem _)) (by omega)
    have e2 : pivots wd (ls.take (t + 1)) = pivStep wd (pivots wd (ls.take t)) ls[t] := by
      rw [e]
      unfold pivots
      rw [List.foldl_append]
      rfl
    refine ⟨by rw [e2, e]; exact b, fun k l hk hkl => ?_⟩
    by_cases h : k = t
    · subst h
      rw [hg] at hkl
      cases hkl
      exact a
    · exact ok k l (by omega) hkl
theorem pivs_ok {wd A : Nat} (ls : List Line) (hl : ∀ l ∈ ls, LV l A) (hb : gb A ls.length + 2 ≤ BB) (h2 : ls.length ≤ 200) (h3 : wd ≤ 200) : PivsOK wd ls ∧ GI wd A ls.length ls (pivots wd ls) := by
  obtain ⟨a, b⟩ := gi_all (wd := wd) ls hl hb ls.length (Nat.le_refl _)
  rw [List.take_length] at a
  refine ⟨⟨fun k l h => ?_, h2, h3⟩, a⟩
  have hk : k < ls.length := (List.getElem?_eq_some_iff.mp h).1
  exact b k l hk h
end FQ
end
section
set_option Elab.async false
namespace FQ
/-! ### furthest: the null numbers -/
theorem rowB_sub (r : Nat → Rat) (p j : Nat) : rowB r ((p : Int) - (j : Int)) = if j ≤ p then r (p - j) else 0 := by
  unfold rowB
  by_cases h : j ≤ p
  · rw [if_neg (by omega), if_pos h, show ((p : Int) - (j : Int)).toNat = p - j by omega]
  · rw [if_pos (by omega), if_neg h]
/-- a product's number is a sum over the row backwards -/
theorem conv_eq {q : Ser} {n : Nat} (r : Nat → Rat) (lq : Lt q (n + 1)) (P : Nat) : (q * (⟨r⟩ : Ser)) P = sumTo (n + 1) fun j => q j * rowB r ((P : Int) - (j : Int)) := by
  have e : sumTo (n + 1) (fun j => q j * rowB r ((P : Int) - (j : Int))) = sumTo (n + 1) fun j => (if j ≤ P then q j * r (P - j) else 0) := sumTo_congr fun j _ => by
    rw [rowB_sub]
    by_cases h : j ≤ P
    · rw [if_pos h, if_pos h]
    · rw [if_neg h, if_neg h]
      grind
  rw [e, Ser.mul_co]
  by_cases h : n + 1 ≤ P + 1
  · rw [sumTo_ext h fun j h1 h2 => by rw [lq j h1]; grind]
    exact sumTo_congr fun j hj => by rw [if_pos (by omega)]
  · rw [sumTo_ext (n := P + 1) (m := n + 1) (by omega) fun j h1 h2 => if_neg (by omega)]
    exact sumTo_congr fun j hj => by rw [if_pos (by omega)]
theorem dot_line {q : Ser} {n : Nat} (r : Nat → Rat) (m k : Nat) (lq : Lt q (n + 1)) : dot (n + 1) (lineF r m k) q.co = (q * (⟨r⟩ : Ser)) (m + 1 + k) := by
  rw [conv_eq r lq]
  unfold dot lineF
  exact sumTo_congr fun j _ => by grind
theorem sumTo_two {f : Nat → Rat} {a b n : Nat} (ha : a < n) (hb : b < n) (hab : a ≠ b) (h : ∀ i, i < n → i ≠ a → i ≠ b → f i = 0) : sumTo n f = f a + f b := by
  have e : f = fun i => (if i = a then f i else 0) + (if i = a then 0 else f i) := funext fun i => by
    by_cases h : i = a
    · rw [if_pos h, if_pos h]
      grind
    · rw [if_neg h, if_neg h]
      grind
  have e1 : sumTo n (fun i => if i = a then f i else 0) = f a := by
    rw [sumTo_one ha fun i _ hi => if_neg hi, if_pos rfl]
  have e2 : sumTo n (fun i => if i = a then 0 else f i) = f b := by
    rw [sumTo_one hb fun i hi hk => by
      by_cases h2 : i = a
      · rw [if_pos h2]
      · rw [if_neg h2]
        exact h i hi h2 hk, if_neg (fun z => hab z.symm)]
  conv => lhs; rw [e]
  rw [sumTo_add, e1, e2]
theorem free_none {fs : List (Nat × Line)} : ∀ {w : Nat}, freeCol fs w = none → ∀ i, i < w → i ∈ fs.map (·.1)
  | 0, _, i, hi => absurd hi (Nat.not_lt_zero _)
  | w + 1, h, i, hi => by
    unfold freeCol at h
    split at h
    · cases h
    · rename_i h2
      split at h
      · rename_i z
        by_cases e : i = w
        · rw [e]; exact z
        · exact free_none h2 i (by omega)
      · cases h
theorem free_some {fs : List (Nat × Line)} {c : Nat} : ∀ {w : Nat}, freeCol fs w = some c → c < w ∧ c ∉ fs.map (·.1) ∧ ∀ i, i < c → i ∈ fs.map (·.1)
  | 0, h => by cases h
  | w + 1, h => by
    unfold freeCol at h
    split at h
    · rename_i c' h2
      cases h
      obtain ⟨a, b, d⟩ := free_some h2
      exact ⟨by omega, b, d⟩
    · rename_i h2
      split at h
      · cases h
      · rename_i z
        cases h
        exact ⟨Nat.lt_succ_self _, z, fun i hi => free_none h2 i hi⟩
theorem free_ex {fs : List (Nat × Line)} {w : Nat} (h : fs.length < w) : ∃ c, freeCol fs w = some c := by
  cases e : freeCol fs w with
  | some c => exact ⟨c, rfl⟩
  | none =>
    exfalso
    have all := free_none e
    have ch : ∀ i, ∃ k, i < w → k < fs.length ∧ (fs.map (·.1))[k]? = some i := fun i => by
      by_cases hi : i < w
      · obtain ⟨k, hk, e⟩ := List.mem_iff_getElem.mp (all i hi)
        refine ⟨k, fun _ => ⟨by rw [List.length_map] at hk; exact hk, ?_⟩⟩
        rw [List.getElem?_eq_getElem hk, e]
      · exact ⟨0, fun z => absurd z hi⟩
    have ch2 : ∃ g : Nat → Nat, ∀ i, i < w → g i < fs.length ∧ (fs.map (·.1))[g i]? = some i := ⟨fun i => (ch i).choose, fun i => (ch i).choose_spec⟩
    obtain ⟨g, hg⟩ := ch2
    obtain ⟨x, y, h1, h2, h3⟩ := pigeon fs.length w g h fun x hx => (hg x hx).1
    have a := (hg x (by omega)).2
    have b := (hg y h2).2
    rw [h3, b] at a
    have := Option.some.inj a
    omega
theorem find_piv : ∀ (fs : List (Nat × Line)), (fs.map (·.1)).Nodup → ∀ p ∈ fs, fs.find? (fun q => q.1 == p.1) = some p
  | [], _, p, h => absurd h List.not_mem_nil
  | q :: fs, nd, p, h => by
    rw [List.map_cons, List.nodup_cons] at nd
    rcases List.mem_cons.mp h with rfl | h
    · rw [List.find?_cons_of_pos]
      exact beq_iff_eq.mpr rfl
    · rw [List.find?_cons_of_neg]
      · exact find_piv fs nd.2 p h
      · intro e
        have e2 : q.1 = p.1 := beq_iff_eq.mp e
        exact nd.1 (List.mem_map.mpr ⟨p, h, e2.symm⟩)
theorem null_at {fs : List (Nat × Line)} {fr : Nat} (nd : (fs.map (·.1)).Nodup) (hf : fr ∉ fs.map (·.1)) : (nullN fs fr fr = 1) ∧ (∀ p ∈ fs, nullN fs fr p.1 = 0 - p.2 fr / p.2 p.1) ∧ ∀ i, i ≠ fr → i ∉ fs.map (·.1) → nullN fs fr i = 0 := by
  refine ⟨if_pos rfl, fun p hp => ?_, fun i hi hm => ?_⟩
  · unfold nullN
    rw [if_neg (fun e => hf (List.mem_map.mpr ⟨p, hp, e⟩)), find_piv fs nd p hp]
  · unfold nullN
    rw [if_neg hi]
    cases e : fs.find? (fun p => p.1 == i) with
    | none => rfl
    | some p =>
      have h1 := List.mem_of_find?_eq_some e
      have h2 := List.find?_some e
      exact absurd (List.mem_map.mpr ⟨p, h1, beq_iff_eq.mp h2⟩) hm
/-- the null numbers kill the pivots' lines -/
theorem null_dot {wd A t : Nat} {ls : List Line} {fs : List (Nat × Line)} {fr : Nat} (g : GI wd A t ls fs) (h : freeCol fs wd = some fr) : ∀ p ∈ fs, dot wd p.2 (nullN fs fr) = 0 := fun p hp => by
  obtain ⟨f1, f2, f3⟩ := free_some h
  obtain ⟨n1, n2, n3⟩ := null_at g.nd f2
  have pf : p.1 ≠ fr := fun e => f2 (List.mem_map.mpr ⟨p, hp, e⟩)
  unfold dot
  rw [sumTo_two (a := fr) (b := p.1) f1 (g.cw p hp) (fun e => pf e.symm) fun i hi h1 h2 => ?_, n1, n2 p hp]
  · have := g.pc p hp
    grind
  · by_cases hm : i ∈ fs.map (·.1)
    · obtain ⟨q, hq, e⟩ := List.mem_map.mp hm
      have : p.2 i = 0 := by
        rw [← e]
        exact g.red p hp q hq (fun z => h2 (by rw [z, e]))
      rw [this]
      grind
    · rw [n3 i h1 hm]
      grind
/-- a shorter solution is nought -/
theorem null_least {wd A t : Nat} {ls : List Line} {fs : List (Nat × Line)} {fr : Nat} (g : GI wd A t ls fs) (h : freeCol fs wd = some fr) {y : Ser} (ly : Lt y fr) (hy : ∀ l ∈ ls, dot wd l y.co = 0) : y = 0 := by
  obtain ⟨f1, f2, f3⟩ := free_some h
  have hk := (g.ker y.co).mp hy
  refine eq_zero_of fun i => ?_
  by_cases hi : i < fr
  · obtain ⟨p, hp, e⟩ := List.mem_map.mp (f3 i hi)
    have d := hk p hp
    unfold dot at d
    rw [sumTo_one (k := p.1) (g.cw p hp) fun j hj hne => ?_] at d
    · have := g.pc p hp
      have e' : p.1 = i := e
      rw [e'] at d this
      grind
    · by_cases hj2 : j < fr
      · obtain ⟨q, hq, e2⟩ := List.mem_map.mp (f3 j hj2)
        have : p.2 j = 0 := by
          rw [← e2]
          exact g.red p hp q hq (fun z => hne (by rw [z, e2]))
        rw [this]
        grind
      · have : y.co j = 0 := ly j (by omega)
        rw [this]
        grind
  · exact ly i (by omega)
end FQ
end
section
set_option Elab.async false
namespace FQ
/-- a pair whose below is as short as can be: x's power times the quotient -/
theorem short_pair {R p q : Ser} {m n N fr : Nat} (hN : N = m + n + 1) (s : Sol R (m + 1) (n + 1) p q) (lq : IsLen q (fr + 1)) (hfr : fr ≤ n)
    (least : ∀ y : Ser, Lt y fr → (∀ k, k < n → (y * R) (m + 1 + k) = 0) → y = 0) :
    ∃ (a b : Ser) (c : Rat) (o na nb : Nat), Quo a b ∧ c ≠ 0 ∧ p = Ser.C c * (Ser.X o * a) ∧ q = Ser.C c * (Ser.X o * b) ∧ IsLen a na ∧ IsLen b (nb + 1) ∧ nb + o = fr ∧ na ≤ m + 1 ∧ na + nb + o ≤ N ∧ Mod (na + nb) (b * R) a := by
  have ag : Mod N (q * R) p := s.ag.mono (by omega)
  obtain ⟨a, b, h, Q, ph, h0, e1, e2⟩ := canon ⟨_, s.lp⟩ ⟨_, s.lq⟩ s.nz fun j hj => by
    have l1 : Low (q * R) (j + 0) := Low.mul hj (fun i hi => absurd hi (Nat.not_lt_zero _))
    intro i hi
    by_cases hiN : i < N
    · rw [← ag i hiN]
      exact l1 i (by omega)
    · exact s.lp i (by omega)
  obtain ⟨o, lo, no⟩ := ord_of h0
  obtain ⟨h1, eh, h10⟩ := split_ord lo
  have h1n : h1 0 ≠ 0 := by rw [h10]; exact no
  have ph1 : Poly h1 := Poly.of_Xmul (by rw [← eh]; exact ph)
  have h1z : h1 ≠ 0 := fun z => h1n (by rw [z, Ser.zero_co])
  obtain ⟨d, ld⟩ := ph1.len
  have d1 := ld.pos h1z
  obtain ⟨d, rfl⟩ : ∃ k, d = k + 1 := ⟨d - 1, by omega⟩
  have e1' : p = h1 * (Ser.X o * a) := by rw [e1, eh]; grind
  have e2' : q = h1 * (Ser.X o * b) := by rw [e2, eh]; grind
  have pa' : Poly (Ser.X o * a) := (Poly.X o).mul Q.pa
  have pb' : Poly (Ser.X o * b) := (Poly.X o).mul Q.pb
  have fk := factor_keeps e1' e2' h1n ag
  have la' := len_factor e1' ld pa' s.lp
  have lb' := len_factor e2' ld pb' lq.1
  have bz : Ser.X o * b ≠ 0 := mul_ne_zero (X_ne_zero o) Q.b_ne
  have dz : d = 0 := by
    refine Classical.byContradiction fun hd => bz (least _ (lb'.mono (by omega)) fun k hk => ?_)
    rw [fk (m + 1 + k) (by omega)]
    exact la' _ (by omega)
  subst dz
  have hc : h1 = Ser.C (h1 0) := Ser.ext fun i => by
    rw [Ser.C_co']
    by_cases hi : i = 0
    · rw [hi, if_pos rfl]
    · rw [if_neg hi]
      exact ld.1 i (by omega)
  obtain ⟨na, la⟩ := Q.pa.len
  obtain ⟨nb, lb⟩ := Q.pb.len
  have nb1 := lb.pos Q.b_ne
  obtain ⟨nb, rfl⟩ : ∃ k, nb = k + 1 := ⟨nb - 1, by omega⟩
  rw [hc] at e1' e2'
  have lq2 := len_cx h1n o lb
  rw [← e2'] at lq2
  have efr := lq2.unique lq
  have ha : Lt a (m + 1 - o) := fun i hi => by
    have := la' (o + i) (by omega)
    rw [Ser.Xmul_co, if_pos (by omega), show o + i - o = i by omega] at this
    exact this
  have hna := la.le ha
  have hm : na + nb + o ≤ N := by omega
  have ag2 : Mod (na + nb) (b * R) a := fun i hi => by
    have l2 : Low (Ser.X o * (b * R - a)) (o + (N - o)) := fun i hi => by
      have : Ser.X o * (b * R - a) = Ser.X o * b * R - Ser.X o * a := by grind
      rw [this, Ser.sub_co, fk i (by omega)]
      grind
    have := Low.Xmul_iff l2 i (by omega)
    rw [Ser.sub_co] at this
    grind
  exact ⟨a, b, h1 0, o, na, nb, Q, h1n, e1', e2', la, lb, by omega, by omega, hm, ag2⟩
theorem form_ex {r : Nat → Rat} {m n A N : Nat} {D : Int} {ρ : Nat → Int} (hN : N = m + n + 1) (hN2 : N ≤ 30) (hD : D ≠ 0) (hd : D.natAbs < 2 ^ A) (hρ : ∀ i, i < N → r i * (D : Rat) = (ρ i : Rat) ∧ (ρ i).natAbs < 2 ^ A)
    (hgb : gb A n + 2 ≤ BB)
    (hb : ∀ na nb, na + nb ≤ N → na ≤ m + 1 → nb ≤ n → nb + 1 ≤ 15 ∧ (nb * (A + 5) + A + 6 + (na + 1 - (nb + 1)) * (nb * (A + 5) + A + 6 + 1) + (nb * (A + 5) + A + 6) + 1) * 3 ^ nb + (nb * (A + 5) + A + 6) + A + 3000 ≤ BB) :
    ∃ a b p q : Ser, Quo a b ∧ Lt a (m + 1) ∧ Lt b (n + 1) ∧ Sol ⟨r⟩ (m + 1) (n + 1) p q ∧ p * b = a * q ∧ FormOK r m n a b ∧ ∃ nb, nb ≤ n ∧ IsLen b (nb + 1) ∧ SV 1 a (nb * (A + 5) + A + 6) ∧ SV 1 b (nb * (A + 5) + A + 6) := by
  have lvl : ∀ l ∈ linesF r m n, LV l A := fun l hl => by
    unfold linesF at hl
    obtain ⟨k, hk, rfl⟩ := List.mem_map.mp hl
    have hk' := List.mem_range.mp hk
    refine ⟨fun j => if j ≤ m + 1 + k then ρ (m + 1 + k - j) else 0, D, hD, fun j => ?_, fun j => ?_, hd⟩
    · unfold lineF
      rw [rowB_sub]
      by_cases h : j ≤ m + 1 + k
      · rw [if_pos h]
        simp only [if_pos h]
        exact (hρ _ (by omega)).1
      · rw [if_neg h]
        simp only [if_neg h]
        push_cast
        grind
    · show (if j ≤ m + 1 + k then ρ (m + 1 + k - j) else 0).natAbs < _
      by_cases h : j ≤ m + 1 + k
      · rw [if_pos h]
        exact (hρ _ (by omega)).2
      · rw [if_neg h]
        exact abs_zero
  have hlen : (linesF r m n).length = n := by
    unfold linesF
    rw [List.length_map, List.length_range]
  obtain ⟨pok, g⟩ := pivs_ok (wd := n + 1) (A := A) (linesF r m n) lvl (by rw [hlen]; exact hgb) (by omega) (by omega)
  rw [hlen] at g
  generalize hfs : pivots (n + 1) (linesF r m n) = fs at *
  obtain ⟨fr, hfr⟩ := free_ex (fs := fs) (w := n + 1) (by have := g.len; omega)
  obtain ⟨f1, f2, f3⟩ := free_some hfr
  obtain ⟨n1, n2, n3⟩ := null_at g.nd f2
  have nd := null_dot g hfr
  have nullOK : NullOK (n + 1) fs fr := ⟨hfr, g.nd, g.cw, g.pc, fun p hp => ((g.lv p hp).sz fr).fit (by omega), fun p hp => ((g.lv p hp).sz p.1).fit (by omega), fun p hp => ((g.lv p hp).share fr p.1 (g.pc p hp)).fit (by omega), Sz.fit (h := 1) ⟨0, 1, by decide, by push_cast; grind, by decide, by decide⟩ (by omega)⟩
  let q : Ser := ⟨fun i => if i ≤ n then nullN fs fr i else 0⟩
  let p : Ser := ⟨fun i => if i ≤ m then patS (nullN fs fr) r i (n + 1) else 0⟩
  have qi : ∀ i, i < n + 1 → q i = nullN fs fr i := fun i hi => if_pos (by omega)
  have lq : Lt q (n + 1) := fun i hi => if_neg (by omega)
  have lp : Lt p (m + 1) := fun i hi => if_neg (by omega)
  have lqf : IsLen q (fr + 1) := by
    refine ⟨fun i hi => ?_, .inr ?_⟩
    · by_cases hn : i < n + 1
      · rw [qi i hn]
        by_cases hm : i ∈ fs.map (·.1)
        · obtain ⟨p, hp, e⟩ := List.mem_map.mp hm
          have e' : p.1 = i := e
          rw [← e', n2 p hp, g.lead p hp fr (by omega)]
          grind
        · exact n3 i (by omega) hm
      · exact lq i (by omega)
    · show q fr ≠ 0
      rw [qi fr f1, n1]
      decide
  have pat : ∀ i, patS (nullN fs fr) r i (n + 1) = (q * (⟨r⟩ : Ser)) i := fun i => by
    rw [conv_eq r lq]
    exact sumTo_congr fun j hj => by rw [qi j hj]
  have van : ∀ k, k < n → (q * (⟨r⟩ : Ser)) (m + 1 + k) = 0 := fun k hk => by
    rw [← dot_line r m k lq]
    have h1 := (g.ker (nullN fs fr)).mpr nd (lineF r m k) (List.mem_map.mpr ⟨k, List.mem_range.mpr hk, rfl⟩)
    rw [← h1]
    exact sumTo_congr fun j hj => by
      show _ * q j = _
      rw [qi j hj]
  have sol : Sol ⟨r⟩ (m + 1) (n + 1) p q := ⟨lp, lq, lqf.ne_zero, fun i hi => by
    by_cases h : i ≤ m
    · show _ = if i ≤ m then patS (nullN fs fr) r i (n + 1) else 0
      rw [if_pos h, pat i]
    · rw [lp i (by omega)]
      have := van (i - m - 1) (by omega)
      rw [show m + 1 + (i - m - 1) = i by omega] at this
      exact this⟩
  obtain ⟨a, b, c, o, na, nb, Q, c0, e1, e2, la, lb, efr, hna, hnN, ag⟩ := short_pair hN sol lqf (by omega) fun y ly hy => null_least g hfr ly fun l hl => by
    unfold linesF at hl
    obtain ⟨k, hk, rfl⟩ := List.mem_map.mp hl
    rw [dot_line r m k (ly.mono (by omega))]
    exact hy k (List.mem_range.mp hk)
  obtain ⟨n15, room⟩ := hb na nb (by omega) hna (by omega)
  obtain ⟨sa, sb⟩ := quo_small (N := N) Q la.1 lb ag hD hd hρ (by omega) n15
  generalize hH : nb * (A + 5) + A + 6 = H at *
  have p3 : 1 ≤ 3 ^ nb := Nat.one_le_pow _ _ (by decide)
  have hroom := Nat.le_mul_of_pos_right (H + (na + 1 - (nb + 1)) * (H + 1) + H + 1) p3
  obtain ⟨β, σ, hσ, eb, bb, bσ⟩ := sb.ex
  have nσ := icast_ne hσ
  have top := lb.last
  have en := eb nb
  have β0 : β nb ≠ 0 := fun z => top (by
    rw [z] at en
    push_cast at en
    grind)
  have nβ := icast_ne β0
  have ctop : c * b nb = 1 := by
    have h1 : q fr = 1 := by rw [qi fr f1, n1]
    rw [e2, Ser.Cmul_co, Ser.Xmul_co, if_pos (by omega), show fr - o = nb by omega] at h1
    exact h1
  have cβ : c * (β nb : Rat) = (σ : Rat) := by
    have : c * (β nb : Rat) = (c * b nb) * (σ : Rat) := by grind
    rw [this, ctop]
    grind
  have szc : Sz c H := ⟨σ, β nb, β0, cβ, bσ, bb nb⟩
  have lvq : ∀ i, ∃ z : Int, q i * (β nb : Rat) = (z : Rat) ∧ z.natAbs < 2 ^ H := fun i => by
    refine ⟨if o ≤ i then β (i - o) else 0, ?_, ?_⟩
    · rw [e2, Ser.Cmul_co, Ser.Xmul_co]
      by_cases h : o ≤ i
      · rw [if_pos h, if_pos h]
        have ei := eb (i - o)
        have : c * b (i - o) * (β nb : Rat) = (c * (β nb : Rat)) * b (i - o) := by grind
        rw [this, cβ]
        grind
      · rw [if_neg h, if_neg h]
        push_cast
        grind
    · by_cases h : o ≤ i
      · rw [if_pos h]
        exact bb _
      · rw [if_neg h]
        exact abs_zero
  have rowz : ∀ P j : Nat, P ≤ m → ∃ z : Int, rowB r ((P : Int) - (j : Int)) * (D : Rat) = (z : Rat) ∧ z.natAbs < 2 ^ A := fun P j hP => by
    rw [rowB_sub]
    by_cases h : j ≤ P
    · rw [if_pos h]
      exact ⟨_, hρ (P - j) (by omega)⟩
    · rw [if_neg h]
      exact ⟨0, by push_cast; grind, abs_zero⟩
  have nz : β nb * D ≠ 0 := Int.mul_ne_zero β0 hD
  have bd : (β nb * D).natAbs < 2 ^ (H + A) := abs_mul (bb nb) hd
  have prz : ∀ P j : Nat, P ≤ m → j < n + 1 → ∃ z : Int, nullN fs fr j * rowB r ((P : Int) - (j : Int)) * ((β nb * D : Int) : Rat) = (z : Rat) ∧ z.natAbs < 2 ^ (H + A) := fun P j hP hj => by
    obtain ⟨z1, h1, h2⟩ := lvq j
    obtain ⟨z2, h3, h4⟩ := rowz P j hP
    rw [qi j hj] at h1
    refine ⟨z1 * z2, ?_, abs_mul h2 h4⟩
    push_cast
    have : nullN fs fr j * rowB r ((P : Int) - (j : Int)) * ((β nb : Rat) * (D : Rat)) = (nullN fs fr j * (β nb : Rat)) * (rowB r ((P : Int) - (j : Int)) * (D : Rat)) := by grind
    rw [this, h1, h3]
  have patok : ∀ P, P ≤ m → PatOK (nullN fs fr) (n + 1) r P := fun P hP => by
    refine ⟨fun i hi => ?_, fun i hi => ?_, fun i hi => ?_, fun j hj => ?_⟩
    · obtain ⟨z, h1, h2⟩ := lvq i
      rw [qi i hi] at h1
      exact Sz.fit ⟨z, _, β0, h1, h2, bb nb⟩ (by omega)
    · obtain ⟨z, h1, h2⟩ := rowz P i hP
      exact Sz.fit ⟨z, _, hD, h1, h2, hd⟩ (by omega)
    · obtain ⟨z, h1, h2⟩ := prz P i hP hi
      exact Sz.fit ⟨z, _, nz, h1, h2, bd⟩ (by omega)
    · have ch : ∀ i, ∃ z : Int, i < n + 1 → nullN fs fr i * rowB r ((P : Int) - (i : Int)) * ((β nb * D : Int) : Rat) = (z : Rat) ∧ z.natAbs < 2 ^ (H + A) := fun i => by
        by_cases hi : i < n + 1
        · obtain ⟨z, h⟩ := prz P i hP hi
          exact ⟨z, fun _ => h⟩
        · exact ⟨0, fun z => absurd z hi⟩
      have ch2 : ∃ zf : Nat → Int, ∀ i, i < n + 1 → nullN fs fr i * rowB r ((P : Int) - (i : Int)) * ((β nb * D : Int) : Rat) = (zf i : Rat) ∧ (zf i).natAbs < 2 ^ (H + A) := ⟨fun i => (ch i).choose, fun i => (ch i).choose_spec⟩
      obtain ⟨zf, hz⟩ := ch2
      have hsum := sumTo_int (D := ((β nb * D : Int) : Rat)) (z := zf) j fun i hi => (hz i (by omega)).1
      exact Sz.fit ⟨_, _, nz, hsum, isum_bits (by omega) fun i hi => (hz i (by omega)).2, abs_mono bd (by omega)⟩ (show H + A + 5 ≤ BB by omega)
  refine ⟨a, b, p, q, Q, la.1.mono hna, lb.1.mono (by omega), sol, by rw [e1, e2]; grind, ⟨⟨fr, ?_⟩, by omega, by omega⟩, nb, by omega, lb, by rw [hH]; exact sa, by rw [hH]; exact sb⟩
  rw [hfs]
  exact ⟨pok, nullOK, patok, quoOK_at (A := A) (N := N) (w := H) Q la lb (by omega) ag hD hd hρ n15 (by rw [hH]; omega) c0 szc e1 e2 (by omega)⟩
end FQ
end
section
set_option Elab.async false
namespace FQ
/-! ### the walk's facts, as plain ones -/
structure Room (A many : Nat) : Prop where
  n18 : many ≤ 18
  ch : 2 * (fb A many).1 + A + 20 ≤ BB
  gb : ∀ n, 2 * n ≤ many → gb A n + 2 ≤ BB
  pt : ∀ n, 2 * n ≤ many → (A + 2) * 3 ^ n ≤ 2000000
  qb : ∀ na nb, na + nb ≤ many → 2 * nb ≤ many → (nb * (A + 5) + A + 6 + (na + 1 - (nb + 1)) * (nb * (A + 5) + A + 6 + 1) + (nb * (A + 5) + A + 6) + 1) * 3 ^ nb ≤ 60000000
  hb : ∀ nb, 2 * nb ≤ many → nb * (A + 5) + A + 6 + A ≤ 10000
theorem qb_64 : ∀ na, na < 19 → ∀ nb, nb < 10 → na + nb ≤ 18 → (nb * (64 + 5) + 64 + 6 + (na + 1 - (nb + 1)) * (nb * (64 + 5) + 64 + 6 + 1) + (nb * (64 + 5) + 64 + 6) + 1) * 3 ^ nb ≤ 60000000 := by decide +kernel
theorem qb_600 : ∀ na, na < 7 → ∀ nb, nb < 4 → na + nb ≤ 6 → (nb * (600 + 5) + 600 + 6 + (na + 1 - (nb + 1)) * (nb * (600 + 5) + 600 + 6 + 1) + (nb * (600 + 5) + 600 + 6) + 1) * 3 ^ nb ≤ 60000000 := by decide +kernel
theorem gb_64 : gb 64 9 ≤ 60000000 := by decide +kernel
theorem gb_600 : gb 600 3 ≤ 60000000 := by decide +kernel
theorem room_64 {many : Nat} (h : many ≤ 18) : Room 64 many where
  n18 := h
  ch := by
    have := fb_le 64 h
    have := fb_64
    have := BB_eq
    omega
  gb := fun n hn => by
    have := gb_le 64 (show n ≤ 9 by omega)
    have := gb_64
    have := BB_eq
    omega
  pt := fun n hn => by
    have : (3 : Nat) ^ n ≤ 3 ^ 9 := Nat.pow_le_pow_right (by decide) (by omega)
    have e : (3 : Nat) ^ 9 = 19683 := by decide
    omega
  qb := fun na nb h1 h2 => qb_64 na (by omega) nb (by omega) (by omega)
  hb := fun nb h2 => by omega
theorem room_600 {many : Nat} (h : many ≤ 6) : Room 600 many where
  n18 := by omega
  ch := by
    have := fb_le 600 h
    have := fb_600
    have := BB_eq
    omega
  gb := fun n hn => by
    have := gb_le 600 (show n ≤ 3 by omega)
    have := gb_600
    have := BB_eq
    omega
  pt := fun n hn => by
    have : (3 : Nat) ^ n ≤ 3 ^ 3 := Nat.pow_le_pow_right (by decide) (by omega)
    have e : (3 : Nat) ^ 3 = 27 := by decide
    omega
  qb := fun na nb h1 h2 => qb_600 na (by omega) nb (by omega) (by omega)
  hb := fun nb h2 => by omega
section
variable {off : Int} {r : Nat → Rat} {m A many : Nat} {D : Int} {ρ : Nat → Int}
/-- what is told at place k -/
def tTop (off : Int) (r : Nat → Rat) (m k : Nat) : Ser := topOf ⟨r⟩ (gs off r k).ch.C ((gs off r k).ch.L + m)
theorem told_facts (hm : off + 1 = (m : Int)) {k : Nat} (h2 : 2 * (gs off r k).ch.L + m ≤ k) :
    Quo (tTop off r m k) (gs off r k).ch.C ∧ Mod k ((gs off r k).ch.C * (⟨r⟩ : Ser)) (tTop off r m k) ∧ Lt (tTop off r m k) ((gs off r k).ch.L + m) ∧ Lt (gs off r k).ch.C ((gs off r k).ch.L + 1) := by
  obtain ⟨h, hk⟩ := gs_bm (r := r) hm k
  have tm := topOf_mod h.ag
  rw [show m + (gs off r k).ch.k = k by omega] at tm
  exact ⟨told_quo h, tm, lt_trn' _ _, h.lC⟩
/-- what is told is small -/
theorem told_sv (R : Room A many) (hm : off + 1 = (m : Int)) (hD : D ≠ 0) (hd : D.natAbs < 2 ^ A) (hρ : ∀ i, i < many → r i * (D : Rat) = (ρ i : Rat) ∧ (ρ i).natAbs < 2 ^ A) {k : Nat} (hk : k ≤ many) (h2 : 2 * (gs off r k).ch.L + m ≤ k) :
    ∃ na nb H, IsLen (tTop off r m k) na ∧ IsLen (gs off r k).ch.C (nb + 1) ∧ na ≤ (gs off r k).ch.L + m ∧ nb ≤ (gs off r k).ch.L ∧ SV 1 (tTop off r m k) H ∧ SV 1 (gs off r k).ch.C H ∧ H ≤ 10000 := by
  obtain ⟨q, tm, lt1, lt2⟩ := told_facts hm h2
  obtain ⟨na, hna, la⟩ := len_of lt1
  obtain ⟨nb, hnb, lb⟩ := len_of lt2
  have nb1 := lb.pos q.b_ne
  obtain ⟨nb, rfl⟩ : ∃ k, nb = k + 1 := ⟨nb - 1, by omega⟩
  have n18 := R.n18
  obtain ⟨sa, sb⟩ := quo_small (N := many) q la.1 lb (tm.mono (by omega)) hD hd hρ (by omega) (by omega)
  exact ⟨na, nb, _, la, lb, hna, by omega, sa, sb, by have := R.hb nb (by omega); omega⟩
theorem grown_at (R : Room A many) (hm : off + 1 = (m : Int)) (hD : D ≠ 0) (hd : D.natAbs < 2 ^ A) (hρ : ∀ i, i < many → r i * (D : Rat) = (ρ i : Rat) ∧ (ρ i).natAbs < 2 ^ A) {k : Nat} (hk : k ≤ many) (h2 : 2 * (gs off r k).ch.L + m ≤ k) :
    GrownOK (gs off r k).ch.C (gs off r k).ch.nC ((gs off r k).ch.L + m) k (gs off r k).r (tTop off r m k) (gs off r k).ch.C := by
  obtain ⟨h, hkk⟩ := gs_bm (r := r) hm k
  have n18 := R.n18
  have sz := (gs_sz (many := many) hm hD hd hρ (by omega) R.ch k hk).1
  have hfb := fb_le A (show k - m ≤ many by omega)
  have hch := R.ch
  have g := grown_ok (A := A) (N := k) (D := D) (ρ := ρ) h sz (by omega) h2 (by omega) hD hd (fun i hi => hρ i (by omega)) (by omega) fun na nb h1 h3 h4 => by
    have := R.qb na nb (by omega) (by omega)
    have := BB_eq
    exact ⟨by omega, by omega⟩
  have e : trn k (gs off r k).r = trn k r := Ser.ext fun i => by
    show (if i < k then (gs off r k).r i else 0) = if i < k then r i else 0
    by_cases hi : i < k
    · rw [if_pos hi, if_pos hi, gs_r off r k i hi]
    · rw [if_neg hi, if_neg hi]
  refine ⟨g.lC, g.nC4, g.n4, ?_, ?_⟩
  · rw [e]; exact g.mul
  · rw [e]; exact g.quo
theorem form_at (R : Room A many) (hD : D ≠ 0) (hd : D.natAbs < 2 ^ A) (hρ : ∀ i, i < many → r i * (D : Rat) = (ρ i : Rat) ∧ (ρ i).natAbs < 2 ^ A) {m n : Nat} (h : m + n + 1 ≤ many) (hn : 2 * n ≤ many) :
    ∃ a b p q : Ser, Quo a b ∧ Lt a (m + 1) ∧ Lt b (n + 1) ∧ Sol ⟨r⟩ (m + 1) (n + 1) p q ∧ p * b = a * q ∧ FormOK r m n a b ∧ ∃ nb H, IsLen b (nb + 1) ∧ nb ≤ n ∧ SV 1 a H ∧ SV 1 b H ∧ H ≤ 10000 := by
  have n18 := R.n18
  obtain ⟨a, b, p, q, h1, h2, h3, h4, h5, h6, nb, h7, h8, h9, h10⟩ := form_ex (r := r) (m := m) (n := n) (A := A) (N := m + n + 1) (D := D) (ρ := ρ) rfl (by omega) hD hd (fun i hi => hρ i (by omega)) (R.gb n hn) fun na nb h1 h2 h3 => by
    have := R.qb na nb (by omega) (by omega)
    have := R.hb nb (by omega)
    have := BB_eq
    exact ⟨by omega, by omega⟩
  exact ⟨a, b, p, q, h1, h2, h3, h4, h5, h6, nb, _, h8, h7, h9, h10, by have := R.hb nb (by omega); omega⟩
/-- where the chain is told, the other two ways tell the same -/
theorem right_at (R : Room A many) (hm : off + 1 = (m : Int)) (hD : D ≠ 0) (hd : D.natAbs < 2 ^ A) (hρ : ∀ i, i < many → r i * (D : Rat) = (ρ i : Rat) ∧ (ρ i).natAbs < 2 ^ A) {k : Nat} (hk : k ≤ many) (h2 : 2 * (gs off r k).ch.L + m ≤ k) {mm : Nat} (hmm : mm + 1 = (gs off r k).ch.L + m) :
    FormOK r mm (gs off r k).ch.L (tTop off r m k) (gs off r k).ch.C ∧ PartOK r mm (gs off r k).ch.L (tTop off r m k) (gs off r k).ch.C := by
  obtain ⟨Q, tm, lt1, lt2⟩ := told_facts hm h2
  obtain ⟨na, nb, H, la, lb, hna, hnb, _⟩ := told_sv R hm hD hd hρ hk h2
  generalize tTop off r m k = T at *
  generalize (gs off r k).ch.C = C at *
  generalize (gs off r k).ch.L = L at *
  have n18 := R.n18
  refine ⟨?_, ?_⟩
  · obtain ⟨a, b, p, q, Q', _, _, s, e, ok, _⟩ := form_at (r := r) R hD hd hρ (m := mm) (n := L) (by omega) (by omega)
    have s2 : Sol ⟨r⟩ (mm + 1) (L + 1) T C := ⟨lt1.mono (by omega), lt2, Q.b_ne, tm.mono (by omega)⟩
    have c := s.cross s2
    have e2 : q * (a * C) = q * (T * b) := by
      have h1 : q * (a * C) = (a * q) * C := by grind
      rw [h1, ← e]
      have h3 : p * b * C = (p * C) * b := by grind
      rw [h3, c]
      grind
    obtain ⟨ea, eb⟩ := Q'.unique Q (mul_cancel s.nz e2)
    rw [ea, eb] at ok
    exact ok
  · have := R.qb na nb (by omega) (by omega)
    have hpt := R.pt L (by omega)
    have := BB_eq
    exact part_ok (A := A) (N := mm + L + 1) (M := 2000000) rfl (by omega) Q la lb (by omega) hnb (tm.mono (by omega)) hD hd (fun i hi => hρ i (by omega)) (by omega) hpt (by omega) (by omega)
/-- where the length rose, a shorter pair doesn't keep all places -/
theorem less_at (hm : off + 1 = (m : Int)) {k j : Nat} {a b : Ser} (Q : Quo a b) (la : Lt a (j + m)) (lb : Lt b (j + 1)) (hj : j < (gs off r k).ch.L) (all : ∀ i, i < k → r i = own a b i) : False := by
  obtain ⟨h, hk⟩ := gs_bm (r := r) hm k
  have := h.least b j (by rw [Q.b0]; decide) lb fun i h1 h2 => by
    by_cases hi : i < k
    · have e : (b * (⟨r⟩ : Ser)) i = (b * (⟨own a b⟩ : Ser)) i := by
        rw [Ser.mul_co, Ser.mul_co]
        exact sumTo_congr fun l hl => by
          show b l * r (i - l) = b l * own a b (i - l)
          rw [all (i - l) (by omega)]
      rw [e, own_mul Q.b0]
      exact la i h1
    · omega
  omega
theorem first_miss {P : Nat → Prop} : ∀ n, (¬ ∀ i, i < n → P i) → ∃ k, k < n ∧ (∀ i, i < k → P i) ∧ ¬ P k
  | 0, h => absurd (fun i hi => absurd hi (Nat.not_lt_zero _)) h
  | n + 1, h => by
    by_cases c : ∀ i, i < n → P i
    · refine ⟨n, Nat.lt_succ_self _, c, fun hp => h fun i hi => ?_⟩
      by_cases e : i = n
      · rw [e]; exact hp
      · exact c i (by omega)
    · obtain ⟨k, h1, h2, h3⟩ := first_miss n c
      exact ⟨k, by omega, h2, h3⟩
end
end FQ
end
section
set_option Elab.async false
set_option linter.all false
set_option maxRecDepth 100000
namespace L2.FW
open PySem PySem.Spec PyProof.Rows

/-! ### division of any size -/
structure Big (X : Cx) : Prop where
  seer : X.base.NoSeer
  tree : X.prog.given.tree = none
  dp : X.A.depth + Builtin.pylongFrames < recursionLimit
  fr : ∃ env l, X.stack = env :: l ∧ env.scope.isGenerator = false ∧ env.scope.isCoroutine = false ∧ env.builtins = builtinsNs ∧ env.globals = mainGlobals
theorem Big.room {X : Cx} (B : Big X) {pins : List (Addr × Obj)} {σ : St} {H : Hp} {s : Shared} (I : Inv X pins σ H s) : PylongRoom (model X.prog X.w) X.A s := by
  obtain ⟨env, l, e1, e2, e3, e4, e5⟩ := B.fr
  exact PylongRoom.of I.nolimit B.dp (SeerAt.of (B.seer.keeps I.bk) B.tree (I.ok.frames.trans (by rw [e1])) e2 e3 e4 e5)
theorem op_fdivP {X : Cx} (B : Big X) : OpR X (binaryOp .FloorDiv) (rI (fun _ j => j ≠ 0) fun i j => .int (i.fdiv j)) := by
  intro pins s σ H x y v u Q I rx ry h
  obtain ⟨i, j, rfl, rfl, hc, q⟩ := h
  obtain ⟨t, rfl⟩ := rx
  obtain ⟨t', rfl⟩ := ry
  exact floordiv_int hc ⟨.int (i.fdiv j), H, I.tok _, ⟨_, rfl⟩, q⟩ (.inr (B.room I))
theorem call_divmodP {X : Cx} (B : Big X) : CallR X (.builtin "divmod") (fun xs H Q => ∃ i j, xs = [.int i, .int j] ∧ 0 < j ∧ ∀ p, H p = none → Q (.ref p) (upd H p (.tup [.int (i / j), .int (i % j)]))) := by
  intro pins s σ H xs us Q I r h
  obtain ⟨i, j, rfl, h1, q⟩ := h
  obtain ⟨u, w', rfl, ⟨t, rfl⟩, ⟨t', rfl⟩⟩ := vals2 r
  refine divmod_int (by omega) ?_ (.inr (B.room I))
  rw [Int.fdiv_eq_ediv_of_nonneg i (by omega), Int.fmod_eq_emod_of_nonneg i (by omega)]
  have hn : H s.heap.objs.size = none := I.hok.fresh (Nat.le_refl _)
  refine ⟨.ref s.heap.objs.size, _, ?_, rfl, q _ hn⟩
  refine I.laid (fun b o e => Heap.get?_push_of_some _ e) (Nat.le_refl _) ⟨by simp only [List.length_cons, List.length_nil]; rw [sizeLine_eq]; decide, [.int (i / j) s.toks, .int (i % j) (s.toks + 1)], .cons ⟨_, rfl⟩ (.cons ⟨_, rfl⟩ .nil), ?_⟩
  exact ⟨_, Heap.get?_push_size s.heap rfl, rfl, 0, rfl⟩

/-! ### C() of a class without __init__ -/
structure MkE (K : PySem.W.Frag) (C : Addr) : Prop where
  makes : PySem.W.makesIn K C = true
  init : PySem.W.findIn K (.ref C) "__init__" = some (some (.builtin "object.__init__"))
  kp : PySem.W.keepIn K (.ref C) = true
def tMakeE (C : Addr) : TE := fun _ H Q => ∀ x dx, H x = none → H dx = none → dx ≠ x → Q (.ref x) (upd (upd H dx (.own x)) x (.ins C dx []))
theorem pe_makeE {X : Cx} {C : Addr} {x : Str} {p pos : Pos} (M : MkE X.K C) (hg : Gl X x) (hm : X.mg x = some (.ref C)) (hdb : (x == ("__debug__" : Str)) = false := by decide) :
    PE X (.Call (.Name x p) [] [] pos) (tMakeE C) := by
  refine ⟨fun pins s σ H Q I h => ?_⟩
  refine wpAny_Call_Name_kw (ld_glob I hg hm ?_ hdb)
  refine PySem.W.callWith_K0 I.kIn M.kp ?_
  have hq := h (s.heap.objs.size + 1) s.heap.objs.size (I.hok.fresh (Nat.le_succ _)) (I.hok.fresh (Nat.le_refl _)) (Nat.ne_of_lt (Nat.lt_succ_self _))
  have I2 := Inv.made (C := C) I
  refine wpAny_call (make_map0 I.kIn M.makes M.init (fun self => PySem.W.Looks.of_pure (PySem.W.oi_bind self)) ?_)
  have hx : ((s.heap.push PySem.W.emptyDict).push (PySem.W.instObj C s.heap.objs.size)).get? (s.heap.objs.size + 1) = some (PySem.W.instObj C s.heap.objs.size) := by
    have := Heap.get?_push_size (s.heap.push PySem.W.emptyDict) (o := PySem.W.instObj C s.heap.objs.size) rfl
    rwa [Heap.size_push] at this
  have Y := PySem.W.makes_of (M := model X.prog X.w) I.kIn M.makes
  have t1 : PySem.W.Looks (model X.prog X.w) ((s.heap.push PySem.W.emptyDict).push (PySem.W.instObj C s.heap.objs.size)) (typeOf (.ref (s.heap.objs.size + 1))) (.ref C) := (PySem.W.Looks.ld hx).andThen .now
  have t2 : PySem.W.Looks (model X.prog X.w) ((s.heap.push PySem.W.emptyDict).push (PySem.W.instObj C s.heap.objs.size)) (isInstance (.ref (s.heap.objs.size + 1)) (.type "object")) true :=
    t1.andThen (Y.top.keeps fun b o e => Heap.get?_push_of_some _ (Heap.get?_push_of_some _ e))
  refine codeAny_call_builtin PySem.W.oi_plain PySem.W.entry_oi (@PySem.W.check_slot (model X.prog X.w) _ _ _ "object.__init__" "object" "__init__" (.ref (s.heap.objs.size + 1)) [] [] _ PySem.W.oi_kind PySem.W.oi_split t2 (PySem.W.oi_args (.ref (s.heap.objs.size + 1))) ?_)
  rw [PySem.W.oi_run]
  exact wpAny_pure (And.intro rfl ⟨V.ref (s.heap.objs.size + 1), _, I2, rfl, hq⟩)
end L2.FW
end
section
set_option Elab.async false
set_option linter.all false
set_option maxRecDepth 100000
namespace PySem
open Sem (wp)
open AutoSeq1 (wpAny_loadPart')
theorem fw_meets_enumT (l : Addr) (items : Array Value) (n : Nat) (dct : Option Addr) (sl : Array (Option Value)) :
    Meets (Builtin.«enumerate.__new__» ⟨[.type "enumerate", .ref l], []⟩) (fun _ R s => s.heap.get? l = some { cls := .type "tuple", dict := dct, data := .seq items n, slots := sl } ∧
      R (.ok (.ret (.ref (s.heap.push { cls := .type "tuple_iterator", data := .fields #[.ref l, .int 0 0] }).objs.size)))
        { s with heap := (s.heap.push { cls := .type "tuple_iterator", data := .fields #[.ref l, .int 0 0] }).push { cls := .type "enumerate", data := .fields #[.none, .bool false, .ref s.heap.objs.size, rawInt 0, .none, .none] } }) :=
  .of_wp fun prog w A R s h => by
    obtain ⟨hp, g, d, tk, os⟩ := s; obtain ⟨hl, h⟩ := h
    have hsub := sub_enumerate
    have hL : Heap.IsTuple (Shared.heap ⟨hp, g, d, tk, os⟩) l items := ⟨_, hl, rfl, n, rfl⟩
    wp_walk using wpAny_loadPart' hl
    refine wpAny_stack_any fun st => wpAny_pure ?_
    split
    · rename_i c _ _ _ _ _
      cases (c == Value.type "enumerate")
      · wp_walk using wpAny_loadPart' hl, wpAny_pyIter_tuple hL
        exact ⟨_, rfl, h⟩
      · wp_walk using wpAny_loadPart' hl, wpAny_pyIter_tuple hL
        exact ⟨_, rfl, h⟩
    · wp_walk using wpAny_loadPart' hl, wpAny_pyIter_tuple hL
      exact ⟨_, rfl, h⟩
section
variable {prog : Program} {w : World} {A : Around} {E : Value → Shared → Prop} {s : Shared}
theorem fw_call_enumT {l : Addr} {items : Array Value} {Q : Value → Shared → Prop} (hL : s.heap.IsTuple l items)
    (h : ∀ h', IsEnum h' (s.heap.objs.size + 1) s.heap.objs.size 0 .none → h'.IsTupleIter s.heap.objs.size l 0 → h'.objs.size = s.heap.objs.size + 2 →
      (∀ b o, s.heap.get? b = some o → h'.get? b = some o) → Q (.ref (s.heap.objs.size + 1)) { s with heap := h' }) :
    wpAny (model prog w) A (call (.type "enumerate") [.ref l]) Q E s := by
  obtain ⟨⟨c, dct, dt, sl⟩, hl, hc, n, hd⟩ := hL
  replace hc : c = .type "tuple" := hc
  replace hd : dt = .seq items n := hd
  subst hc hd
  refine callType_new F.called_enumerate (by decide) (F.typeCall_enumerate_1 _) (F.newCall_enumerate_1 _) (fun obj => F.args_object_init_2 obj _) F.entry_enumerate_new
    (fw_meets_enumT l items n dct sl) ⟨hl, ?_⟩
  have hz : (s.heap.push { cls := .type "tuple_iterator", data := .fields #[.ref l, .int 0 0] }).objs.size = s.heap.objs.size + 1 := Heap.size_push ..
  show _ ∧ _
  rw [hz]
  have he : IsEnum ((s.heap.push { cls := .type "tuple_iterator", data := .fields #[.ref l, .int 0 0] }).push
      { cls := .type "enumerate", data := .fields #[.none, .bool false, .ref s.heap.objs.size, rawInt 0, .none, .none] }) (s.heap.objs.size + 1) s.heap.objs.size 0 .none := by
    have := Heap.get?_push_size (s.heap.push { cls := .type "tuple_iterator", data := .fields #[.ref l, .int 0 0] })
      (o := { cls := .type "enumerate", data := .fields #[.none, .bool false, .ref s.heap.objs.size, rawInt 0, .none, .none] }) rfl
    rw [hz] at this; exact this
  refine ⟨⟨_, he, rfl⟩, h _ he ⟨_, Heap.get?_push_of_some _ (Heap.get?_push_size _ rfl), rfl, rfl⟩ (by rw [Heap.size_push, hz]) fun b o x => Heap.get?_push_of_some _ (Heap.get?_push_of_some _ x)⟩
end
end PySem
namespace L2.FW
open PySem PySem.Spec PyProof.Rows
/-! ### enumerate(tuple) -/
def IteT (K : PySem.W.Frag) (a : Addr) : It :=
  ⟨fun i H => ∃ (xs : List V) (x : V), SqT K H a xs ∧ xs[i]? = some x, fun i H v H' => ∃ T x, v = .ref T ∧ H T = none ∧ H' = upd H T (.tup [.int (i : Nat), x]) ∧ ∀ xs, SqT K H a xs → xs[i]? = some x, fun i H => ∃ xs : List V, SqT K H a xs ∧ xs.length ≤ i⟩
theorem turn_enumT {P : Program} {w : World} {K : PySem.W.Frag} {elts : List Expr} {kk : Nat} {tpos : Pos} (a e it : Addr) :
    Turn P w K (.Tuple elts kk tpos) (IteT K a) [e, it] e (fun i h => (∃ old, IsEnum h e it ((i : Nat) : Int) old) ∧ h.IsTupleIter it a i ∧ e ≠ it) where
  mem := by simp
  obj := fun i h st b hb => by
    obtain ⟨⟨old, he⟩, ⟨o, ho, hc, hd⟩, _⟩ := st
    have e' : b = e ∨ b = it := by simpa using hb
    rcases e' with z | z
    · rw [z]; exact ⟨_, he, fun v q => nomatch q⟩
    · rw [z]; exact ⟨o, ho, fun v q => by rw [hd] at q; cases q⟩
  keep := fun i h h' st k => let ⟨⟨old, he⟩, hi, hne⟩ := st; ⟨⟨old, k e (by simp) _ he⟩, hi.at fun o q => k it (by simp) o q, hne⟩
  item := by
    intro X hP hw hK hc i pins s σ H E I hf st hg
    subst hP hw hK
    obtain ⟨⟨old, he⟩, hit, hne⟩ := st
    obtain ⟨xs, x, hq, hx⟩ := hg
    obtain ⟨its, rv, p, hz⟩ := I.tuple hq
    obtain ⟨u, hu, ru⟩ := rv.get hx
    have hT : s.heap.IsTuple a its.toArray := p
    obtain ⟨oa, hoa, hca, na, hda⟩ := id hT
    have hel : e < s.heap.objs.size := Heap.lt_size he
    have hil : it < s.heap.objs.size := by obtain ⟨_, q, _⟩ := hit; exact Heap.lt_size q
    have nai : a ≠ it := fun z => by
      obtain ⟨o, ho, hc', hd⟩ := id hit
      rw [z, ho] at hoa; cases hoa; rw [hd] at hda; cases hda
    have nae : a ≠ e := fun z => by
      rw [z] at hoa; rw [show s.heap.get? e = some _ from he] at hoa; cases hoa; cases hda
    have hlt : i < its.toArray.size := by
      have := (List.getElem?_eq_some_iff.mp hu).1
      simpa using this
    refine wpAny_pyNext_enum_itemD (Draws.tuple (A := X.A.in1) (I.ok.hd hc) it a nai its.toArray) he ⟨hit, hT⟩ hlt hne (by simp; exact ⟨hne, nae.symm⟩) fun y h' tk hy ho hst hTp hsz hk => ?_
    have ey : y = u := by
      have q : its.toArray[i]? = some u := by simpa using hu
      exact Option.some.inj (hy.symm.trans q)
    subst ey
    refine ⟨_, rfl, wpAny_letOwnedTupleGo_enum (s := { s with heap := h', toks := tk + 1 }) ho fun h'' he' sb => ?_⟩
    have hT2 : h''.get? s.heap.objs.size = some { cls := .type "tuple", data := .seq #[.int i tk, y] } := (sb.2 _ (Nat.ne_of_gt hel)).trans hTp
    have new : ObjOk X.prog X.w (upd H s.heap.objs.size (.tup [.int (i : Nat), x])) h'' s.heap.objs.size (.tup [.int (i : Nat), x]) :=
      ⟨by show 2 ≤ sizeLine; decide, [.int i tk, y], .cons ⟨_, rfl⟩ (.cons ru .nil), ⟨_, hT2, rfl, _, rfl⟩⟩
    have I1 : Inv X pins σ (upd H s.heap.objs.size (.tup [.int (i : Nat), x])) { s with heap := h'', toks := tk + 1 } :=
      I.turnedNew (ch := [e, it]) (fun b ob hb q => (sb.2 b (fun z => hb (by simp [z]))).trans (hk b ob (fun z => hb (by simp [z])) (fun z => hb (by simp [z])) q)) hf (Nat.le_refl _) new
    refine ⟨.ref s.heap.objs.size, _, I1, rfl, ⟨_, x, rfl, I.hok.fresh (Nat.le_refl _), rfl, fun ys hy => by rw [I.tuple_inj hy hq]; exact hx⟩, ⟨⟨y, ?_⟩, hst.1.at fun o q => (sb.2 it (Ne.symm hne)).trans q, hne⟩, fun b hb => ?_⟩
    · have e1 : ((i + 1 : Nat) : Int) = (i : Int) + 1 := by omega
      rw [e1]; exact he'
    · have hb' : b < s.heap.objs.size := by
        have e' : b = e ∨ b = it := by simpa using hb
        rcases e' with z | z
        · rw [z]; exact hel
        · rw [z]; exact hil
      rw [upd_ne (Nat.ne_of_lt hb')]
      exact (hf b hb).1
  done := by
    intro X hP hw hK hc i pins s σ H E I hf st hg
    subst hP hw hK
    obtain ⟨⟨old, he⟩, hit, hne⟩ := st
    obtain ⟨xs, hq, hx⟩ := hg
    obtain ⟨its, rv, p, hz⟩ := I.tuple hq
    have hT : s.heap.IsTuple a its.toArray := p
    obtain ⟨oa, hoa, hca, na, hda⟩ := id hT
    obtain ⟨f0, f1, f2, f3, f4, f5⟩ := hf it (by simp)
    have hl := rv.length
    have nai : a ≠ it := fun z => by
      obtain ⟨o, ho, hc', hd⟩ := id hit
      rw [z, ho] at hoa; cases hoa; rw [hd] at hda; cases hda
    have hT' : s.TypeIs (.ref e) "enumerate" := ⟨_, he, rfl⟩
    unfold pyNext
    refine wpAny_bind (wpAny_attempt (wpAny_callSpecial?_slot (name := Str.ofString "__next__") hT' F.slot_enumerate_next
      (wpAny_call_entry F.slot_enumerate_next hT' F.entry_enumerate_next ?_ (F.args_enumerate_next_1 _))))
    show wpAny _ _ (field (.ref e) 2 >>= _) _ _ _
    refine wpAny_bind (wpAny_field he rfl (x := .ref it) rfl ?_)
    refine wpAny_bind (wpAny_nextOf_tuple_end (I.ok.hd hc) hit hT (Array.getElem?_eq_none (by simp; omega)) fun h' x he' hx' => ?_)
    obtain ⟨o, ho, hcx⟩ := hx'
    refine wpAny_bind (wpAny_isInstance (T := "StopIteration") (b := true) ⟨o, ho, hcx⟩ isSubtype_stop ?_)
    exact wpAny_pure ⟨rfl, I.turned (t' := s.toks) (fun b o hb q => he' b o hb q) f0 f1 f3 f4 f5⟩
  self := fun A i s Q E st h => let ⟨⟨_, he⟩, _⟩ := st; wpAny_pyIter_enum he h
def iEnumT (K : PySem.W.Frag) (ta : TA) : TI := fun σ H R => ta σ H fun vs H1 => ∃ a xs, vs = [.ref a] ∧ SqT K H1 a xs ∧ R (IteT K a) H1
theorem pi_enumT {X : Cx} {e : Expr} {ta : TA} {p pos tpos : Pos} {elts : List Expr} {kk : Nat} (hg : Gl X "enumerate") (hm : X.mg "enumerate" = none) (ha : PA X [e] ta) (hs : starEach [e] X.env = [(false, eval e X.env)] := by rfl) :
    PI X (.Tuple elts kk tpos) (.Call (.Name "enumerate" p) [e] [] pos) (iEnumT X.K ta) := by
  refine ⟨fun pins s σ H R I h => ?_⟩
  refine Call_ (ld_blt I hg hm boot_enumerate (PyProof.Rows.callWith_type1 (thn (ha.run pos pins s σ H _ I h) fun us s1 ⟨vs, H1, I1, r1, q1⟩ => ?_) hs rfl))
  obtain ⟨a, xs, ex, hq, q⟩ := q1
  subst ex
  cases r1 with
  | cons r rr =>
    cases rr
    cases r
    obtain ⟨its, rv, p', hz⟩ := I1.tuple hq
    refine fw_call_enumT (show s1.heap.IsTuple a its.toArray from p') fun h' he hit hsz hk => wpAny_pyIter_enum he ?_
    have I2 : Inv X pins σ H1 { s1 with heap := h' } := I1.kept (t' := s1.toks) hk
    refine ⟨s1.heap.objs.size + 1, [s1.heap.objs.size + 1, s1.heap.objs.size], _, _, H1, rfl, I2, turn_enumT a (s1.heap.objs.size + 1) s1.heap.objs.size, ⟨⟨.none, he⟩, hit, Nat.succ_ne_self _⟩, fun b hb => ?_, q⟩
    have e' : b = s1.heap.objs.size + 1 ∨ b = s1.heap.objs.size := by simpa using hb
    have hle : s1.heap.objs.size ≤ b := by
      rcases e' with z | z
      · rw [z]; exact Nat.le_add_right _ _
      · rw [z]; exact Nat.le_refl _
    exact I1.fpOk hle (I1.hok.fresh hle)
end L2.FW
end
section
set_option Elab.async false
set_option linter.all false
set_option maxRecDepth 100000
namespace L2.FW
open PySem PySem.Spec PyProof.Rows
def topS (i : Nat) : Stmt := PySem.Challenge.pw_farquotient_k95_whole_grown_place_by_pla.main.body.getD i (.Pass ⟨0, 0, 0, 0⟩)

/-! ### defs and methods by their promises -/
structure At (K : PySem.W.Frag) (mg : Str → Option Value) (x : Str) (st : Stmt) : Prop where
  ex : ∃ f fd, Fun K x x st f fd ∧ mg x = some (.ref f)
structure Gd (P : Program) (w : World) (K : PySem.W.Frag) (mg : Str → Option Value) (base : Heap) (x : Str) (k : Nat) (ps : List Str) (sp : Sp) : Prop where
  ex : ∃ f fd, FnOk P w K mg base CX0 k f fd ps sp ∧ mg x = some (.ref f) ∧ PySem.W.keepIn K (.ref f) = true ∧ Binds K fd ps []
structure Md (P : Program) (w : World) (K : PySem.W.Frag) (mg : Str → Option Value) (base : Heap) (C : Addr) (m : Str) (k : Nat) (ps : List Str) (sp : Sp) : Prop where
  ex : ∃ f fd, FnOk P w K mg base CX0 k f fd ps sp ∧ Meth K C m f ∧ Binds K fd ps []
section
variable {P : Program} {w : World} {K : PySem.W.Frag} {mg : Str → Option Value} {base : Heap} {x : Str} {j k : Nat} {ps : List Str} {sp : Sp} {C : Addr} {m : Str}
theorem Gd.mono (G : Gd P w K mg base x j ps sp) (h : j ≤ k) : Gd P w K mg base x k ps sp :=
  let ⟨f, fd, a, b, c, d⟩ := G.ex; ⟨f, fd, a.mono h, b, c, d⟩
theorem Md.mono (G : Md P w K mg base C m j ps sp) (h : j ≤ k) : Md P w K mg base C m k ps sp :=
  let ⟨f, fd, a, b, c⟩ := G.ex; ⟨f, fd, a.mono h, b, c⟩
/-- the same def by another name of the module -/
theorem Gd.alias {y : Str} (G : Gd P w K mg base x k ps sp) (h : mg y = mg x) : Gd P w K mg base y k ps sp :=
  let ⟨f, fd, a, b, c, d⟩ := G.ex; ⟨f, fd, a, h.trans b, c, d⟩
end
section
variable {X : Cx} {x : Str} {k : Nat} {ps : List Str} {sp : Sp} {p pos apos : Pos} {e o : Expr} {es : List Expr} {t : TA} {ta : TE} {C : Addr} {m : Str}
theorem pe_gd (G : Gd X.prog X.w X.K X.mg X.base x k ps sp) (hr : Room k X.A) (hg : Gl X x) (ha : PA X (e :: es) t) (hdb : (x == ("__debug__" : Str)) = false := by decide)
    (he : starEach (e :: es) X.env = (false, eval e X.env) :: starEach es X.env := by rfl) (hpl : (backTo pos (starEach es X.env)).any (·.1) = false := by rfl) :
    PE X (.Call (.Name x p) (e :: es) [] pos) (tCall sp [] E0 t) := by
  obtain ⟨f, fd, F, g, kp, b⟩ := G.ex
  exact pe_call F hr hg g kp b .nil pass0 ha hdb he hpl
end
end L2.FW
end
section
set_option Elab.async false
set_option linter.all false
set_option maxRecDepth 100000
namespace L2.FW
open PySem PySem.Spec PyProof.Rows
open FQ (Fit BB BB_eq)
abbrev sGcd : Stmt := topS 6
abbrev sNumber : Stmt := topS 7
abbrev sPlus : Stmt := topS 8
abbrev sMinus : Stmt := topS 10
abbrev sTimes : Stmt := topS 12
abbrev sOver : Stmt := topS 14

/-! ### numbers as they stand in the heap -/
def NumAt (K : PySem.W.Frag) (H : Hp) (v : V) (x : Rat) : Prop := ∃ p, v = .ref p ∧ SqT K H p [.int x.num, .int (x.den : Int)]
theorem _root_.L2.Same.seqT {K : PySem.W.Frag} {H H' : Hp} {a : Addr} {xs : List V} (e : Same H H') (h : SqT K H a xs) : SqT K H' a xs := by
  rcases h with (h | ⟨o, h⟩) | h
  · exact .inl (.inl (e _ _ h))
  · exact .inl (.inr ⟨o, e _ _ h⟩)
  · exact .inr h
theorem NumAt.mono {K : PySem.W.Frag} {H H' : Hp} {v : V} {x : Rat} (h : NumAt K H v x) (s : Same H H') : NumAt K H' v x :=
  let ⟨p, e, q⟩ := h; ⟨p, e, s.seqT q⟩
theorem same_upd {H : Hp} {p : Addr} {o : HO} (h : H p = none) : Same H (upd H p o) := fun b x e => by
  rw [upd_ne (ne_of_none e h)]
  exact e

/-! ### greatest_both -/
def spGcd : Sp := fun vs H Q _ => ∃ a b : Int, vs = [.int a, .int b] ∧ Q (.int (Int.gcd a b : Nat)) H
theorem scGcd : FnScope ["one", "other"] ["one", "other"] (defScope sGcd) := ⟨rfl, rfl, rfl, by decide +kernel, rfl, by decide +kernel, by decide +kernel⟩
theorem iabs (a : Int) : (if a < 0 then -a else a) = (a.natAbs : Int) := by split <;> omega
section
variable {P : Program} {w : World} {K : PySem.W.Frag} {mg : Str → Option Value} {base : Heap} {k : Nat}
theorem gd_gcd (a : At K mg "greatest_both" sGcd) (mA : mg "abs" = none) : Gd P w K mg base "greatest_both" (k + 1) ["one", "other"] spGcd := by
  obtain ⟨f, fd, F, g⟩ := a.ex
  refine ⟨f, fd, ?_, g, F.kp, F.binds fun _ _ _ _ _ _ us hl => match us, hl with | [_, _], _ => rfl⟩
  refine F.ok scGcd (fun vs H Q E h => ?_) (fun cdv A outer s H vs Q E hr h => ?_)
  · obtain ⟨a, b, rfl, _⟩ := h
    rfl
  · obtain ⟨a, b, rfl, q⟩ := h
    refine ⟨_, pss_cons (ps_set (i := 0) scGcd.nd rfl (.inl rfl) (pe_callB call_abs (by rfl) mA (by decide +kernel) (pa_cons (pv 0) pa_nil)))
      (pss_cons (ps_set (i := 1) scGcd.nd rfl (.inl rfl) (pe_callB call_abs (by rfl) mA (by decide +kernel) (pa_cons (pv 1) pa_nil)))
      (pss_cons (ps_while PassesOwn.never (pt_cmpR op_ne (pv 1) pe_int (nomark _))
        (pss_one (ps_par (i := 0) (j := 1) rfl scGcd.nd rfl rfl (by decide) rfl rfl (pa_cons (pv 1) (pa_cons (pe_op op_mod (pv 0) (pv 1)) pa_nil)) rfl)))
      (pss_one (ps_ret (pv 0))))), ?_⟩
    refine ⟨_, rfl, a, rfl, _, rfl, b, rfl, ?_⟩
    rw [iabs, iabs]
    refine while_by (fun σ H' => H' = H ∧ ∃ c d : Int, σ = [some (.int c), some (.int d)] ∧ 0 ≤ c ∧ 0 ≤ d ∧ Int.gcd c d = Int.gcd a b) (fun σ _ => match σ with | [_, some (.int d)] => d.toNat | _ => 0) ⟨rfl, _, _, rfl, by omega, by omega, by simp [Int.gcd]⟩ ?_ ?_
    · rintro σ _ ⟨rfl, c, d, rfl, hc, hd, e⟩
      refine ⟨_, rfl, rfl, _, rfl, ?_⟩
      refine ite2 (fun hn => ?_) (fun hn => ?_)
      · have hd0 : d ≠ 0 := fun z => by simp [z] at hn
        have hdp : 0 < d := by omega
        refine ⟨_, rfl, _, rfl, _, rfl, _, _, rfl, rfl, hdp, _, _, rfl, ⟨rfl, _, _, rfl, hd, Int.emod_nonneg _ hd0, ?_⟩, ?_⟩
        · rw [FQ.emod_gcd hc hdp, e]
        · have := Int.emod_lt_of_pos c hdp
          have := Int.emod_nonneg c hd0
          show (c % d).toNat < d.toNat
          omega
      · have hd0 : d = 0 := by
          refine Classical.byContradiction fun z => hn ?_
          simp [z]
        subst hd0
        refine ⟨_, rfl, ?_⟩
        have e2 : (Int.gcd a b : Int) = c := by rw [← e, Int.gcd_zero_right]; omega
        rw [e2] at q
        exact q
    · intro σ H Q Q' hq h
      obtain ⟨v, e1, h1, kk, e2, h2⟩ := h
      exact ⟨v, e1, h1, kk, e2, hq _ _ h2⟩
end
end L2.FW
end
section
set_option Elab.async false
set_option linter.all false
set_option maxRecDepth 100000
namespace L2.FW
open PySem PySem.Spec PyProof.Rows
open FQ (Fit BB BB_eq FitP)
theorem Room.big {k : Nat} {A : Around} (r : Room k A) (h : 33 ≤ k) : A.depth + Builtin.pylongFrames < recursionLimit := by
  have h1 := r.dp
  have h2 : Builtin.pylongFrames = 100 := rfl
  omega
theorem big_cx {CX : CXT} {P : Program} {w : World} {K : PySem.W.Frag} {mg : Str → Option Value} {base : Heap} {N ps : List Str} {qual : Str} {st : Stmt} {f : Addr} {cdv : Value} {A : Around} {outer : List Env} {s : Shared} {H : Hp} {E : XK} {k : Nat}
    (hS : base.NoSeer) (hT : P.given.tree = none) (S : FnScope N ps (defScope st)) (hr : Room k (A.deeper (envOfC qual (defScope st) s.heap.objs.size f cdv))) (hk : 33 ≤ k) :
    Big (cxOf CX P w K mg base N qual (defScope st) f cdv A outer s H E).nox :=
  ⟨hS, hT, Room.big hr hk, _, _, rfl, S.gen, S.co, rfl, rfl⟩
theorem fit_mul {a b : Int} (ha : a.natAbs < 2 ^ BB) (hb : b.natAbs < 2 ^ BB) : CMulX a b := mulx_ok ha hb (by rw [BB_eq]; decide)
theorem _root_.FQ.Fit.n {x : Rat} (h : Fit x) : x.num.natAbs < 2 ^ BB := h.1
theorem _root_.FQ.Fit.d {x : Rat} (h : Fit x) : ((x.den : Nat) : Int).natAbs < 2 ^ BB := by rw [Int.natAbs_natCast]; exact h.2

/-! ### number -/
def spNumber (K : PySem.W.Frag) : Sp := fun vs H Q _ => ∃ t b : Int, vs = [.int t, .int b] ∧ b ≠ 0 ∧ ∀ H' v, Same H H' → NumAt K H' v (Rat.divInt t b) → Q v H'
theorem scNumber : FnScope ["top", "below", "both"] ["top", "below"] (defScope sNumber) := ⟨rfl, rfl, rfl, by decide +kernel, rfl, by decide +kernel, by decide +kernel⟩
theorem num_made (t b : Int) (hb : 0 < b) : ([.int (t.fdiv (Int.gcd t b : Nat)), .int (b.fdiv (Int.gcd t b : Nat))] : List V) = [.int (Rat.divInt t b).num, .int ((Rat.divInt t b).den : Int)] := by
  rw [FQ.divInt_num t b hb, FQ.divInt_den t b hb, Int.fdiv_eq_ediv_of_nonneg _ (by omega), Int.fdiv_eq_ediv_of_nonneg _ (by omega)]
section
variable {P : Program} {w : World} {K : PySem.W.Frag} {mg : Str → Option Value} {base : Heap} {k : Nat}
theorem gd_number (hS : base.NoSeer) (hT : P.given.tree = none) (hk : 33 ≤ k) (a : At K mg "number" sNumber) (G : Gd P w K mg base "greatest_both" k ["one", "other"] spGcd) :
    Gd P w K mg base "number" (k + 1) ["top", "below"] (spNumber K) := by
  obtain ⟨f, fd, F, g⟩ := a.ex
  refine ⟨f, fd, ?_, g, F.kp, F.binds fun _ _ _ _ _ _ us hl => match us, hl with | [_, _], _ => rfl⟩
  refine F.ok scNumber (fun vs H Q E h => ?_) (fun cdv A outer s H vs Q E hr h => ?_)
  · obtain ⟨t, b, rfl, _⟩ := h
    rfl
  · obtain ⟨t, b, rfl, hb, q⟩ := h
    have B := big_cx (CX := CX0) (P := P) (w := w) (K := K) (mg := mg) (base := base) (outer := outer) (s := s) (H := H) (E := E) hS hT scNumber hr hk
    refine ⟨_, pss_cons (ps_if (pt_cmpR op_lt (pv 1) pe_int (nomark _)) (pss_cons (ps_set (i := 0) scNumber.nd rfl (.inl rfl) (pe_un un_neg (pv 0))) (pss_one (ps_set (i := 1) scNumber.nd rfl (.inl rfl) (pe_un un_neg (pv 1))))) pss_nil)
      (pss_cons (ps_set (i := 2) scNumber.nd rfl (.inl rfl) (pe_gd G hr (by rfl) (pa_cons (pv 0) (pa_cons (pv 1) pa_nil))))
      (pss_one (ps_ret (pe_tup (pa_cons (pe_op (op_fdivP B) (pv 0) (pv 2)) (pa_cons (pe_op (op_fdivP B) (pv 1) (pv 2)) pa_nil)))))), ?_⟩
    have fin : ∀ t b : Int, 0 < b → (∀ H' v, Same H H' → NumAt K H' v (Rat.divInt t b) → Q v H') → ∀ p, H p = none → Q (.ref p) (upd H p (.tup [.int (t.fdiv (Int.gcd t b : Nat)), .int (b.fdiv (Int.gcd t b : Nat))])) := fun t b hb q p hp =>
      q _ _ (same_upd hp) ⟨p, rfl, .inl (.inl (by rw [upd_same, num_made t b hb]))⟩
    have gp : ∀ t b : Int, 0 < b → ((Int.gcd t b : Nat) : Int) ≠ 0 := fun t b hb => by
      have := Int.gcd_pos_of_ne_zero_right t (show b ≠ 0 by omega)
      omega
    refine ⟨_, rfl, _, _, rfl, rfl, _, rfl, ite2 (fun hn => ?_) (fun hn => ?_)⟩
    · have hn' : b < 0 := of_decide_eq_true hn
      refine ⟨_, rfl, t, rfl, _, rfl, b, rfl, _, rfl, _, rfl, -t, -b, rfl, ?_⟩
      refine ⟨_, rfl, _, rfl, _, _, rfl, rfl, gp _ _ (by omega), _, rfl, _, rfl, _, _, rfl, rfl, gp _ _ (by omega), (by show 2 ≤ sizeLine; decide), ?_⟩
      exact fin (-t) (-b) (by omega) (by rw [Rat.neg_divInt_neg]; exact q)
    · have hn' : ¬ b < 0 := fun z => hn (decide_eq_true z)
      refine ⟨_, rfl, _, rfl, t, b, rfl, ?_⟩
      refine ⟨_, rfl, _, rfl, _, _, rfl, rfl, gp _ _ (by omega), _, rfl, _, rfl, _, _, rfl, rfl, gp _ _ (by omega), (by show 2 ≤ sizeLine; decide), ?_⟩
      exact fin t b (by omega) q

/-! ### plus, minus, times, over -/
def sp2 (K : PySem.W.Frag) (g : Rat → Rat → Rat) (ok : Rat → Rat → Prop) : Sp := fun vs H Q _ => ∃ a b x y, vs = [a, b] ∧ NumAt K H a x ∧ NumAt K H b y ∧ Fit x ∧ Fit y ∧ ok x y ∧ ∀ H' v, Same H H' → NumAt K H' v (g x y) → Q v H'
theorem sc2 {st : Stmt} (h : defScope st = defScope sPlus) : FnScope ["one", "other"] ["one", "other"] (defScope st) := by
  rw [h]
  exact ⟨rfl, rfl, rfl, by decide +kernel, rfl, by decide +kernel, by decide +kernel⟩
theorem at0 {a b : V} : atI [a, b] 0 = some a := rfl
theorem at1 {a b : V} : atI [a, b] 1 = some b := rfl
theorem scPlus : FnScope ["one", "other"] ["one", "other"] (defScope sPlus) := ⟨rfl, rfl, rfl, by decide +kernel, rfl, by decide +kernel, by decide +kernel⟩
theorem scMinus : FnScope ["one", "other"] ["one", "other"] (defScope sMinus) := ⟨rfl, rfl, rfl, by decide +kernel, rfl, by decide +kernel, by decide +kernel⟩
theorem scTimes : FnScope ["one", "other"] ["one", "other"] (defScope sTimes) := ⟨rfl, rfl, rfl, by decide +kernel, rfl, by decide +kernel, by decide +kernel⟩
theorem scOver : FnScope ["one", "other"] ["one", "other"] (defScope sOver) := ⟨rfl, rfl, rfl, by decide +kernel, rfl, by decide +kernel, by decide +kernel⟩
theorem gd_plus (a : At K mg "plus" sPlus) (G : Gd P w K mg base "number" k ["top", "below"] (spNumber K)) : Gd P w K mg base "plus" (k + 1) ["one", "other"] (sp2 K (fun x y => x + y) fun _ _ => True) := by
  obtain ⟨f, fd, F, g⟩ := a.ex
  refine ⟨f, fd, ?_, g, F.kp, F.binds fun _ _ _ _ _ _ us hl => match us, hl with | [_, _], _ => rfl⟩
  refine F.ok scPlus (fun vs H Q E h => ?_) (fun cdv A outer s H vs Q E hr h => ?_)
  · obtain ⟨a, b, x, y, rfl, _⟩ := h
    rfl
  · obtain ⟨a, b, x, y, rfl, ⟨pa, rfl, ha⟩, ⟨pb, rfl, hb⟩, fx, fy, _, q⟩ := h
    refine ⟨_, pss_one (ps_ret (pe_gd G hr (by rfl) (pa_cons
      (pe_op op_add (pe_op op_mulX (pe_ix ix_tup (pv 0) pe_int (fun _ _ => rfl)) (pe_ix ix_tup (pv 1) pe_int (fun _ _ => rfl)))
        (pe_op op_mulX (pe_ix ix_tup (pv 1) pe_int (fun _ _ => rfl)) (pe_ix ix_tup (pv 0) pe_int (fun _ _ => rfl))))
      (pa_cons (pe_op op_mulX (pe_ix ix_tup (pv 0) pe_int (fun _ _ => rfl)) (pe_ix ix_tup (pv 1) pe_int (fun _ _ => rfl))) pa_nil)))), ?_⟩
    refine ⟨_, rfl, pa, _, 0, _, rfl, rfl, ha, at0, _, rfl, pb, _, 1, _, rfl, rfl, hb, at1, _, _, rfl, rfl, fit_mul fx.n fy.d, ?_⟩
    refine ⟨_, rfl, pb, _, 0, _, rfl, rfl, hb, at0, _, rfl, pa, _, 1, _, rfl, rfl, ha, at1, _, _, rfl, rfl, fit_mul fy.n fx.d, _, _, rfl, rfl, ?_⟩
    refine ⟨_, rfl, pa, _, 1, _, rfl, rfl, ha, at1, _, rfl, pb, _, 1, _, rfl, rfl, hb, at1, _, _, rfl, rfl, fit_mul fx.d fy.d, ?_⟩
    refine ⟨_, _, rfl, ?_, ?_⟩
    · exact Int.ne_of_gt (Int.mul_pos (FQ.den_pos' x) (FQ.den_pos' y))
    · rw [FQ.add_eq]
      exact q
theorem gd_minus (a : At K mg "minus" sMinus) (G : Gd P w K mg base "number" k ["top", "below"] (spNumber K)) : Gd P w K mg base "minus" (k + 1) ["one", "other"] (sp2 K (fun x y => x - y) fun _ _ => True) := by
  obtain ⟨f, fd, F, g⟩ := a.ex
  refine ⟨f, fd, ?_, g, F.kp, F.binds fun _ _ _ _ _ _ us hl => match us, hl with | [_, _], _ => rfl⟩
  refine F.ok scMinus (fun vs H Q E h => ?_) (fun cdv A outer s H vs Q E hr h => ?_)
  · obtain ⟨a, b, x, y, rfl, _⟩ := h
    rfl
  · obtain ⟨a, b, x, y, rfl, ⟨pa, rfl, ha⟩, ⟨pb, rfl, hb⟩, fx, fy, _, q⟩ := h
    refine ⟨_, pss_one (ps_ret (pe_gd G hr (by rfl) (pa_cons
      (pe_op op_sub (pe_op op_mulX (pe_ix ix_tup (pv 0) pe_int (fun _ _ => rfl)) (pe_ix ix_tup (pv 1) pe_int (fun _ _ => rfl)))
        (pe_op op_mulX (pe_ix ix_tup (pv 1) pe_int (fun _ _ => rfl)) (pe_ix ix_tup (pv 0) pe_int (fun _ _ => rfl))))
      (pa_cons (pe_op op_mulX (pe_ix ix_tup (pv 0) pe_int (fun _ _ => rfl)) (pe_ix ix_tup (pv 1) pe_int (fun _ _ => rfl))) pa_nil)))), ?_⟩
    refine ⟨_, rfl, pa, _, 0, _, rfl, rfl, ha, at0, _, rfl, pb, _, 1, _, rfl, rfl, hb, at1, _, _, rfl, rfl, fit_mul fx.n fy.d, ?_⟩
    refine ⟨_, rfl, pb, _, 0, _, rfl, rfl, hb, at0, _, rfl, pa, _, 1, _, rfl, rfl, ha, at1, _, _, rfl, rfl, fit_mul fy.n fx.d, _, _, rfl, rfl, ?_⟩
    refine ⟨_, rfl, pa, _, 1, _, rfl, rfl, ha, at1, _, rfl, pb, _, 1, _, rfl, rfl, hb, at1, _, _, rfl, rfl, fit_mul fx.d fy.d, ?_⟩
    refine ⟨_, _, rfl, ?_, ?_⟩
    · exact Int.ne_of_gt (Int.mul_pos (FQ.den_pos' x) (FQ.den_pos' y))
    · rw [FQ.sub_eq]
      exact q
theorem gd_times (a : At K mg "times" sTimes) (G : Gd P w K mg base "number" k ["top", "below"] (spNumber K)) : Gd P w K mg base "times" (k + 1) ["one", "other"] (sp2 K (fun x y => x * y) fun _ _ => True) := by
  obtain ⟨f, fd, F, g⟩ := a.ex
  refine ⟨f, fd, ?_, g, F.kp, F.binds fun _ _ _ _ _ _ us hl => match us, hl with | [_, _], _ => rfl⟩
  refine F.ok scTimes (fun vs H Q E h => ?_) (fun cdv A outer s H vs Q E hr h => ?_)
  · obtain ⟨a, b, x, y, rfl, _⟩ := h
    rfl
  · obtain ⟨a, b, x, y, rfl, ⟨pa, rfl, ha⟩, ⟨pb, rfl, hb⟩, fx, fy, _, q⟩ := h
    refine ⟨_, pss_one (ps_ret (pe_gd G hr (by rfl) (pa_cons
      (pe_op op_mulX (pe_ix ix_tup (pv 0) pe_int (fun _ _ => rfl)) (pe_ix ix_tup (pv 1) pe_int (fun _ _ => rfl)))
      (pa_cons (pe_op op_mulX (pe_ix ix_tup (pv 0) pe_int (fun _ _ => rfl)) (pe_ix ix_tup (pv 1) pe_int (fun _ _ => rfl))) pa_nil)))), ?_⟩
    refine ⟨_, rfl, pa, _, 0, _, rfl, rfl, ha, at0, _, rfl, pb, _, 0, _, rfl, rfl, hb, at0, _, _, rfl, rfl, fit_mul fx.n fy.n, ?_⟩
    refine ⟨_, rfl, pa, _, 1, _, rfl, rfl, ha, at1, _, rfl, pb, _, 1, _, rfl, rfl, hb, at1, _, _, rfl, rfl, fit_mul fx.d fy.d, ?_⟩
    refine ⟨_, _, rfl, ?_, ?_⟩
    · exact Int.ne_of_gt (Int.mul_pos (FQ.den_pos' x) (FQ.den_pos' y))
    · rw [FQ.mul_eq]
      exact q
theorem gd_over (a : At K mg "over" sOver) (G : Gd P w K mg base "number" k ["top", "below"] (spNumber K)) : Gd P w K mg base "over" (k + 1) ["one", "other"] (sp2 K (fun x y => x / y) fun _ y => y ≠ 0) := by
  obtain ⟨f, fd, F, g⟩ := a.ex
  refine ⟨f, fd, ?_, g, F.kp, F.binds fun _ _ _ _ _ _ us hl => match us, hl with | [_, _], _ => rfl⟩
  refine F.ok scOver (fun vs H Q E h => ?_) (fun cdv A outer s H vs Q E hr h => ?_)
  · obtain ⟨a, b, x, y, rfl, _⟩ := h
    rfl
  · obtain ⟨a, b, x, y, rfl, ⟨pa, rfl, ha⟩, ⟨pb, rfl, hb⟩, fx, fy, ny, q⟩ := h
    refine ⟨_, pss_one (ps_ret (pe_gd G hr (by rfl) (pa_cons
      (pe_op op_mulX (pe_ix ix_tup (pv 0) pe_int (fun _ _ => rfl)) (pe_ix ix_tup (pv 1) pe_int (fun _ _ => rfl)))
      (pa_cons (pe_op op_mulX (pe_ix ix_tup (pv 0) pe_int (fun _ _ => rfl)) (pe_ix ix_tup (pv 1) pe_int (fun _ _ => rfl))) pa_nil)))), ?_⟩
    refine ⟨_, rfl, pa, _, 0, _, rfl, rfl, ha, at0, _, rfl, pb, _, 1, _, rfl, rfl, hb, at1, _, _, rfl, rfl, fit_mul fx.n fy.d, ?_⟩
    refine ⟨_, rfl, pa, _, 1, _, rfl, rfl, ha, at1, _, rfl, pb, _, 0, _, rfl, rfl, hb, at0, _, _, rfl, rfl, fit_mul fx.d fy.n, ?_⟩
    refine ⟨_, _, rfl, ?_, ?_⟩
    · exact Int.mul_ne_zero (Int.ne_of_gt (FQ.den_pos' x)) (FQ.num_ne y ny)
    · rw [FQ.div_eq]
      exact q
end
end L2.FW
end
section
set_option Elab.async false
set_option linter.all false
set_option maxRecDepth 100000
namespace L2.FW
open PySem PySem.Spec PyProof.Rows
open FQ (Fit BB BB_eq FitP)
open FQ (Ser IsLen)

/-! ### what stays: tuples -/
def TExt (H H' : Hp) : Prop := ∀ b, (∀ xs, H b = some (.tup xs) → H' b = some (.tup xs)) ∧ ∀ o u, H b = some (.frz o u) → H' b = some (.frz o u)
theorem TExt.refl (H : Hp) : TExt H H := fun _ => ⟨fun _ h => h, fun _ _ h => h⟩
theorem TExt.trans {H H1 H2 : Hp} (a : TExt H H1) (b : TExt H1 H2) : TExt H H2 := fun c => ⟨fun xs h => (b c).1 xs ((a c).1 xs h), fun o u h => (b c).2 o u ((a c).2 o u h)⟩
theorem _root_.L2.Same.text {H H' : Hp} (s : Same H H') : TExt H H' := fun b => ⟨fun _ h => s _ _ h, fun _ _ h => s _ _ h⟩
theorem TExt.upd {H : Hp} {l : Addr} {o : HO} {xs : List V} (h : H l = some (.lst xs)) : TExt H (upd H l o) := fun b => by
  by_cases e : b = l
  · subst e
    refine ⟨fun ys q => ?_, fun ob u q => ?_⟩
    · rw [h] at q; cases q
    · rw [h] at q; cases q
  · rw [upd_ne e]
    exact ⟨fun _ q => q, fun _ _ q => q⟩
theorem TExt.seqT {K : PySem.W.Frag} {H H' : Hp} {a : Addr} {xs : List V} (e : TExt H H') (h : SqT K H a xs) : SqT K H' a xs := by
  rcases h with (h | ⟨o, h⟩) | h
  · exact .inl (.inl ((e a).1 _ h))
  · exact .inl (.inr ⟨o, (e a).2 _ _ h⟩)
  · exact .inr h
theorem _root_.L2.Same.updN {H0 H : Hp} {l : Addr} {o : HO} (s : Same H0 H) (h : H0 l = none) : Same H0 (upd H l o) := fun b x e => by
  rw [upd_ne (ne_of_none e h)]
  exact s _ _ e
theorem _root_.L2.Same.new {H0 H : Hp} {l : Addr} {o : HO} (s : Same H0 H) (h : H l = none) : Same H0 (upd H l o) := s.updN (s.free h)

/-! ### numbers in rows -/
theorem NumAt.ext {K : PySem.W.Frag} {H H' : Hp} {v : V} {x : Rat} (h : NumAt K H v x) (s : TExt H H') : NumAt K H' v x :=
  let ⟨p, e, q⟩ := h; ⟨p, e, s.seqT q⟩
/-- n values are the numbers f 0, .., f (n - 1) -/
structure Items (K : PySem.W.Frag) (H : Hp) (vs : List V) (n : Nat) (f : Nat → Rat) : Prop where
  len : vs.length = n
  at_ : ∀ i, i < n → ∃ v, vs[i]? = some v ∧ NumAt K H v (f i)
section
variable {K : PySem.W.Frag} {H H' : Hp} {vs : List V} {n : Nat} {f g : Nat → Rat}
theorem Items.ext (h : Items K H vs n f) (s : TExt H H') : Items K H' vs n f := ⟨h.len, fun i hi => let ⟨v, e, q⟩ := h.at_ i hi; ⟨v, e, q.ext s⟩⟩
theorem Items.nil : Items K H [] 0 f := ⟨rfl, fun i hi => absurd hi (Nat.not_lt_zero _)⟩
theorem Items.get (h : Items K H vs n f) {i : Nat} {v : V} (e : vs[i]? = some v) : NumAt K H v (f i) := by
  have hi : i < n := by
    rw [← h.len]
    exact (List.getElem?_eq_some_iff.mp e).1
  obtain ⟨v', e', q⟩ := h.at_ i hi
  rw [e] at e'
  cases e'
  exact q
theorem Items.congr (h : Items K H vs n f) (e : ∀ i, i < n → f i = g i) : Items K H vs n g := ⟨h.len, fun i hi => by rw [← e i hi]; exact h.at_ i hi⟩
theorem Items.snoc (h : Items K H vs n f) {v : V} (hv : NumAt K H v (f n)) : Items K H (vs ++ [v]) (n + 1) f :=
  ⟨by rw [List.length_append, h.len, List.length_singleton], fun i hi => by
    by_cases e : i = n
    · subst e
      exact ⟨v, by rw [List.getElem?_append_right (by rw [h.len]; exact Nat.le_refl _), h.len, Nat.sub_self]; rfl, hv⟩
    · obtain ⟨u, e1, q⟩ := h.at_ i (by omega)
      exact ⟨u, by rw [List.getElem?_append_left (by rw [h.len]; omega)]; exact e1, q⟩⟩
/-- a store by place -/
theorem Items.set (h : Items K H vs n f) {j : Nat} {v : V} (hv : NumAt K H v (g j)) (e : ∀ i, i < n → i ≠ j → g i = f i) : Items K H (vs.set j v) n g :=
  ⟨by rw [List.length_set, h.len], fun i hi => by
    by_cases z : i = j
    · subst z
      exact ⟨v, by rw [List.getElem?_set_self (by rw [h.len]; exact hi)], hv⟩
    · obtain ⟨u, e1, q⟩ := h.at_ i hi
      exact ⟨u, by rw [List.getElem?_set_ne (Ne.symm z)]; exact e1, by rw [e i hi z]; exact q⟩⟩
theorem Items.take (h : Items K H vs n f) (m : Nat) (hm : m ≤ n) : Items K H (vs.take m) m f :=
  ⟨by rw [List.length_take, h.len]; omega, fun i hi => by
    obtain ⟨u, e1, q⟩ := h.at_ i (by omega)
    exact ⟨u, by rw [List.getElem?_take_of_lt hi]; exact e1, q⟩⟩
theorem Items.rep {v : V} (hv : NumAt K H v 0) : Items K H (List.replicate n v) n (fun _ => 0) :=
  ⟨List.length_replicate, fun i hi => ⟨v, by rw [List.getElem?_replicate, if_pos hi], hv⟩⟩
end
/-- a list at an address -/
def LsAt (K : PySem.W.Frag) (H : Hp) (v : V) (n : Nat) (f : Nat → Rat) : Prop := ∃ p vs, v = .ref p ∧ SqL K H p vs ∧ Items K H vs n f
def TuAt (K : PySem.W.Frag) (H : Hp) (v : V) (n : Nat) (f : Nat → Rat) : Prop := ∃ p vs, v = .ref p ∧ SqT K H p vs ∧ Items K H vs n f
def PolyAt (K : PySem.W.Frag) (H : Hp) (v : V) (f : Ser) : Prop := ∃ n, TuAt K H v n f.co ∧ IsLen f n
theorem TuAt.ext {K : PySem.W.Frag} {H H' : Hp} {v : V} {n : Nat} {f : Nat → Rat} (h : TuAt K H v n f) (s : TExt H H') : TuAt K H' v n f :=
  let ⟨p, vs, e, q, r⟩ := h; ⟨p, vs, e, s.seqT q, r.ext s⟩
theorem PolyAt.ext {K : PySem.W.Frag} {H H' : Hp} {v : V} {f : Ser} (h : PolyAt K H v f) (s : TExt H H') : PolyAt K H' v f :=
  let ⟨n, q, r⟩ := h; ⟨n, q.ext s, r⟩
theorem LsAt.same {K : PySem.W.Frag} {H H' : Hp} {v : V} {n : Nat} {f : Nat → Rat} (h : LsAt K H v n f) (s : Same H H') : LsAt K H' v n f :=
  let ⟨p, vs, e, q, r⟩ := h; ⟨p, vs, e, s.seq q, r.ext s.text⟩
/-- the field object -/
def FldAt (C : Addr) (H : Hp) (v : V) : Prop := ∃ e dx, v = .ref e ∧ H e = some (.ins C dx [])
theorem FldAt.same {C : Addr} {H H' : Hp} {v : V} (h : FldAt C H v) (s : Same H H') : FldAt C H' v := let ⟨e, dx, a, b⟩ := h; ⟨e, dx, a, s _ _ b⟩

/-! ### Exact -/
abbrev sEx (j : Nat) : Stmt := inClass (topS 17) j
structure AtM (K : PySem.W.Frag) (C : Addr) (m qual : Str) (st : Stmt) : Prop where
  ex : ∃ f fd, Fun K m qual st f fd ∧ Meth K C m f
def spM0 (K : PySem.W.Frag) (x : Rat) : Sp := fun vs H Q _ => ∃ s, vs = [s] ∧ ∀ H' v, Same H H' → NumAt K H' v x → Q v H'
def spM2 (K : PySem.W.Frag) (g : Rat → Rat → Rat) (ok : Rat → Rat → Prop) : Sp := fun vs H Q _ => ∃ s a b x y, vs = [s, a, b] ∧ NumAt K H a x ∧ NumAt K H b y ∧ Fit x ∧ Fit y ∧ ok x y ∧ ∀ H' v, Same H H' → NumAt K H' v (g x y) → Q v H'
def spMN (K : PySem.W.Frag) : Sp := fun vs H Q _ => ∃ s a x, vs = [s, a] ∧ NumAt K H a x ∧ Q (.bl (decide (x = 0))) H
abbrev okT : Rat → Rat → Prop := fun _ _ => True
abbrev okN : Rat → Rat → Prop := fun _ y => y ≠ 0
structure Fld (P : Program) (w : World) (K : PySem.W.Frag) (mg : Str → Option Value) (base : Heap) (C : Addr) (k : Nat) : Prop where
  cls : Cls K C
  nought : Md P w K mg base C "nought" k ["self"] (spM0 K 0)
  one : Md P w K mg base C "one" k ["self"] (spM0 K 1)
  plus : Md P w K mg base C "plus" k ["self", "left", "right"] (spM2 K (fun x y => x + y) okT)
  minus : Md P w K mg base C "minus" k ["self", "left", "right"] (spM2 K (fun x y => x - y) okT)
  times : Md P w K mg base C "times" k ["self", "left", "right"] (spM2 K (fun x y => x * y) okT)
  over : Md P w K mg base C "over" k ["self", "left", "right"] (spM2 K (fun x y => x / y) okN)
  isn : Md P w K mg base C "is_nought" k ["self", "left"] (spMN K)
theorem scE0 : FnScope ["self"] ["self"] (defScope (sEx 0)) := ⟨rfl, rfl, rfl, by decide +kernel, rfl, by decide +kernel, by decide +kernel⟩
theorem scE1 : FnScope ["self"] ["self"] (defScope (sEx 1)) := ⟨rfl, rfl, rfl, by decide +kernel, rfl, by decide +kernel, by decide +kernel⟩
theorem scE2 : FnScope ["self", "left", "right"] ["self", "left", "right"] (defScope (sEx 2)) := ⟨rfl, rfl, rfl, by decide +kernel, rfl, by decide +kernel, by decide +kernel⟩
theorem scE3 : FnScope ["self", "left", "right"] ["self", "left", "right"] (defScope (sEx 3)) := ⟨rfl, rfl, rfl, by decide +kernel, rfl, by decide +kernel, by decide +kernel⟩
theorem scE4 : FnScope ["self", "left", "right"] ["self", "left", "right"] (defScope (sEx 4)) := ⟨rfl, rfl, rfl, by decide +kernel, rfl, by decide +kernel, by decide +kernel⟩
theorem scE5 : FnScope ["self", "left", "right"] ["self", "left", "right"] (defScope (sEx 5)) := ⟨rfl, rfl, rfl, by decide +kernel, rfl, by decide +kernel, by decide +kernel⟩
theorem scE6 : FnScope ["self", "left"] ["self", "left"] (defScope (sEx 6)) := ⟨rfl, rfl, rfl, by decide +kernel, rfl, by decide +kernel, by decide +kernel⟩
section
variable {P : Program} {w : World} {K : PySem.W.Frag} {mg : Str → Option Value} {base : Heap} {k : Nat} {C : Addr}
theorem md_nought (a : AtM K C "nought" "Exact.nought" (sEx 0)) : Md P w K mg base C "nought" (k + 1) ["self"] (spM0 K 0) := by
  obtain ⟨f, fd, F, m⟩ := a.ex
  refine ⟨f, fd, ?_, m, F.binds fun _ _ _ _ _ _ us hl => match us, hl with | [_], _ => rfl⟩
  refine F.ok scE0 (fun vs H Q E h => ?_) (fun cdv A outer s H vs Q E hr h => ?_)
  · obtain ⟨a, rfl, _⟩ := h
    rfl
  · obtain ⟨a, rfl, q⟩ := h
    refine ⟨_, pss_one (ps_ret (pe_tup (pa_cons pe_int (pa_cons pe_int pa_nil)))), (by show 2 ≤ sizeLine; decide), fun p hp => ?_⟩
    exact q _ _ (same_upd hp) ⟨p, rfl, .inl (.inl upd_same)⟩
theorem md_one (a : AtM K C "one" "Exact.one" (sEx 1)) : Md P w K mg base C "one" (k + 1) ["self"] (spM0 K 1) := by
  obtain ⟨f, fd, F, m⟩ := a.ex
  refine ⟨f, fd, ?_, m, F.binds fun _ _ _ _ _ _ us hl => match us, hl with | [_], _ => rfl⟩
  refine F.ok scE1 (fun vs H Q E h => ?_) (fun cdv A outer s H vs Q E hr h => ?_)
  · obtain ⟨a, rfl, _⟩ := h
    rfl
  · obtain ⟨a, rfl, q⟩ := h
    refine ⟨_, pss_one (ps_ret (pe_tup (pa_cons pe_int (pa_cons pe_int pa_nil)))), (by show 2 ≤ sizeLine; decide), fun p hp => ?_⟩
    exact q _ _ (same_upd hp) ⟨p, rfl, .inl (.inl upd_same)⟩
theorem md_plus (a : AtM K C "plus" "Exact.plus" (sEx 2)) (G : Gd P w K mg base "plus_numbers" k ["one", "other"] (sp2 K (fun x y => x + y) okT)) : Md P w K mg base C "plus" (k + 1) ["self", "left", "right"] (spM2 K (fun x y => x + y) okT) := by
  obtain ⟨f, fd, F, m⟩ := a.ex
  refine ⟨f, fd, ?_, m, F.binds fun _ _ _ _ _ _ us hl => match us, hl with | [_, _, _], _ => rfl⟩
  refine F.ok scE2 (fun vs H Q E h => ?_) (fun cdv A outer s H vs Q E hr h => ?_)
  · obtain ⟨a, b, c, x, y, rfl, _⟩ := h
    rfl
  · obtain ⟨s, a, b, x, y, rfl, h⟩ := h
    exact ⟨_, pss_one (ps_ret (pe_gd G hr (by rfl) (pa_cons (pv 1) (pa_cons (pv 2) pa_nil)))), _, rfl, _, rfl, a, b, x, y, rfl, h⟩
theorem md_minus (a : AtM K C "minus" "Exact.minus" (sEx 3)) (G : Gd P w K mg base "minus_numbers" k ["one", "other"] (sp2 K (fun x y => x - y) okT)) : Md P w K mg base C "minus" (k + 1) ["self", "left", "right"] (spM2 K (fun x y => x - y) okT) := by
  obtain ⟨f, fd, F, m⟩ := a.ex
  refine ⟨f, fd, ?_, m, F.binds fun _ _ _ _ _ _ us hl => match us, hl with | [_, _, _], _ => rfl⟩
  refine F.ok scE3 (fun vs H Q E h => ?_) (fun cdv A outer s H vs Q E hr h => ?_)
  · obtain ⟨a, b, c, x, y, rfl, _⟩ := h
    rfl
  · obtain ⟨s, a, b, x, y, rfl, h⟩ := h
    exact ⟨_, pss_one (ps_ret (pe_gd G hr (by rfl) (pa_cons (pv 1) (pa_cons (pv 2) pa_nil)))), _, rfl, _, rfl, a, b, x, y, rfl, h⟩
theorem md_times (a : AtM K C "times" "Exact.times" (sEx 4)) (G : Gd P w K mg base "times_numbers" k ["one", "other"] (sp2 K (fun x y => x * y) okT)) : Md P w K mg base C "times" (k + 1) ["self", "left", "right"] (spM2 K (fun x y => x * y) okT) := by
  obtain ⟨f, fd, F, m⟩ := a.ex
  refine ⟨f, fd, ?_, m, F.binds fun _ _ _ _ _ _ us hl => match us, hl with | [_, _, _], _ => rfl⟩
  refine F.ok scE4 (fun vs H Q E h => ?_) (fun cdv A outer s H vs Q E hr h => ?_)
  · obtain ⟨a, b, c, x, y, rfl, _⟩ := h
    rfl
  · obtain ⟨s, a, b, x, y, rfl, h⟩ := h
    exact ⟨_, pss_one (ps_ret (pe_gd G hr (by rfl) (pa_cons (pv 1) (pa_cons (pv 2) pa_nil)))), _, rfl, _, rfl, a, b, x, y, rfl, h⟩
theorem md_over (a : AtM K C "over" "Exact.over" (sEx 5)) (G : Gd P w K mg base "over_numbers" k ["one", "other"] (sp2 K (fun x y => x / y) okN)) : Md P w K mg base C "over" (k + 1) ["self", "left", "right"] (spM2 K (fun x y => x / y) okN) := by
  obtain ⟨f, fd, F, m⟩ := a.ex
  refine ⟨f, fd, ?_, m, F.binds fun _ _ _ _ _ _ us hl => match us, hl with | [_, _, _], _ => rfl⟩
  refine F.ok scE5 (fun vs H Q E h => ?_) (fun cdv A outer s H vs Q E hr h => ?_)
  · obtain ⟨a, b, c, x, y, rfl, _⟩ := h
    rfl
  · obtain ⟨s, a, b, x, y, rfl, h⟩ := h
    exact ⟨_, pss_one (ps_ret (pe_gd G hr (by rfl) (pa_cons (pv 1) (pa_cons (pv 2) pa_nil)))), _, rfl, _, rfl, a, b, x, y, rfl, h⟩
theorem md_isn (a : AtM K C "is_nought" "Exact.is_nought" (sEx 6)) : Md P w K mg base C "is_nought" (k + 1) ["self", "left"] (spMN K) := by
  obtain ⟨f, fd, F, m⟩ := a.ex
  refine ⟨f, fd, ?_, m, F.binds fun _ _ _ _ _ _ us hl => match us, hl with | [_, _], _ => rfl⟩
  refine F.ok scE6 (fun vs H Q E h => ?_) (fun cdv A outer s H vs Q E hr h => ?_)
  · obtain ⟨a, b, x, rfl, _⟩ := h
    rfl
  · obtain ⟨s, a, x, rfl, ⟨p, rfl, hp⟩, q⟩ := h
    refine ⟨_, pss_one (ps_ret (pe_cmpR op_eq (pe_ix ix_tup (pv 1) pe_int (fun _ _ => rfl)) pe_int (nomark _))), _, rfl, p, _, 0, _, rfl, rfl, hp, at0, rfl, ?_⟩
    have e : decide (V.int x.num = V.int 0) = decide (x = 0) := by
      by_cases h : x = 0
      · rw [decide_eq_true h, decide_eq_true (by rw [h]; rfl)]
      · rw [decide_eq_false h, decide_eq_false fun z => h ((FQ.num_zero x).mp (V.int.inj z))]
    show Q (.bl (decide (V.int x.num = V.int 0))) H
    rw [e]
    exact q
end
end L2.FW
end
section
set_option Elab.async false
set_option linter.all false
set_option maxRecDepth 100000
namespace L2.FW
open PySem PySem.Spec PyProof.Rows
open FQ (Fit BB BB_eq FitP)
open FQ (Ser IsLen Lt)
structure Bi (mg : Str → Option Value) : Prop where
  len : mg "len" = none
  range : mg "range" = none
  tuple : mg "tuple" = none
  list : mg "list" = none
  min : mg "min" = none
  max : mg "max" = none
  enumerate : mg "enumerate" = none
  zip : mg "zip" = none
  abs : mg "abs" = none
  divmod : mg "divmod" = none
  isinstance : mg "isinstance" = none
  int : mg "int" = none
  str : mg "str" = none
  bool : mg "bool" = none
  all : mg "all" = none
  any : mg "any" = none
theorem b_len : bootBuiltins "len" = some (.builtin "len") := by decide +kernel
theorem b_range : bootBuiltins "range" = some (.type "range") := by decide +kernel
theorem b_tuple : bootBuiltins "tuple" = some (.type "tuple") := by decide +kernel
theorem b_list : bootBuiltins "list" = some (.type "list") := by decide +kernel
theorem b_min : bootBuiltins "min" = some (.builtin "min") := by decide +kernel
theorem b_max : bootBuiltins "max" = some (.builtin "max") := by decide +kernel
theorem small1 {n : Nat} (h : n ≤ 1000) : n ≤ sizeLine := Nat.le_of_lt (small1000 h)

abbrev sTrim : Stmt := topS 18
theorem scTrim : FnScope ["field", "numbers", "many", "place"] ["field", "numbers"] (defScope sTrim) := ⟨rfl, rfl, rfl, by decide +kernel, rfl, by decide +kernel, by decide +kernel⟩
def SeqAt (K : PySem.W.Frag) (H : Hp) (v : V) (n : Nat) (f : Nat → Rat) : Prop := LsAt K H v n f ∨ TuAt K H v n f
theorem SeqAt.get {K : PySem.W.Frag} {H : Hp} {v : V} {n : Nat} {f : Nat → Rat} (h : SeqAt K H v n f) : ∃ p vs, v = .ref p ∧ (SqL K H p vs ∨ SqT K H p vs) ∧ Items K H vs n f := by
  rcases h with ⟨p, vs, e, q, r⟩ | ⟨p, vs, e, q, r⟩
  · exact ⟨p, vs, e, .inl q, r⟩
  · exact ⟨p, vs, e, .inr q, r⟩
theorem SeqAt.same {K : PySem.W.Frag} {H H' : Hp} {v : V} {n : Nat} {f : Nat → Rat} (h : SeqAt K H v n f) (s : Same H H') : SeqAt K H' v n f :=
  h.elim (fun a => .inl (a.same s)) fun b => .inr (b.ext s.text)
theorem PolyAt.seq {K : PySem.W.Frag} {H : Hp} {v : V} {f : Ser} {n : Nat} (h : PolyAt K H v f) (hn : IsLen f n) : SeqAt K H v n f.co := by
  obtain ⟨m, t, l⟩ := h
  rw [hn.unique l]
  exact .inr t
theorem tAnd_run {t u : TT} {σ : St} {H : Hp} {b c : Bool} (h1 : ∀ Q : Bool → Hp → Prop, Q b H → t σ H Q) (h2 : b = true → ∀ Q : Bool → Hp → Prop, Q c H → u σ H Q) (Q : Bool → Hp → Prop) (h : Q (b && c) H) : tAnd t u σ H Q := by
  refine h1 _ ?_
  cases b with
  | true => exact iteT (h2 rfl _ h)
  | false => exact iteF h
theorem lc_yes {te : TE} {σ : St} {H : Hp} {A : V → Hp → Prop} {B : Hp → Prop} (h : te σ H A) : tYes σ H fun b H3 => if b = true then te σ H3 A else B H3 := by
  show if true = true then te σ H A else B H
  rw [if_pos rfl]
  exact h
def spTrim (K : PySem.W.Frag) (C : Addr) : Sp := fun vs H Q _ => ∃ fl nv n f, vs = [fl, nv] ∧ FldAt C H fl ∧ SeqAt K H nv n f.co ∧ n ≤ 1000 ∧ Lt f n ∧ ∀ H' v, Same H H' → PolyAt K H' v f → Q v H'
section
variable {P : Program} {w : World} {K : PySem.W.Frag} {mg : Str → Option Value} {base : Heap} {k : Nat} {C : Addr}
theorem gd_trim (B : Bi mg) (X : Fld P w K mg base C k) (a : At K mg "trimmed" sTrim) : Gd P w K mg base "trimmed" (k + 1) ["field", "numbers"] (spTrim K C) := by
  obtain ⟨f, fd, F, g⟩ := a.ex
  obtain ⟨fI, fdI, FI, mI, bI⟩ := X.isn.ex
  refine ⟨f, fd, ?_, g, F.kp, F.binds fun _ _ _ _ _ _ us hl => match us, hl with | [_, _], _ => rfl⟩
  refine F.ok scTrim (fun vs H Q E h => ?_) (fun cdv A outer s H vs Q E hr h => ?_)
  · obtain ⟨a, b, n, f, rfl, _⟩ := h
    rfl
  · obtain ⟨fl, nv, n, f, rfl, ⟨e, dx, rfl, he⟩, hN, hn, hLt, q⟩ := h
    obtain ⟨p, ws, rfl, hS, hI⟩ := hN.get
    refine ⟨_, pss_cons (ps_set (i := 2) scTrim.nd rfl (.inl rfl) (pe_callB call_len_seq (by rfl) B.len b_len (pa_cons (pv 1) pa_nil)))
      (pss_cons (ps_while PassesOwn.never (PW.pt (pw_and (pt_cmpR op_gt (pv 2) pe_int (nomark _)) (pw_and1 (pt_val (pe_meth (pv 0) X.cls mI FI hr bI .nil pass0 (pa_cons (pe_ix ix_seq (pv 1) (pe_op op_sub (pv 2) pe_int) (fun _ _ => rfl)) pa_nil))))))
        (pss_one (ps_aug (i := 2) scTrim.nd rfl (.inl rfl) pe_int ip_sub)))
      (pss_one (ps_ret (pe_callTy call_tuple_of (by rfl) B.tuple b_tuple (pa_cons
        (pe_lc (own := [("place", 3)]) (g := gName 3) (tt := tYes) (te := tOp (rIx K) (tVar 1) (tVar 3)) rfl scTrim.nd (pi_range1 (by rfl) B.range (pa_cons (pv 2) pa_nil)) (blkOk_by (N := ["field", "numbers", "many", "place"]) (sc := defScope sTrim) (by decide +kernel))
          (fun _ _ _ _ _ => pg_name (i := 3) scTrim.nd rfl (Or.inl rfl)) (fun _ _ _ _ _ => pts_nil) (fun _ _ _ _ _ => pe_ix ix_seq (pv 1) (pv 3) (fun _ _ => rfl))) pa_nil))))), ?_⟩
    refine ⟨_, rfl, p, ws, rfl, hS, ?_⟩
    refine ⟨fun t σ H' => H = H' ∧ ∃ m : Nat, t = m ∧ σ = [some (.ref e), some (.ref p), some (.int (m : Int)), none] ∧ m ≤ n ∧ Lt f m, ⟨n, rfl, n, rfl, by rw [hI.len]; rfl, Nat.le_refl _, hLt⟩, ?_⟩
    rintro m σ H' ⟨eH, m', et, rfl, hm, hl⟩
    subst eH et
    have ix : ∀ j : Nat, ∀ v, ws[j]? = some v → ∀ z : Int, z = (j : Int) → ∀ (H2 : Hp) (Q : VK), Same H H2 → Q v H2 → rIx K (V.ref p) (V.int z) H2 Q := fun j v ev z ez H2 Q sm hq => by
      rcases hS with h | h
      · exact .inl ⟨p, ws, z, v, rfl, rfl, sm.seq h, by rw [ez]; exact atI_nat ev, hq⟩
      · exact .inr (.inl ⟨p, ws, z, v, rfl, rfl, sm.seqT h, by rw [ez]; exact atI_nat ev, hq⟩)
    refine tAnd_run (b := decide (0 < m)) (c := decide (f.co (m - 1) = 0)) (fun Q hq => ?_) (fun hb Q hq => ?_) _ ?_
    · refine ⟨_, rfl, _, _, rfl, rfl, _, rfl, ?_⟩
      have : decide ((0 : Int) < (m : Int)) = decide (0 < m) := by
        by_cases h : 0 < m
        · rw [decide_eq_true h, decide_eq_true (by omega)]
        · rw [decide_eq_false h, decide_eq_false (by omega)]
      rw [this]
      exact hq
    · have h0 : 0 < m := of_decide_eq_true hb
      obtain ⟨v, ev, hv⟩ := hI.at_ (m - 1) (by omega)
      refine ⟨_, rfl, e, dx, _, rfl, he, rfl, _, rfl, _, rfl, _, _, rfl, rfl, ?_⟩
      exact ix (m - 1) v ev _ (by omega) _ _ (Same.refl _) ⟨_, v, _, rfl, hv, _, rfl, hq⟩
    · refine ite2 (fun h => ?_) (fun h => ?_)
      · have h2 := Bool.and_eq_true_iff.mp h
        have h0 : 0 < m := of_decide_eq_true h2.1
        have hz : f.co (m - 1) = 0 := of_decide_eq_true h2.2
        refine ⟨fun σ' H' => H = H' ∧ ∃ j : Nat, j < m ∧ σ' = [some (.ref e), some (.ref p), some (.int (j : Int)), none] ∧ j ≤ n ∧ Lt f j, fun σ' H' ⟨e1, j, e2, e3, e4, e5⟩ => ⟨j, e2, e1, j, rfl, e3, e4, e5⟩, ?_⟩
        refine ⟨_, rfl, _, _, rfl, rfl, rfl, m - 1, by omega, ?_, by omega, fun i hi => ?_⟩
        · show [some (V.ref e), some (V.ref p), some (V.int ((m : Int) - 1)), none] = _
          rw [show (m : Int) - 1 = ((m - 1 : Nat) : Int) by omega]
        · by_cases z : i = m - 1
          · rw [z, hz]
          · exact hl i (by omega)
      · have hlen : IsLen f m := by
          refine ⟨hl, ?_⟩
          by_cases h0 : 0 < m
          · refine .inr fun z => h ?_
            rw [decide_eq_true h0, decide_eq_true z]
            rfl
          · exact .inl (by omega)
        refine ⟨_, rfl, _, rfl, by omega, by omega, fun D hD => ?_⟩
        rw [show ((m : Int)).toNat = m from Int.toNat_natCast m]
        refine lc_range (fun i H' => Same H H' ∧ H' D = some (.lst (ws.take i))) ⟨same_upd hD, by rw [upd_same]; rfl⟩ ?_ ?_
        · rintro i H' hi ⟨sm, hd⟩
          obtain ⟨v, ev, hv⟩ := hI.at_ i (by omega)
          refine ⟨rfl, lc_yes ⟨_, rfl, _, rfl, ?_⟩⟩
          refine ix i v ev _ (by omega) _ _ sm ⟨_, hd, ?_, sm.updN hD, ?_⟩
          · rw [List.length_take]
            exact Nat.lt_of_le_of_lt (Nat.min_le_left _ _) (small1000 (by omega))
          · rw [upd_same, List.take_add_one, ev]
            rfl
        · rintro H' ⟨sm, hd⟩
          refine ⟨D, _, rfl, .inl ⟨.inl (.inl hd), fun l hl2 => ?_⟩⟩
          refine q _ _ (sm.new hl2) ⟨m, ⟨l, _, rfl, .inl (.inl upd_same), ?_⟩, hlen⟩
          exact ((hI.take m (by omega)).ext sm.text).ext (same_upd hl2).text
end
end L2.FW
end
section
set_option Elab.async false
set_option linter.all false
set_option maxRecDepth 100000
namespace L2.FW
open PySem PySem.Spec PyProof.Rows
open FQ (Fit BB BB_eq FitP Ser IsLen Lt)
/-- a def that stands at another name of the module -/
structure At2 (K : PySem.W.Frag) (mg : Str → Option Value) (y x : Str) (st : Stmt) : Prop where
  ex : ∃ f fd, Fun K x x st f fd ∧ mg y = some (.ref f)
theorem maxI (a b : Nat) : (if (b : Int) > (a : Int) then (b : Int) else (a : Int)) = ((max a b : Nat) : Int) := by split <;> omega
theorem minI (a b : Nat) : (if (b : Int) < (a : Int) then (b : Int) else (a : Int)) = ((min a b : Nat) : Int) := by split <;> omega
theorem dInt {a b : Nat} : decide ((a : Int) < (b : Int)) = decide (a < b) := by
  by_cases h : a < b
  · rw [decide_eq_true h, decide_eq_true (by omega)]
  · rw [decide_eq_false h, decide_eq_false (by omega)]
theorem lst_ne {H : Hp} {a b : Addr} {o : HO} {xs : List V} (h : H a = some o) (h' : H b = some (.lst xs)) (d : ∀ ys, o ≠ .lst ys) : a ≠ b := ne_of h h' (d xs)
section
variable {K : PySem.W.Frag}
theorem ixS {H H2 : Hp} {p : Addr} {ws : List V} (hS : SqL K H p ws ∨ SqT K H p ws) {j : Nat} {v : V} (ev : ws[j]? = some v) {z : Int} (ez : z = (j : Int)) {Q : VK} (sm : Same H H2) (hq : Q v H2) : rIx K (V.ref p) (V.int z) H2 Q := by
  rcases hS with h | h
  · exact .inl ⟨p, ws, z, v, rfl, rfl, sm.seq h, by rw [ez]; exact atI_nat ev, hq⟩
  · exact .inr (.inl ⟨p, ws, z, v, rfl, rfl, sm.seqT h, by rw [ez]; exact atI_nat ev, hq⟩)
theorem atN {xs : List V} {z : Int} {j : Nat} {v : V} (e : z = (j : Int)) (h : xs[j]? = some v) : atI xs z = some v := by rw [e]; exact atI_nat h
theorem at_neg {xs : List V} {j : Nat} {v : V} {z : Int} (e : z = -((j : Int) + 1)) (hj : j < xs.length) (h : xs[xs.length - 1 - j]? = some v) : atI xs z = some v := by
  have e2 : ixN xs.length z = some (xs.length - 1 - j) := by
    unfold ixN
    rw [if_neg (by omega), if_pos (by omega)]
    congr 1
    omega
  unfold atI
  rw [e2]
  exact h
theorem ixN_nat {n j : Nat} {z : Int} (e : z = (j : Int)) (h : j < n) : ixN n z = some j := by
  unfold ixN
  rw [if_pos (by omega), if_pos (by omega), e, Int.toNat_natCast]
end

theorem for_rng0 {n : Nat} {g : TG} {tb : TS} {D : Ends} {σ : St} {H : Hp} (Pv : Nat → St → Hp → Prop) (h0 : Pv 0 σ H)
    (hs : ∀ (i : Nat) σ H, i < n → Pv i σ H → g (.int ((i : Nat) : Int)) σ H fun σ2 H2 => tb { D with nx := Pv (i + 1), ct := Pv (i + 1), bk := D.nx } σ2 H2) (hd : ∀ σ H, Pv n σ H → D.nx σ H) :
    ∃ W : Nat → Nat → St → Hp → Prop, (∃ m, W 0 m σ H) ∧ ∀ i m σ H, W i m σ H →
      ((Itr 0 n).stop i H ∧ D.nx σ H) ∨ ((Itr 0 n).go i H ∧ ∃ N : St → Hp → Prop, (∀ σ' H', N σ' H' → ∃ m', m' < m ∧ W (i + 1) m' σ' H') ∧ ∀ x H', (Itr 0 n).yld i H x H' → g x σ H' fun σ2 H2 => tb { D with nx := N, ct := N, bk := D.nx } σ2 H2) :=
  for_range Pv h0 (fun i σ H hi hp => by rw [Int.zero_add]; exact hs i σ H hi hp) hd
theorem lc_rng0 {n : Nat} {g : TG} {tt : TT} {te : TE} {vs : List Nat} {σ : St} {H1 : Hp} {D : Addr} {Qd : Hp → Prop} (Pv : Nat → Hp → Prop) (h0 : Pv 0 (upd H1 D (.lst [])))
    (hs : ∀ (i : Nat) H, i < n → Pv i H → g (.int ((i : Nat) : Int)) (wipe σ vs) H fun σ2 H2 => wipe σ2 vs = wipe σ vs ∧ tt σ2 H2 fun b H3 =>
      if b = true then te σ2 H3 fun y H4 => ∃ acc, H4 D = some (.lst acc) ∧ acc.length < sizeLine ∧ Pv (i + 1) (upd H4 D (.lst (acc ++ [y]))) else Pv (i + 1) H3) (hd : ∀ H, Pv n H → Qd H) :
    ∃ W : Nat → Nat → Hp → Prop, (∃ m, W 0 m (upd H1 D (.lst []))) ∧ ∀ i m H, W i m H →
      ((Itr 0 n).stop i H ∧ Qd H) ∨ ((Itr 0 n).go i H ∧ ∃ Nx : Hp → Prop, (∀ H', Nx H' → ∃ m', m' < m ∧ W (i + 1) m' H') ∧ ∀ x H', (Itr 0 n).yld i H x H' → g x (wipe σ vs) H' fun σ2 H2 => wipe σ2 vs = wipe σ vs ∧ tt σ2 H2 fun b H3 =>
        if b = true then te σ2 H3 fun y H4 => ∃ acc, H4 D = some (.lst acc) ∧ acc.length < sizeLine ∧ Nx (upd H4 D (.lst (acc ++ [y]))) else Nx H3) :=
  lc_range Pv h0 (fun i H hi hp => by rw [Int.zero_add]; exact hs i H hi hp) hd

/-! ### number_at of fields -/
abbrev sNatF : Stmt := topS 19
theorem scNatF : FnScope ["field", "numbers", "place"] ["field", "numbers", "place"] (defScope sNatF) := ⟨rfl, rfl, rfl, by decide +kernel, rfl, by decide +kernel, by decide +kernel⟩
def spNat (K : PySem.W.Frag) (C : Addr) : Sp := fun vs H Q _ => ∃ fl nv n f i, vs = [fl, nv, .int ((i : Nat) : Int)] ∧ FldAt C H fl ∧ SeqAt K H nv n f.co ∧ Lt f n ∧ ∀ H' v, Same H H' → NumAt K H' v (f.co i) → Q v H'
section
variable {P : Program} {w : World} {K : PySem.W.Frag} {mg : Str → Option Value} {base : Heap} {k : Nat} {C : Addr}
theorem gd_natF (B : Bi mg) (X : Fld P w K mg base C k) (a : At2 K mg "number_at_fields" "number_at" sNatF) : Gd P w K mg base "number_at_fields" (k + 1) ["field", "numbers", "place"] (spNat K C) := by
  obtain ⟨f, fd, F, g⟩ := a.ex
  obtain ⟨fI, fdI, FI, mI, bI⟩ := X.nought.ex
  refine ⟨f, fd, ?_, g, F.kp, F.binds fun _ _ _ _ _ _ us hl => match us, hl with | [_, _, _], _ => rfl⟩
  refine F.ok scNatF (fun vs H Q E h => ?_) (fun cdv A outer s H vs Q E hr h => ?_)
  · obtain ⟨a, b, n, f, i, rfl, _⟩ := h
    rfl
  · obtain ⟨fl, nv, n, f, i, rfl, ⟨e, dx, rfl, he⟩, hN, hLt, q⟩ := h
    obtain ⟨p, ws, rfl, hS, hI⟩ := hN.get
    refine ⟨_, pss_cons (ps_if (pt_cmpR op_lt (pv 2) (pe_callB call_len_seq (by rfl) B.len b_len (pa_cons (pv 1) pa_nil)) (nomark _)) (pss_one (ps_ret (pe_ix ix_seq (pv 1) (pv 2) (fun _ _ => rfl)))) pss_nil)
      (pss_one (ps_ret (pe_meth0 (pv 0) X.cls mI FI hr bI .nil pass0))), ?_⟩
    refine ⟨_, rfl, _, rfl, p, ws, rfl, hS, _, _, rfl, rfl, _, rfl, ?_⟩
    rw [hI.len]
    refine ite2 (fun h => ?_) (fun h => ?_)
    · have hi : i < n := by
        have := of_decide_eq_true h
        omega
      obtain ⟨v, ev, hv⟩ := hI.at_ i hi
      exact ⟨_, rfl, _, rfl, ixS hS ev rfl (Same.refl _) (q _ _ (Same.refl _) hv)⟩
    · have hi : n ≤ i := by
        have : ¬ ((i : Int) < (n : Int)) := fun z => h (decide_eq_true z)
        omega
      refine ⟨_, rfl, e, dx, _, rfl, he, rfl, _, rfl, fun H' v sm hv => q _ _ sm ?_⟩
      rw [hLt i hi]
      exact hv
end

/-! ### less_by -/
abbrev sLess : Stmt := topS 21
theorem scLess : FnScope ["field", "left", "right", "many", "found", "place"] ["field", "left", "right"] (defScope sLess) := ⟨rfl, rfl, rfl, by decide +kernel, rfl, by decide +kernel, by decide +kernel⟩
def spLess (K : PySem.W.Frag) (C : Addr) : Sp := fun vs H Q _ => ∃ fl a b f g, vs = [fl, a, b] ∧ FldAt C H fl ∧ PolyAt K H a f ∧ PolyAt K H b g ∧ FitP f ∧ FitP g ∧ Lt f 400 ∧ Lt g 400 ∧ ∀ H' v, Same H H' → PolyAt K H' v (f - g) → Q v H'
section
variable {P : Program} {w : World} {K : PySem.W.Frag} {mg : Str → Option Value} {base : Heap} {k : Nat} {C : Addr}
theorem gd_less (B : Bi mg) (X : Fld P w K mg base C k) (a : At K mg "less_by" sLess) (GT : Gd P w K mg base "trimmed" k ["field", "numbers"] (spTrim K C)) (GN : Gd P w K mg base "number_at_fields" k ["field", "numbers", "place"] (spNat K C)) :
    Gd P w K mg base "less_by" (k + 1) ["field", "left", "right"] (spLess K C) := by
  obtain ⟨f, fd, F, g⟩ := a.ex
  obtain ⟨fM, fdM, FM, mM, bM⟩ := X.minus.ex
  refine ⟨f, fd, ?_, g, F.kp, F.binds fun _ _ _ _ _ _ us hl => match us, hl with | [_, _, _], _ => rfl⟩
  refine F.ok scLess (fun vs H Q E h => ?_) (fun cdv A outer s H vs Q E hr h => ?_)
  · obtain ⟨a, b, c, f, g, rfl, _⟩ := h
    rfl
  · obtain ⟨fl, a, b, f, g, rfl, ⟨e, dx, rfl, he⟩, hf, hg, ff, fg, lf, lg, q⟩ := h
    obtain ⟨nf, ⟨p, us, rfl, hp, Ip⟩, If⟩ := id hf
    obtain ⟨ng, ⟨r, ws, rfl, hr2, Ir⟩, Ig⟩ := id hg
    have nf4 := If.le lf
    have ng4 := Ig.le lg
    refine ⟨_, pss_cons (ps_set (i := 3) scLess.nd rfl (.inl rfl) (pe_callB (call_max2 rfl) (by rfl) B.max b_max (pa_cons (pe_callB call_len_seq (by rfl) B.len b_len (pa_cons (pv 1) pa_nil)) (pa_cons (pe_callB call_len_seq (by rfl) B.len b_len (pa_cons (pv 2) pa_nil)) pa_nil))))
      (pss_cons (ps_set (i := 4) scLess.nd rfl (.inl rfl) (pe_lst pa_nil))
      (pss_cons (ps_for PassesOwn.never rfl (pi_range1 (by rfl) B.range (pa_cons (pv 3) pa_nil)) (pg_name (i := 5) scLess.nd rfl (.inl rfl))
        (pss_one (ps_expr (pe_bm PySem.F.plainAttrs_list PySem.F.slot_list_append PySem.F.type_list_append mt_append (pv 4)
          (pa_cons (pe_meth (pv 0) X.cls mM FM hr bM .nil pass0 (pa_cons (pe_gd GN hr (by rfl) (pa_cons (pv 0) (pa_cons (pv 1) (pa_cons (pv 5) pa_nil)))) (pa_cons (pe_gd GN hr (by rfl) (pa_cons (pv 0) (pa_cons (pv 2) (pa_cons (pv 5) pa_nil)))) pa_nil))) pa_nil)))))
      (pss_one (ps_ret (pe_gd GT hr (by rfl) (pa_cons (pv 0) (pa_cons (pv 4) pa_nil))))))), ?_⟩
    refine ⟨_, rfl, p, us, rfl, .inr hp, _, rfl, r, ws, rfl, .inr hr2, _, _, rfl, ?_⟩
    rw [Ip.len, Ir.len, maxI]
    refine ⟨Nat.zero_le _, fun l hl => ⟨_, rfl, _, rfl, by omega, by omega, ?_⟩⟩
    rw [Int.toNat_natCast]
    refine for_rng0 (fun i σ H' => ∃ y vs, σ = [some (.ref e), some (.ref p), some (.ref r), some (.int ((max nf ng : Nat) : Int)), some (.ref l), y] ∧ Same H H' ∧ H' l = some (.lst vs) ∧ Items K H' vs i fun j => f.co j - g.co j)
      ⟨none, [], rfl, same_upd hl, upd_same, .nil⟩ ?_ ?_
    · rintro i σ H' hi ⟨y, vs, rfl, sm, hL, hI⟩
      refine ⟨.ref l, rfl, .inl ⟨rfl, _, SqL.of hL⟩, ?_⟩
      refine ⟨_, rfl, e, dx, _, rfl, sm _ _ he, rfl, ?_⟩
      refine ⟨_, rfl, _, rfl, _, rfl, _, _, nf, f, i, rfl, ⟨e, dx, rfl, sm _ _ he⟩, .inr ⟨p, us, rfl, sm.seqT hp, Ip.ext sm.text⟩, If.1, fun H1 v1 s1 h1 => ?_⟩
      refine ⟨_, rfl, _, rfl, _, rfl, _, _, ng, g, i, rfl, ⟨e, dx, rfl, s1 _ _ (sm _ _ he)⟩, .inr ⟨r, ws, rfl, s1.seqT (sm.seqT hr2), (Ir.ext sm.text).ext s1.text⟩, Ig.1, fun H2 v2 s2 h2 => ?_⟩
      refine ⟨_, v1, v2, _, _, rfl, h1.mono s2, h2, ff i, fg i, trivial, fun H3 v3 s3 h3 => ?_⟩
      have s123 := s1.trans (s2.trans s3)
      refine ⟨l, vs, v3, rfl, rfl, s123 _ _ hL, ?_, ?_⟩
      · rw [hI.len]
        exact small1000 (by omega)
      · have hL3 := s123 _ _ hL
        refine ⟨_, vs ++ [v3], rfl, (sm.trans s123).updN hl, upd_same, ?_⟩
        exact ((hI.ext s123.text).ext (TExt.upd hL3)).snoc (h3.ext (TExt.upd hL3))
    · rintro σ H' ⟨y, vs, rfl, sm, hL, hI⟩
      refine ⟨_, rfl, _, rfl, _, _, max nf ng, f - g, rfl, ⟨e, dx, rfl, sm _ _ he⟩, .inl ⟨l, vs, rfl, SqL.of hL, hI.congr fun i _ => (Ser.sub_co f g i).symm⟩, by omega, ?_, fun H2 v2 s2 h2 => q _ _ (sm.trans s2) h2⟩
      exact (If.1.mono (by omega)).sub (Ig.1.mono (by omega))
end
end L2.FW
end
section
set_option Elab.async false
set_option linter.all false
set_option maxRecDepth 100000
namespace L2.FW
open PySem PySem.Spec PyProof.Rows
open FQ (Fit BB BB_eq FitP Ser IsLen Lt)
theorem g_pair {K : PySem.W.Frag} {i j : Nat} {a b : V} {T : Addr} {σ : St} {H : Hp} {Q : St → Hp → Prop} (hT : SqT K H T [a, b]) (h : Q ((σ.set i (some a)).set j (some b)) H) :
    gTup K 2 (gCons (gName i) (gCons (gName j) gNil)) (.ref T) σ H Q := ⟨T, [a, b], rfl, hT, rfl, a, [b], rfl, b, [], rfl, rfl, h⟩
theorem for_enumT {K : PySem.W.Frag} {a : Addr} {xs : List V} {g : TG} {tb : TS} {D : Ends} {σ : St} {H : Hp} (Pv : Nat → St → Hp → Prop) (h0 : Pv 0 σ H) (hl : ∀ i σ H, i ≤ xs.length → Pv i σ H → SqT K H a xs)
    (hs : ∀ (i : Nat) x σ H T, xs[i]? = some x → Pv i σ H → H T = none → g (.ref T) σ (upd H T (.tup [.int ((i : Nat) : Int), x])) fun σ2 H2 => tb { D with nx := Pv (i + 1), ct := Pv (i + 1), bk := D.nx } σ2 H2) (hd : ∀ σ H, Pv xs.length σ H → D.nx σ H) :
    ∃ W : Nat → Nat → St → Hp → Prop, (∃ m, W 0 m σ H) ∧ ∀ i m σ H, W i m σ H →
      ((IteT K a).stop i H ∧ D.nx σ H) ∨ ((IteT K a).go i H ∧ ∃ N : St → Hp → Prop, (∀ σ' H', N σ' H' → ∃ m', m' < m ∧ W (i + 1) m' σ' H') ∧ ∀ x H', (IteT K a).yld i H x H' → g x σ H' fun σ2 H2 => tb { D with nx := N, ct := N, bk := D.nx } σ2 H2) := by
  refine ⟨fun i m σ H => m = xs.length - i ∧ i ≤ xs.length ∧ Pv i σ H, ⟨xs.length, by simp, Nat.zero_le _, h0⟩, ?_⟩
  rintro i m σ H ⟨rfl, hi, p⟩
  have q := hl i σ H hi p
  by_cases hlt : i < xs.length
  · refine .inr ⟨⟨xs, xs[i], q, by simp [hlt]⟩, Pv (i + 1), fun σ' H' p' => ⟨xs.length - (i + 1), by omega, rfl, hlt, p'⟩, fun x H' y => ?_⟩
    obtain ⟨T, z, rfl, hT, rfl, hz⟩ := y
    exact hs i z σ H T (hz xs q) p hT
  · have e : i = xs.length := by omega
    subst e
    exact .inl ⟨⟨xs, q, Nat.le_refl _⟩, hd σ H p⟩
theorem for_enumL {K : PySem.W.Frag} {a : Addr} {xs : List V} {g : TG} {tb : TS} {D : Ends} {σ : St} {H : Hp} (Pv : Nat → St → Hp → Prop) (h0 : Pv 0 σ H) (hl : ∀ i σ H, i ≤ xs.length → Pv i σ H → SqL K H a xs)
    (hs : ∀ (i : Nat) x σ H T, xs[i]? = some x → Pv i σ H → H T = none → g (.ref T) σ (upd H T (.tup [.int ((i : Nat) : Int), x])) fun σ2 H2 => tb { D with nx := Pv (i + 1), ct := Pv (i + 1), bk := D.nx } σ2 H2) (hd : ∀ σ H, Pv xs.length σ H → D.nx σ H) :
    ∃ W : Nat → Nat → St → Hp → Prop, (∃ m, W 0 m σ H) ∧ ∀ i m σ H, W i m σ H →
      ((Ite K a).stop i H ∧ D.nx σ H) ∨ ((Ite K a).go i H ∧ ∃ N : St → Hp → Prop, (∀ σ' H', N σ' H' → ∃ m', m' < m ∧ W (i + 1) m' σ' H') ∧ ∀ x H', (Ite K a).yld i H x H' → g x σ H' fun σ2 H2 => tb { D with nx := N, ct := N, bk := D.nx } σ2 H2) := by
  refine ⟨fun i m σ H => m = xs.length - i ∧ i ≤ xs.length ∧ Pv i σ H, ⟨xs.length, by simp, Nat.zero_le _, h0⟩, ?_⟩
  rintro i m σ H ⟨rfl, hi, p⟩
  have q := hl i σ H hi p
  by_cases hlt : i < xs.length
  · refine .inr ⟨⟨xs, xs[i], q, by simp [hlt]⟩, Pv (i + 1), fun σ' H' p' => ⟨xs.length - (i + 1), by omega, rfl, hlt, p'⟩, fun x H' y => ?_⟩
    obtain ⟨T, z, rfl, hT, rfl, hz⟩ := y
    exact hs i z σ H T (hz xs q) p hT
  · have e : i = xs.length := by omega
    subst e
    exact .inl ⟨⟨xs, q, Nat.le_refl _⟩, hd σ H p⟩
theorem rep_flat {v : V} : ∀ n : Nat, (List.replicate n [v]).flatten = List.replicate n v
  | 0 => rfl
  | n + 1 => by rw [List.replicate_succ, List.flatten_cons, rep_flat n, List.replicate_succ]; rfl

/-! ### product_by -/
abbrev sProd : Stmt := topS 22
theorem scProd : FnScope ["field", "left", "right", "found", "i", "one", "j", "other"] ["field", "left", "right"] (defScope sProd) := ⟨rfl, rfl, rfl, by decide +kernel, rfl, by decide +kernel, by decide +kernel⟩
def spProd (K : PySem.W.Frag) (C : Addr) : Sp := fun vs H Q _ => ∃ fl a b f g, vs = [fl, a, b] ∧ FldAt C H fl ∧ PolyAt K H a f ∧ PolyAt K H b g ∧ FQ.MulOK f g ∧ Lt f 400 ∧ Lt g 400 ∧ ∀ H' v, Same H H' → PolyAt K H' v (f * g) → Q v H'
/-- the sums at the turn (i, j) -/
def pstate (f g : Ser) (i j k : Nat) : Rat := if i ≤ k ∧ k < i + j then FQ.mpart f g (i + 1) k else FQ.mpart f g i k
theorem mpart_succ (f g : Ser) {i k : Nat} (h : i ≤ k) : FQ.mpart f g (i + 1) k = FQ.mpart f g i k + f i * g (k - i) := by
  unfold FQ.mpart
  rw [show min (i + 1) (k + 1) = i + 1 by omega, show min i (k + 1) = i by omega]
  rfl
theorem mpart_past (f g : Ser) {i k : Nat} (h : k < i) : FQ.mpart f g (i + 1) k = FQ.mpart f g i k := by
  unfold FQ.mpart
  rw [show min (i + 1) (k + 1) = min i (k + 1) by omega]
theorem mpart_nought (f g : Ser) {i k : Nat} (h : f.co i = 0) : FQ.mpart f g (i + 1) k = FQ.mpart f g i k := by
  by_cases hk : i ≤ k
  · rw [mpart_succ f g hk, h]
    grind
  · exact mpart_past f g (by omega)
theorem mpart_all (f g : Ser) {n k : Nat} (h : Lt f n) : FQ.mpart f g n k = (f * g).co k := by
  rw [FQ.Ser.mul_co]
  unfold FQ.mpart
  by_cases hk : n ≤ k + 1
  · rw [Nat.min_eq_left hk]
    refine (FQ.sumTo_ext hk fun i h1 _ => ?_).symm
    rw [h i h1]
    grind
  · rw [Nat.min_eq_right (by omega)]
theorem pstate_next (f g : Ser) (ng i k : Nat) (hg : Lt g ng) : pstate f g i ng k = FQ.mpart f g (i + 1) k := by
  unfold pstate
  split
  · rfl
  · rename_i h
    by_cases hk : i ≤ k
    · rw [mpart_succ f g hk, hg (k - i) (by omega)]
      grind
    · exact (mpart_past f g (by omega)).symm
section
variable {P : Program} {w : World} {K : PySem.W.Frag} {mg : Str → Option Value} {base : Heap} {k : Nat} {C : Addr}
theorem gd_prod (B : Bi mg) (X : Fld P w K mg base C k) (a : At K mg "product_by" sProd) (GT : Gd P w K mg base "trimmed" k ["field", "numbers"] (spTrim K C)) :
    Gd P w K mg base "product_by" (k + 1) ["field", "left", "right"] (spProd K C) := by
  obtain ⟨f, fd, F, g⟩ := a.ex
  obtain ⟨fN, fdN, FN, mN, bN⟩ := X.nought.ex
  obtain ⟨fI, fdI, FI, mI, bI⟩ := X.isn.ex
  obtain ⟨fP, fdP, FP, mP, bP⟩ := X.plus.ex
  obtain ⟨fM, fdM, FM, mM, bM⟩ := X.times.ex
  refine ⟨f, fd, ?_, g, F.kp, F.binds fun _ _ _ _ _ _ us hl => match us, hl with | [_, _, _], _ => rfl⟩
  refine F.ok scProd (fun vs H Q E h => ?_) (fun cdv A outer s H vs Q E hr h => ?_)
  · obtain ⟨a, b, c, f, g, rfl, _⟩ := h
    rfl
  · obtain ⟨fl, a, b, f, g, rfl, ⟨e, dx, rfl, he⟩, hf, hg, ok, lf, lg, q⟩ := h
    obtain ⟨nf, ⟨p, us, rfl, hp, Ip⟩, If⟩ := id hf
    obtain ⟨ng, ⟨r, ws, rfl, hr2, Ir⟩, Ig⟩ := id hg
    have nf4 := If.le lf
    have ng4 := Ig.le lg
    refine ⟨_, pss_cons (ps_set (i := 3) scProd.nd rfl (.inl rfl) (pe_op op_rep (pe_lst (pa_cons (pe_meth0 (pv 0) X.cls mN FN hr bN .nil pass0) pa_nil))
        (pe_callB (call_max2 rfl) (by rfl) B.max b_max (pa_cons pe_int (pa_cons (pe_op op_sub (pe_op op_add (pe_callB call_len_seq (by rfl) B.len b_len (pa_cons (pv 1) pa_nil)) (pe_callB call_len_seq (by rfl) B.len b_len (pa_cons (pv 2) pa_nil))) pe_int) pa_nil)))))
      (pss_cons (ps_for PassesOwn.never rfl (pi_enumT (by rfl) B.enumerate (pa_cons (pv 1) pa_nil)) (pg_tup rfl (pgs_cons (pg_name (i := 4) scProd.nd rfl (.inl rfl)) (pgs_cons (pg_name (i := 5) scProd.nd rfl (.inl rfl)) pgs_nil)))
        (pss_one (ps_if (pt_not (pt_val (pe_meth (pv 0) X.cls mI FI hr bI .nil pass0 (pa_cons (pv 5) pa_nil))))
          (pss_one (ps_for PassesOwn.never rfl (pi_enumT (by rfl) B.enumerate (pa_cons (pv 2) pa_nil)) (pg_tup rfl (pgs_cons (pg_name (i := 6) scProd.nd rfl (.inl rfl)) (pgs_cons (pg_name (i := 7) scProd.nd rfl (.inl rfl)) pgs_nil)))
            (pss_one (ps_asg (pe_meth (pv 0) X.cls mP FP hr bP .nil pass0 (pa_cons (pe_ix ix_list (pv 3) (pe_op op_add (pv 4) (pv 6)) (fun _ _ => rfl)) (pa_cons (pe_meth (pv 0) X.cls mM FM hr bM .nil pass0 (pa_cons (pv 5) (pa_cons (pv 7) pa_nil))) pa_nil)))
              (pg_sub (pv 3) (pe_op op_add (pv 4) (pv 6)) set_list)))))
          pss_nil)))
      (pss_one (ps_ret (pe_gd GT hr (by rfl) (pa_cons (pv 0) (pa_cons (pv 3) pa_nil)))))), ?_⟩
    refine ⟨_, rfl, e, dx, _, rfl, he, rfl, _, rfl, fun H1 v1 s1 h1 => ?_⟩
    refine ⟨Nat.succ_le_of_lt (small1000 (by decide)), fun l0 hl0 => ?_⟩
    have s1' := s1.new (o := .lst [v1]) hl0
    refine ⟨_, rfl, p, us, rfl, .inr (s1'.seqT hp), _, rfl, r, ws, rfl, .inr (s1'.seqT hr2), _, _, rfl, rfl, _, _, rfl, rfl, _, _, rfl, ?_⟩
    rw [Ip.len, Ir.len]
    have emax : (if ((nf : Int) + (ng : Int) - 1) > 0 then ((nf : Int) + (ng : Int) - 1) else 0) = ((nf + ng - 1 : Nat) : Int) := by split <;> omega
    show rRep _ (V.int (if ((nf : Int) + (ng : Int) - 1) > 0 then ((nf : Int) + (ng : Int) - 1) else 0)) _ _
    rw [emax]
    refine ⟨l0, _, [v1], rfl, rfl, upd_same, by omega, by omega, ?_, fun l hl => ?_⟩
    · rw [Int.toNat_natCast]
      exact small1 (by simp; omega)
    rw [Int.toNat_natCast, rep_flat]
    have sl := s1'.new (o := .lst (List.replicate (nf + ng - 1) v1)) hl
    have hlH : H l = none := s1'.free hl
    refine ⟨_, rfl, p, us, rfl, sl.seqT hp, ?_⟩
    refine for_enumT (fun i σ H' => ∃ y4 y5 y6 y7 vs, σ = [some (.ref e), some (.ref p), some (.ref r), some (.ref l), y4, y5, y6, y7] ∧ Same H H' ∧ H' l = some (.lst vs) ∧ Items K H' vs (nf + ng - 1) (FQ.mpart f g i))
      ⟨none, none, none, none, _, rfl, sl, upd_same, ?_⟩ (fun i σ H' _ ⟨_, _, _, _, _, _, sm, _⟩ => sm.seqT hp) ?_ ?_
    · have h0 : Items K (upd (upd H1 l0 (.lst [v1])) l (.lst (List.replicate (nf + ng - 1) v1))) (List.replicate (nf + ng - 1) v1) (nf + ng - 1) fun _ => 0 := Items.rep ((h1.mono (same_upd hl0)).mono (same_upd hl))
      exact h0.congr fun i _ => by
        unfold FQ.mpart
        rw [Nat.zero_min]
        rfl
    · rintro i x σ H' T ex ⟨y4, y5, y6, y7, vs, rfl, sm, hL, hI⟩ hT
      have hi : i < nf := by
        rw [← Ip.len]
        exact (List.getElem?_eq_some_iff.mp ex).1
      have hx := ((Ip.ext sm.text).get ex).mono (same_upd (o := .tup [.int ((i : Nat) : Int), x]) hT)
      have smT := sm.new (o := .tup [.int ((i : Nat) : Int), x]) hT
      have hLT : upd H' T (.tup [.int ((i : Nat) : Int), x]) l = some (.lst vs) := same_upd hT _ _ hL
      have hIT := hI.ext (same_upd (o := .tup [.int ((i : Nat) : Int), x]) hT).text
      refine g_pair (.inl (.inl upd_same)) ?_
      refine ⟨_, rfl, e, dx, _, rfl, smT _ _ he, rfl, _, rfl, _, x, f i, rfl, hx, _, rfl, ?_⟩
      by_cases hz : f.co i = 0
      · rw [decide_eq_true hz]
        refine iteF ⟨_, _, _, _, vs, rfl, smT, hLT, hIT.congr fun j _ => (mpart_nought f g hz).symm⟩
      · rw [decide_eq_false hz]
        refine iteT ⟨_, rfl, r, ws, rfl, smT.seqT hr2, ?_⟩
        refine for_enumT (fun j σ H' => ∃ y6 y7 vs, σ = [some (.ref e), some (.ref p), some (.ref r), some (.ref l), some (.int ((i : Nat) : Int)), some x, y6, y7] ∧ Same H H' ∧ TExt (upd H' l (.lst [])) (upd H' l (.lst [])) ∧ NumAt K H' x (f i) ∧ H' l = some (.lst vs) ∧ Items K H' vs (nf + ng - 1) (pstate f g i j))
          ⟨y6, y7, vs, rfl, smT, TExt.refl _, hx, hLT, hIT.congr fun k _ => by unfold pstate; rw [if_neg (by omega)]⟩ (fun i σ H' _ ⟨_, _, _, _, sm, _⟩ => sm.seqT hr2) ?_ ?_
        · rintro j z σ H2 T2 ez ⟨y6, y7, ys, rfl, sm2, _, hx2, hL2, hI2⟩ hT2
          have hj : j < ng := by
            rw [← Ir.len]
            exact (List.getElem?_eq_some_iff.mp ez).1
          have hz2 := ((Ir.ext sm2.text).get ez).mono (same_upd (o := .tup [.int ((j : Nat) : Int), z]) hT2)
          have sT2 := same_upd (o := .tup [.int ((j : Nat) : Int), z]) hT2
          have smT2 := sm2.trans sT2
          have hIT2 := hI2.ext sT2.text
          obtain ⟨u, eu, hu⟩ := hIT2.at_ (i + j) (by omega)
          have ix0 : ((i : Int) + (j : Int)) = ((i + j : Nat) : Int) := by omega
          refine g_pair (.inl (.inl upd_same)) ?_
          refine ⟨_, rfl, e, dx, _, rfl, smT2 _ _ he, rfl, ?_⟩
          refine ⟨_, rfl, _, rfl, _, rfl, _, _, rfl, rfl, l, ys, _, u, rfl, rfl, SqL.of (sT2 _ _ hL2), atN ix0 eu, ?_⟩
          refine ⟨_, rfl, e, dx, _, rfl, smT2 _ _ he, rfl, _, rfl, _, rfl, _, x, z, f i, g j, rfl, hx2.mono sT2, hz2, ok.ff i, ok.fg j, trivial, fun H3 v3 s3 h3 => ?_⟩
          have est : pstate f g i j (i + j) = FQ.mpart f g i (i + j) := by unfold pstate; rw [if_neg (by omega)]
          have hu' : NumAt K (upd H2 T2 (.tup [.int ((j : Nat) : Int), z])) u (FQ.mpart f g i (i + j)) := by rw [← est]; exact hu
          refine ⟨_, u, v3, _, _, rfl, hu'.mono s3, h3, ok.pt _ _, ok.pr i j, trivial, fun H4 v4 s4 h4 => ?_⟩
          have s34 := sT2.trans (s3.trans s4)
          have hL4 := s34 _ _ hL2
          refine ⟨_, rfl, _, rfl, _, rfl, _, _, rfl, rfl, l, ys, _, i + j, rfl, rfl, hL4, ixN_nat ix0 (by rw [hI2.len]; omega), ?_⟩
          refine ⟨_, _, ys.set (i + j) v4, rfl, (sm2.trans s34).updN hlH, TExt.refl _, (hx2.mono s34).ext (TExt.upd hL4), upd_same, ?_⟩
          refine Items.set ((hI2.ext s34.text).ext (TExt.upd hL4)) ?_ fun k hk nk => ?_
          · have e3 : pstate f g i (j + 1) (i + j) = FQ.mpart f g i (i + j) + f i * g j := by
              unfold pstate
              rw [if_pos (by omega), mpart_succ f g (by omega), show i + j - i = j by omega]
            rw [e3]
            exact h4.ext (TExt.upd hL4)
          · unfold pstate
            by_cases c : i ≤ k ∧ k < i + j
            · rw [if_pos c, if_pos (by omega)]
            · rw [if_neg c, if_neg (by omega)]
        · rintro σ H2 ⟨y6, y7, ys, rfl, sm2, _, hx2, hL2, hI2⟩
          rw [Ir.len] at hI2
          exact ⟨_, _, _, _, ys, rfl, sm2, hL2, hI2.congr fun k _ => pstate_next f g ng i k Ig.1⟩
    · rintro σ H' ⟨y4, y5, y6, y7, vs, rfl, sm, hL, hI⟩
      rw [Ip.len] at hI
      refine ⟨_, rfl, _, rfl, _, _, nf + ng - 1, f * g, rfl, ⟨e, dx, rfl, sm _ _ he⟩, .inl ⟨l, vs, rfl, SqL.of hL, hI.congr fun i _ => mpart_all f g If.1⟩, by omega, If.1.mul Ig.1 (by omega), fun H2 v2 s2 h2 => q _ _ (sm.trans s2) h2⟩
end
end L2.FW
end
section
set_option Elab.async false
set_option linter.all false
set_option maxRecDepth 100000
namespace L2.FW
open PySem PySem.Spec PyProof.Rows
open FQ (Fit BB BB_eq FitP Ser IsLen Lt)
theorem cut_head (xs : List V) {z : Int} {k : Nat} (e : z = (k : Int)) : cutV xs none (some z) = xs.take k := by
  unfold cutV
  rw [e, HT.sIx_nat, HT.sIx_none, List.drop_zero, Nat.sub_zero]
  by_cases h : k ≤ xs.length
  · rw [Nat.min_eq_left h]
  · rw [Nat.min_eq_right (by omega), List.take_of_length_le (Nat.le_refl _), List.take_of_length_le (by omega)]
theorem Items.takeMin {K : PySem.W.Frag} {H : Hp} {vs : List V} {n : Nat} {f : Nat → Rat} (h : Items K H vs n f) (m : Nat) : Items K H (vs.take m) (min m n) f := by
  by_cases hm : m ≤ n
  · rw [Nat.min_eq_left hm]
    exact h.take m hm
  · rw [Nat.min_eq_right (by omega), List.take_of_length_le (by rw [h.len]; omega)]
    exact h
theorem lt_rst {f g : Ser} {nf ng : Nat} (hf : Lt f nf) (hg : IsLen g (ng + 1)) (hm : ng + 1 ≤ nf + 1) : ∀ t, t ≤ nf + 1 - (ng + 1) → Lt (FQ.rst f g (ng + 1) (nf + 1 - (ng + 1)) t) (nf - t)
  | 0, _ => hf
  | t + 1, ht => by
    have ih := lt_rst hf hg hm t (by omega)
    intro i hi
    show (FQ.rst f g (ng + 1) (nf + 1 - (ng + 1)) t - Ser.C _ * (Ser.X _ * g)) i = 0
    rw [FQ.Ser.sub_co, FQ.Ser.Cmul_co, FQ.Ser.Xmul_co]
    by_cases e : i = nf - t - 1
    · rw [e, show nf + 1 - (ng + 1) - 1 - t + (ng + 1) - 1 = nf - t - 1 by omega, if_pos (by omega), show nf - t - 1 - (nf + 1 - (ng + 1) - 1 - t) = ng by omega, show ng + 1 - 1 = ng by omega]
      have := hg.last
      grind
    · rw [ih i (by omega)]
      split
      · rw [hg.1 (i - (nf + 1 - (ng + 1) - 1 - t)) (by omega)]
        grind
      · grind
theorem rst_co (f g : Ser) (ng many t i : Nat) : (FQ.rst f g ng many (t + 1)).co i = (FQ.rst f g ng many t).co i - FQ.shr f g ng many t * (if many - 1 - t ≤ i then g (i - (many - 1 - t)) else 0) := by
  show (FQ.rst f g ng many t - Ser.C _ * (Ser.X _ * g)) i = _
  rw [FQ.Ser.sub_co, FQ.Ser.Cmul_co, FQ.Ser.Xmul_co]
  rfl
theorem Lt.remT {f g : Ser} {nf ng : Nat} (hf : IsLen f nf) (hg : IsLen g (ng + 1)) : Lt (FQ.rem f g (ng + 1) (nf + 1 - (ng + 1))) (min ng nf) := by
  by_cases h : ng + 1 ≤ nf + 1
  · have := lt_rst hf.1 hg h _ (Nat.le_refl _)
    refine this.mono (by omega)
  · unfold FQ.rem
    rw [show nf + 1 - (ng + 1) = 0 by omega]
    exact hf.1.mono (by omega)
theorem Lt.quoT (f g : Ser) (ng many : Nat) : Lt (FQ.quo f g ng many) many := fun i hi => by
  show (if i < many then _ else 0) = 0
  rw [if_neg (by omega)]

abbrev sPart : Stmt := topS 23
theorem scPart : FnScope ["field", "left", "right", "rest", "many", "often", "place", "share", "k", "number"] ["field", "left", "right"] (defScope sPart) := ⟨rfl, rfl, rfl, by decide +kernel, rfl, by decide +kernel, by decide +kernel⟩
/-- a pair of two values -/
def PairAt (K : PySem.W.Frag) (H : Hp) (v a b : V) : Prop := ∃ p, v = .ref p ∧ SqT K H p [a, b]
theorem PairAt.ext {K : PySem.W.Frag} {H H' : Hp} {v a b : V} (h : PairAt K H v a b) (s : TExt H H') : PairAt K H' v a b := let ⟨p, e, q⟩ := h; ⟨p, e, s.seqT q⟩
def spPart (K : PySem.W.Frag) (C : Addr) : Sp := fun vs H Q _ => ∃ fl a b f g nf ng, vs = [fl, a, b] ∧ FldAt C H fl ∧ PolyAt K H a f ∧ PolyAt K H b g ∧ IsLen f nf ∧ IsLen g (ng + 1) ∧ FQ.DivOK f g (ng + 1) (nf + 1 - (ng + 1)) ∧ Lt f 400 ∧ Lt g 400 ∧
  ∀ H' v x y, Same H H' → PairAt K H' v x y → PolyAt K H' x (FQ.quo f g (ng + 1) (nf + 1 - (ng + 1))) → PolyAt K H' y (FQ.rem f g (ng + 1) (nf + 1 - (ng + 1))) → Q v H'
/-- the row at the turn (t, j) -/
def dstate (f g : Ser) (ng many t j k : Nat) : Rat := if many - 1 - t ≤ k ∧ k < many - 1 - t + j then FQ.rst f g ng many (t + 1) k else FQ.rst f g ng many t k
theorem dstate_next (f g : Ser) (ng many t k : Nat) (hg : Lt g ng) : dstate f g ng many t ng k = (FQ.rst f g ng many (t + 1)).co k := by
  unfold dstate
  split
  · rfl
  · rename_i h
    rw [rst_co]
    split
    · rw [hg (k - (many - 1 - t)) (by omega)]
      grind
    · grind
section
variable {P : Program} {w : World} {K : PySem.W.Frag} {mg : Str → Option Value} {base : Heap} {k : Nat} {C : Addr}
theorem gd_part (B : Bi mg) (X : Fld P w K mg base C k) (a : At K mg "parted_by" sPart) (GT : Gd P w K mg base "trimmed" k ["field", "numbers"] (spTrim K C)) :
    Gd P w K mg base "parted_by" (k + 1) ["field", "left", "right"] (spPart K C) := by
  obtain ⟨f, fd, F, g⟩ := a.ex
  obtain ⟨fN, fdN, FN, mN, bN⟩ := X.nought.ex
  obtain ⟨fI, fdI, FI, mI, bI⟩ := X.minus.ex
  obtain ⟨fP, fdP, FP, mP, bP⟩ := X.over.ex
  obtain ⟨fM, fdM, FM, mM, bM⟩ := X.times.ex
  refine ⟨f, fd, ?_, g, F.kp, F.binds fun _ _ _ _ _ _ us hl => match us, hl with | [_, _, _], _ => rfl⟩
  refine F.ok scPart (fun vs H Q E h => ?_) (fun cdv A outer s H vs Q E hr h => ?_)
  · obtain ⟨a, b, c, f, g, nf, ng, rfl, _⟩ := h
    rfl
  · obtain ⟨fl, a, b, f, g, nf, ng, rfl, ⟨e, dx, rfl, he⟩, hf, hg, If, Ig, ok, lf, lg, q⟩ := h
    obtain ⟨nf', ⟨p, us, rfl, hp, Ip⟩, If'⟩ := id hf
    obtain rfl := If'.unique If
    obtain ⟨ng', ⟨r, ws, rfl, hr2, Ir⟩, Ig'⟩ := id hg
    obtain rfl := Ig'.unique Ig
    clear If' Ig'
    have nf4 := If.le lf
    have ng4 := Ig.le lg
    refine ⟨_, pss_cons (ps_set (i := 3) scPart.nd rfl (.inl rfl) (pe_callTy call_list_of (by rfl) B.list b_list (pa_cons (pv 1) pa_nil)))
      (pss_cons (ps_set (i := 4) scPart.nd rfl (.inl rfl) (pe_op op_add (pe_op op_sub (pe_callB call_len_seq (by rfl) B.len b_len (pa_cons (pv 1) pa_nil)) (pe_callB call_len_seq (by rfl) B.len b_len (pa_cons (pv 2) pa_nil))) pe_int))
      (pss_cons (ps_set (i := 5) scPart.nd rfl (.inl rfl) (pe_op op_rep (pe_lst (pa_cons (pe_meth0 (pv 0) X.cls mN FN hr bN .nil pass0) pa_nil)) (pe_callB (call_max2 rfl) (by rfl) B.max b_max (pa_cons pe_int (pa_cons (pv 4) pa_nil)))))
      (pss_cons (ps_for PassesOwn.never rfl (pi_range3 (by rfl) B.range (pa_cons (pe_op op_sub (pv 4) pe_int) (pa_cons (pe_un un_neg pe_int) (pa_cons (pe_un un_neg pe_int) pa_nil)))) (pg_name (i := 6) scPart.nd rfl (.inl rfl))
        (pss_cons (ps_set (i := 7) scPart.nd rfl (.inl rfl) (pe_meth (pv 0) X.cls mP FP hr bP .nil pass0 (pa_cons (pe_ix ix_list (pv 3) (pe_op op_sub (pe_op op_add (pv 6) (pe_callB call_len_seq (by rfl) B.len b_len (pa_cons (pv 2) pa_nil))) pe_int) (fun _ _ => rfl)) (pa_cons (pe_ix ix_tup (pv 2) (pe_un un_neg pe_int) (fun _ _ => rfl)) pa_nil))))
        (pss_cons (ps_asg (pv 7) (pg_sub (pv 5) (pv 6) set_list))
        (pss_one (ps_for PassesOwn.never rfl (pi_enumT (by rfl) B.enumerate (pa_cons (pv 2) pa_nil)) (pg_tup rfl (pgs_cons (pg_name (i := 8) scPart.nd rfl (.inl rfl)) (pgs_cons (pg_name (i := 9) scPart.nd rfl (.inl rfl)) pgs_nil)))
          (pss_one (ps_asg (pe_meth (pv 0) X.cls mI FI hr bI .nil pass0 (pa_cons (pe_ix ix_list (pv 3) (pe_op op_add (pv 6) (pv 8)) (fun _ _ => rfl)) (pa_cons (pe_meth (pv 0) X.cls mM FM hr bM .nil pass0 (pa_cons (pv 7) (pa_cons (pv 9) pa_nil))) pa_nil)))
            (pg_sub (pv 3) (pe_op op_add (pv 6) (pv 8)) set_list))))))))
      (pss_one (ps_ret (pe_tup (pa_cons (pe_gd GT hr (by rfl) (pa_cons (pv 0) (pa_cons (pv 5) pa_nil))) (pa_cons (pe_gd GT hr (by rfl) (pa_cons (pv 0) (pa_cons (pe_slice sl_list (pv 3) po_none (po_some (pe_op op_sub (pe_callB call_len_seq (by rfl) B.len b_len (pa_cons (pv 2) pa_nil)) pe_int))) pa_nil))) pa_nil)))))))), ?_⟩
    -- rest = list(left); many; often
    refine ⟨_, rfl, p, us, rfl, .inr hp, fun lr hlr => ?_⟩
    have s1 := same_upd (o := .lst us) hlr
    refine ⟨_, rfl, p, us, rfl, .inr (s1.seqT hp), _, rfl, r, ws, rfl, .inr (s1.seqT hr2), _, _, rfl, rfl, _, _, rfl, rfl, ?_⟩
    rw [Ip.len, Ir.len]
    refine ⟨_, rfl, e, dx, _, rfl, s1 _ _ he, rfl, _, rfl, fun H1 v1 s1a h1 => ?_⟩
    have s1' := s1.trans s1a
    refine ⟨Nat.succ_le_of_lt (small1000 (by decide)), fun l0 hl0 => ?_⟩
    have s2 := s1'.new (o := .lst [v1]) hl0
    refine ⟨_, rfl, _, _, rfl, ?_⟩
    have emax : (if ((nf' : Int) - ((ng + 1 : Nat) : Int) + 1) > 0 then ((nf' : Int) - ((ng + 1 : Nat) : Int) + 1) else 0) = ((nf' + 1 - (ng + 1) : Nat) : Int) := by split <;> omega
    show rRep _ (V.int (if ((nf' : Int) - ((ng + 1 : Nat) : Int) + 1) > 0 then ((nf' : Int) - ((ng + 1 : Nat) : Int) + 1) else 0)) _ _
    rw [emax]
    refine ⟨l0, _, [v1], rfl, rfl, upd_same, by omega, by omega, ?_, fun lo hlo => ?_⟩
    · rw [Int.toNat_natCast]
      exact small1 (by simp; omega)
    rw [Int.toNat_natCast, rep_flat]
    have s3 := s2.new (o := .lst (List.replicate (nf' + 1 - (ng + 1)) v1)) hlo
    have hloH : H lo = none := s2.free hlo
    have hlrlo : lr ≠ lo := ne_of_none (s1a.new (o := .lst [v1]) hl0 _ _ (upd_same (H := H))) hlo
    have hLr : (upd (upd H1 l0 (.lst [v1])) lo (.lst (List.replicate (nf' + 1 - (ng + 1)) v1))) lr = some (.lst us) := by
      rw [upd_ne hlrlo]
      exact s1a.new (o := .lst [v1]) hl0 _ _ upd_same
    generalize hM : nf' + 1 - (ng + 1) = M at *
    refine ⟨_, rfl, _, _, rfl, rfl, _, rfl, _, rfl, _, _, _, _, rfl, RgC.neg (by omega) (by omega) (by omega) (by omega), ?_⟩
    rw [show ((nf' : Int) - ((ng + 1 : Nat) : Int) + 1 - 1 - -1).toNat = M by omega]
    refine for_rangeC (fun t σ H' => ∃ y6 y7 y8 y9 vs os, σ = [some (.ref e), some (.ref p), some (.ref r), some (.ref lr), some (.int ((nf' : Int) - ((ng + 1 : Nat) : Int) + 1)), some (.ref lo), y6, y7, y8, y9] ∧ Same H H' ∧ H' lr = some (.lst vs) ∧ H' lo = some (.lst os) ∧
        Items K H' vs nf' (FQ.rst f g (ng + 1) M t).co ∧ Items K H' os M (fun i => if M - t ≤ i then FQ.shr f g (ng + 1) M (M - 1 - i) else 0))
      ⟨none, none, none, none, us, _, rfl, s3, hLr, upd_same, Ip.ext s3.text, ?_⟩ ?_ ?_
    · have h0 : Items K (upd (upd H1 l0 (.lst [v1])) lo (.lst (List.replicate M v1))) (List.replicate M v1) M fun _ => 0 := Items.rep ((h1.mono (same_upd hl0)).mono (same_upd hlo))
      exact h0.congr fun i hi => by rw [if_neg (by omega)]
    · rintro t σ H' ht ⟨y6, y7, y8, y9, vs, os, rfl, sm, hV, hO, hI, hJ⟩
      have epl : (nf' : Int) - ((ng + 1 : Nat) : Int) + 1 - 1 + ((t : Nat) : Int) * -1 = ((M - 1 - t : Nat) : Int) := by omega
      rw [epl]
      have eix : ((M - 1 - t : Nat) : Int) + ((ws.length : Nat) : Int) - 1 = ((M - 1 - t + (ng + 1) - 1 : Nat) : Int) := by rw [Ir.len]; omega
      obtain ⟨u, eu, hu⟩ := hI.at_ (M - 1 - t + (ng + 1) - 1) (by omega)
      obtain ⟨b, eb, hb⟩ := (Ir.ext sm.text).at_ ng (by omega)
      have hgl := Ig.last
      -- share = field.over(rest[..], right[-1])
      refine ⟨_, rfl, e, dx, _, rfl, sm _ _ he, rfl, ?_⟩
      refine ⟨_, rfl, _, rfl, _, rfl, r, ws, rfl, .inr (sm.seqT hr2), _, _, rfl, rfl, _, _, rfl, rfl, lr, vs, _, u, rfl, rfl, SqL.of hV, atN eix eu, ?_⟩
      refine ⟨_, rfl, _, rfl, r, ws, _, b, rfl, rfl, sm.seqT hr2, at_neg (j := 0) (by decide) (by rw [Ir.len]; omega) (by rw [Ir.len]; exact eb), ?_⟩
      refine ⟨_, u, b, _, _, rfl, hu, hb, ok.rs t ht _, ok.fg ng, hgl, fun H2 v2 s4 h2 => ?_⟩
      have h2' : NumAt K H2 v2 (FQ.shr f g (ng + 1) M t) := h2
      have hV2 := s4 _ _ hV
      have hO2 := s4 _ _ hO
      have nVO : lr ≠ lo := fun z => by
        rw [z] at hLr
        exact hlrlo z
      -- often[place] = share
      refine ⟨_, rfl, _, rfl, _, rfl, lo, os, _, M - 1 - t, rfl, rfl, hO2, ixN_nat rfl (by rw [hJ.len]; omega), ?_⟩
      have x3 : TExt H2 (upd H2 lo (.lst (os.set (M - 1 - t) v2))) := TExt.upd hO2
      have s5 : Same H (upd H2 lo (.lst (os.set (M - 1 - t) v2))) := (sm.trans s4).updN hloH
      -- the inner loop
      refine ⟨_, rfl, r, ws, rfl, s5.seqT hr2, ?_⟩
      refine for_enumT (fun j σ H' => ∃ y8 y9 vs os, σ = [some (.ref e), some (.ref p), some (.ref r), some (.ref lr), some (.int ((nf' : Int) - ((ng + 1 : Nat) : Int) + 1)), some (.ref lo), some (.int ((M - 1 - t : Nat) : Int)), some v2, y8, y9] ∧ Same H H' ∧ H' lr = some (.lst vs) ∧ H' lo = some (.lst os) ∧
          NumAt K H' v2 (FQ.shr f g (ng + 1) M t) ∧ Items K H' vs nf' (dstate f g (ng + 1) M t j) ∧ Items K H' os M (fun i => if M - (t + 1) ≤ i then FQ.shr f g (ng + 1) M (M - 1 - i) else 0))
        ⟨y8, y9, vs, _, rfl, s5, by rw [upd_ne nVO]; exact hV2, upd_same, h2'.ext x3, ?_, ?_⟩ (fun i σ H' _ ⟨_, _, _, _, _, sm, _⟩ => sm.seqT hr2) ?_ ?_
      · exact ((hI.ext s4.text).ext x3).congr fun i _ => by unfold dstate; rw [if_neg (by omega)]
      · refine Items.set ((hJ.ext s4.text).ext x3) ?_ fun i hi ni => ?_
        · show NumAt K _ v2 (if M - (t + 1) ≤ M - 1 - t then FQ.shr f g (ng + 1) M (M - 1 - (M - 1 - t)) else 0)
          rw [if_pos (by omega), show M - 1 - (M - 1 - t) = t by omega]
          exact h2'.ext x3
        · by_cases c : M - t ≤ i
          · rw [if_pos c, if_pos (by omega)]
          · rw [if_neg c, if_neg (by omega)]
      · rintro j z σ H3 T2 ez ⟨y8, y9, vs3, os3, rfl, sm3, hV3, hO3, hv3, hI3, hJ3⟩ hT2
        have hj : j < ng + 1 := by
          rw [← Ir.len]
          exact (List.getElem?_eq_some_iff.mp ez).1
        have sT2 := same_upd (o := .tup [.int ((j : Nat) : Int), z]) hT2
        have hz2 := ((Ir.ext sm3.text).get ez).mono sT2
        have smT2 := sm3.trans sT2
        have hIT2 := hI3.ext sT2.text
        obtain ⟨u3, eu3, hu3⟩ := hIT2.at_ (M - 1 - t + j) (by omega)
        have ix0 : (((M - 1 - t : Nat) : Int) + (j : Int)) = ((M - 1 - t + j : Nat) : Int) := by omega
        refine g_pair (.inl (.inl upd_same)) ?_
        refine ⟨_, rfl, e, dx, _, rfl, smT2 _ _ he, rfl, ?_⟩
        refine ⟨_, rfl, _, rfl, _, rfl, _, _, rfl, rfl, lr, vs3, _, u3, rfl, rfl, SqL.of (sT2 _ _ hV3), atN ix0 eu3, ?_⟩
        refine ⟨_, rfl, e, dx, _, rfl, smT2 _ _ he, rfl, _, rfl, _, rfl, _, v2, z, _, g j, rfl, hv3.mono sT2, hz2, ok.sh t ht, ok.fg j, trivial, fun H4 v4 s6 h4 => ?_⟩
        have est : dstate f g (ng + 1) M t j (M - 1 - t + j) = FQ.rst f g (ng + 1) M t (M - 1 - t + j) := by unfold dstate; rw [if_neg (by omega)]
        have hu3' : NumAt K (upd H3 T2 (.tup [.int ((j : Nat) : Int), z])) u3 (FQ.rst f g (ng + 1) M t (M - 1 - t + j)) := by rw [← est]; exact hu3
        refine ⟨_, u3, v4, _, _, rfl, hu3'.mono s6, h4, ok.rs t ht _, ok.pr t ht j, trivial, fun H5 v5 s7 h5 => ?_⟩
        have s67 := sT2.trans (s6.trans s7)
        have hV5 := s67 _ _ hV3
        have hO5 := s67 _ _ hO3
        have x5 : TExt H5 (upd H5 lr (.lst (vs3.set (M - 1 - t + j) v5))) := TExt.upd hV5
        refine ⟨_, rfl, _, rfl, _, rfl, _, _, rfl, rfl, lr, vs3, _, M - 1 - t + j, rfl, rfl, hV5, ixN_nat ix0 (by rw [hI3.len]; omega), ?_⟩
        refine ⟨_, _, _, os3, rfl, (sm3.trans s67).updN hlr, upd_same, by rw [upd_ne nVO.symm]; exact hO5, (hv3.mono s67).ext x5, ?_, (hJ3.ext s67.text).ext x5⟩
        refine Items.set ((hI3.ext s67.text).ext x5) ?_ fun i hi ni => ?_
        · have e3 : dstate f g (ng + 1) M t (j + 1) (M - 1 - t + j) = FQ.rst f g (ng + 1) M t (M - 1 - t + j) - FQ.shr f g (ng + 1) M t * g j := by
            unfold dstate
            rw [if_pos (by omega), rst_co, if_pos (by omega), show M - 1 - t + j - (M - 1 - t) = j by omega]
          rw [e3]
          exact h5.ext x5
        · unfold dstate
          by_cases c : M - 1 - t ≤ i ∧ i < M - 1 - t + j
          · rw [if_pos c, if_pos (by omega)]
          · rw [if_neg c, if_neg (by omega)]
      · rintro σ H3 ⟨y8, y9, vs3, os3, rfl, sm3, hV3, hO3, hv3, hI3, hJ3⟩
        rw [Ir.len] at hI3
        exact ⟨_, _, _, _, vs3, os3, rfl, sm3, hV3, hO3, hI3.congr fun i _ => dstate_next f g (ng + 1) M t i Ig.1, hJ3⟩
    · rintro σ H' ⟨y6, y7, y8, y9, vs, os, rfl, sm, hV, hO, hI, hJ⟩
      have hJ' : Items K H' os M (FQ.quo f g (ng + 1) M).co := hJ.congr fun i hi => by
        rw [if_pos (by omega)]
        show _ = if i < M then _ else 0
        rw [if_pos hi]
      refine ⟨_, rfl, _, rfl, _, _, M, FQ.quo f g (ng + 1) M, rfl, ⟨e, dx, rfl, sm _ _ he⟩, .inl ⟨lo, os, rfl, SqL.of hO, hJ'⟩, by omega, Lt.quoT _ _ _ _, fun H2 v2 s4 h2 => ?_⟩
      have hV2 := s4 _ _ hV
      have sm2 := sm.trans s4
      refine ⟨_, rfl, _, rfl, _, rfl, r, ws, rfl, .inr (sm2.seqT hr2), _, _, rfl, rfl, _, rfl, lr, vs, rfl, SqL.of hV2, fun c hc => ?_⟩
      have ec : cutV vs none (some (((ws.length : Nat) : Int) - 1)) = vs.take ng := cut_head vs (by rw [Ir.len]; omega)
      rw [ec]
      have s5 := same_upd (o := .lst (vs.take ng)) hc
      have hI2 : Items K (upd H2 c (.lst (vs.take ng))) (vs.take ng) (min ng nf') (FQ.rem f g (ng + 1) M).co := ((hI.ext s4.text).ext s5.text).takeMin ng
      have hlt : Lt (FQ.rem f g (ng + 1) M) (min ng nf') := by
        rw [← hM]
        exact Lt.remT If Ig
      refine ⟨_, _, min ng nf', FQ.rem f g (ng + 1) M, rfl, ⟨e, dx, rfl, s5 _ _ (sm2 _ _ he)⟩, .inl ⟨c, _, rfl, SqL.of upd_same, hI2⟩, by omega, hlt, fun H3 v3 s6 h3 => ?_⟩
      refine ⟨by show 2 ≤ sizeLine; decide, fun t ht => ?_⟩
      have s7 := same_upd (o := .tup [v2, v3]) ht
      exact q _ _ v2 v3 ((sm2.trans (s5.trans s6)).trans s7) ⟨t, rfl, .inl (.inl upd_same)⟩ (h2.ext (s5.trans (s6.trans s7)).text) (h3.ext s7.text)
end
end L2.FW
end
section
set_option Elab.async false
set_option linter.all false
set_option maxRecDepth 100000
namespace L2.FW
open PySem PySem.Spec PyProof.Rows
open FQ (Fit BB BB_eq FitP Ser IsLen Lt)
/-! ### common_by -/
abbrev sComm : Stmt := topS 24
theorem scComm : FnScope ["field", "left", "right", "one", "other", "number"] ["field", "left", "right"] (defScope sComm) := ⟨rfl, rfl, rfl, by decide +kernel, rfl, by decide +kernel, by decide +kernel⟩
def spComm (K : PySem.W.Frag) (C : Addr) : Sp := fun vs H Q _ => ∃ fl a b f g h nh, vs = [fl, a, b] ∧ FldAt C H fl ∧ PolyAt K H a f ∧ PolyAt K H b g ∧ FQ.Euc f g h ∧ IsLen h (nh + 1) ∧ FitP h ∧ Lt f 400 ∧ Lt g 400 ∧ ∀ H' v, Same H H' → PolyAt K H' v (FQ.scl h (h nh)) → Q v H'
theorem len_scl {h : Ser} {n : Nat} (hh : IsLen h (n + 1)) : IsLen (FQ.scl h (h n)) (n + 1) := by
  have hl := hh.last
  refine ⟨fun i hi => ?_, .inr ?_⟩
  · show h i / h n = 0
    rw [hh.1 i hi]
    grind
  · show h n / h n ≠ 0
    grind
section
variable {P : Program} {w : World} {K : PySem.W.Frag} {mg : Str → Option Value} {base : Heap} {k : Nat} {C : Addr}
/-- [field.over(x, c) for x in a tuple], the tuple of it -/
theorem gd_comm (B : Bi mg) (X : Fld P w K mg base C k) (a : At K mg "common_by" sComm) (GT : Gd P w K mg base "trimmed" k ["field", "numbers"] (spTrim K C)) (GP : Gd P w K mg base "parted_by" k ["field", "left", "right"] (spPart K C)) :
    Gd P w K mg base "common_by" (k + 1) ["field", "left", "right"] (spComm K C) := by
  obtain ⟨f, fd, F, g⟩ := a.ex
  obtain ⟨fO, fdO, FO, mO, bO⟩ := X.over.ex
  refine ⟨f, fd, ?_, g, F.kp, F.binds fun _ _ _ _ _ _ us hl => match us, hl with | [_, _, _], _ => rfl⟩
  refine F.ok scComm (fun vs H Q E h => ?_) (fun cdv A outer s H vs Q E hr h => ?_)
  · obtain ⟨a, b, c, f, g, h, n, rfl, _⟩ := h
    rfl
  · obtain ⟨fl, a, b, f, g, h, nh, rfl, ⟨e, dx, rfl, he⟩, hf, hg, eu, lh, fh, lf, lg, q⟩ := h
    obtain ⟨nf, Tf, If⟩ := id hf
    obtain ⟨ng, Tg, Ig⟩ := id hg
    refine ⟨_, pss_cons (ps_set (i := 3) scComm.nd rfl (.inr rfl) (pe_gd GT hr (by rfl) (pa_cons (pv 0) (pa_cons (pv 1) pa_nil))))
      (pss_cons (ps_set (i := 4) scComm.nd rfl (.inl rfl) (pe_gd GT hr (by rfl) (pa_cons (pv 0) (pa_cons (pv 2) pa_nil))))
      (pss_cons (ps_while PassesOwn.never (pt_cmpR op_gt (pe_callB call_len_seq (by rfl) B.len b_len (pa_cons (pv 4) pa_nil)) pe_int (nomark _))
        (pss_one (ps_asg (pe_tup (pa_cons (pv 4) (pa_cons (pe_ix ix_tup (pe_gd GP hr (by rfl) (pa_cons (pv 0) (pa_cons (pv 3) (pa_cons (pv 4) pa_nil)))) pe_int (fun _ _ => rfl)) pa_nil)))
          (pg_tup rfl (pgs_cons (pg_name (i := 3) scComm.nd rfl (.inr rfl)) (pgs_cons (pg_name (i := 4) scComm.nd rfl (.inl rfl)) pgs_nil))))))
      (pss_one (ps_ret (pe_callTy call_tuple_of (by rfl) B.tuple b_tuple (pa_cons
        (pe_lc (own := [("number", 5)]) (g := gName 5) (tt := tYes) (te := tMeth C "over" (spM2 K (fun x y => x / y) okN) [] E0 (tVar 0) (tCons (tVar 5) (tCons (tOp (rIxT K) (tVar 3) (tUn (rU fun i => .int (-i)) (tC (.int 1)))) tNil)))
          rfl scComm.nd (pi_tup (pv 3)) (blkOk_by (N := ["field", "left", "right", "one", "other", "number"]) (sc := defScope sComm) (by decide +kernel))
          (fun _ _ _ _ _ => pg_name (i := 5) scComm.nd rfl (Or.inl rfl)) (fun _ _ _ _ _ => pts_nil)
          (fun _ _ _ _ _ => pe_meth (pv 0) X.cls mO FO hr bO .nil pass0 (pa_cons (pv 5) (pa_cons (pe_ix ix_tup (pv 3) (pe_un un_neg pe_int) (fun _ _ => rfl)) pa_nil)))) pa_nil)))))), ?_⟩
    refine ⟨_, rfl, _, rfl, _, _, nf, f, rfl, ⟨e, dx, rfl, he⟩, .inr Tf, Nat.le_trans (If.le lf) (by decide), If.1, fun H1 v1 s1 h1 => ?_⟩
    refine ⟨_, rfl, _, rfl, _, _, ng, g, rfl, ⟨e, dx, rfl, s1 _ _ he⟩, .inr (Tg.ext s1.text), Nat.le_trans (Ig.le lg) (by decide), Ig.1, fun H2 v2 s2 h2 => ?_⟩
    refine ⟨fun m σ H' => ∃ f g u v, σ = [some (.ref e), some a, some b, some u, some v, none] ∧ Same H H' ∧ PolyAt K H' u f ∧ PolyAt K H' v g ∧ IsLen g m ∧ FQ.Euc f g h ∧ Lt f 400 ∧ Lt g 400, ⟨ng, f, g, v1, v2, rfl, s1.trans s2, h1.ext s2.text, h2, Ig, eu, lf, lg⟩, ?_⟩
    rintro m σ H' ⟨f1, g1, u, v, rfl, sm, hu, hv, Im, eu1, lf1, lg1⟩
    obtain ⟨m', ⟨pv', vs, rfl, hpv, Iv⟩, Im'⟩ := id hv
    obtain rfl := Im'.unique Im
    refine ⟨_, rfl, pv', vs, rfl, .inr hpv, _, _, rfl, rfl, _, rfl, ?_⟩
    rw [Iv.len]
    refine ite2 (fun c => ?_) (fun c => ?_)
    · have c' : (0 : Int) < (m' : Int) := of_decide_eq_true c
      cases eu1 with
      | done =>
        have := Im.unique IsLen.zero
        omega
      | @step _ _ _ nf1 ng1 hf1 hg1 ok1 r1 =>
        have em := hg1.unique Im
        subst em
        have rr := Lt.remT hf1 hg1
        refine ⟨fun σ' H' => ∃ m, m < ng1 + 1 ∧ ∃ f g u v, σ' = [some (.ref e), some a, some b, some u, some v, none] ∧ Same H H' ∧ PolyAt K H' u f ∧ PolyAt K H' v g ∧ IsLen g m ∧ FQ.Euc f g h ∧ Lt f 400 ∧ Lt g 400, fun σ' H' hN => hN, ?_⟩
        refine ⟨_, rfl, _, rfl, _, rfl, _, rfl, _, _, _, f1, g1, nf1, ng1, rfl, ⟨e, dx, rfl, sm _ _ he⟩, hu, hv, hf1, hg1, ok1, lf1, lg1, fun H3 v3 x y s3 hp hx hy => ?_⟩
        obtain ⟨t3, rfl, ht3⟩ := hp
        refine ⟨t3, _, 1, _, rfl, rfl, ht3, at1, by show 2 ≤ sizeLine; decide, fun t ht => ?_⟩
        have s4 := same_upd (o := .tup [V.ref pv', y]) ht
        refine g_pair (.inl (.inl upd_same)) ?_
        obtain ⟨m2, Ty, Iy⟩ := id hy
        refine ⟨m2, Nat.lt_succ_of_le (Nat.le_trans (Iy.le rr) (Nat.min_le_left _ _)), g1, _, _, y, rfl, sm.trans (s3.trans s4), hv.ext (s3.trans s4).text, hy.ext s4.text, Iy, r1, lg1, rr.mono ?_⟩
        have := hg1.le lg1
        omega
    · have c' : ¬ (0 : Int) < (m' : Int) := fun z => c (decide_eq_true z)
      have m0 : m' = 0 := by omega
      subst m0
      have g0 := Im.eq_zero
      subst g0
      have efh : f1 = h := by
        cases eu1 with
        | done => rfl
        | step _ hg1 _ _ =>
          have := hg1.unique IsLen.zero
          omega
      subst efh
      obtain ⟨n1, ⟨p1, us, rfl, hp1, Iu⟩, If1⟩ := id hu
      obtain rfl := If1.unique lh
      refine ⟨_, rfl, p1, rfl, ⟨_, hp1⟩, fun D hD => ?_⟩
      refine lc_tup (K := K) (a := p1) (xs := us) (fun i H'' => Same H' H'' ∧ ∃ ys, H'' D = some (.lst ys) ∧ Items K H'' ys i fun j => f1 j / f1 nh) ⟨same_upd hD, [], upd_same, .nil⟩ (fun i H'' _ hP => hP.1.seqT hp1) ?_ ?_
      · rintro i x H2' ex ⟨s5, ys, hd, hy⟩
        refine ⟨rfl, lc_yes ?_⟩
        have hx := (Iu.ext s5.text).get ex
        have hi : i < nh + 1 := by
          rw [← Iu.len]
          exact (List.getElem?_eq_some_iff.mp ex).1
        obtain ⟨b', eb, hb⟩ := (Iu.ext s5.text).at_ nh (by omega)
        refine ⟨_, rfl, e, dx, _, rfl, s5 _ _ (sm _ _ he), rfl, _, rfl, _, rfl, _, rfl, p1, us, _, b', rfl, rfl, s5.seqT hp1, at_neg (j := 0) (by decide) (by rw [Iu.len]; omega) (by rw [Iu.len]; exact eb), ?_⟩
        refine ⟨_, x, b', _, _, rfl, hx, hb, fh i, fh nh, lh.last, fun H4 v4 s6 h4 => ?_⟩
        have hd4 := s6 _ _ hd
        refine ⟨ys, hd4, ?_, (s5.trans s6).updN hD, ys ++ [v4], upd_same, ?_⟩
        · rw [hy.len]
          have := If1.le lf1
          exact small1000 (by omega)
        · exact ((hy.ext s6.text).ext (TExt.upd hd4)).snoc (h4.ext (TExt.upd hd4))
      · rintro H2' ⟨s5, ys, hd, hy⟩
        rw [Iu.len] at hy
        refine ⟨D, _, rfl, .inl ⟨.inl (.inl hd), fun l hl2 => ?_⟩⟩
        have s6 := same_upd (o := .tup ys) hl2
        refine q _ _ (sm.trans (s5.trans s6)) ⟨nh + 1, ⟨l, _, rfl, .inl (.inl upd_same), hy.ext s6.text⟩, len_scl lh⟩
end
/-! ### over_all -/
abbrev sOvAll : Stmt := topS 26
theorem scOvAll : FnScope ["field", "one", "number", "part"] ["field", "one", "number"] (defScope sOvAll) := ⟨rfl, rfl, rfl, by decide +kernel, rfl, by decide +kernel, by decide +kernel⟩
def spOvAll (K : PySem.W.Frag) (C : Addr) : Sp := fun vs H Q _ => ∃ fl a b f c, vs = [fl, a, b] ∧ FldAt C H fl ∧ PolyAt K H a f ∧ NumAt K H b c ∧ FitP f ∧ Fit c ∧ c ≠ 0 ∧ Lt f 400 ∧ ∀ H' v, Same H H' → PolyAt K H' v (FQ.scl f c) → Q v H'
theorem len_scl2 {h : Ser} {n : Nat} {c : Rat} (hh : IsLen h n) (hc : c ≠ 0) : IsLen (FQ.scl h c) n := by
  refine ⟨fun i hi => ?_, ?_⟩
  · show h i / c = 0
    rw [hh.1 i hi]
    grind
  · rcases hh.2 with z | z
    · exact .inl z
    · refine .inr ?_
      show h (n - 1) / c ≠ 0
      grind
section
variable {P : Program} {w : World} {K : PySem.W.Frag} {mg : Str → Option Value} {base : Heap} {k : Nat} {C : Addr}
theorem gd_ovAll (B : Bi mg) (X : Fld P w K mg base C k) (a : At K mg "over_all" sOvAll) : Gd P w K mg base "over_all" (k + 1) ["field", "one", "number"] (spOvAll K C) := by
  obtain ⟨f, fd, F, g⟩ := a.ex
  obtain ⟨fO, fdO, FO, mO, bO⟩ := X.over.ex
  refine ⟨f, fd, ?_, g, F.kp, F.binds fun _ _ _ _ _ _ us hl => match us, hl with | [_, _, _], _ => rfl⟩
  refine F.ok scOvAll (fun vs H Q E h => ?_) (fun cdv A outer s H vs Q E hr h => ?_)
  · obtain ⟨a, b, c, f, g, rfl, _⟩ := h
    rfl
  · obtain ⟨fl, a, b, f, c, rfl, ⟨e, dx, rfl, he⟩, hf, hc, ff, fc, nc, lf, q⟩ := h
    obtain ⟨n, ⟨p, us, rfl, hp, Ip⟩, If⟩ := id hf
    refine ⟨_, pss_one (ps_ret (pe_callTy call_tuple_of (by rfl) B.tuple b_tuple (pa_cons
        (pe_lc (own := [("part", 3)]) (g := gName 3) (tt := tYes) (te := tMeth C "over" (spM2 K (fun x y => x / y) okN) [] E0 (tVar 0) (tCons (tVar 3) (tCons (tVar 2) tNil)))
          rfl scOvAll.nd (pi_tup (pv 1)) (blkOk_by (N := ["field", "one", "number", "part"]) (sc := defScope sOvAll) (by decide +kernel))
          (fun _ _ _ _ _ => pg_name (i := 3) scOvAll.nd rfl (Or.inl rfl)) (fun _ _ _ _ _ => pts_nil)
          (fun _ _ _ _ _ => pe_meth (pv 0) X.cls mO FO hr bO .nil pass0 (pa_cons (pv 3) (pa_cons (pv 2) pa_nil)))) pa_nil))), ?_⟩
    refine ⟨_, rfl, p, rfl, ⟨_, hp⟩, fun D hD => ?_⟩
    refine lc_tup (K := K) (a := p) (xs := us) (fun i H'' => Same H H'' ∧ ∃ ys, H'' D = some (.lst ys) ∧ Items K H'' ys i fun j => f j / c) ⟨same_upd hD, [], upd_same, .nil⟩ (fun i H'' _ hP => hP.1.seqT hp) ?_ ?_
    · rintro i x H2' ex ⟨s5, ys, hd, hy⟩
      refine ⟨rfl, lc_yes ?_⟩
      have hx := (Ip.ext s5.text).get ex
      have hi : i < n := by
        rw [← Ip.len]
        exact (List.getElem?_eq_some_iff.mp ex).1
      refine ⟨_, rfl, e, dx, _, rfl, s5 _ _ he, rfl, _, rfl, _, rfl, ?_⟩
      refine ⟨_, x, b, _, _, rfl, hx, hc.mono s5, ff i, fc, nc, fun H4 v4 s6 h4 => ?_⟩
      have hd4 := s6 _ _ hd
      refine ⟨ys, hd4, ?_, (s5.trans s6).updN hD, ys ++ [v4], upd_same, ?_⟩
      · rw [hy.len]
        have := If.le lf
        exact small1000 (by omega)
      · exact ((hy.ext s6.text).ext (TExt.upd hd4)).snoc (h4.ext (TExt.upd hd4))
    · rintro H2' ⟨s5, ys, hd, hy⟩
      rw [Ip.len] at hy
      refine ⟨D, _, rfl, .inl ⟨.inl (.inl hd), fun l hl2 => ?_⟩⟩
      have s6 := same_upd (o := .tup ys) hl2
      exact q _ _ (s5.trans s6) ⟨n, ⟨l, _, rfl, .inl (.inl upd_same), hy.ext s6.text⟩, len_scl2 If nc⟩
end
/-! ### quotient_in -/
abbrev sQuoIn : Stmt := topS 27
theorem scQuoIn : FnScope ["field", "top", "below", "above", "under", "shared"] ["field", "top", "below"] (defScope sQuoIn) := ⟨rfl, rfl, rfl, by decide +kernel, rfl, by decide +kernel, by decide +kernel⟩
/-- a quotient -/
def QuoAt (K : PySem.W.Frag) (H : Hp) (v : V) (a b : Ser) : Prop := ∃ x y, PairAt K H v x y ∧ PolyAt K H x a ∧ PolyAt K H y b
theorem QuoAt.ext {K : PySem.W.Frag} {H H' : Hp} {v : V} {a b : Ser} (h : QuoAt K H v a b) (s : TExt H H') : QuoAt K H' v a b := let ⟨x, y, p, q, r⟩ := h; ⟨x, y, p.ext s, q.ext s, r.ext s⟩
def spQuoIn (K : PySem.W.Frag) (C : Addr) : Sp := fun vs H Q _ => ∃ fl x y f g a b, vs = [fl, x, y] ∧ FldAt C H fl ∧ PolyAt K H x f ∧ PolyAt K H y g ∧ FQ.QuoOK f g a b ∧ ∀ H' v, Same H H' → QuoAt K H' v a b → Q v H'
section
variable {P : Program} {w : World} {K : PySem.W.Frag} {mg : Str → Option Value} {base : Heap} {k : Nat} {C : Addr}
theorem gd_quoIn (B : Bi mg) (X : Fld P w K mg base C k) (a : At K mg "quotient_in" sQuoIn) (GT : Gd P w K mg base "trimmed" k ["field", "numbers"] (spTrim K C)) (GP : Gd P w K mg base "parted_by" k ["field", "left", "right"] (spPart K C))
    (GC : Gd P w K mg base "common_by" k ["field", "left", "right"] (spComm K C)) (GO : Gd P w K mg base "over_all" k ["field", "one", "number"] (spOvAll K C)) :
    Gd P w K mg base "quotient_in" (k + 1) ["field", "top", "below"] (spQuoIn K C) := by
  obtain ⟨f, fd, F, g⟩ := a.ex
  obtain ⟨fI, fdI, FI, mI, bI⟩ := X.isn.ex
  refine ⟨f, fd, ?_, g, F.kp, F.binds fun _ _ _ _ _ _ us hl => match us, hl with | [_, _, _], _ => rfl⟩
  refine F.ok scQuoIn (fun vs H Q E h => ?_) (fun cdv A outer s H vs Q E hr h => ?_)
  · obtain ⟨a, b, c, f, g, h, n, rfl, _⟩ := h
    rfl
  · obtain ⟨fl, x, y, f, g, a, b, rfl, ⟨e, dx, rfl, he⟩, hf, hg, ⟨⟨h, sh, A', U, nf, ng, nh, If, Ig, eu, lh, fh, rfl, ls, ok1, ok2, rfl, rfl, u0, fA, fU, rfl, rfl⟩, lf, lg⟩, q⟩ := h
    refine ⟨_, pss_cons (ps_par (i := 3) (j := 4) rfl scQuoIn.nd rfl rfl (by decide) rfl rfl (pa_cons (pe_gd GT hr (by rfl) (pa_cons (pv 0) (pa_cons (pv 1) pa_nil))) (pa_cons (pe_gd GT hr (by rfl) (pa_cons (pv 0) (pa_cons (pv 2) pa_nil))) pa_nil)) rfl)
      (pss_cons (ps_if (pt_cmpR op_eq (pe_callB call_len_seq (by rfl) B.len b_len (pa_cons (pv 4) pa_nil)) pe_int (nomark _)) pss_never pss_nil)
      (pss_cons (ps_set (i := 5) scQuoIn.nd rfl (.inl rfl) (pe_gd GC hr (by rfl) (pa_cons (pv 0) (pa_cons (pv 3) (pa_cons (pv 4) pa_nil)))))
      (pss_cons (ps_par (i := 3) (j := 4) rfl scQuoIn.nd rfl rfl (by decide) rfl rfl (pa_cons (pe_ix ix_tup (pe_gd GP hr (by rfl) (pa_cons (pv 0) (pa_cons (pv 3) (pa_cons (pv 5) pa_nil)))) pe_int (fun _ _ => rfl)) (pa_cons (pe_ix ix_tup (pe_gd GP hr (by rfl) (pa_cons (pv 0) (pa_cons (pv 4) (pa_cons (pv 5) pa_nil)))) pe_int (fun _ _ => rfl)) pa_nil)) rfl)
      (pss_cons (ps_if (pt_val (pe_meth (pv 0) X.cls mI FI hr bI .nil pass0 (pa_cons (pe_ix ix_tup (pv 4) pe_int (fun _ _ => rfl)) pa_nil))) pss_never pss_nil)
      (pss_one (ps_ret (pe_tup (pa_cons (pe_gd GO hr (by rfl) (pa_cons (pv 0) (pa_cons (pv 3) (pa_cons (pe_ix ix_tup (pv 4) pe_int (fun _ _ => rfl)) pa_nil)))) (pa_cons (pe_gd GO hr (by rfl) (pa_cons (pv 0) (pa_cons (pv 4) (pa_cons (pe_ix ix_tup (pv 4) pe_int (fun _ _ => rfl)) pa_nil)))) pa_nil))))))))), ?_⟩
    have nf4 := If.le lf
    have ng4 := Ig.le lg
    refine ⟨_, rfl, _, rfl, _, _, nf, f, rfl, ⟨e, dx, rfl, he⟩, hf.seq If, by omega, If.1, fun H1 v1 s1 h1 => ?_⟩
    refine ⟨_, rfl, _, rfl, _, _, ng + 1, g, rfl, ⟨e, dx, rfl, s1 _ _ he⟩, (hg.ext s1.text).seq Ig, by omega, Ig.1, fun H2 v2 s2 h2 => ?_⟩
    have h1' := h1.ext s2.text
    have s12 := s1.trans s2
    refine ⟨_, _, rfl, ?_⟩
    obtain ⟨n2, ⟨p2, us2, rfl, hp2, Ip2⟩, I2⟩ := id h2
    obtain rfl := I2.unique Ig
    refine ⟨_, rfl, p2, us2, rfl, .inr hp2, rfl, _, rfl, ite2 (fun c => ?_) (fun _ => ?_)⟩
    · have c2 := V.int.inj (of_decide_eq_true c)
      rw [Ip2.len] at c2
      omega
    refine ⟨_, rfl, _, rfl, _, rfl, _, _, _, f, g, h, nh, rfl, ⟨e, dx, rfl, s12 _ _ he⟩, h1', h2, eu, lh, fh, lf, lg, fun H3 v3 s3 h3 => ?_⟩
    have s123 := s12.trans s3
    have ls4 : Lt (FQ.scl h (h nh)) 400 := ls.1.mono (by
      have : ∀ {f g h : Ser}, FQ.Euc f g h → Lt f 400 → Lt g 400 → Lt h 400 := fun eu => by
        induction eu with
        | done f => exact fun a _ => a
        | step hf hg _ _ ih =>
          intro a b
          have c1 := hg.le b
          exact ih b ((Lt.remT hf hg).mono (by omega))
      exact lh.le (this eu lf lg))
    refine ⟨_, rfl, _, rfl, _, rfl, _, _, _, f, _, nf, nh, rfl, ⟨e, dx, rfl, s123 _ _ he⟩, h1'.ext s3.text, h3, If, ls, ok1, lf, ls4, fun H4 v4 x4 y4 s4 hp4 hx4 _ => ?_⟩
    obtain ⟨t4, rfl, ht4⟩ := hp4
    refine ⟨t4, _, 0, _, rfl, rfl, ht4, at0, ?_⟩
    have s34 := s123.trans s4
    refine ⟨_, rfl, _, rfl, _, rfl, _, _, _, g, _, ng + 1, nh, rfl, ⟨e, dx, rfl, s34 _ _ he⟩, h2.ext (s3.trans s4).text, h3.ext s4.text, Ig, ls, ok2, lg, ls4, fun H5 v5 x5 y5 s5 hp5 hx5 _ => ?_⟩
    obtain ⟨t5, rfl, ht5⟩ := hp5
    refine ⟨t5, _, 0, _, rfl, rfl, ht5, at0, _, _, rfl, ?_⟩
    have hx4' := hx4.ext s5.text
    have s45 := s34.trans s5
    obtain ⟨n5, ⟨p5, us5, rfl, hp5, Ip5⟩, I5⟩ := id hx5
    have n5p : 0 < n5 := I5.pos fun z => u0 (by rw [z, FQ.Ser.zero_co])
    obtain ⟨b0, eb0, hb0⟩ := Ip5.at_ 0 n5p
    have ix0 : atI us5 0 = some b0 := atN (j := 0) rfl eb0
    refine ⟨_, rfl, e, dx, _, rfl, s45 _ _ he, rfl, _, rfl, p5, us5, 0, b0, rfl, rfl, hp5, ix0, _, b0, _, rfl, hb0, _, rfl, ?_⟩
    rw [decide_eq_false u0]
    have lA : Lt (FQ.quo f (FQ.scl h (h nh)) (nh + 1) (nf + 1 - (nh + 1))) 400 := (Lt.quoT _ _ _ _).mono (by omega)
    have lU : Lt (FQ.quo g (FQ.scl h (h nh)) (nh + 1) (ng + 1 + 1 - (nh + 1))) 400 := (Lt.quoT _ _ _ _).mono (by omega)
    refine iteF ⟨_, rfl, _, rfl, _, rfl, p5, us5, 0, b0, rfl, rfl, hp5, ix0, _, _, b0, _, _, rfl, ⟨e, dx, rfl, s45 _ _ he⟩, hx4', hb0, fA, fU 0, u0, lA, fun H6 v6 s6 h6 => ?_⟩
    refine ⟨_, rfl, _, rfl, _, rfl, p5, us5, 0, b0, rfl, rfl, s6.seqT hp5, ix0, _, _, b0, _, _, rfl, ⟨e, dx, rfl, s6 _ _ (s45 _ _ he)⟩, hx5.ext s6.text, hb0.mono s6, fU, fU 0, u0, lU, fun H7 v7 s7 h7 => ?_⟩
    refine ⟨by show 2 ≤ sizeLine; decide, fun t ht => ?_⟩
    have s8 := same_upd (o := .tup [v6, v7]) ht
    exact q _ _ (s45.trans (s6.trans (s7.trans s8))) ⟨v6, v7, ⟨t, rfl, .inl (.inl upd_same)⟩, h6.ext (s7.trans s8).text, h7.ext s8.text⟩
end
end L2.FW
end
section
set_option Elab.async false
set_option linter.all false
set_option maxRecDepth 100000
namespace L2.FW
open PySem PySem.Spec PyProof.Rows
open FQ (Fit BB BB_eq FitP Ser IsLen Lt)
/-! ### number_at of rows -/
abbrev sNatR : Stmt := topS 28
theorem scNatR : FnScope ["field", "one", "place"] ["field", "one", "place"] (defScope sNatR) := ⟨rfl, rfl, rfl, by decide +kernel, rfl, by decide +kernel, by decide +kernel⟩
/-- the number of n ones, nought where there is none -/
def nAt (n : Nat) (f : Nat → Rat) (z : Int) : Rat := if 0 ≤ z ∧ z < (n : Int) then f z.toNat else 0
def spNatR (K : PySem.W.Frag) (C : Addr) : Sp := fun vs H Q _ => ∃ fl nv n f z, vs = [fl, nv, .int z] ∧ FldAt C H fl ∧ SeqAt K H nv n f ∧ ∀ H' v, Same H H' → NumAt K H' v (nAt n f z) → Q v H'
section
variable {P : Program} {w : World} {K : PySem.W.Frag} {mg : Str → Option Value} {base : Heap} {k : Nat} {C : Addr}
theorem gd_natR (B : Bi mg) (X : Fld P w K mg base C k) (a : At2 K mg "number_at_rows" "number_at" sNatR) : Gd P w K mg base "number_at_rows" (k + 1) ["field", "one", "place"] (spNatR K C) := by
  obtain ⟨f, fd, F, g⟩ := a.ex
  obtain ⟨fI, fdI, FI, mI, bI⟩ := X.nought.ex
  refine ⟨f, fd, ?_, g, F.kp, F.binds fun _ _ _ _ _ _ us hl => match us, hl with | [_, _, _], _ => rfl⟩
  refine F.ok scNatR (fun vs H Q E h => ?_) (fun cdv A outer s H vs Q E hr h => ?_)
  · obtain ⟨a, b, n, f, i, rfl, _⟩ := h
    rfl
  · obtain ⟨fl, nv, n, f, z, rfl, ⟨e, dx, rfl, he⟩, hN, q⟩ := h
    obtain ⟨p, ws, rfl, hS, hI⟩ := hN.get
    refine ⟨_, pss_one (ps_ret (pe_ifExp (pt_chain op_le op_lt pe_int (pv 2) (pe_callB call_len_seq (by rfl) B.len b_len (pa_cons (pv 1) pa_nil))) (pe_ix ix_seq (pv 1) (pv 2) (fun _ _ => rfl)) (pe_meth0 (pv 0) X.cls mI FI hr bI .nil pass0))), ?_⟩
    refine ⟨_, rfl, _, _, rfl, rfl, _, rfl, ?_⟩
    have no : ¬ (0 ≤ z ∧ z < (n : Int)) → ∀ H' v, Same H H' → NumAt K H' v 0 → Q v H' := fun c H' v sm hv => q _ _ sm (by unfold nAt; rw [if_neg c]; exact hv)
    refine ite2 (fun c => ?_) (fun c => ?_)
    · have c' : (0 : Int) ≤ z := of_decide_eq_true c
      refine ⟨_, rfl, p, ws, rfl, hS, _, _, rfl, rfl, _, rfl, ?_⟩
      rw [hI.len]
      refine ite2 (fun d => ?_) (fun d => ?_)
      · have d' : z < (n : Int) := of_decide_eq_true d
        obtain ⟨v, ev, hv⟩ := hI.at_ z.toNat (by omega)
        exact ⟨_, rfl, _, rfl, ixS hS ev (by omega) (Same.refl _) (q _ _ (Same.refl _) (by unfold nAt; rw [if_pos ⟨c', d'⟩]; exact hv))⟩
      · exact ⟨_, rfl, e, dx, _, rfl, he, rfl, _, rfl, no fun z => d (decide_eq_true z.2)⟩
    · exact ⟨_, rfl, iteF ⟨_, rfl, e, dx, _, rfl, he, rfl, _, rfl, no fun z => c (decide_eq_true z.1)⟩⟩

/-! ### weighed_at -/
abbrev sWei : Stmt := topS 30
theorem scWei : FnScope ["field", "below", "row", "place", "total", "k"] ["field", "below", "row", "place"] (defScope sWei) := ⟨rfl, rfl, rfl, by decide +kernel, rfl, by decide +kernel, by decide +kernel⟩
/-- the sum of the first m terms: below's numbers 1, 2, .. times the row's ones back from place -/
def wsum (g : Ser) (n : Nat) (f : Nat → Rat) (place m : Nat) : Rat := FQ.sumTo m fun i => g (i + 1) * nAt n f ((place : Int) - ((i : Int) + 1))
structure WeiOK (g : Ser) (n : Nat) (f : Nat → Rat) (place m : Nat) : Prop where
  fg : FitP g
  ff : ∀ z, Fit (nAt n f z)
  pr : ∀ i z, Fit (g i * nAt n f z)
  pt : ∀ j, j ≤ m → Fit (wsum g n f place j)
def spWei (K : PySem.W.Frag) (C : Addr) : Sp := fun vs H Q _ => ∃ fl bv rv g ng n f place, vs = [fl, bv, rv, .int ((place : Nat) : Int)] ∧ FldAt C H fl ∧ PolyAt K H bv g ∧ IsLen g (ng + 1) ∧ LsAt K H rv n f ∧ WeiOK g n f place ng ∧ ng ≤ 400 ∧ ∀ H' v, Same H H' → NumAt K H' v (wsum g n f place ng) → Q v H'
theorem gd_wei (B : Bi mg) (X : Fld P w K mg base C k) (a : At K mg "weighed_at" sWei) (GN : Gd P w K mg base "number_at_rows" k ["field", "one", "place"] (spNatR K C)) : Gd P w K mg base "weighed_at" (k + 1) ["field", "below", "row", "place"] (spWei K C) := by
  obtain ⟨f, fd, F, g⟩ := a.ex
  obtain ⟨fI, fdI, FI, mI, bI⟩ := X.nought.ex
  obtain ⟨fP, fdP, FP, mP, bP⟩ := X.plus.ex
  obtain ⟨fM, fdM, FM, mM, bM⟩ := X.times.ex
  refine ⟨f, fd, ?_, g, F.kp, F.binds fun _ _ _ _ _ _ us hl => match us, hl with | [_, _, _, _], _ => rfl⟩
  refine F.ok scWei (fun vs H Q E h => ?_) (fun cdv A outer s H vs Q E hr h => ?_)
  · obtain ⟨a, b, c, g, n, m, f, i, rfl, _⟩ := h
    rfl
  · obtain ⟨fl, bv, rv, g, ng, n, f, place, rfl, ⟨e, dx, rfl, he⟩, hg, Ig, hR, ok, hn, q⟩ := h
    obtain ⟨ng', ⟨p, us, rfl, hp, Ip⟩, Ig'⟩ := id hg
    obtain rfl := Ig'.unique Ig
    obtain ⟨r, ws, rfl, hr2, Ir⟩ := id hR
    refine ⟨_, pss_cons (ps_set (i := 4) scWei.nd rfl (.inl rfl) (pe_meth0 (pv 0) X.cls mI FI hr bI .nil pass0))
      (pss_cons (ps_for PassesOwn.never rfl (pi_range2 (by rfl) B.range (pa_cons pe_int (pa_cons (pe_callB call_len_seq (by rfl) B.len b_len (pa_cons (pv 1) pa_nil)) pa_nil))) (pg_name (i := 5) scWei.nd rfl (.inl rfl))
        (pss_one (ps_set (i := 4) scWei.nd rfl (.inl rfl) (pe_meth (pv 0) X.cls mP FP hr bP .nil pass0 (pa_cons (pv 4) (pa_cons (pe_meth (pv 0) X.cls mM FM hr bM .nil pass0 (pa_cons (pe_ix ix_tup (pv 1) (pv 5) (fun _ _ => rfl)) (pa_cons (pe_gd GN hr (by rfl) (pa_cons (pv 0) (pa_cons (pv 2) (pa_cons (pe_op op_sub (pv 3) (pv 5)) pa_nil)))) pa_nil))) pa_nil))))))
      (pss_one (ps_ret (pv 4)))), ?_⟩
    refine ⟨_, rfl, e, dx, _, rfl, he, rfl, _, rfl, fun H1 v1 s1 h1 => ?_⟩
    refine ⟨_, rfl, p, us, rfl, .inr (s1.seqT hp), _, _, rfl, by rw [Ip.len]; omega, ?_⟩
    rw [Ip.len, show (((ng + 1 : Nat) : Int) - 1).toNat = ng by omega]
    refine for_range (fun i σ H' => ∃ t y5, σ = [some (.ref e), some (.ref p), some (.ref r), some (.int ((place : Nat) : Int)), some t, y5] ∧ Same H H' ∧ NumAt K H' t (wsum g n f place i)) ⟨v1, none, rfl, s1, h1⟩ ?_ ?_
    · rintro i σ H' hi ⟨t, y5, rfl, sm, ht⟩
      have ei : (1 : Int) + (i : Int) = ((i + 1 : Nat) : Int) := by omega
      obtain ⟨b, eb, hb⟩ := (Ip.ext sm.text).at_ (i + 1) (by omega)
      refine ⟨_, rfl, e, dx, _, rfl, sm _ _ he, rfl, _, rfl, ?_⟩
      refine ⟨_, rfl, e, dx, _, rfl, sm _ _ he, rfl, ?_⟩
      refine ⟨_, rfl, _, rfl, p, us, _, b, rfl, rfl, sm.seqT hp, atN ei eb, ?_⟩
      refine ⟨_, rfl, _, rfl, _, rfl, _, rfl, _, _, rfl, rfl, ?_⟩
      refine ⟨_, _, n, f, _, rfl, ⟨e, dx, rfl, sm _ _ he⟩, .inl (hR.same sm), fun H2 v2 s2 h2 => ?_⟩
      refine ⟨_, b, v2, _, _, rfl, hb.mono s2, h2, ok.fg _, ok.ff _, trivial, fun H3 v3 s3 h3 => ?_⟩
      refine ⟨_, t, v3, _, _, rfl, ht.mono (s2.trans s3), h3, ok.pt i (by omega), ok.pr _ _, trivial, fun H4 v4 s4 h4 => ?_⟩
      refine ⟨v4, _, rfl, sm.trans (s2.trans (s3.trans s4)), ?_⟩
      have ew : wsum g n f place (i + 1) = wsum g n f place i + g (i + 1) * nAt n f ((place : Int) - (1 + (i : Int))) := by
        unfold wsum
        rw [FQ.sumTo, show (place : Int) - ((i : Int) + 1) = (place : Int) - (1 + (i : Int)) by omega]
      rw [ew]
      exact h4
    · rintro σ H' ⟨t, y5, rfl, sm, ht⟩
      exact ⟨_, rfl, q _ _ sm ht⟩

/-! ### row_in -/
abbrev sRowIn : Stmt := topS 31
theorem scRowIn : FnScope ["field", "one", "many", "top", "below", "row", "place"] ["field", "one", "many"] (defScope sRowIn) := ⟨rfl, rfl, rfl, by decide +kernel, rfl, by decide +kernel, by decide +kernel⟩
/-- r is the own row of top by below, and what is met on the way is small -/
structure RowOK (a b : Ser) (ng many : Nat) (r : Nat → Rat) : Prop where
  lb : IsLen b (ng + 1)
  fa : FitP a
  wei : ∀ i, i < many → WeiOK b i r i ng
  wfit : ∀ i, i < many → Fit (wsum b i r i ng)
  eq : ∀ i, i < many → r i = a i - wsum b i r i ng
def spRowIn (K : PySem.W.Frag) (C : Addr) : Sp := fun vs H Q _ => ∃ fl ov a b ng many r, vs = [fl, ov, .int ((many : Nat) : Int)] ∧ FldAt C H fl ∧ QuoAt K H ov a b ∧ RowOK a b ng many r ∧ many ≤ 400 ∧ Lt a 400 ∧ ng ≤ 400 ∧
  ∀ H' p vs, Same H H' → H p = none → H' p = some (.lst vs) → Items K H' vs many r → Q (.ref p) H'
theorem gd_rowIn (B : Bi mg) (X : Fld P w K mg base C k) (a : At K mg "row_in" sRowIn) (GN : Gd P w K mg base "number_at_rows" k ["field", "one", "place"] (spNatR K C)) (GW : Gd P w K mg base "weighed_at" k ["field", "below", "row", "place"] (spWei K C)) :
    Gd P w K mg base "row_in" (k + 1) ["field", "one", "many"] (spRowIn K C) := by
  obtain ⟨f, fd, F, g⟩ := a.ex
  obtain ⟨fM, fdM, FM, mM, bM⟩ := X.minus.ex
  refine ⟨f, fd, ?_, g, F.kp, F.binds fun _ _ _ _ _ _ us hl => match us, hl with | [_, _, _], _ => rfl⟩
  refine F.ok scRowIn (fun vs H Q E h => ?_) (fun cdv A outer s H vs Q E hr h => ?_)
  · obtain ⟨a, b, c, g, n, m, f, rfl, _⟩ := h
    rfl
  · obtain ⟨fl, ov, a, b, ng, many, r, rfl, ⟨e, dx, rfl, he⟩, ⟨x, y, ⟨po, rfl, hpo⟩, hx, hy⟩, ok, hm, la, hng, q⟩ := h
    obtain ⟨na, Ta, Ia⟩ := id hx
    refine ⟨_, pss_cons (ps_asg (pv 1) (pg_tup rfl (pgs_cons (pg_name (i := 3) scRowIn.nd rfl (.inl rfl)) (pgs_cons (pg_name (i := 4) scRowIn.nd rfl (.inl rfl)) pgs_nil))))
      (pss_cons (ps_set (i := 5) scRowIn.nd rfl (.inl rfl) (pe_lst pa_nil))
      (pss_cons (ps_for PassesOwn.never rfl (pi_range1 (by rfl) B.range (pa_cons (pv 2) pa_nil)) (pg_name (i := 6) scRowIn.nd rfl (.inl rfl))
        (pss_one (ps_expr (pe_bm PySem.F.plainAttrs_list PySem.F.slot_list_append PySem.F.type_list_append mt_append (pv 5)
          (pa_cons (pe_meth (pv 0) X.cls mM FM hr bM .nil pass0 (pa_cons (pe_gd GN hr (by rfl) (pa_cons (pv 0) (pa_cons (pv 3) (pa_cons (pv 6) pa_nil)))) (pa_cons (pe_gd GW hr (by rfl) (pa_cons (pv 0) (pa_cons (pv 4) (pa_cons (pv 5) (pa_cons (pv 6) pa_nil))))) pa_nil))) pa_nil)))))
      (pss_one (ps_ret (pv 5))))), ?_⟩
    refine ⟨_, rfl, g_pair hpo ?_⟩
    refine ⟨Nat.zero_le _, fun l hl => ⟨_, rfl, _, rfl, by omega, by omega, ?_⟩⟩
    rw [Int.toNat_natCast]
    refine for_rng0 (fun i σ H' => ∃ y6 vs, σ = [some (.ref e), some (.ref po), some (.int ((many : Nat) : Int)), some x, some y, some (.ref l), y6] ∧ Same H H' ∧ H' l = some (.lst vs) ∧ Items K H' vs i r)
      ⟨none, [], rfl, same_upd hl, upd_same, .nil⟩ ?_ ?_
    · rintro i σ H' hi ⟨y6, vs, rfl, sm, hL, hI⟩
      refine ⟨.ref l, rfl, .inl ⟨rfl, _, SqL.of hL⟩, ?_⟩
      refine ⟨_, rfl, e, dx, _, rfl, sm _ _ he, rfl, ?_⟩
      refine ⟨_, rfl, _, rfl, _, rfl, _, _, na, a.co, _, rfl, ⟨e, dx, rfl, sm _ _ he⟩, .inr (Ta.ext sm.text), fun H1 v1 s1 h1 => ?_⟩
      have e1 : nAt na a.co ((i : Nat) : Int) = a i := by
        unfold nAt
        by_cases c : (0 : Int) ≤ (i : Int) ∧ (i : Int) < (na : Int)
        · rw [if_pos c, Int.toNat_natCast]
        · rw [if_neg c, Ia.1 i (by omega)]
      rw [e1] at h1
      have hL1 := s1 _ _ hL
      refine ⟨_, rfl, _, rfl, _, rfl, _, rfl, _, _, _, b, ng, i, r, i, rfl, ⟨e, dx, rfl, s1 _ _ (sm _ _ he)⟩, hy.ext (sm.trans s1).text, ok.lb, ⟨l, vs, rfl, SqL.of hL1, hI.ext s1.text⟩, ok.wei i hi, hng, fun H2 v2 s2 h2 => ?_⟩
      refine ⟨_, v1, v2, _, _, rfl, h1.mono s2, h2, ok.fa i, ok.wfit i hi, trivial, fun H3 v3 s3 h3 => ?_⟩
      have s123 := s1.trans (s2.trans s3)
      have hL3 := s123 _ _ hL
      refine ⟨l, vs, v3, rfl, rfl, hL3, ?_, ?_⟩
      · rw [hI.len]
        exact small1000 (by omega)
      · refine ⟨_, vs ++ [v3], rfl, (sm.trans s123).updN hl, upd_same, ?_⟩
        exact ((hI.ext s123.text).ext (TExt.upd hL3)).snoc (by rw [ok.eq i hi]; exact h3.ext (TExt.upd hL3))
    · rintro σ H' ⟨y6, vs, rfl, sm, hL, hI⟩
      exact ⟨_, rfl, q _ l vs sm hl hL hI⟩
end
end L2.FW
end
section
set_option Elab.async false
set_option linter.all false
set_option maxRecDepth 100000
namespace L2.FW
open PySem PySem.Spec PyProof.Rows
open FQ (Fit BB BB_eq FitP Ser IsLen Lt ChS PutOK)
/-! ### Chain -/
abbrev sCh (j : Nat) : Stmt := inClass (topS 34) j
def cf (fl : V) (lo lb : Addr) (L : Int) (la : Addr) (g : V) (s : Int) : List (Str × V) :=
  [("field", fl), ("own_row", .ref lo), ("below", .ref lb), ("at_length", .int L), ("ahead", .ref la), ("ahead_gap", g), ("since", .int s)]
structure ChT (K : PySem.W.Frag) (C : Addr) : Prop where
  cls : Cls K C
  n1 : NoAttr K C "field"
  n2 : NoAttr K C "own_row"
  n3 : NoAttr K C "below"
  n4 : NoAttr K C "at_length"
  n5 : NoAttr K C "ahead"
  n6 : NoAttr K C "ahead_gap"
  n7 : NoAttr K C "since"
/-- a chain in a state st -/
structure ChainAt (K : PySem.W.Frag) (CC CE : Addr) (H : Hp) (c lo lb la : Addr) (st : ChS) : Prop where
  obj : ∃ dx fl g, H c = some (.ins CC dx (cf fl lo lb (st.L : Int) la g (st.since : Int))) ∧ FldAt CE H fl ∧ NumAt K H g st.b
  row : ∃ rs, H lo = some (.lst rs) ∧ Items K H rs st.k st.s
  bel : ∃ bs, H lb = some (.lst bs) ∧ Items K H bs st.nC st.C.co
  ah : ∃ as, H la = some (.lst as) ∧ Items K H as st.nB st.B.co
  ob : lo ≠ lb
  oa : lo ≠ la
/-- all but what stands at S is as it was -/
def Keep (S : List Addr) (H H' : Hp) : Prop := ∀ b o, H b = some o → b ∉ S → H' b = some o
theorem Keep.of {S : List Addr} {H H' : Hp} (s : Same H H') : Keep S H H' := fun b o e _ => s b o e
theorem Keep.trans {S : List Addr} {H H1 H2 : Hp} (a : Keep S H H1) (b : Keep S H1 H2) : Keep S H H2 := fun c o e n => b c o (a c o e n) n
theorem Keep.upd {S : List Addr} {H : Hp} {a : Addr} {o : HO} (h : a ∈ S) : Keep S H (upd H a o) := fun b x e n => by
  rw [upd_ne fun z => n (by rw [z]; exact h)]
  exact e
theorem Keep.updN {S : List Addr} {H H1 : Hp} {a : Addr} {o : HO} (k : Keep S H H1) (h : a ∈ S) : Keep S H (L2.upd H1 a o) := k.trans (Keep.upd h)
theorem Keep.text {S : List Addr} {H H' : Hp} (k : Keep S H H') (h : ∀ b ∈ S, (∃ xs, H b = some (.lst xs)) ∨ ∃ C dx fs, H b = some (.ins C dx fs)) : TExt H H' := fun b => by
  refine ⟨fun xs e => k b _ e fun hb => ?_, fun o u e => k b _ e fun hb => ?_⟩
  all_goals
    rcases h b hb with ⟨ys, z⟩ | ⟨C, dx, fs, z⟩
    · rw [e] at z; cases z
    · rw [e] at z; cases z
theorem Keep.free {S : List Addr} {H H' : Hp} (k : Keep S H H') {l : Addr} (h : H' l = none) (hl : l ∉ S) : H l = none := by
  cases q : H l with
  | none => rfl
  | some o =>
    rw [k l o q hl] at h
    cases h
section
variable {K : PySem.W.Frag} {CC CE : Addr} {H H' : Hp} {c lo lb la : Addr} {st : ChS}
theorem ChainAt.same (x : ChainAt K CC CE H c lo lb la st) (s : Same H H') : ChainAt K CC CE H' c lo lb la st :=
  let ⟨dx, fl, g, a, b, d⟩ := x.obj; let ⟨rs, e1, e2⟩ := x.row; let ⟨bs, e3, e4⟩ := x.bel; let ⟨as, e5, e6⟩ := x.ah
  ⟨⟨dx, fl, g, s _ _ a, b.same s, d.mono s⟩, ⟨rs, s _ _ e1, e2.ext s.text⟩, ⟨bs, s _ _ e3, e4.ext s.text⟩, ⟨as, s _ _ e5, e6.ext s.text⟩, x.ob, x.oa⟩
/-- c is none of the lists -/
theorem ChainAt.nl (x : ChainAt K CC CE H c lo lb la st) {l : Addr} {xs : List V} (h : H l = some (.lst xs)) : c ≠ l := by
  obtain ⟨dx, fl, g, a, _⟩ := x.obj
  exact ne_of a h (by intro z; cases z)
theorem ChainAt.kinds (x : ChainAt K CC CE H c lo lb la st) : ∀ b ∈ [c, lo], (∃ xs, H b = some (.lst xs)) ∨ ∃ C dx fs, H b = some (.ins C dx fs) := fun b hb => by
  have e' : b = c ∨ b = lo := by simpa using hb
  rcases e' with rfl | rfl
  · obtain ⟨dx, fl, g, a, _⟩ := x.obj
    exact .inr ⟨_, _, _, a⟩
  · obtain ⟨rs, a, _⟩ := x.row
    exact .inl ⟨_, a⟩
theorem FldAt.keep {S : List Addr} {v : V} (h : FldAt CE H v) (k : Keep S H H') (hS : ∀ b ∈ S, (∃ xs, H b = some (.lst xs)) ∨ ∃ C dx f fs, H b = some (.ins C dx (f :: fs))) : FldAt CE H' v := by
  obtain ⟨e, dx, rfl, he⟩ := h
  refine ⟨e, dx, rfl, k e _ he fun hb => ?_⟩
  rcases hS e hb with ⟨ys, z⟩ | ⟨C, dx, f, fs, z⟩
  · rw [he] at z; cases z
  · rw [he] at z; cases z
end
theorem scC0 : FnScope ["self", "field"] ["self", "field"] (defScope (sCh 0)) := ⟨rfl, rfl, rfl, by decide +kernel, rfl, by decide +kernel, by decide +kernel⟩
theorem scC1 : FnScope ["self", "number", "field", "gap", "place"] ["self", "number"] (defScope (sCh 1)) := ⟨rfl, rfl, rfl, by decide +kernel, rfl, by decide +kernel, by decide +kernel⟩
theorem scC2 : FnScope ["self", "gap", "field", "share", "made", "place", "number"] ["self", "gap"] (defScope (sCh 2)) := ⟨rfl, rfl, rfl, by decide +kernel, rfl, by decide +kernel, by decide +kernel⟩
theorem scC3 : FnScope ["self", "number", "most", "gap", "length", "made"] ["self", "number", "most"] (defScope (sCh 3)) := ⟨rfl, rfl, rfl, by decide +kernel, rfl, by decide +kernel, by decide +kernel⟩
def spChI (K : PySem.W.Frag) (CC CE : Addr) : Sp := fun vs H Q _ => ∃ c fl dx, vs = [.ref c, fl] ∧ H c = some (.ins CC dx []) ∧ FldAt CE H fl ∧ (∃ e, fl = .ref e ∧ e ≠ c) ∧
  ∀ H' lo lb la, Keep [c] H H' → H lo = none → H lb = none → H la = none → ChainAt K CC CE H' c lo lb la ChS.start → Q .non H'
def spGap (K : PySem.W.Frag) (CC CE : Addr) : Sp := fun vs H Q _ => ∃ c lo lb la st nv x, vs = [.ref c, nv] ∧ ChainAt K CC CE H c lo lb la st ∧ NumAt K H nv x ∧ PutOK st x ∧ ∀ H' v, Same H H' → NumAt K H' v (st.gap x) → Q v H'
section
variable {P : Program} {w : World} {K : PySem.W.Frag} {mg : Str → Option Value} {base : Heap} {k : Nat} {CE CC : Addr}
theorem md_chI (T : ChT K CC) (X : Fld P w K mg base CE k) (a : AtM K CC "__init__" "Chain.__init__" (sCh 0)) : Md P w K mg base CC "__init__" (k + 1) ["self", "field"] (spChI K CC CE) := by
  obtain ⟨f, fd, F, m⟩ := a.ex
  obtain ⟨fI, fdI, FI, mI, bI⟩ := X.one.ex
  refine ⟨f, fd, ?_, m, F.binds fun _ _ _ _ _ _ us hl => match us, hl with | [_, _], _ => rfl⟩
  refine F.ok scC0 (fun vs H Q E h => ?_) (fun cdv A outer s H vs Q E hr h => ?_)
  · obtain ⟨c, fl, dx, rfl, _⟩ := h
    rfl
  · obtain ⟨c, fl, dx, rfl, hc, hF, ⟨e, rfl, ne⟩, q⟩ := h
    obtain ⟨e', dxe, ee, he⟩ := id hF
    cases ee
    refine ⟨_, pss_cons (ps_fld (pv 0) (pv 1) rfl) (pss_cons (ps_fld (pv 0) (pe_lst pa_nil) rfl) (pss_cons (ps_fld (pv 0) (pe_lst (pa_cons (pe_meth0 (pv 1) X.cls mI FI hr bI .nil pass0) pa_nil)) rfl)
      (pss_cons (ps_fld (pv 0) pe_int rfl) (pss_cons (ps_fld (pv 0) (pe_lst (pa_cons (pe_meth0 (pv 1) X.cls mI FI hr bI .nil pass0) pa_nil)) rfl)
      (pss_cons (ps_fld (pv 0) (pe_meth0 (pv 1) X.cls mI FI hr bI .nil pass0) rfl) (pss_one (ps_fld (pv 0) pe_int rfl))))))), ?_⟩
    refine ⟨_, rfl, _, rfl, c, CC, dx, _, rfl, hc, T.cls, T.n1, by decide, ?_⟩
    -- own_row
    have a1 : ∀ o, upd H c o e = some (.ins CE dxe []) := fun o => by rw [upd_ne ne]; exact he
    refine ⟨Nat.zero_le _, fun lo hlo => ?_⟩
    have ncl : c ≠ lo := ne_of_none upd_same hlo
    have hlo0 : H lo = none := by rw [upd_ne ncl.symm] at hlo; exact hlo
    refine ⟨_, rfl, c, CC, dx, _, rfl, by rw [upd_ne ncl, upd_same], T.cls, T.n2, by show 1 < 1000; decide, ?_⟩
    have k1 : Keep [c] H (upd (upd (upd H c (.ins CC dx (putF "field" (.ref e) []))) lo (.lst [])) c (.ins CC dx (putF "own_row" (.ref lo) (putF "field" (.ref e) [])))) := fun b o eb nb => by
      have nbc : b ≠ c := by simpa using nb
      rw [upd_ne nbc, upd_ne (ne_of_none eb hlo0), upd_ne nbc]
      exact eb
    generalize hHa : upd (upd (upd H c (.ins CC dx (putF "field" (.ref e) []))) lo (.lst [])) c (.ins CC dx (putF "own_row" (.ref lo) (putF "field" (.ref e) []))) = Ha at k1
    have hca : Ha c = some (.ins CC dx (putF "own_row" (.ref lo) (putF "field" (.ref e) []))) := by rw [← hHa, upd_same]
    have hla : Ha lo = some (.lst []) := by rw [← hHa, upd_ne ncl.symm, upd_same]
    have hea : Ha e = some (.ins CE dxe []) := k1 _ _ he (by simpa using ne)
    -- below
    refine ⟨_, rfl, e, dxe, _, rfl, hea, rfl, _, rfl, fun H1 v1 s1 h1 => ?_⟩
    refine ⟨Nat.succ_le_of_lt (small1000 (by decide)), fun lb hlb => ?_⟩
    have ncb : c ≠ lb := ne_of_none (s1 _ _ hca) hlb
    have nob : lo ≠ lb := ne_of_none (s1 _ _ hla) hlb
    refine ⟨_, rfl, c, CC, dx, _, rfl, by rw [upd_ne ncb]; exact s1 _ _ hca, T.cls, T.n3, by show 2 < 1000; decide, ?_⟩
    refine ⟨_, rfl, c, CC, dx, _, rfl, upd_same, T.cls, T.n4, by show 3 < 1000; decide, ?_⟩
    have hlbH : H lb = none := by
      refine k1.free (s1.free hlb) ?_
      simpa using ncb.symm
    have kb : Keep [c] H (upd (upd (upd H1 lb (.lst [v1])) c (.ins CC dx (putF "below" (.ref lb) (putF "own_row" (.ref lo) (putF "field" (.ref e) []))))) c (.ins CC dx (putF "at_length" (.int 0) (putF "below" (.ref lb) (putF "own_row" (.ref lo) (putF "field" (.ref e) [])))))) :=
      (((k1.trans (Keep.of s1)).trans (Keep.of (same_upd hlb))).updN (by simp)).updN (by simp)
    generalize hHb : upd (upd (upd H1 lb (.lst [v1])) c (.ins CC dx (putF "below" (.ref lb) (putF "own_row" (.ref lo) (putF "field" (.ref e) []))))) c (.ins CC dx (putF "at_length" (.int 0) (putF "below" (.ref lb) (putF "own_row" (.ref lo) (putF "field" (.ref e) []))))) = Hb at kb
    have hcb : Hb c = some (.ins CC dx (putF "at_length" (.int 0) (putF "below" (.ref lb) (putF "own_row" (.ref lo) (putF "field" (.ref e) []))))) := by rw [← hHb, upd_same]
    have hlb2 : Hb lb = some (.lst [v1]) := by rw [← hHb, upd_ne ncb.symm, upd_ne ncb.symm, upd_same]
    have hlo2 : Hb lo = some (.lst []) := by rw [← hHb, upd_ne ncl.symm, upd_ne ncl.symm, upd_ne nob]; exact s1 _ _ hla
    have heb : Hb e = some (.ins CE dxe []) := kb _ _ he (by simpa using ne)
    have hv1 : NumAt K Hb v1 1 := by
      rw [← hHb]
      have x1 : TExt H1 (upd H1 lb (.lst [v1])) := (same_upd hlb).text
      refine h1.ext (fun b => ⟨fun xs z => ?_, fun o u z => ?_⟩)
      all_goals
        have nbc : b ≠ c := ne_of z (s1 _ _ hca) (by intro y; cases y)
        rw [upd_ne nbc, upd_ne nbc, upd_ne (ne_of_none z hlb)]
        exact z
    -- ahead
    refine ⟨_, rfl, e, dxe, _, rfl, heb, rfl, _, rfl, fun H2 v2 s2 h2 => ?_⟩
    refine ⟨Nat.succ_le_of_lt (small1000 (by decide)), fun la hla2 => ?_⟩
    have nca : c ≠ la := ne_of_none (s2 _ _ hcb) hla2
    have noa : lo ≠ la := ne_of_none (s2 _ _ hlo2) hla2
    have nba : lb ≠ la := ne_of_none (s2 _ _ hlb2) hla2
    refine ⟨_, rfl, c, CC, dx, _, rfl, by rw [upd_ne nca]; exact s2 _ _ hcb, T.cls, T.n5, by show 4 < 1000; decide, ?_⟩
    have kc : Keep [c] H (upd (upd H2 la (.lst [v2])) c (.ins CC dx (putF "ahead" (.ref la) (putF "at_length" (.int 0) (putF "below" (.ref lb) (putF "own_row" (.ref lo) (putF "field" (.ref e) []))))))) :=
      (((kb.trans (Keep.of s2)).trans (Keep.of (same_upd hla2))).updN (by simp))
    generalize hHc : upd (upd H2 la (.lst [v2])) c (.ins CC dx (putF "ahead" (.ref la) (putF "at_length" (.int 0) (putF "below" (.ref lb) (putF "own_row" (.ref lo) (putF "field" (.ref e) [])))))) = Hc at kc
    have hcc : Hc c = some (.ins CC dx (putF "ahead" (.ref la) (putF "at_length" (.int 0) (putF "below" (.ref lb) (putF "own_row" (.ref lo) (putF "field" (.ref e) [])))))) := by rw [← hHc, upd_same]
    have hla3 : Hc la = some (.lst [v2]) := by rw [← hHc, upd_ne nca.symm, upd_same]
    have hlb3 : Hc lb = some (.lst [v1]) := by rw [← hHc, upd_ne ncb.symm, upd_ne nba]; exact s2 _ _ hlb2
    have hlo3 : Hc lo = some (.lst []) := by rw [← hHc, upd_ne ncl.symm, upd_ne noa]; exact s2 _ _ hlo2
    have hec : Hc e = some (.ins CE dxe []) := kc _ _ he (by simpa using ne)
    have x2 : TExt H2 Hc := fun b => by
      rw [← hHc]
      refine ⟨fun xs z => ?_, fun o u z => ?_⟩
      all_goals
        have nbc : b ≠ c := ne_of z (s2 _ _ hcb) (by intro y; cases y)
        rw [upd_ne nbc, upd_ne (ne_of_none z hla2)]
        exact z
    have hv1c := (hv1.mono s2).ext x2
    have hv2c := h2.ext x2
    -- ahead_gap, since
    refine ⟨_, rfl, e, dxe, _, rfl, hec, rfl, _, rfl, fun H3 v3 s3 h3 => ?_⟩
    refine ⟨_, rfl, c, CC, dx, _, rfl, s3 _ _ hcc, T.cls, T.n6, by show 5 < 1000; decide, ?_⟩
    refine ⟨_, rfl, c, CC, dx, _, rfl, upd_same, T.cls, T.n7, by show 6 < 1000; decide, ?_⟩
    have x3 : ∀ o1 o2, TExt H3 (upd (upd H3 c o1) c o2) := fun o1 o2 b => by
      refine ⟨fun xs z => ?_, fun o u z => ?_⟩
      all_goals
        have nbc : b ≠ c := ne_of z (s3 _ _ hcc) (by intro y; cases y)
        rw [upd_ne nbc, upd_ne nbc]
        exact z
    have kd := ((kc.trans (Keep.of s3)).updN (o := .ins CC dx (putF "ahead_gap" v3 (putF "ahead" (.ref la) (putF "at_length" (.int 0) (putF "below" (.ref lb) (putF "own_row" (.ref lo) (putF "field" (.ref e) []))))))) (a := c) (by simp)).updN
      (o := .ins CC dx (putF "since" (.int 1) (putF "ahead_gap" v3 (putF "ahead" (.ref la) (putF "at_length" (.int 0) (putF "below" (.ref lb) (putF "own_row" (.ref lo) (putF "field" (.ref e) [])))))))) (a := c) (by simp)
    have hla4 : H la = none := by
      refine kb.free (s2.free hla2) ?_
      simpa using nca.symm
    refine q _ lo lb la kd hlo0 hlbH hla4 ⟨⟨dx, .ref e, v3, upd_same, ⟨e, dxe, rfl, ?_⟩, h3.ext (x3 _ _)⟩, ⟨[], ?_, .nil⟩, ⟨[v1], ?_, ?_⟩, ⟨[v2], ?_, ?_⟩, nob, noa⟩
    · exact kd _ _ he (by simpa using ne)
    · rw [upd_ne ncl.symm, upd_ne ncl.symm]
      exact s3 _ _ hlo3
    · rw [upd_ne ncb.symm, upd_ne ncb.symm]
      exact s3 _ _ hlb3
    · exact (Items.nil (f := (1 : Ser).co)).snoc ((hv1c.mono s3).ext (x3 _ _))
    · rw [upd_ne nca.symm, upd_ne nca.symm]
      exact s3 _ _ hla3
    · exact (Items.nil (f := (1 : Ser).co)).snoc ((hv2c.mono s3).ext (x3 _ _))
end
end L2.FW
end
section
set_option Elab.async false
set_option linter.all false
set_option maxRecDepth 100000
namespace L2.FW
open PySem PySem.Spec PyProof.Rows
open FQ (Fit BB BB_eq FitP Ser IsLen Lt ChS PutOK)
def spMend (K : PySem.W.Frag) (CC CE : Addr) : Sp := fun vs H Q _ => ∃ c lo lb la st gv gm, vs = [.ref c, gv] ∧ ChainAt K CC CE H c lo lb la st ∧ NumAt K H gv gm ∧ FQ.MendOK st gm ∧
  ∀ H' p vs, Same H H' → H p = none → H' p = some (.lst vs) → Items K H' vs (max st.nC (st.nB + st.since)) (st.madeG gm).co → Q (.ref p) H'
theorem Items.app {K : PySem.W.Frag} {H : Hp} {vs us : List V} {n m : Nat} {f : Nat → Rat} (h : Items K H vs n f) (h' : Items K H us m fun i => f (n + i)) : Items K H (vs ++ us) (n + m) f :=
  ⟨by rw [List.length_append, h.len, h'.len], fun i hi => by
    by_cases e : i < n
    · obtain ⟨v, e1, q⟩ := h.at_ i e
      exact ⟨v, by rw [List.getElem?_append_left (by rw [h.len]; exact e)]; exact e1, q⟩
    · obtain ⟨v, e1, q⟩ := h'.at_ (i - n) (by omega)
      refine ⟨v, by rw [List.getElem?_append_right (by rw [h.len]; omega), h.len]; exact e1, ?_⟩
      rw [show n + (i - n) = i by omega] at q
      exact q⟩
section
variable {P : Program} {w : World} {K : PySem.W.Frag} {mg : Str → Option Value} {base : Heap} {k : Nat} {CE CC : Addr}
theorem md_gap (B : Bi mg) (T : ChT K CC) (X : Fld P w K mg base CE k) (a : AtM K CC "gap_with" "Chain.gap_with" (sCh 1)) : Md P w K mg base CC "gap_with" (k + 1) ["self", "number"] (spGap K CC CE) := by
  obtain ⟨f, fd, F, m⟩ := a.ex
  obtain ⟨fP, fdP, FP, mP, bP⟩ := X.plus.ex
  obtain ⟨fM, fdM, FM, mM, bM⟩ := X.times.ex
  refine ⟨f, fd, ?_, m, F.binds fun _ _ _ _ _ _ us hl => match us, hl with | [_, _], _ => rfl⟩
  refine F.ok scC1 (fun vs H Q E h => ?_) (fun cdv A outer s H vs Q E hr h => ?_)
  · obtain ⟨c, lo, lb, la, st, nv, x, rfl, _⟩ := h
    rfl
  · obtain ⟨c, lo, lb, la, st, nv, x, rfl, hC, hx, ok, q⟩ := h
    obtain ⟨dx, fl, g, ho, ⟨e, dxe, rfl, he⟩, hg⟩ := hC.obj
    obtain ⟨rs, hlo, Irs⟩ := hC.row
    obtain ⟨bs, hlb, Ibs⟩ := hC.bel
    refine ⟨_, pss_cons (ps_set (i := 2) scC1.nd rfl (.inl rfl) (pe_fld (pv 0) rfl)) (pss_cons (ps_set (i := 3) scC1.nd rfl (.inl rfl) (pv 1))
      (pss_cons (ps_for PassesOwn.never rfl (pi_range2 (by rfl) B.range (pa_cons pe_int (pa_cons (pe_callB (call_min2 rfl) (by rfl) B.min b_min (pa_cons (pe_callB call_len_seq (by rfl) B.len b_len (pa_cons (pe_fld (pv 0) rfl) pa_nil)) (pa_cons (pe_op op_add (pe_callB call_len_seq (by rfl) B.len b_len (pa_cons (pe_fld (pv 0) rfl) pa_nil)) pe_int) pa_nil))) pa_nil))) (pg_name (i := 4) scC1.nd rfl (.inl rfl))
        (pss_one (ps_set (i := 3) scC1.nd rfl (.inl rfl) (pe_meth (pv 2) X.cls mP FP hr bP .nil pass0 (pa_cons (pv 3) (pa_cons (pe_meth (pv 2) X.cls mM FM hr bM .nil pass0 (pa_cons (pe_ix ix_list (pe_fld (pv 0) rfl) (pv 4) (fun _ _ => rfl)) (pa_cons (pe_ix ix_list (pe_fld (pv 0) rfl) (pe_un un_neg (pv 4)) (fun _ _ => rfl)) pa_nil))) pa_nil))))))
      (pss_one (ps_ret (pv 3))))), ?_⟩
    refine ⟨_, rfl, c, CC, dx, _, _, rfl, ho, T.cls, T.n1, rfl, ?_⟩
    refine ⟨_, rfl, ?_⟩
    refine ⟨_, rfl, c, CC, dx, _, _, rfl, ho, T.cls, T.n3, rfl, lb, bs, rfl, .inl (SqL.of hlb), ?_⟩
    refine ⟨_, rfl, c, CC, dx, _, _, rfl, ho, T.cls, T.n2, rfl, lo, rs, rfl, .inl (SqL.of hlo), _, _, rfl, rfl, _, _, rfl, ?_⟩
    rw [Ibs.len, Irs.len]
    have emin : (if ((st.k : Int) + 1) < (st.nC : Int) then ((st.k : Int) + 1) else (st.nC : Int)) = ((min st.nC (st.k + 1) : Nat) : Int) := by split <;> omega
    have n1 := ok.n1
    have n2 := ok.n2
    have n4 := ok.n4
    refine ⟨1, _, rfl, ?_, ?_⟩
    · rw [emin]
      omega
    · rw [emin, show (((min st.nC (st.k + 1) : Nat) : Int) - 1).toNat = st.gj by unfold ChS.gj; omega]
      refine for_range (fun i σ H' => ∃ t y4, σ = [some (.ref c), some nv, some (.ref e), some t, y4] ∧ Same H H' ∧ NumAt K H' t (FQ.gapS st.C st.s st.k x i)) ⟨nv, none, rfl, Same.refl _, ?_⟩ ?_ ?_
      · have e0 : FQ.gapS st.C st.s st.k x 0 = x := by
          unfold FQ.gapS
          rw [FQ.sumTo]
          grind
        rw [e0]
        exact hx
      · rintro i σ H' hi ⟨t, y4, rfl, sm, ht⟩
        have hgj : st.gj = min st.nC (st.k + 1) - 1 := rfl
        have ei : (1 : Int) + (i : Int) = ((i + 1 : Nat) : Int) := by omega
        obtain ⟨b, eb, hb⟩ := (Ibs.ext sm.text).at_ (i + 1) (by omega)
        obtain ⟨r, er, hr3⟩ := (Irs.ext sm.text).at_ (st.k - 1 - i) (by omega)
        refine ⟨_, rfl, e, dxe, _, rfl, sm _ _ he, rfl, _, rfl, ?_⟩
        refine ⟨_, rfl, e, dxe, _, rfl, sm _ _ he, rfl, ?_⟩
        refine ⟨_, rfl, c, CC, dx, _, _, rfl, sm _ _ ho, T.cls, T.n3, rfl, _, rfl, lb, bs, _, b, rfl, rfl, SqL.of (sm _ _ hlb), atN ei eb, ?_⟩
        refine ⟨_, rfl, c, CC, dx, _, _, rfl, sm _ _ ho, T.cls, T.n2, rfl, _, rfl, _, rfl, lo, rs, _, r, rfl, rfl, SqL.of (sm _ _ hlo), at_neg (j := i) (by omega) (by rw [Irs.len]; omega) (by rw [Irs.len]; exact er), ?_⟩
        refine ⟨_, b, r, _, _, rfl, hb, hr3, ok.fC _, ok.fs _ (by omega), trivial, fun H3 v3 s3 h3 => ?_⟩
        refine ⟨_, t, v3, _, _, rfl, ht.mono s3, h3, ok.pt i (by omega), ok.pr i hi, trivial, fun H4 v4 s4 h4 => ?_⟩
        refine ⟨v4, _, rfl, sm.trans (s3.trans s4), ?_⟩
        have ew : FQ.gapS st.C st.s st.k x (i + 1) = FQ.gapS st.C st.s st.k x i + st.C (i + 1) * st.s (st.k - 1 - i) := by
          unfold FQ.gapS
          rw [FQ.sumTo]
          grind
        rw [ew]
        exact h4
      · rintro σ H' ⟨t, y4, rfl, sm, ht⟩
        exact ⟨_, rfl, q _ _ sm ht⟩
theorem md_mend (B : Bi mg) (T : ChT K CC) (X : Fld P w K mg base CE k) (a : AtM K CC "mended" "Chain.mended" (sCh 2)) : Md P w K mg base CC "mended" (k + 1) ["self", "gap"] (spMend K CC CE) := by
  obtain ⟨f, fd, F, m⟩ := a.ex
  obtain ⟨fN, fdN, FN, mN, bN⟩ := X.nought.ex
  obtain ⟨fI, fdI, FI, mI, bI⟩ := X.minus.ex
  obtain ⟨fO, fdO, FO, mO, bO⟩ := X.over.ex
  obtain ⟨fM, fdM, FM, mM, bM⟩ := X.times.ex
  refine ⟨f, fd, ?_, m, F.binds fun _ _ _ _ _ _ us hl => match us, hl with | [_, _], _ => rfl⟩
  refine F.ok scC2 (fun vs H Q E h => ?_) (fun cdv A outer s H vs Q E hr h => ?_)
  · obtain ⟨c, lo, lb, la, st, nv, x, rfl, _⟩ := h
    rfl
  · obtain ⟨c, lo, lb, la, st, gv, gm, rfl, hC, hx, ok, q⟩ := h
    obtain ⟨dx, fl, g, ho, ⟨e, dxe, rfl, he⟩, hg⟩ := hC.obj
    obtain ⟨bs, hlb, Ibs⟩ := hC.bel
    obtain ⟨as, hla, Ias⟩ := hC.ah
    refine ⟨_, pss_cons (ps_set (i := 2) scC2.nd rfl (.inl rfl) (pe_fld (pv 0) rfl))
      (pss_cons (ps_set (i := 3) scC2.nd rfl (.inl rfl) (pe_meth (pv 2) X.cls mO FO hr bO .nil pass0 (pa_cons (pv 1) (pa_cons (pe_fld (pv 0) rfl) pa_nil))))
      (pss_cons (ps_set (i := 4) scC2.nd rfl (.inl rfl) (pe_callTy call_list_of (by rfl) B.list b_list (pa_cons (pe_fld (pv 0) rfl) pa_nil)))
      (pss_cons (ps_expr (pe_bm PySem.F.plainAttrs_list PySem.F.slot_list_extend PySem.F.type_list_extend mt_extend (pv 4) (pa_cons (pe_op op_rep (pe_lst (pa_cons (pe_meth0 (pv 2) X.cls mN FN hr bN .nil pass0) pa_nil))
        (pe_op op_sub (pe_op op_add (pe_callB call_len_seq (by rfl) B.len b_len (pa_cons (pe_fld (pv 0) rfl) pa_nil)) (pe_fld (pv 0) rfl)) (pe_callB call_len_seq (by rfl) B.len b_len (pa_cons (pv 4) pa_nil)))) pa_nil)))
      (pss_cons (ps_for PassesOwn.never rfl (pi_enum (by rfl) B.enumerate (pa_cons (pe_fld (pv 0) rfl) pa_nil)) (pg_tup rfl (pgs_cons (pg_name (i := 5) scC2.nd rfl (.inl rfl)) (pgs_cons (pg_name (i := 6) scC2.nd rfl (.inl rfl)) pgs_nil)))
        (pss_one (ps_asg (pe_meth (pv 2) X.cls mI FI hr bI .nil pass0 (pa_cons (pe_ix ix_list (pv 4) (pe_op op_add (pv 5) (pe_fld (pv 0) rfl)) (fun _ _ => rfl)) (pa_cons (pe_meth (pv 2) X.cls mM FM hr bM .nil pass0 (pa_cons (pv 3) (pa_cons (pv 6) pa_nil))) pa_nil)))
          (pg_sub (pv 4) (pe_op op_add (pv 5) (pe_fld (pv 0) rfl)) set_list))))
      (pss_one (ps_ret (pv 4))))))), ?_⟩
    have n2 := ok.n2
    have n3 := ok.n3
    refine ⟨_, rfl, c, CC, dx, _, _, rfl, ho, T.cls, T.n1, rfl, ?_⟩
    refine ⟨_, rfl, e, dxe, _, rfl, he, rfl, _, rfl, _, rfl, c, CC, dx, _, _, rfl, ho, T.cls, T.n6, rfl, ?_⟩
    refine ⟨_, gv, g, _, _, rfl, hx, hg, ok.fg, ok.fb, ok.b0, fun H1 v1 s1 h1 => ?_⟩
    -- made = list(self.below)
    refine ⟨_, rfl, c, CC, dx, _, _, rfl, s1 _ _ ho, T.cls, T.n3, rfl, lb, bs, rfl, .inl (SqL.of (s1 _ _ hlb)), fun lm hlm => ?_⟩
    have s2 := s1.new (o := .lst bs) hlm
    refine ⟨_, rfl, .inl ⟨rfl, _, SqL.of upd_same⟩, ?_⟩
    refine ⟨_, rfl, e, dxe, _, rfl, s2 _ _ he, rfl, _, rfl, fun H2 v2 s3 h2 => ?_⟩
    refine ⟨Nat.succ_le_of_lt (small1000 (by decide)), fun l0 hl0 => ?_⟩
    have s4 := s3.new (o := .lst [v2]) hl0
    have s24 := s2.trans s4
    have hm4 : upd H2 l0 (.lst [v2]) lm = some (.lst bs) := s4 _ _ upd_same
    refine ⟨_, rfl, c, CC, dx, _, _, rfl, s24 _ _ ho, T.cls, T.n5, rfl, la, as, rfl, .inl (SqL.of (s24 _ _ hla)), ?_⟩
    refine ⟨_, rfl, c, CC, dx, _, _, rfl, s24 _ _ ho, T.cls, T.n7, rfl, _, _, rfl, rfl, ?_⟩
    refine ⟨_, rfl, lm, bs, rfl, .inl (SqL.of hm4), _, _, rfl, rfl, ?_⟩
    rw [Ias.len, Ibs.len]
    refine ⟨l0, _, [v2], rfl, rfl, upd_same, by omega, by omega, ?_, fun lz hlz => ?_⟩
    · exact small1 (by rw [List.length_singleton]; omega)
    rw [rep_flat, show ((st.nB : Int) + (st.since : Int) - (st.nC : Int)).toNat = st.nB + st.since - st.nC by omega]
    have s5 := s4.new (o := .lst (List.replicate (st.nB + st.since - st.nC) v2)) hlz
    have hmz : lm ≠ lz := ne_of_none hm4 hlz
    refine ⟨lm, lz, bs, _, rfl, rfl, by rw [upd_ne hmz]; exact hm4, upd_same, ?_, ?_⟩
    · exact small1 (by rw [List.length_replicate, Ibs.len]; omega)
    have hlmH : H lm = none := s1.free hlm
    have s25 := s2.trans s5
    have hm5 : (upd (upd H2 l0 (.lst [v2])) lz (.lst (List.replicate (st.nB + st.since - st.nC) v2))) lm = some (.lst bs) := by rw [upd_ne hmz]; exact hm4
    have x5 : TExt (upd (upd H2 l0 (.lst [v2])) lz (.lst (List.replicate (st.nB + st.since - st.nC) v2))) (upd (upd (upd H2 l0 (.lst [v2])) lz (.lst (List.replicate (st.nB + st.since - st.nC) v2))) lm (.lst (bs ++ List.replicate (st.nB + st.since - st.nC) v2))) := TExt.upd hm5
    have s6 : Same H (upd (upd (upd H2 l0 (.lst [v2])) lz (.lst (List.replicate (st.nB + st.since - st.nC) v2))) lm (.lst (bs ++ List.replicate (st.nB + st.since - st.nC) v2))) := s25.updN hlmH
    have I6 : Items K (upd (upd (upd H2 l0 (.lst [v2])) lz (.lst (List.replicate (st.nB + st.since - st.nC) v2))) lm (.lst (bs ++ List.replicate (st.nB + st.since - st.nC) v2))) (bs ++ List.replicate (st.nB + st.since - st.nC) v2) (max st.nC (st.nB + st.since)) st.C.co := by
      rw [show max st.nC (st.nB + st.since) = st.nC + (st.nB + st.since - st.nC) by omega]
      refine Items.ext (Items.app (Ibs.ext s25.text) ?_) x5
      exact (Items.rep ((h2.mono (same_upd hl0)).mono (same_upd hlz))).congr fun i _ => (ok.lC _ (by omega)).symm
    have h1' : NumAt K (upd (upd (upd H2 l0 (.lst [v2])) lz (.lst (List.replicate (st.nB + st.since - st.nC) v2))) lm (.lst (bs ++ List.replicate (st.nB + st.since - st.nC) v2))) v1 (gm / st.b) := (((h1.mono (same_upd hlm)).mono s5)).ext x5
    refine ⟨_, rfl, c, CC, dx, _, _, rfl, s6 _ _ ho, T.cls, T.n5, rfl, la, as, rfl, SqL.of (s6 _ _ hla), ?_⟩
    refine for_enumL (K := K) (a := la) (xs := as) (fun j σ H' => ∃ y5 y6 ms, σ = [some (.ref c), some gv, some (.ref e), some v1, some (.ref lm), y5, y6] ∧ Same H H' ∧ H' lm = some (.lst ms) ∧ NumAt K H' v1 (gm / st.b) ∧
        Items K H' ms (max st.nC (st.nB + st.since)) (fun i => if st.since ≤ i ∧ i < st.since + j then (st.madeG gm) i else st.C i))
      ⟨none, none, _, rfl, s6, upd_same, h1', I6.congr fun i _ => by rw [if_neg (by omega)]⟩ (fun i σ H' _ ⟨_, _, _, _, sm, _⟩ => SqL.of (sm _ _ hla)) ?_ ?_
    · rintro j z σ H' T' ez ⟨y5, y6, ms, rfl, sm, hM, hv, hI⟩ hT
      have hj : j < st.nB := by
        rw [← Ias.len]
        exact (List.getElem?_eq_some_iff.mp ez).1
      have sT := same_upd (o := .tup [.int ((j : Nat) : Int), z]) hT
      have smT := sm.trans sT
      have hz := ((Ias.ext sm.text).get ez).mono sT
      obtain ⟨u, eu, hu⟩ := (hI.ext sT.text).at_ (j + st.since) (by omega)
      rw [if_neg (by omega)] at hu
      have ix0 : ((j : Int) + (st.since : Int)) = ((j + st.since : Nat) : Int) := by omega
      refine g_pair (.inl (.inl upd_same)) ?_
      refine ⟨_, rfl, e, dxe, _, rfl, smT _ _ he, rfl, ?_⟩
      refine ⟨_, rfl, _, rfl, _, rfl, c, CC, dx, _, _, rfl, smT _ _ ho, T.cls, T.n7, rfl, _, _, rfl, rfl, lm, ms, _, u, rfl, rfl, SqL.of (sT _ _ hM), atN ix0 eu, ?_⟩
      refine ⟨_, rfl, e, dxe, _, rfl, smT _ _ he, rfl, _, rfl, _, rfl, _, v1, z, _, _, rfl, hv.mono sT, hz, ok.sh, ok.fB j, trivial, fun H3 v3 s3' h3 => ?_⟩
      refine ⟨_, u, v3, _, _, rfl, hu.mono s3', h3, ok.fC _, ok.sB j, trivial, fun H4 v4 s4' h4 => ?_⟩
      have s34 := sT.trans (s3'.trans s4')
      have hM4 := s34 _ _ hM
      refine ⟨_, rfl, _, rfl, _, rfl, c, CC, dx, _, _, rfl, (sm.trans s34) _ _ ho, T.cls, T.n7, rfl, _, _, rfl, rfl, lm, ms, _, j + st.since, rfl, rfl, hM4, ixN_nat ix0 (by rw [hI.len]; omega), ?_⟩
      refine ⟨_, _, ms.set (j + st.since) v4, rfl, (sm.trans s34).updN hlmH, upd_same, (hv.mono s34).ext (TExt.upd hM4), ?_⟩
      refine Items.set ((hI.ext s34.text).ext (TExt.upd hM4)) ?_ fun i hi ni => ?_
      · have e3 : (if st.since ≤ j + st.since ∧ j + st.since < st.since + (j + 1) then (st.madeG gm).co (j + st.since) else st.C.co (j + st.since)) = st.C.co (j + st.since) - gm / st.b * st.B.co j := by
          rw [if_pos (by omega)]
          show (st.C - Ser.C (gm / st.b) * (Ser.X st.since * st.B)) (j + st.since) = _
          rw [FQ.Ser.sub_co, FQ.Ser.Cmul_co, FQ.Ser.Xmul_co, if_pos (by omega), show j + st.since - st.since = j by omega]
        show NumAt K _ v4 (if st.since ≤ j + st.since ∧ j + st.since < st.since + (j + 1) then (st.madeG gm).co (j + st.since) else st.C.co (j + st.since))
        rw [e3]
        exact h4.ext (TExt.upd hM4)
      · by_cases cc : st.since ≤ i ∧ i < st.since + j
        · rw [if_pos cc, if_pos (by omega)]
        · rw [if_neg cc, if_neg (by omega)]
    · rintro σ H' ⟨y5, y6, ms, rfl, sm, hM, hv, hI⟩
      refine ⟨_, rfl, q _ lm ms sm hlmH hM (hI.congr fun i hi => ?_)⟩
      rw [Ias.len]
      split
      · rfl
      · rename_i h
        show _ = (st.C - Ser.C (gm / st.b) * (Ser.X st.since * st.B)) i
        rw [FQ.Ser.sub_co, FQ.Ser.Cmul_co, FQ.Ser.Xmul_co]
        split
        · rw [ok.lB (i - st.since) (by omega)]
          grind
        · grind
end
end L2.FW
end
section
set_option Elab.async false
set_option linter.all false
set_option maxRecDepth 100000
namespace L2.FW
open PySem PySem.Spec PyProof.Rows
open FQ (Fit BB BB_eq FitP Ser IsLen Lt ChS PutOK)
def spPut (K : PySem.W.Frag) (CC CE : Addr) : Sp := fun vs H Q _ => ∃ c lo lb la st nv x most, vs = [.ref c, nv, .int most] ∧ ChainAt K CC CE H c lo lb la st ∧ NumAt K H nv x ∧ PutOK st x ∧ (st.k : Int) + 1 ≤ most ∧
  ∀ H' lb' la', Keep [c, lo] H H' → ChainAt K CC CE H' c lo lb' la' (st.put x) → (lb' = lb ∨ H lb' = none) → (la' = la ∨ la' = lb) → Q (.bl true) H'
theorem items_row {K : PySem.W.Frag} {H : Hp} {rs : List V} {st : ChS} {v : V} {x : Rat} (h : Items K H rs st.k st.s) (hv : NumAt K H v x) : Items K H (rs ++ [v]) (st.k + 1) (st.row x) := by
  refine Items.snoc (h.congr fun i hi => ?_) ?_
  · show st.s i = if i = st.k then x else st.s i
    rw [if_neg (by omega)]
  · show NumAt K H v (if st.k = st.k then x else st.s st.k)
    rw [if_pos rfl]
    exact hv
theorem text_two {H H1 : Hp} {c l : Addr} {C dx : Addr} {fs : List (Str × V)} {xs : List V} (k : Keep [c, l] H H1) (hc : H c = some (.ins C dx fs)) (hl : H l = some (.lst xs)) : TExt H H1 :=
  k.text fun b hb => by
    have e' : b = c ∨ b = l := by simpa using hb
    rcases e' with rfl | rfl
    · exact .inr ⟨_, _, _, hc⟩
    · exact .inl ⟨_, hl⟩
section
variable {P : Program} {w : World} {K : PySem.W.Frag} {mg : Str → Option Value} {base : Heap} {k : Nat} {CE CC : Addr}
theorem md_put (B : Bi mg) (T : ChT K CC) (X : Fld P w K mg base CE k) (a : AtM K CC "put_on" "Chain.put_on" (sCh 3)) (GG : Md P w K mg base CC "gap_with" k ["self", "number"] (spGap K CC CE)) (GM : Md P w K mg base CC "mended" k ["self", "gap"] (spMend K CC CE)) :
    Md P w K mg base CC "put_on" (k + 1) ["self", "number", "most"] (spPut K CC CE) := by
  obtain ⟨f, fd, F, m⟩ := a.ex
  obtain ⟨fI, fdI, FI, mI, bI⟩ := X.isn.ex
  obtain ⟨fG, fdG, FG, mG, bG⟩ := GG.ex
  obtain ⟨fM, fdM, FM, mM, bM⟩ := GM.ex
  refine ⟨f, fd, ?_, m, F.binds fun _ _ _ _ _ _ us hl => match us, hl with | [_, _, _], _ => rfl⟩
  refine F.ok scC3 (fun vs H Q E h => ?_) (fun cdv A outer s H vs Q E hr h => ?_)
  · obtain ⟨c, lo, lb, la, st, nv, x, mo, rfl, _⟩ := h
    rfl
  · obtain ⟨c, lo, lb, la, st, nv, x, mo, rfl, hC, hx, ok, hmo, q⟩ := h
    refine ⟨_, pss_cons (ps_set (i := 3) scC3.nd rfl (.inl rfl) (pe_meth (pv 0) T.cls mG FG hr bG .nil pass0 (pa_cons (pv 1) pa_nil)))
      (pss_cons (ps_if (pt_val (pe_meth (pe_fld (pv 0) rfl) X.cls mI FI hr bI .nil pass0 (pa_cons (pv 3) pa_nil)))
        (pss_cons (ps_expr (pe_bm PySem.F.plainAttrs_list PySem.F.slot_list_append PySem.F.type_list_append mt_append (pe_fld (pv 0) rfl) (pa_cons (pv 1) pa_nil)))
        (pss_cons (ps_fldaug (pv 0) pe_int in_add) (pss_one (ps_ret pe_bl)))) pss_nil)
      (pss_cons (ps_set (i := 4) scC3.nd rfl (.inl rfl) (pe_callB (call_max2 rfl) (by rfl) B.max b_max (pa_cons (pe_fld (pv 0) rfl) (pa_cons (pe_op op_sub (pe_op op_add (pe_callB call_len_seq (by rfl) B.len b_len (pa_cons (pe_fld (pv 0) rfl) pa_nil)) pe_int) (pe_fld (pv 0) rfl)) pa_nil))))
      (pss_cons (ps_if (pt_cmpR op_gt (pv 4) (pv 2) (nomark _)) (pss_one (ps_ret pe_bl)) pss_nil)
      (pss_cons (ps_expr (pe_bm PySem.F.plainAttrs_list PySem.F.slot_list_append PySem.F.type_list_append mt_append (pe_fld (pv 0) rfl) (pa_cons (pv 1) pa_nil)))
      (pss_cons (ps_set (i := 5) scC3.nd rfl (.inl rfl) (pe_meth (pv 0) T.cls mM FM hr bM .nil pass0 (pa_cons (pv 3) pa_nil)))
      (pss_cons (ps_fldaug (pv 0) pe_int in_add)
      (pss_cons (ps_if (pt_cmpR op_gt (pv 4) (pe_fld (pv 0) rfl) (nomark _))
        (pss_cons (ps_fld (pv 0) (pe_fld (pv 0) rfl) rfl) (pss_cons (ps_fld (pv 0) (pv 3) rfl) (pss_cons (ps_fld (pv 0) pe_int rfl) (pss_one (ps_fld (pv 0) (pv 4) rfl))))) pss_nil)
      (pss_cons (ps_fld (pv 0) (pv 5) rfl) (pss_one (ps_ret pe_bl)))))))))), ?_⟩
    have n5 := ok.n5
    have n4 := ok.n4
    obtain ⟨dx, fl, g, ho, _⟩ := id hC.obj
    refine ⟨_, rfl, c, dx, _, rfl, ho, rfl, _, rfl, c, lo, lb, la, st, nv, x, rfl, hC, hx, ok, fun H1 v1 s1 h1 => ?_⟩
    have hC1 := hC.same s1
    obtain ⟨_, _, _, ho1', ⟨e, dxe, efl, he⟩, hg⟩ := hC1.obj
    have ho1 := s1 _ _ ho
    rw [ho1] at ho1'
    cases ho1'
    subst efl
    obtain ⟨rs, hlo, Irs⟩ := hC1.row
    obtain ⟨bs, hlb, Ibs⟩ := hC1.bel
    obtain ⟨as, hla, Ias⟩ := hC1.ah
    have nco : c ≠ lo := hC1.nl hlo
    have ncb : c ≠ lb := hC1.nl hlb
    have nca : c ≠ la := hC1.nl hla
    have nec : e ≠ c := ne_of he ho1 (by intro z; cases z)
    have hx1 := hx.mono s1
    refine ⟨_, rfl, c, CC, dx, _, _, rfl, ho1, T.cls, T.n1, rfl, e, dxe, _, rfl, he, rfl, _, rfl, _, v1, _, rfl, h1, _, rfl, ?_⟩
    by_cases hz : st.gap x = 0
    · rw [decide_eq_true hz]
      refine iteT ⟨_, rfl, c, CC, dx, _, _, rfl, ho1, T.cls, T.n2, rfl, .inl ⟨rfl, _, SqL.of hlo⟩, _, rfl, lo, rs, nv, rfl, rfl, hlo, ?_, ?_⟩
      · rw [Irs.len]
        exact small1000 (by omega)
      · have k1 : Keep [c, lo] H1 (upd H1 lo (.lst (rs ++ [nv]))) := Keep.upd (by simp)
        have ho2 : upd H1 lo (.lst (rs ++ [nv])) c = some (.ins CC dx (cf (.ref e) lo lb st.L la g st.since)) := by rw [upd_ne nco]; exact ho1
        refine ⟨_, rfl, c, CC, dx, _, _, rfl, ho2, T.cls, T.n7, rfl, _, _, rfl, rfl, dx, _, ho2, by show 7 < 1000; decide, ?_⟩
        have k2 := k1.updN (o := .ins CC dx (cf (.ref e) lo lb st.L la g ((st.since : Int) + 1))) (a := c) (by simp)
        have x2 := text_two k2 ho1 hlo
        refine q _ lb la ((Keep.of s1).trans k2) ?_ (.inl rfl) (.inl rfl)
        have est : st.put x = st.stay x := by unfold ChS.put; rw [if_pos hz]
        rw [est]
        refine ⟨⟨dx, .ref e, g, upd_same, ⟨e, dxe, rfl, ?_⟩, hg.ext x2⟩, ⟨rs ++ [nv], ?_, ?_⟩, ⟨bs, ?_, Ibs.ext x2⟩, ⟨as, ?_, Ias.ext x2⟩, hC.ob, hC.oa⟩
        · rw [upd_ne nec, upd_ne (ne_of he hlo (by intro z; cases z))]
          exact he
        · rw [upd_ne nco.symm, upd_same]
        · exact (items_row Irs hx1).ext x2
        · rw [upd_ne ncb.symm, upd_ne hC.ob.symm]
          exact hlb
        · rw [upd_ne nca.symm, upd_ne hC.oa.symm]
          exact hla
    · rw [decide_eq_false hz]
      refine iteF ?_
      refine ⟨_, rfl, c, CC, dx, _, _, rfl, ho1, T.cls, T.n4, rfl, ?_⟩
      refine ⟨_, rfl, c, CC, dx, _, _, rfl, ho1, T.cls, T.n2, rfl, lo, rs, rfl, .inl (SqL.of hlo), _, _, rfl, rfl, ?_⟩
      refine ⟨_, rfl, c, CC, dx, _, _, rfl, ho1, T.cls, T.n4, rfl, _, _, rfl, rfl, _, _, rfl, ?_⟩
      rw [Irs.len]
      have emax : (if ((st.k : Int) + 1 - (st.L : Int)) > (st.L : Int) then ((st.k : Int) + 1 - (st.L : Int)) else (st.L : Int)) = ((max st.L (st.k + 1 - st.L) : Nat) : Int) := by split <;> omega
      refine ⟨_, rfl, _, rfl, _, _, rfl, rfl, _, rfl, ite2 (fun z => ?_) (fun _ => ?_)⟩
      · have z' := of_decide_eq_true z
        rw [show (if (fun i j => i - j) ((fun i j => i + j) (st.k : Int) 1) (st.L : Int) > (st.L : Int) then (fun i j => i - j) ((fun i j => i + j) (st.k : Int) 1) (st.L : Int) else (st.L : Int)) = ((max st.L (st.k + 1 - st.L) : Nat) : Int) from emax] at z'
        omega
      refine ⟨_, rfl, c, CC, dx, _, _, rfl, ho1, T.cls, T.n2, rfl, .inl ⟨rfl, _, SqL.of hlo⟩, _, rfl, lo, rs, nv, rfl, rfl, hlo, ?_, ?_⟩
      · rw [Irs.len]
        exact small1000 (by omega)
      have k1 : Keep [c, lo] H1 (upd H1 lo (.lst (rs ++ [nv]))) := Keep.upd (by simp)
      have x1 := text_two k1 ho1 hlo
      have ho2 : upd H1 lo (.lst (rs ++ [nv])) c = some (.ins CC dx (cf (.ref e) lo lb st.L la g st.since)) := by rw [upd_ne nco]; exact ho1
      have he2 : upd H1 lo (.lst (rs ++ [nv])) e = some (.ins CE dxe []) := by rw [upd_ne (ne_of he hlo (by intro z; cases z))]; exact he
      have hlb2 : upd H1 lo (.lst (rs ++ [nv])) lb = some (.lst bs) := by rw [upd_ne hC.ob.symm]; exact hlb
      have hla2 : upd H1 lo (.lst (rs ++ [nv])) la = some (.lst as) := by rw [upd_ne hC.oa.symm]; exact hla
      have hC2 : ChainAt K CC CE (upd H1 lo (.lst (rs ++ [nv]))) c lo lb la { st with s := st.row x, k := st.k + 1 } :=
        ⟨⟨dx, .ref e, g, ho2, ⟨e, dxe, rfl, he2⟩, hg.ext x1⟩, ⟨rs ++ [nv], upd_same, (items_row Irs hx1).ext x1⟩, ⟨bs, hlb2, Ibs.ext x1⟩, ⟨as, hla2, Ias.ext x1⟩, hC.ob, hC.oa⟩
      have mo2 := ok.mend hz
      refine ⟨_, rfl, c, dx, _, rfl, ho2, rfl, _, rfl, c, lo, lb, la, { st with s := st.row x, k := st.k + 1 }, v1, st.gap x, rfl, hC2, h1.ext x1, ⟨mo2.fg, mo2.fC, mo2.b0, mo2.fb, mo2.fB, mo2.sh, mo2.sB, mo2.n2, mo2.n3, mo2.lC, mo2.lB⟩, fun H3 p ms s3 hp hpl Ip => ?_⟩
      have Ip' : Items K H3 ms (max st.nC (st.nB + st.since)) (st.made x).co := Ip
      have ho3 := s3 _ _ ho2
      have ncp : c ≠ p := ne_of_none ho2 hp
      have nlp : lo ≠ p := ne_of_none (upd_same (H := H1) (a := lo) (o := .lst (rs ++ [nv]))) hp
      have hpH : H p = none := by
        refine s1.free (k1.free hp ?_)
        intro z
        have e' : p = c ∨ p = lo := by simpa using z
        rcases e' with z | z
        · exact ncp z.symm
        · exact nlp z.symm
      refine ⟨_, rfl, c, CC, dx, _, _, rfl, ho3, T.cls, T.n7, rfl, _, _, rfl, rfl, dx, _, ho3, by show 7 < 1000; decide, ?_⟩
      have x3 : ∀ {Hz : Hp} {o : HO}, (∃ fs, Hz c = some (.ins CC dx fs)) → TExt Hz (upd Hz c o) := fun {Hz o} ⟨fs, hz'⟩ => (Keep.upd (S := [c]) (by simp)).text fun b hb => by
        have e' : b = c := by simpa using hb
        rw [e']
        exact .inr ⟨_, _, _, hz'⟩
      have k3 : Keep [c, lo] H1 (upd H3 c (.ins CC dx (cf (.ref e) lo lb st.L la g ((st.since : Int) + 1)))) := (k1.trans (Keep.of s3)).updN (by simp)
      refine ⟨_, rfl, _, rfl, c, CC, dx, _, _, rfl, upd_same, T.cls, T.n4, rfl, _, _, rfl, rfl, _, rfl, ?_⟩
      have key : ((if ((st.k : Int) + 1 - (st.L : Int)) > (st.L : Int) then ((st.k : Int) + 1 - (st.L : Int)) else (st.L : Int)) > (st.L : Int)) ↔ st.L < st.k + 1 - st.L := by
        rw [emax]
        omega
      refine ite2 (fun z => ?_) (fun z => ?_)
      · have hj : st.L < st.k + 1 - st.L := key.mp (of_decide_eq_true z)
        have est : st.put x = st.jump x := by unfold ChS.put; rw [if_neg hz, if_pos hj]
        refine ⟨_, rfl, c, CC, dx, _, _, rfl, upd_same, T.cls, T.n3, rfl, _, rfl, c, CC, dx, _, rfl, upd_same, T.cls, T.n5, by show 7 < 1000; decide, ?_⟩
        refine ⟨_, rfl, _, rfl, c, CC, dx, _, rfl, upd_same, T.cls, T.n6, by show 7 < 1000; decide, ?_⟩
        refine ⟨_, rfl, c, CC, dx, _, rfl, upd_same, T.cls, T.n7, by show 7 < 1000; decide, ?_⟩
        refine ⟨_, rfl, _, rfl, c, CC, dx, _, rfl, upd_same, T.cls, T.n4, by show 7 < 1000; decide, ?_⟩
        refine ⟨_, rfl, _, rfl, c, CC, dx, _, rfl, upd_same, T.cls, T.n3, by show 7 < 1000; decide, ?_⟩
        rw [show (if (fun i j => i - j) ((fun i j => i + j) (st.k : Int) 1) (st.L : Int) > (st.L : Int) then (fun i j => i - j) ((fun i j => i + j) (st.k : Int) 1) (st.L : Int) else (st.L : Int)) = ((max st.L (st.k + 1 - st.L) : Nat) : Int) from emax, show max st.L (st.k + 1 - st.L) = st.k + 1 - st.L by omega]
        simp only [upd_upd]
        have k4 : Keep [c, lo] H1 (upd H3 c (.ins CC dx (cf (.ref e) lo p ((st.k + 1 - st.L : Nat) : Int) lb v1 1))) := (k1.trans (Keep.of s3)).updN (by simp)
        have x4 := text_two k4 ho1 hlo
        refine q _ p lb ((Keep.of s1).trans k4) ?_ (.inr hpH) (.inr rfl)
        rw [est]
        refine ⟨⟨dx, .ref e, v1, upd_same, ⟨e, dxe, rfl, ?_⟩, h1.ext x4⟩, ⟨rs ++ [nv], ?_, (items_row Irs hx1).ext x4⟩, ⟨ms, ?_, Ip'.ext (x3 ⟨_, ho3⟩)⟩, ⟨bs, ?_, Ibs.ext x4⟩, nlp, hC.ob⟩
        · rw [upd_ne nec]
          exact s3 _ _ he2
        · rw [upd_ne nco.symm]
          exact s3 _ _ upd_same
        · rw [upd_ne ncp.symm]
          exact hpl
        · rw [upd_ne ncb.symm]
          exact s3 _ _ hlb2
      · have hj : ¬ st.L < st.k + 1 - st.L := fun y => z (decide_eq_true (key.mpr y))
        have est : st.put x = st.mend x := by unfold ChS.put; rw [if_neg hz, if_neg hj]
        refine ⟨_, rfl, _, rfl, c, CC, dx, _, rfl, upd_same, T.cls, T.n3, by show 7 < 1000; decide, ?_⟩
        simp only [upd_upd]
        have k4 : Keep [c, lo] H1 (upd H3 c (.ins CC dx (cf (.ref e) lo p (st.L : Int) la g ((st.since : Int) + 1)))) := (k1.trans (Keep.of s3)).updN (by simp)
        have x4 := text_two k4 ho1 hlo
        refine q _ p la ((Keep.of s1).trans k4) ?_ (.inr hpH) (.inl rfl)
        rw [est]
        refine ⟨⟨dx, .ref e, g, upd_same, ⟨e, dxe, rfl, ?_⟩, hg.ext x4⟩, ⟨rs ++ [nv], ?_, (items_row Irs hx1).ext x4⟩, ⟨ms, ?_, Ip'.ext (x3 ⟨_, ho3⟩)⟩, ⟨as, ?_, Ias.ext x4⟩, nlp, hC.oa⟩
        · rw [upd_ne nec]
          exact s3 _ _ he2
        · rw [upd_ne nco.symm]
          exact s3 _ _ upd_same
        · rw [upd_ne ncp.symm]
          exact hpl
        · rw [upd_ne nca.symm]
          exact s3 _ _ hla2
end
end L2.FW
end
section
set_option Elab.async false
set_option linter.all false
set_option maxRecDepth 100000
namespace L2.FW
open PySem PySem.Spec PyProof.Rows
open FQ (Fit BB BB_eq FitP Ser IsLen Lt ChS PutOK GrS trn)
/-! ### quotient_grown -/
abbrev sQG : Stmt := topS 35
theorem scQG : FnScope ["field", "row", "chain", "off", "below", "top"] ["field", "row", "chain", "off"] (defScope sQG) := ⟨rfl, rfl, rfl, by decide +kernel, rfl, by decide +kernel, by decide +kernel⟩
def spQG (K : PySem.W.Frag) (CC CE : Addr) : Sp := fun vs H Q _ => ∃ fl rv c lo lb la st off n r a b, vs = [fl, rv, .ref c, .int off] ∧ FldAt CE H fl ∧ LsAt K H rv n r ∧ ChainAt K CC CE H c lo lb la st ∧ 0 ≤ (st.L : Int) + off + 1 ∧
  FQ.GrownOK st.C st.nC ((st.L : Int) + off + 1).toNat n r a b ∧ ∀ H' v, Same H H' → QuoAt K H' v a b → Q v H'
theorem lt_trn (n : Nat) (r : Nat → Rat) : Lt (trn n r) n := fun i hi => by
  show (if i < n then r i else 0) = 0
  rw [if_neg (by omega)]
section
variable {P : Program} {w : World} {K : PySem.W.Frag} {mg : Str → Option Value} {base : Heap} {k : Nat} {CE CC GC : Addr}
theorem gd_QG (B : Bi mg) (T : ChT K CC) (a : At K mg "quotient_grown" sQG) (GT : Gd P w K mg base "trimmed" k ["field", "numbers"] (spTrim K CE)) (GP : Gd P w K mg base "product_by" k ["field", "left", "right"] (spProd K CE)) (GQ : Gd P w K mg base "quotient_in" k ["field", "top", "below"] (spQuoIn K CE)) :
    Gd P w K mg base "quotient_grown" (k + 1) ["field", "row", "chain", "off"] (spQG K CC CE) := by
  obtain ⟨f, fd, F, g⟩ := a.ex
  refine ⟨f, fd, ?_, g, F.kp, F.binds fun _ _ _ _ _ _ us hl => match us, hl with | [_, _, _, _], _ => rfl⟩
  refine F.ok scQG (fun vs H Q E h => ?_) (fun cdv A outer s H vs Q E hr h => ?_)
  · obtain ⟨fl, rv, c, lo, lb, la, st, off, n, r, a, b, rfl, _⟩ := h
    rfl
  · obtain ⟨fl, rv, c, lo, lb, la, st, off, n, r, a, b, rfl, hF, hR, hC, h0, ok, q⟩ := h
    refine ⟨_, pss_cons (ps_set (i := 4) scQG.nd rfl (.inl rfl) (pe_gd GT hr (by rfl) (pa_cons (pv 0) (pa_cons (pe_fld (pv 2) rfl) pa_nil))))
      (pss_cons (ps_set (i := 5) scQG.nd rfl (.inl rfl) (pe_gd GP hr (by rfl) (pa_cons (pv 0) (pa_cons (pv 4) (pa_cons (pe_gd GT hr (by rfl) (pa_cons (pv 0) (pa_cons (pv 1) pa_nil))) pa_nil)))))
      (pss_one (ps_ret (pe_gd GQ hr (by rfl) (pa_cons (pv 0) (pa_cons (pe_gd GT hr (by rfl) (pa_cons (pv 0) (pa_cons (pe_slice sl_tupA (pv 5) po_none (po_some (pe_callB (call_max2 rfl) (by rfl) B.max b_max (pa_cons pe_int (pa_cons (pe_op op_add (pe_op op_add (pe_fld (pv 2) rfl) (pv 3)) pe_int) pa_nil))))) pa_nil))) (pa_cons (pv 4) pa_nil))))))), ?_⟩
    obtain ⟨dx, flc, g, ho, _⟩ := id hC.obj
    obtain ⟨bs, hlb, Ibs⟩ := hC.bel
    have nC4 := ok.nC4
    have n4 := ok.n4
    refine ⟨_, rfl, _, rfl, c, CC, dx, _, _, rfl, ho, T.cls, T.n3, rfl, _, _, st.nC, st.C, rfl, hF, .inl ⟨lb, bs, rfl, SqL.of hlb, Ibs⟩, by omega, ok.lC, fun H1 v1 s1 h1 => ?_⟩
    refine ⟨_, rfl, _, rfl, _, rfl, _, rfl, _, _, n, trn n r, rfl, hF.same s1, .inl ?_, by omega, lt_trn n r, fun H2 v2 s2 h2 => ?_⟩
    · obtain ⟨p, vs, e, h1', I⟩ := hR.same s1
      exact ⟨p, vs, e, h1', I.congr fun i hi => by show r i = if i < n then r i else 0; rw [if_pos hi]⟩
    have s12 := s1.trans s2
    refine ⟨_, _, _, st.C, trn n r, rfl, hF.same s12, h1.ext s2.text, h2, ok.mul, ok.lC.mono (by omega), (lt_trn n r).mono (by omega), fun H3 v3 s3 h3 => ?_⟩
    have s123 := s12.trans s3
    obtain ⟨m, ⟨p3, us, rfl, hp3, I3⟩, l3⟩ := id h3
    have m4 : m ≤ 400 := l3.le (ok.lC.mul (lt_trn n r) (c := 400) (by omega))
    refine ⟨_, rfl, _, rfl, _, rfl, _, rfl, c, CC, dx, _, _, rfl, s123 _ _ ho, T.cls, T.n4, rfl, _, rfl, _, _, rfl, rfl, _, _, rfl, rfl, _, _, rfl, _, rfl, ?_⟩
    have emax : (if ((st.L : Int) + off + 1) > 0 then ((st.L : Int) + off + 1) else 0) = ((((st.L : Int) + off + 1).toNat : Nat) : Int) := by split <;> omega
    have hsl : ∀ (S : Hp) (Q2 : VK), Same H3 S → (∀ H' v vs, Same S H' → (∃ p, v = .ref p ∧ SqT K H' p vs ∧ Items K H' vs (min ((st.L : Int) + off + 1).toNat m) (st.C * trn n r).co) → Q2 v H') →
        rSlA K (.ref p3) none (some ((((st.L : Int) + off + 1).toNat : Nat) : Int)) S Q2 := fun S Q2 sm hq => by
      refine ⟨p3, us, rfl, sm.seqT hp3, fun hw => ?_, fun hw p hp => ?_⟩
      · rw [HT.sIx_nat, HT.sIx_none, I3.len] at hw
        refine hq S _ us (Same.refl _) ⟨p3, rfl, sm.seqT hp3, ?_⟩
        rw [hw.2]
        exact I3.ext sm.text
      · rw [cut_head us rfl]
        have sp := same_upd (o := .tup (us.take ((st.L : Int) + off + 1).toNat)) hp
        exact hq _ _ _ sp ⟨p, rfl, .inl (.inl upd_same), ((I3.ext sm.text).ext sp.text).takeMin _⟩
    show rSlA K (.ref p3) none (some (if ((st.L : Int) + off + 1) > 0 then ((st.L : Int) + off + 1) else 0)) H3 _
    rw [emax]
    refine hsl H3 _ (Same.refl _) fun H4 v4 ws s4 ⟨p4, e4, hp4, I4⟩ => ?_
    subst e4
    have s14 := s123.trans s4
    refine ⟨_, _, min ((st.L : Int) + off + 1).toNat m, trn ((st.L : Int) + off + 1).toNat (st.C * trn n r).co, rfl, hF.same s14, .inr ⟨p4, ws, rfl, hp4, I4.congr fun i hi => ?_⟩, by omega, ?_, fun H5 v5 s5 h5 => ?_⟩
    · show _ = if i < ((st.L : Int) + off + 1).toNat then (st.C * trn n r).co i else 0
      rw [if_pos (by omega)]
    · intro i hi
      show (if i < ((st.L : Int) + off + 1).toNat then (st.C * trn n r).co i else 0) = 0
      split
      · exact l3.1 i (by omega)
      · rfl
    exact ⟨_, rfl, _, _, _, _, _, a, b, rfl, hF.same (s14.trans s5), h5, h1.ext ((s2.trans s3).trans (s4.trans s5)).text, ok.quo, fun H6 v6 s6 h6 => q _ _ (s14.trans (s5.trans s6)) h6⟩
end
/-! ### Grower -/
abbrev sGr (j : Nat) : Stmt := inClass (topS 36) j
def gf (off : Int) (ls c lj : Addr) : List (Str × V) := [("off", .int off), ("so_far", .ref ls), ("chain", .ref c), ("own_jumps", .ref lj)]
structure GrT (K : PySem.W.Frag) (C : Addr) : Prop where
  cls : Cls K C
  n1 : NoAttr K C "off"
  n2 : NoAttr K C "so_far"
  n3 : NoAttr K C "chain"
  n4 : NoAttr K C "own_jumps"
structure GrowAt (K : PySem.W.Frag) (GC CC CE : Addr) (H : Hp) (g ls c lj lo lb la : Addr) (st : GrS) : Prop where
  obj : ∃ dx, H g = some (.ins GC dx (gf st.off ls c lj))
  row : ∃ vs, H ls = some (.lst vs) ∧ Items K H vs st.n st.r
  ch : ChainAt K CC CE H c lo lb la st.ch
  jm : ∃ js, H lj = some (.lst js) ∧ js.length ≤ st.n + 1
  d1 : ls ≠ lo
  d2 : ls ≠ lb
  d3 : ls ≠ la
  d4 : ls ≠ lj
  d5 : lj ≠ lo
  d6 : lj ≠ lb
  d7 : lj ≠ la
theorem GrowAt.same {K : PySem.W.Frag} {GC CC CE : Addr} {H H' : Hp} {g ls c lj lo lb la : Addr} {st : GrS} (x : GrowAt K GC CC CE H g ls c lj lo lb la st) (s : Same H H') : GrowAt K GC CC CE H' g ls c lj lo lb la st :=
  let ⟨dx, a⟩ := x.obj; let ⟨vs, b, c'⟩ := x.row; let ⟨js, d, e⟩ := x.jm
  ⟨⟨dx, s _ _ a⟩, ⟨vs, s _ _ b, c'.ext s.text⟩, x.ch.same s, ⟨js, s _ _ d, e⟩, x.d1, x.d2, x.d3, x.d4, x.d5, x.d6, x.d7⟩
theorem scG0 : FnScope ["self", "off"] ["self", "off"] (defScope (sGr 0)) := ⟨rfl, rfl, rfl, by decide +kernel, rfl, by decide +kernel, by decide +kernel⟩
theorem scG1 : FnScope ["self", "number", "ahead"] ["self", "number"] (defScope (sGr 1)) := ⟨rfl, rfl, rfl, by decide +kernel, rfl, by decide +kernel, by decide +kernel⟩
theorem scG3 : FnScope ["self"] ["self"] (defScope (sGr 3)) := ⟨rfl, rfl, rfl, by decide +kernel, rfl, by decide +kernel, by decide +kernel⟩
theorem scG4 : FnScope ["self"] ["self"] (defScope (sGr 4)) := ⟨rfl, rfl, rfl, by decide +kernel, rfl, by decide +kernel, by decide +kernel⟩
def spGrI (K : PySem.W.Frag) (GC CC CE : Addr) : Sp := fun vs H Q _ => ∃ g off dx, vs = [.ref g, .int off] ∧ H g = some (.ins GC dx []) ∧
  ∀ H' ls c lj lo lb la, Keep [g] H H' → H ls = none → H c = none → H lj = none → H lo = none → GrowAt K GC CC CE H' g ls c lj lo lb la (GrS.start off) → Q .non H'
def spGrP (K : PySem.W.Frag) (GC CC CE : Addr) : Sp := fun vs H Q _ => ∃ g ls c lj lo lb la st nv x, vs = [.ref g, nv] ∧ GrowAt K GC CC CE H g ls c lj lo lb la st ∧ NumAt K H nv x ∧
  (((st.n + 1 : Nat) : Int) > st.off + 1 → PutOK st.ch x ∧ st.ch.k ≤ st.n) ∧ st.n ≤ 400 ∧ ∀ H' lb' la', Keep [c, lo, ls, lj] H H' → GrowAt K GC CC CE H' g ls c lj lo lb' la' (st.put x) → Q .non H'
def spGrL (K : PySem.W.Frag) (GC CC CE : Addr) : Sp := fun vs H Q _ => ∃ g ls c lj lo lb la st, vs = [.ref g] ∧ GrowAt K GC CC CE H g ls c lj lo lb la st ∧ Q (.int (st.ch.L : Int)) H
def spGrT (K : PySem.W.Frag) (GC CC CE : Addr) : Sp := fun vs H Q _ => ∃ g ls c lj lo lb la st, vs = [.ref g] ∧ GrowAt K GC CC CE H g ls c lj lo lb la st ∧
  ((st.n : Int) < 2 * (st.ch.L : Int) + st.off + 1 → Q .non H) ∧
  (¬ (st.n : Int) < 2 * (st.ch.L : Int) + st.off + 1 → 0 ≤ (st.ch.L : Int) + st.off + 1 ∧ ∃ a b, FQ.GrownOK st.ch.C st.ch.nC ((st.ch.L : Int) + st.off + 1).toNat st.n st.r a b ∧ ∀ H' v, Same H H' → QuoAt K H' v a b → Q v H')
section
variable {P : Program} {w : World} {K : PySem.W.Frag} {mg : Str → Option Value} {base : Heap} {k : Nat} {CE CC GC : Addr}
theorem md_grL (TC : ChT K CC) (T : GrT K GC) (a : AtM K GC "length" "Grower.length" (sGr 3)) : Md P w K mg base GC "length" (k + 1) ["self"] (spGrL K GC CC CE) := by
  obtain ⟨f, fd, F, m⟩ := a.ex
  refine ⟨f, fd, ?_, m, F.binds fun _ _ _ _ _ _ us hl => match us, hl with | [_], _ => rfl⟩
  refine F.ok scG3 (fun vs H Q E h => ?_) (fun cdv A outer s H vs Q E hr h => ?_)
  · obtain ⟨g, ls, c, lj, lo, lb, la, st, rfl, _⟩ := h
    rfl
  · obtain ⟨g, ls, c, lj, lo, lb, la, st, rfl, hG, q⟩ := h
    obtain ⟨dx, hg⟩ := hG.obj
    obtain ⟨dxc, fl, gg, ho, _⟩ := hG.ch.obj
    exact ⟨_, pss_one (ps_ret (pe_fld (pe_fld (pv 0) rfl) rfl)), _, rfl, g, GC, dx, _, _, rfl, hg, T.cls, T.n3, rfl, c, CC, dxc, _, _, rfl, ho, TC.cls, TC.n4, rfl, q⟩
theorem md_grT (B : Bi mg) (ME : MkE K CE) (mE : mg "Exact" = some (.ref CE)) (TC : ChT K CC) (T : GrT K GC) (a : AtM K GC "told" "Grower.told" (sGr 4)) (GQ : Gd P w K mg base "quotient_grown" k ["field", "row", "chain", "off"] (spQG K CC CE)) :
    Md P w K mg base GC "told" (k + 1) ["self"] (spGrT K GC CC CE) := by
  obtain ⟨f, fd, F, m⟩ := a.ex
  refine ⟨f, fd, ?_, m, F.binds fun _ _ _ _ _ _ us hl => match us, hl with | [_], _ => rfl⟩
  refine F.ok scG4 (fun vs H Q E h => ?_) (fun cdv A outer s H vs Q E hr h => ?_)
  · obtain ⟨g, ls, c, lj, lo, lb, la, st, rfl, _⟩ := h
    rfl
  · obtain ⟨g, ls, c, lj, lo, lb, la, st, rfl, hG, q1, q2⟩ := h
    obtain ⟨dx, hg⟩ := hG.obj
    obtain ⟨vs, hls, Ivs⟩ := hG.row
    obtain ⟨dxc, fl, gg, ho, _⟩ := hG.ch.obj
    refine ⟨_, pss_cons (ps_if (pt_cmpR op_lt (pe_callB call_len_seq (by rfl) B.len b_len (pa_cons (pe_fld (pv 0) rfl) pa_nil)) (pe_op op_add (pe_op op_add (pe_op op_mul pe_int (pe_fld (pe_fld (pv 0) rfl) rfl)) (pe_fld (pv 0) rfl)) pe_int) (nomark _)) (pss_one (ps_ret pe_non)) pss_nil)
      (pss_one (ps_ret (pe_gd GQ hr (by rfl) (pa_cons (pe_makeE ME (by rfl) mE) (pa_cons (pe_fld (pv 0) rfl) (pa_cons (pe_fld (pv 0) rfl) (pa_cons (pe_fld (pv 0) rfl) pa_nil))))))), ?_⟩
    refine ⟨_, rfl, g, GC, dx, _, _, rfl, hg, T.cls, T.n2, rfl, ls, vs, rfl, .inl (SqL.of hls), ?_⟩
    refine ⟨_, rfl, g, GC, dx, _, _, rfl, hg, T.cls, T.n3, rfl, c, CC, dxc, _, _, rfl, ho, TC.cls, TC.n4, rfl, _, _, rfl, rfl, .inl ⟨by decide, by decide⟩, ?_⟩
    refine ⟨_, rfl, g, GC, dx, _, _, rfl, hg, T.cls, T.n1, rfl, _, _, rfl, rfl, _, _, rfl, rfl, _, _, rfl, rfl, _, rfl, ?_⟩
    rw [Ivs.len]
    refine ite2 (fun z => q1 (of_decide_eq_true z)) (fun z => ?_)
    obtain ⟨h0, a, b, ok, q⟩ := q2 fun y => z (decide_eq_true y)
    intro x dxx nx ndx nex
    have s1 := (same_upd (o := .own x) ndx).trans (same_upd (o := .ins CE dxx []) (by rw [upd_ne nex.symm]; exact nx))
    refine ⟨_, rfl, g, GC, dx, _, _, rfl, s1 _ _ hg, T.cls, T.n2, rfl, _, rfl, g, GC, dx, _, _, rfl, s1 _ _ hg, T.cls, T.n3, rfl, _, rfl, g, GC, dx, _, _, rfl, s1 _ _ hg, T.cls, T.n1, rfl, ?_⟩
    exact ⟨_, _, c, lo, lb, la, st.ch, st.off, st.n, st.r, a, b, rfl, ⟨x, dxx, rfl, upd_same⟩, ⟨ls, vs, rfl, SqL.of (s1 _ _ hls), Ivs.ext s1.text⟩, hG.ch.same s1, h0, ok, fun H' v sm hv => q _ _ (s1.trans sm) hv⟩
theorem md_grI (ME : MkE K CE) (mE : mg "Exact" = some (.ref CE)) (mC : mg "Chain" = some (.ref CC)) {fC : Addr} (MC : Mk K CC fC) (TC : ChT K CC) (T : GrT K GC) (GI : Md P w K mg base CC "__init__" k ["self", "field"] (spChI K CC CE)) (a : AtM K GC "__init__" "Grower.__init__" (sGr 0)) :
    Md P w K mg base GC "__init__" (k + 2) ["self", "off"] (spGrI K GC CC CE) := by
  obtain ⟨f, fd, F, m⟩ := a.ex
  obtain ⟨fI, fdI, FI, mI, bI⟩ := GI.ex
  have efI : fI = fC := by
    have e1 := mI.at_
    have e2 := MC.init
    rw [e1] at e2
    cases e2
    rfl
  subst efI
  refine ⟨f, fd, ?_, m, F.binds fun _ _ _ _ _ _ us hl => match us, hl with | [_, _], _ => rfl⟩
  refine F.ok scG0 (fun vs H Q E h => ?_) (fun cdv A outer s H vs Q E hr h => ?_)
  · obtain ⟨g, off, dx, rfl, _⟩ := h
    rfl
  · obtain ⟨g, off, dx, rfl, hg, q⟩ := h
    refine ⟨_, pss_cons (ps_fld (pv 0) (pv 1) rfl) (pss_cons (ps_fld (pv 0) (pe_lst pa_nil) rfl)
      (pss_cons (ps_fld (pv 0) (pe_make MC FI hr (by rfl) mC bI .nil pass0 (pa_cons (pe_makeE ME (by rfl) mE) pa_nil)) rfl)
      (pss_one (ps_fld (pv 0) (pe_lst (pa_cons (pe_tup (pa_cons pe_int (pa_cons pe_int pa_nil))) pa_nil)) rfl)))), ?_⟩
    refine ⟨_, rfl, _, rfl, g, GC, dx, _, rfl, hg, T.cls, T.n1, by decide, ?_⟩
    refine ⟨Nat.zero_le _, fun ls hls => ?_⟩
    have ngs : g ≠ ls := ne_of_none upd_same hls
    have hlsH : H ls = none := by rw [upd_ne ngs.symm] at hls; exact hls
    refine ⟨_, rfl, g, GC, dx, _, rfl, by rw [upd_ne ngs, upd_same], T.cls, T.n2, by show 1 < 1000; decide, ?_⟩
    have k1 : Keep [g] H (upd (upd (upd H g (.ins GC dx (putF "off" (.int off) []))) ls (.lst [])) g (.ins GC dx (putF "so_far" (.ref ls) (putF "off" (.int off) [])))) :=
      ((Keep.upd (by simp)).trans (Keep.of (same_upd hls))).updN (by simp)
    generalize hHa : upd (upd (upd H g (.ins GC dx (putF "off" (.int off) []))) ls (.lst [])) g (.ins GC dx (putF "so_far" (.ref ls) (putF "off" (.int off) []))) = Ha at k1
    have hga : Ha g = some (.ins GC dx (putF "so_far" (.ref ls) (putF "off" (.int off) []))) := by rw [← hHa, upd_same]
    have hlsa : Ha ls = some (.lst []) := by rw [← hHa, upd_ne ngs.symm, upd_same]
    -- Exact()
    intro x dxx nx ndx nex
    have s1 := (same_upd (o := .own x) ndx).trans (same_upd (o := .ins CE dxx []) (by rw [upd_ne nex.symm]; exact nx))
    generalize hHb : upd (upd Ha dxx (.own x)) x (.ins CE dxx []) = Hb at s1
    have hxb : Hb x = some (.ins CE dxx []) := by rw [← hHb, upd_same]
    -- Chain(..)
    intro c dxc nc ndc nec
    have s2 := (same_upd (o := .own c) ndc).trans (same_upd (o := .ins CC dxc []) (by rw [upd_ne nec.symm]; exact nc))
    generalize hHc : upd (upd Hb dxc (.own c)) c (.ins CC dxc []) = Hc at s2
    have hcc : Hc c = some (.ins CC dxc []) := by rw [← hHc, upd_same]
    refine ⟨c, .ref x, dxc, rfl, hcc, ⟨x, dxx, rfl, s2 _ _ hxb⟩, ⟨x, rfl, ne_of_none hxb nc⟩, fun H1 lo lb la k2 nlo nlb nla hC => ⟨rfl, ?_⟩⟩
    have s12 := s1.trans s2
    have ngc : g ≠ c := ne_of_none (s1 _ _ hga) nc
    have nlsc : ls ≠ c := ne_of_none (s1 _ _ hlsa) nc
    have hg1 : H1 g = some (.ins GC dx (putF "so_far" (.ref ls) (putF "off" (.int off) []))) := k2 _ _ (s12 _ _ hga) (by simpa using ngc)
    have hls1 : H1 ls = some (.lst []) := k2 _ _ (s12 _ _ hlsa) (by simpa using nlsc)
    refine ⟨_, rfl, g, GC, dx, _, rfl, hg1, T.cls, T.n3, by show 2 < 1000; decide, ?_⟩
    have ng2 : ∀ {b : Addr}, Hc b = none → b ≠ g := fun hb z => by
      have := s12 _ _ hga
      rw [← z, hb] at this
      cases this
    have hC2 : ChainAt K CC CE (upd H1 g (.ins GC dx (putF "chain" (.ref c) (putF "so_far" (.ref ls) (putF "off" (.int off) []))))) c lo lb la FQ.ChS.start := by
      obtain ⟨dx', fl, gg, ho, hfl, hgg⟩ := hC.obj
      obtain ⟨rs, e1, e2⟩ := hC.row
      obtain ⟨bs, e3, e4⟩ := hC.bel
      obtain ⟨as, e5, e6⟩ := hC.ah
      have kg : Keep [g] H1 (upd H1 g (.ins GC dx (putF "chain" (.ref c) (putF "so_far" (.ref ls) (putF "off" (.int off) []))))) := Keep.upd (by simp)
      have xg : TExt H1 (upd H1 g (.ins GC dx (putF "chain" (.ref c) (putF "so_far" (.ref ls) (putF "off" (.int off) []))))) := kg.text fun b hb => by
        have e' : b = g := by simpa using hb
        rw [e']
        exact .inr ⟨_, _, _, hg1⟩
      have nl : ∀ {b : Addr} {xs : List V}, H1 b = some (.lst xs) → b ∉ [g] := fun {b xs} h1 h2 => by
        have e' : b = g := by simpa using h2
        rw [e', hg1] at h1
        cases h1
      refine ⟨⟨dx', fl, gg, kg _ _ ho (by simpa using ngc.symm), hfl.keep kg fun b hb => ?_, hgg.ext xg⟩, ⟨rs, kg _ _ e1 (nl e1), e2.ext xg⟩, ⟨bs, kg _ _ e3 (nl e3), e4.ext xg⟩, ⟨as, kg _ _ e5 (nl e5), e6.ext xg⟩, hC.ob, hC.oa⟩
      have e' : b = g := by simpa using hb
      rw [e']
      exact .inr ⟨GC, dx, _, _, hg1⟩
    -- own_jumps
    refine ⟨by show 2 ≤ sizeLine; decide, fun t ht => ⟨Nat.succ_le_of_lt (small1000 (by decide)), fun lj hlj => ?_⟩⟩
    have s3 := (same_upd (o := .tup [.int 0, .int 0]) ht).trans (same_upd (o := .lst [.ref t]) hlj)
    have ngj : g ≠ lj := ne_of_none (same_upd (o := .tup [.int 0, .int 0]) ht _ _ upd_same) hlj
    refine ⟨_, rfl, g, GC, dx, _, rfl, by rw [upd_ne ngj]; exact same_upd (o := .tup [.int 0, .int 0]) ht _ _ upd_same, T.cls, T.n4, by show 3 < 1000; decide, ?_⟩
    have hC3 := hC2.same s3
    generalize hHd : upd (upd (upd H1 g (.ins GC dx (putF "chain" (.ref c) (putF "so_far" (.ref ls) (putF "off" (.int off) []))))) t (.tup [.int 0, .int 0])) lj (.lst [.ref t]) = Hd at s3 hC3
    have hgd : Hd g = some (.ins GC dx (putF "chain" (.ref c) (putF "so_far" (.ref ls) (putF "off" (.int off) [])))) := s3 _ _ upd_same
    have hljd : Hd lj = some (.lst [.ref t]) := by rw [← hHd, upd_same]
    have hlsd : Hd ls = some (.lst []) := s3 _ _ (by rw [upd_ne ngs.symm]; exact hls1)
    have kd : Keep [g] Hd (upd Hd g (.ins GC dx (putF "own_jumps" (.ref lj) (putF "chain" (.ref c) (putF "so_far" (.ref ls) (putF "off" (.int off) [])))))) := Keep.upd (by simp)
    have xd : TExt Hd (upd Hd g (.ins GC dx (putF "own_jumps" (.ref lj) (putF "chain" (.ref c) (putF "so_far" (.ref ls) (putF "off" (.int off) [])))))) := kd.text fun b hb => by
      have e' : b = g := by simpa using hb
      rw [e']
      exact .inr ⟨_, _, _, hgd⟩
    have nl : ∀ {b : Addr} {xs : List V}, Hd b = some (.lst xs) → b ∉ [g] := fun {b xs} h1 h2 => by
      have e' : b = g := by simpa using h2
      rw [e', hgd] at h1
      cases h1
    have hC4 : ChainAt K CC CE (upd Hd g (.ins GC dx (putF "own_jumps" (.ref lj) (putF "chain" (.ref c) (putF "so_far" (.ref ls) (putF "off" (.int off) [])))))) c lo lb la FQ.ChS.start := by
      obtain ⟨dx', fl, gg, ho, hfl, hgg⟩ := hC3.obj
      obtain ⟨rs, e1, e2⟩ := hC3.row
      obtain ⟨bs, e3, e4⟩ := hC3.bel
      obtain ⟨as, e5, e6⟩ := hC3.ah
      refine ⟨⟨dx', fl, gg, kd _ _ ho (by simpa using ngc.symm), hfl.keep kd fun b hb => ?_, hgg.ext xd⟩, ⟨rs, kd _ _ e1 (nl e1), e2.ext xd⟩, ⟨bs, kd _ _ e3 (nl e3), e4.ext xd⟩, ⟨as, kd _ _ e5 (nl e5), e6.ext xd⟩, hC.ob, hC.oa⟩
      have e' : b = g := by simpa using hb
      rw [e']
      exact .inr ⟨GC, dx, _, _, hgd⟩
    have kH : Keep [g] H H1 := fun b o e n => k2 b o (s12 _ _ (k1 b o e n)) (by
      intro z
      have e' : b = c := by simpa using z
      have := s1 _ _ (k1 b o e n)
      rw [e', nc] at this
      cases this)
    have kAll : Keep [g] H (upd Hd g (.ins GC dx (putF "own_jumps" (.ref lj) (putF "chain" (.ref c) (putF "so_far" (.ref ls) (putF "off" (.int off) [])))))) := ((kH.updN (by simp)).trans (Keep.of s3)).updN (by simp)
    have fromC : ∀ {b : Addr}, Hc b = none → H b = none := fun {b} hb => k1.free (s12.free hb) (by simpa using ng2 hb)
    have ljH : H lj = none := by
      refine kH.free ?_ (by simpa using ngj.symm)
      have z := (same_upd (o := .tup [.int 0, .int 0]) ht).free hlj
      rw [upd_ne ngj.symm] at z
      exact z
    have cH : H c = none := k1.free (s1.free nc) (by simpa using ngc.symm)
    have lsne : ∀ {b : Addr}, Hc b = none → ls ≠ b := fun hb z => by
      have := s12 _ _ hlsa
      rw [z, hb] at this
      cases this
    have ljne : ∀ {b : Addr} {xs : List V}, H1 b = some (.lst xs) → lj ≠ b := fun {b xs} hb => by
      refine (ne_of_none (same_upd (o := .tup [.int 0, .int 0]) ht _ _ (?_ : _ = some (.lst xs))) hlj).symm
      rw [upd_ne fun z => by rw [z, hg1] at hb; cases hb]
      exact hb
    obtain ⟨rs, e1, _⟩ := hC.row
    obtain ⟨bs, e3, _⟩ := hC.bel
    obtain ⟨as, e5, _⟩ := hC.ah
    exact q _ ls c lj lo lb la kAll hlsH cH ljH (fromC nlo) ⟨⟨dx, upd_same⟩, ⟨[], kd _ _ hlsd (nl hlsd), .nil⟩, hC4, ⟨[.ref t], kd _ _ hljd (nl hljd), Nat.le_refl _⟩, lsne nlo, lsne nlb, lsne nla, (ljne hls1).symm, ljne e1, ljne e3, ljne e5⟩
end
end L2.FW
end
section
set_option Elab.async false
set_option linter.all false
set_option maxRecDepth 100000
namespace L2.FW
open PySem PySem.Spec PyProof.Rows
open FQ (Fit BB BB_eq FitP Ser IsLen Lt ChS PutOK GrS trn)
section
variable {P : Program} {w : World} {K : PySem.W.Frag} {mg : Str → Option Value} {base : Heap} {k : Nat} {CE CC GC : Addr}
theorem md_grP (B : Bi mg) (TC : ChT K CC) (T : GrT K GC) (a : AtM K GC "put" "Grower.put" (sGr 1)) (GP : Md P w K mg base CC "put_on" k ["self", "number", "most"] (spPut K CC CE)) :
    Md P w K mg base GC "put" (k + 1) ["self", "number"] (spGrP K GC CC CE) := by
  obtain ⟨f, fd, F, m⟩ := a.ex
  obtain ⟨fP, fdP, FP, mP, bP⟩ := GP.ex
  refine ⟨f, fd, ?_, m, F.binds fun _ _ _ _ _ _ us hl => match us, hl with | [_, _], _ => rfl⟩
  refine F.ok scG1 (fun vs H Q E h => ?_) (fun cdv A outer s H vs Q E hr h => ?_)
  · obtain ⟨g, ls, c, lj, lo, lb, la, st, nv, x, rfl, _⟩ := h
    rfl
  · obtain ⟨g, ls, c, lj, lo, lb, la, st, nv, x, rfl, hG, hx, ok, n4, q⟩ := h
    obtain ⟨dx, hg⟩ := hG.obj
    obtain ⟨vs, hls, Ivs⟩ := hG.row
    obtain ⟨dxc, fl, gg, ho, hfl, hgg⟩ := hG.ch.obj
    obtain ⟨rs, hlo, Irs⟩ := hG.ch.row
    obtain ⟨bs, hlb, Ibs⟩ := hG.ch.bel
    obtain ⟨as, hla, Ias⟩ := hG.ch.ah
    obtain ⟨js, hlj, Ljs⟩ := hG.jm
    obtain ⟨pn, rfl, hpn⟩ := id hx
    refine ⟨_, pss_cons (ps_expr (pe_bm PySem.F.plainAttrs_list PySem.F.slot_list_append PySem.F.type_list_append mt_append (pe_fld (pv 0) rfl) (pa_cons (pe_callTy call_tupleT (by rfl) B.tuple b_tuple (pa_cons (pv 1) pa_nil)) pa_nil)))
      (pss_cons (ps_set (i := 2) scG1.nd rfl (.inl rfl) (pe_fld (pe_fld (pv 0) rfl) rfl))
      (pss_cons (ps_if (pt_cmpR op_gt (pe_callB call_len_seq (by rfl) B.len b_len (pa_cons (pe_fld (pv 0) rfl) pa_nil)) (pe_op op_add (pe_fld (pv 0) rfl) pe_int) (nomark _))
        (pss_one (ps_expr (pe_meth (pe_fld (pv 0) rfl) TC.cls mP FP hr bP .nil pass0 (pa_cons (pe_callTy call_tupleT (by rfl) B.tuple b_tuple (pa_cons (pv 1) pa_nil)) (pa_cons (pe_callB call_len_seq (by rfl) B.len b_len (pa_cons (pe_fld (pv 0) rfl) pa_nil)) pa_nil))))) pss_nil)
      (pss_one (ps_if (pt_cmpR op_gt (pe_fld (pe_fld (pv 0) rfl) rfl) (pv 2) (nomark _))
        (pss_one (ps_expr (pe_bm PySem.F.plainAttrs_list PySem.F.slot_list_append PySem.F.type_list_append mt_append (pe_fld (pv 0) rfl)
          (pa_cons (pe_tup (pa_cons (pe_callB call_len_seq (by rfl) B.len b_len (pa_cons (pe_fld (pv 0) rfl) pa_nil)) (pa_cons (pe_fld (pe_fld (pv 0) rfl) rfl) pa_nil))) pa_nil)))) pss_nil)))), ?_⟩
    -- so_far.append
    refine ⟨_, rfl, g, GC, dx, _, _, rfl, hg, T.cls, T.n2, rfl, .inl ⟨rfl, _, SqL.of hls⟩, _, rfl, pn, _, rfl, hpn, ls, vs, _, rfl, rfl, hls, ?_, ?_⟩
    · rw [Ivs.len]
      exact small1000 (by omega)
    have k1 : Keep [c, lo, ls, lj] H (upd H ls (.lst (vs ++ [.ref pn]))) := Keep.upd (by simp)
    have x1 : TExt H (upd H ls (.lst (vs ++ [.ref pn]))) := TExt.upd hls
    have ngl : ∀ {l : Addr} {xs : List V}, H l = some (.lst xs) → g ≠ l := fun h => ne_of hg h (by intro z; cases z)
    have ncl : ∀ {l : Addr} {xs : List V}, H l = some (.lst xs) → c ≠ l := fun h => hG.ch.nl h
    have ngc : g ≠ c := ne_of hg ho (by intro z; cases z)
    have hg1 : upd H ls (.lst (vs ++ [.ref pn])) g = some (.ins GC dx (gf st.off ls c lj)) := by rw [upd_ne (ngl hls)]; exact hg
    have ho1 : upd H ls (.lst (vs ++ [.ref pn])) c = some (.ins CC dxc (cf fl lo lb (st.ch.L : Int) la gg (st.ch.since : Int))) := by rw [upd_ne (ncl hls)]; exact ho
    have hfl1 : FldAt CE (upd H ls (.lst (vs ++ [.ref pn]))) fl := by
      obtain ⟨e, dxe, rfl, he⟩ := hfl
      exact ⟨e, dxe, rfl, by rw [upd_ne (ne_of he hls (by intro z; cases z))]; exact he⟩
    have hC1 : ChainAt K CC CE (upd H ls (.lst (vs ++ [.ref pn]))) c lo lb la st.ch :=
      ⟨⟨dxc, fl, gg, ho1, hfl1, hgg.ext x1⟩, ⟨rs, by rw [upd_ne hG.d1.symm]; exact hlo, Irs.ext x1⟩, ⟨bs, by rw [upd_ne hG.d2.symm]; exact hlb, Ibs.ext x1⟩, ⟨as, by rw [upd_ne hG.d3.symm]; exact hla, Ias.ext x1⟩, hG.ch.ob, hG.ch.oa⟩
    have hlj1 : upd H ls (.lst (vs ++ [.ref pn])) lj = some (.lst js) := by rw [upd_ne hG.d4.symm]; exact hlj
    have hx1 : NumAt K (upd H ls (.lst (vs ++ [.ref pn]))) (.ref pn) x := hx.ext x1
    have I1 : Items K (upd H ls (.lst (vs ++ [.ref pn]))) (vs ++ [.ref pn]) (st.n + 1) (st.put x).r := by
      refine Items.snoc ((Ivs.ext x1).congr fun i hi => ?_) ?_
      · show st.r i = if i = st.n then x else st.r i
        rw [if_neg (by omega)]
      · show NumAt K _ _ (if st.n = st.n then x else st.r st.n)
        rw [if_pos rfl]
        exact hx1
    -- ahead
    refine ⟨_, rfl, g, GC, dx, _, _, rfl, hg1, T.cls, T.n3, rfl, c, CC, dxc, _, _, rfl, ho1, TC.cls, TC.n4, rfl, ?_⟩
    refine ⟨_, rfl, g, GC, dx, _, _, rfl, hg1, T.cls, T.n2, rfl, ls, _, rfl, .inl (SqL.of upd_same), ?_⟩
    refine ⟨_, rfl, g, GC, dx, _, _, rfl, hg1, T.cls, T.n1, rfl, _, _, rfl, rfl, _, _, rfl, rfl, _, rfl, ?_⟩
    rw [I1.len]
    generalize hH1 : upd H ls (.lst (vs ++ [.ref pn])) = H1 at *
    have hls1 : H1 ls = some (.lst (vs ++ [.ref pn])) := by rw [← hH1, upd_same]
    -- what is left, whatever the chain is
    have last : ∀ (H2 : Hp) (lb2 la2 : Addr) (ch2 : ChS), Keep [c, lo, ls, lj] H H2 → ChainAt K CC CE H2 c lo lb2 la2 ch2 → H2 ls = some (.lst (vs ++ [.ref pn])) → H2 lj = some (.lst js) → H2 g = some (.ins GC dx (gf st.off ls c lj)) →
        Items K H2 (vs ++ [.ref pn]) (st.n + 1) (st.put x).r → ls ≠ lb2 → ls ≠ la2 → lj ≠ lb2 → lj ≠ la2 → (st.put x).ch = ch2 →
        tIfS (tTest (tOp (rI0 fun i j => .bl (decide (j < i))) (tFld K (tFld K (tVar 0) "chain") "at_length") (tVar 2)))
          (tDrop (tBM K "list" rAppend (tFld K (tVar 0) "own_jumps") (tCons (tTup (tCons (tCB (fun xs H Q => ∃ p ys, xs = [.ref p] ∧ (SqL K H p ys ∨ SqT K H p ys) ∧ Q (.int ys.length) H) (tCons (tFld K (tVar 0) "so_far") tNil)) (tCons (tFld K (tFld K (tVar 0) "chain") "at_length") tNil))) tNil))) tNext
          { nx := fun _ H' => Q .non H', rt := Q } [some (.ref g), some (.ref pn), some (.int (st.ch.L : Int))] H2 := by
      intro H2 lb2 la2 ch2 k2 hC2 hls2 hlj2 hg2 I2 e2 e3 e6 e7 ech
      obtain ⟨dx2, fl2, gg2, ho2, hfl2, hgg2⟩ := hC2.obj
      have goal : ∀ H3, Keep [lj] H2 H3 → (∃ ks, H3 lj = some (.lst ks) ∧ ks.length ≤ st.n + 1 + 1) → Q .non H3 := fun H3 k3 hk => by
        have x3 : TExt H2 H3 := k3.text fun b hb => by
          have e' : b = lj := by simpa using hb
          rw [e']
          exact .inl ⟨_, hlj2⟩
        obtain ⟨rs2, r1, r2⟩ := hC2.row
        obtain ⟨bs2, r3, r4⟩ := hC2.bel
        obtain ⟨as2, r5, r6⟩ := hC2.ah
        have ngj : g ≠ lj := ne_of hg2 hlj2 (by intro z; cases z)
        have ncj : c ≠ lj := hC2.nl hlj2
        have k4 : Keep [c, lo, ls, lj] H H3 := fun b o e n => k3 b o (k2 b o e n) (by
          intro z
          have e' : b = lj := by simpa using z
          exact n (by simp [e']))
        refine q H3 lb2 la2 k4 ⟨⟨dx, k3 _ _ hg2 (by simpa using ngj)⟩, ⟨_, k3 _ _ hls2 (by simpa using hG.d4), I2.ext x3⟩, ?_, hk, hG.d1, e2, e3, hG.d4, hG.d5, e6, e7⟩
        rw [ech]
        refine ⟨⟨dx2, fl2, gg2, k3 _ _ ho2 (by simpa using ncj), hfl2.keep k3 fun b hb => ?_, hgg2.ext x3⟩, ⟨rs2, k3 _ _ r1 (by simpa using hG.d5.symm), r2.ext x3⟩, ⟨bs2, k3 _ _ r3 (by simpa using e6.symm), r4.ext x3⟩, ⟨as2, k3 _ _ r5 (by simpa using e7.symm), r6.ext x3⟩, hC2.ob, hC2.oa⟩
        have e' : b = lj := by simpa using hb
        rw [e']
        exact .inl ⟨_, hlj2⟩
      refine ⟨_, rfl, g, GC, dx, _, _, rfl, hg2, T.cls, T.n3, rfl, c, CC, dx2, _, _, rfl, ho2, TC.cls, TC.n4, rfl, _, rfl, _, _, rfl, rfl, _, rfl, ite2 (fun _ => ?_) (fun _ => ?_)⟩
      · refine ⟨_, rfl, g, GC, dx, _, _, rfl, hg2, T.cls, T.n4, rfl, .inl ⟨rfl, _, SqL.of hlj2⟩, ?_⟩
        refine ⟨_, rfl, g, GC, dx, _, _, rfl, hg2, T.cls, T.n2, rfl, ls, _, rfl, .inl (SqL.of hls2), ?_⟩
        refine ⟨_, rfl, g, GC, dx, _, _, rfl, hg2, T.cls, T.n3, rfl, c, CC, dx2, _, _, rfl, ho2, TC.cls, TC.n4, rfl, (by show 2 ≤ sizeLine; decide), fun t ht => ?_⟩
        have st2 := same_upd (o := .tup [.int (((vs ++ [V.ref pn]).length : Nat) : Int), .int (ch2.L : Int)]) ht
        refine ⟨lj, js, _, rfl, rfl, st2 _ _ hlj2, small1000 (by omega), ?_⟩
        refine goal _ ((Keep.of st2).updN (by simp)) ⟨_, upd_same, ?_⟩
        rw [List.length_append, List.length_singleton]
        omega
      · exact goal _ (Keep.of (Same.refl _)) ⟨js, hlj2, by omega⟩
    refine ite2 (fun z => ?_) (fun z => ?_)
    · have z' : ((st.n + 1 : Nat) : Int) > st.off + 1 := of_decide_eq_true z
      obtain ⟨ok1, hk⟩ := ok z'
      refine ⟨_, rfl, g, GC, dx, _, _, rfl, hg1, T.cls, T.n3, rfl, c, dxc, _, rfl, ho1, rfl, _, rfl, pn, _, rfl, (x1.seqT hpn), ?_⟩
      refine ⟨_, rfl, g, GC, dx, _, _, rfl, hg1, T.cls, T.n2, rfl, ls, _, rfl, .inl (SqL.of hls1), ?_⟩
      refine ⟨c, lo, lb, la, st.ch, _, x, _, rfl, hC1, hx1, ok1, ?_, fun H2 lb2 la2 k2 hC2 hlb2 hla2 => ?_⟩
      · rw [I1.len]
        omega
      have x2 := text_two k2 ho1 (show H1 lo = some (.lst rs) by rw [← hH1, upd_ne hG.d1.symm]; exact hlo)
      have nlsc : ls ≠ c := (ncl hls).symm
      have nljc : lj ≠ c := (ncl hlj).symm
      have k12 : Keep [c, lo, ls, lj] H H2 := k1.trans fun b o e n => k2 b o e (by
        intro y
        have e' : b = c ∨ b = lo := by simpa using y
        rcases e' with y | y
        · exact n (by simp [y])
        · exact n (by simp [y]))
      have lsb : ls ≠ lb2 := by
        rcases hlb2 with y | y
        · rw [y]; exact hG.d2
        · exact ne_of_none hls1 y
      have ljb : lj ≠ lb2 := by
        rcases hlb2 with y | y
        · rw [y]; exact hG.d6
        · exact ne_of_none hlj1 y
      have lsa : ls ≠ la2 := by
        rcases hla2 with y | y
        · rw [y]; exact hG.d3
        · rw [y]; exact hG.d2
      have lja : lj ≠ la2 := by
        rcases hla2 with y | y
        · rw [y]; exact hG.d7
        · rw [y]; exact hG.d6
      refine last H2 lb2 la2 _ k12 hC2 (k2 _ _ hls1 ?_) (k2 _ _ hlj1 ?_) (k2 _ _ hg1 ?_) (I1.ext x2) lsb lsa ljb lja ?_
      · intro y
        have e' : ls = c ∨ ls = lo := by simpa using y
        exact e'.elim nlsc hG.d1
      · intro y
        have e' : lj = c ∨ lj = lo := by simpa using y
        exact e'.elim nljc hG.d5
      · intro y
        have e' : g = c ∨ g = lo := by simpa using y
        exact e'.elim ngc (ngl hlo)
      · show (if ((st.n + 1 : Nat) : Int) > st.off + 1 then st.ch.put x else st.ch) = st.ch.put x
        rw [if_pos z']
    · have z' : ¬ ((st.n + 1 : Nat) : Int) > st.off + 1 := fun y => z (decide_eq_true y)
      refine last H1 lb la _ k1 hC1 hls1 hlj1 hg1 I1 hG.d2 hG.d3 hG.d6 hG.d7 ?_
      show (if ((st.n + 1 : Nat) : Int) > st.off + 1 then st.ch.put x else st.ch) = st.ch
      rw [if_neg z']
end
end L2.FW
end
section
set_option Elab.async false
set_option linter.all false
set_option maxRecDepth 100000
namespace L2.FW
open PySem PySem.Spec PyProof.Rows
open FQ (Fit BB BB_eq FitP Ser IsLen Lt rowB)
/-! ### small defs over Exact() -/
abbrev sPoly : Stmt := topS 38
abbrev sDeg : Stmt := topS 39
abbrev sPLess : Stmt := topS 40
abbrev sPProd : Stmt := topS 41
abbrev sPParted : Stmt := topS 42
abbrev sQuoOf : Stmt := topS 44
abbrev sHts : Stmt := topS 45
theorem scPoly : FnScope ["numbers"] ["numbers"] (defScope sPoly) := ⟨rfl, rfl, rfl, by decide +kernel, rfl, by decide +kernel, by decide +kernel⟩
theorem scDeg : FnScope ["one"] ["one"] (defScope sDeg) := ⟨rfl, rfl, rfl, by decide +kernel, rfl, by decide +kernel, by decide +kernel⟩
theorem scPLess : FnScope ["one", "other"] ["one", "other"] (defScope sPLess) := ⟨rfl, rfl, rfl, by decide +kernel, rfl, by decide +kernel, by decide +kernel⟩
theorem scPProd : FnScope ["one", "other"] ["one", "other"] (defScope sPProd) := ⟨rfl, rfl, rfl, by decide +kernel, rfl, by decide +kernel, by decide +kernel⟩
theorem scPParted : FnScope ["one", "other"] ["one", "other"] (defScope sPParted) := ⟨rfl, rfl, rfl, by decide +kernel, rfl, by decide +kernel, by decide +kernel⟩
theorem scQuoOf : FnScope ["top", "below"] ["top", "below"] (defScope sQuoOf) := ⟨rfl, rfl, rfl, by decide +kernel, rfl, by decide +kernel, by decide +kernel⟩
theorem scHts : FnScope ["one"] ["one"] (defScope sHts) := ⟨rfl, rfl, rfl, by decide +kernel, rfl, by decide +kernel, by decide +kernel⟩
/-- a promise that wants the field first, without it -/
def spNoF (sp : Addr → Sp) (C : Addr) : Sp := fun vs H Q E => ∀ x dx, H x = none → H dx = none → dx ≠ x → sp C (.ref x :: vs) (upd (upd H dx (.own x)) x (.ins C dx [])) Q E
theorem same_make {H : Hp} {x dx C : Addr} (nx : H x = none) (nd : H dx = none) (ne : dx ≠ x) : Same H (upd (upd H dx (.own x)) x (.ins C dx [])) :=
  (same_upd (o := .own x) nd).trans (same_upd (o := .ins C dx []) (by rw [upd_ne ne.symm]; exact nx))
theorem fld_make {H : Hp} {x dx C : Addr} : FldAt C (upd (upd H dx (.own x)) x (.ins C dx [])) (.ref x) := ⟨x, dx, rfl, upd_same⟩
def spPoly (K : PySem.W.Frag) : Sp := fun vs H Q _ => ∃ nv n f, vs = [nv] ∧ SeqAt K H nv n f.co ∧ n ≤ 1000 ∧ Lt f n ∧ ∀ H' v, Same H H' → PolyAt K H' v f → Q v H'
def spDeg (K : PySem.W.Frag) : Sp := fun vs H Q _ => ∃ v f n, vs = [v] ∧ PolyAt K H v f ∧ IsLen f n ∧ Q (.int ((n : Int) - 1)) H
def spPLess (K : PySem.W.Frag) : Sp := fun vs H Q _ => ∃ a b f g, vs = [a, b] ∧ PolyAt K H a f ∧ PolyAt K H b g ∧ FitP f ∧ FitP g ∧ Lt f 400 ∧ Lt g 400 ∧ ∀ H' v, Same H H' → PolyAt K H' v (f - g) → Q v H'
def spPProd (K : PySem.W.Frag) : Sp := fun vs H Q _ => ∃ a b f g, vs = [a, b] ∧ PolyAt K H a f ∧ PolyAt K H b g ∧ FQ.MulOK f g ∧ Lt f 400 ∧ Lt g 400 ∧ ∀ H' v, Same H H' → PolyAt K H' v (f * g) → Q v H'
def spPParted (K : PySem.W.Frag) : Sp := fun vs H Q _ => ∃ a b f g nf ng, vs = [a, b] ∧ PolyAt K H a f ∧ PolyAt K H b g ∧ IsLen f nf ∧ IsLen g (ng + 1) ∧ FQ.DivOK f g (ng + 1) (nf + 1 - (ng + 1)) ∧ Lt f 400 ∧ Lt g 400 ∧
  ∀ H' v x y, Same H H' → PairAt K H' v x y → PolyAt K H' x (FQ.quo f g (ng + 1) (nf + 1 - (ng + 1))) → PolyAt K H' y (FQ.rem f g (ng + 1) (nf + 1 - (ng + 1))) → Q v H'
def spQuoOf (K : PySem.W.Frag) : Sp := fun vs H Q _ => ∃ x y f g a b, vs = [x, y] ∧ PolyAt K H x f ∧ PolyAt K H y g ∧ FQ.QuoOK f g a b ∧ ∀ H' v, Same H H' → QuoAt K H' v a b → Q v H'
def spHts (K : PySem.W.Frag) : Sp := fun vs H Q _ => ∃ v a b na nb, vs = [v] ∧ QuoAt K H v a b ∧ IsLen a na ∧ IsLen b nb ∧ ∀ H' v', Same H H' → PairAt K H' v' (.int ((na : Int) - 1)) (.int ((nb : Int) - 1)) → Q v' H'
section
variable {P : Program} {w : World} {K : PySem.W.Frag} {mg : Str → Option Value} {base : Heap} {k : Nat} {CE : Addr}
theorem gd_poly (ME : MkE K CE) (mE : mg "Exact" = some (.ref CE)) (a : At K mg "poly" sPoly) (G : Gd P w K mg base "trimmed" k ["field", "numbers"] (spTrim K CE)) : Gd P w K mg base "poly" (k + 1) ["numbers"] (spPoly K) := by
  obtain ⟨f, fd, F, g⟩ := a.ex
  refine ⟨f, fd, ?_, g, F.kp, F.binds fun _ _ _ _ _ _ us hl => match us, hl with | [_], _ => rfl⟩
  refine F.ok scPoly (fun vs H Q E h => ?_) (fun cdv A outer s H vs Q E hr h => ?_)
  · obtain ⟨nv, n, f, rfl, _⟩ := h
    rfl
  · obtain ⟨nv, n, f, rfl, hN, hn, hl, q⟩ := h
    refine ⟨_, pss_one (ps_ret (pe_gd G hr (by rfl) (pa_cons (pe_makeE ME (by rfl) mE) (pa_cons (pv 0) pa_nil)))), fun x dx nx nd ne => ?_⟩
    have s1 := same_make (C := CE) nx nd ne
    exact ⟨_, rfl, _, _, n, f, rfl, fld_make, hN.same s1, hn, hl, fun H' v sm hv => q _ _ (s1.trans sm) hv⟩
theorem gd_deg (B : Bi mg) (a : At K mg "degree" sDeg) : Gd P w K mg base "degree" (k + 1) ["one"] (spDeg K) := by
  obtain ⟨f, fd, F, g⟩ := a.ex
  refine ⟨f, fd, ?_, g, F.kp, F.binds fun _ _ _ _ _ _ us hl => match us, hl with | [_], _ => rfl⟩
  refine F.ok scDeg (fun vs H Q E h => ?_) (fun cdv A outer s H vs Q E hr h => ?_)
  · obtain ⟨v, f, n, rfl, _⟩ := h
    rfl
  · obtain ⟨v, f, n, rfl, hv, In, q⟩ := h
    obtain ⟨n', ⟨p, us, rfl, hp, Ip⟩, In'⟩ := id hv
    obtain rfl := In'.unique In
    refine ⟨_, pss_one (ps_ret (pe_op op_sub (pe_callB call_len_seq (by rfl) B.len b_len (pa_cons (pv 0) pa_nil)) pe_int)), _, rfl, p, us, rfl, .inr hp, _, _, rfl, rfl, ?_⟩
    rw [Ip.len]
    exact q
theorem gd_pless (ME : MkE K CE) (mE : mg "Exact" = some (.ref CE)) (a : At K mg "poly_less" sPLess) (G : Gd P w K mg base "less_by" k ["field", "left", "right"] (spLess K CE)) : Gd P w K mg base "poly_less" (k + 1) ["one", "other"] (spPLess K) := by
  obtain ⟨f, fd, F, g⟩ := a.ex
  refine ⟨f, fd, ?_, g, F.kp, F.binds fun _ _ _ _ _ _ us hl => match us, hl with | [_, _], _ => rfl⟩
  refine F.ok scPLess (fun vs H Q E h => ?_) (fun cdv A outer s H vs Q E hr h => ?_)
  · obtain ⟨a, b, f, g, rfl, _⟩ := h
    rfl
  · obtain ⟨a, b, f, g, rfl, ha, hb, fa, fb, la, lb, q⟩ := h
    refine ⟨_, pss_one (ps_ret (pe_gd G hr (by rfl) (pa_cons (pe_makeE ME (by rfl) mE) (pa_cons (pv 0) (pa_cons (pv 1) pa_nil))))), fun x dx nx nd ne => ?_⟩
    have s1 := same_make (C := CE) nx nd ne
    exact ⟨_, rfl, _, rfl, _, _, _, f, g, rfl, fld_make, ha.ext s1.text, hb.ext s1.text, fa, fb, la, lb, fun H' v sm hv => q _ _ (s1.trans sm) hv⟩
theorem gd_pprod (ME : MkE K CE) (mE : mg "Exact" = some (.ref CE)) (a : At K mg "poly_product" sPProd) (G : Gd P w K mg base "product_by" k ["field", "left", "right"] (spProd K CE)) : Gd P w K mg base "poly_product" (k + 1) ["one", "other"] (spPProd K) := by
  obtain ⟨f, fd, F, g⟩ := a.ex
  refine ⟨f, fd, ?_, g, F.kp, F.binds fun _ _ _ _ _ _ us hl => match us, hl with | [_, _], _ => rfl⟩
  refine F.ok scPProd (fun vs H Q E h => ?_) (fun cdv A outer s H vs Q E hr h => ?_)
  · obtain ⟨a, b, f, g, rfl, _⟩ := h
    rfl
  · obtain ⟨a, b, f, g, rfl, ha, hb, ok, la, lb, q⟩ := h
    refine ⟨_, pss_one (ps_ret (pe_gd G hr (by rfl) (pa_cons (pe_makeE ME (by rfl) mE) (pa_cons (pv 0) (pa_cons (pv 1) pa_nil))))), fun x dx nx nd ne => ?_⟩
    have s1 := same_make (C := CE) nx nd ne
    exact ⟨_, rfl, _, rfl, _, _, _, f, g, rfl, fld_make, ha.ext s1.text, hb.ext s1.text, ok, la, lb, fun H' v sm hv => q _ _ (s1.trans sm) hv⟩
theorem gd_pparted (ME : MkE K CE) (mE : mg "Exact" = some (.ref CE)) (a : At K mg "parted" sPParted) (G : Gd P w K mg base "parted_by" k ["field", "left", "right"] (spPart K CE)) : Gd P w K mg base "parted" (k + 1) ["one", "other"] (spPParted K) := by
  obtain ⟨f, fd, F, g⟩ := a.ex
  refine ⟨f, fd, ?_, g, F.kp, F.binds fun _ _ _ _ _ _ us hl => match us, hl with | [_, _], _ => rfl⟩
  refine F.ok scPParted (fun vs H Q E h => ?_) (fun cdv A outer s H vs Q E hr h => ?_)
  · obtain ⟨a, b, f, g, nf, ng, rfl, _⟩ := h
    rfl
  · obtain ⟨a, b, f, g, nf, ng, rfl, ha, hb, If, Ig, ok, la, lb, q⟩ := h
    refine ⟨_, pss_one (ps_ret (pe_gd G hr (by rfl) (pa_cons (pe_makeE ME (by rfl) mE) (pa_cons (pv 0) (pa_cons (pv 1) pa_nil))))), fun x dx nx nd ne => ?_⟩
    have s1 := same_make (C := CE) nx nd ne
    exact ⟨_, rfl, _, rfl, _, _, _, f, g, nf, ng, rfl, fld_make, ha.ext s1.text, hb.ext s1.text, If, Ig, ok, la, lb, fun H' v x y sm hv => q _ _ _ _ (s1.trans sm) hv⟩
theorem gd_quoOf (ME : MkE K CE) (mE : mg "Exact" = some (.ref CE)) (a : At K mg "quotient_of" sQuoOf) (G : Gd P w K mg base "quotient_in" k ["field", "top", "below"] (spQuoIn K CE)) : Gd P w K mg base "quotient_of" (k + 1) ["top", "below"] (spQuoOf K) := by
  obtain ⟨f, fd, F, g⟩ := a.ex
  refine ⟨f, fd, ?_, g, F.kp, F.binds fun _ _ _ _ _ _ us hl => match us, hl with | [_, _], _ => rfl⟩
  refine F.ok scQuoOf (fun vs H Q E h => ?_) (fun cdv A outer s H vs Q E hr h => ?_)
  · obtain ⟨x, y, f, g, a, b, rfl, _⟩ := h
    rfl
  · obtain ⟨x, y, f, g, a, b, rfl, ha, hb, ok, q⟩ := h
    refine ⟨_, pss_one (ps_ret (pe_gd G hr (by rfl) (pa_cons (pe_makeE ME (by rfl) mE) (pa_cons (pv 0) (pa_cons (pv 1) pa_nil))))), fun x dx nx nd ne => ?_⟩
    have s1 := same_make (C := CE) nx nd ne
    exact ⟨_, rfl, _, rfl, _, _, _, f, g, a, b, rfl, fld_make, ha.ext s1.text, hb.ext s1.text, ok, fun H' v sm hv => q _ _ (s1.trans sm) hv⟩
theorem gd_hts (a : At K mg "heights" sHts) (G : Gd P w K mg base "degree" k ["one"] (spDeg K)) : Gd P w K mg base "heights" (k + 1) ["one"] (spHts K) := by
  obtain ⟨f, fd, F, g⟩ := a.ex
  refine ⟨f, fd, ?_, g, F.kp, F.binds fun _ _ _ _ _ _ us hl => match us, hl with | [_], _ => rfl⟩
  refine F.ok scHts (fun vs H Q E h => ?_) (fun cdv A outer s H vs Q E hr h => ?_)
  · obtain ⟨v, a, b, na, nb, rfl, _⟩ := h
    rfl
  · obtain ⟨v, a, b, na, nb, rfl, ⟨x, y, ⟨p, rfl, hp⟩, hx, hy⟩, Ia, Ib, q⟩ := h
    refine ⟨_, pss_one (ps_ret (pe_tup (pa_cons (pe_gd G hr (by rfl) (pa_cons (pe_ix ix_tup (pv 0) pe_int (fun _ _ => rfl)) pa_nil)) (pa_cons (pe_gd G hr (by rfl) (pa_cons (pe_ix ix_tup (pv 0) pe_int (fun _ _ => rfl)) pa_nil)) pa_nil)))), ?_⟩
    refine ⟨_, rfl, p, _, 0, _, rfl, rfl, hp, at0, x, a, na, rfl, hx, Ia, _, rfl, p, _, 1, _, rfl, rfl, hp, at1, y, b, nb, rfl, hy, Ib, (by show 2 ≤ sizeLine; decide), fun t ht => ?_⟩
    exact q _ _ (same_upd ht) ⟨t, rfl, .inl (.inl upd_same)⟩
end
/-! ### equations -/
abbrev sNBef : Stmt := topS 48
abbrev sClr : Stmt := topS 49
abbrev sFst : Stmt := topS 50
abbrev sPAt : Stmt := topS 53
theorem scNBef : FnScope ["field", "row", "place"] ["field", "row", "place"] (defScope sNBef) := ⟨rfl, rfl, rfl, by decide +kernel, rfl, by decide +kernel, by decide +kernel⟩
theorem scClr : FnScope ["field", "line", "pivot", "column", "share", "number", "other"] ["field", "line", "pivot", "column"] (defScope sClr) := ⟨rfl, rfl, rfl, by decide +kernel, rfl, by decide +kernel, by decide +kernel⟩
theorem scFst : FnScope ["field", "line", "width", "column"] ["field", "line", "width"] (defScope sFst) := ⟨rfl, rfl, rfl, by decide +kernel, rfl, by decide +kernel, by decide +kernel⟩
theorem scPAt : FnScope ["field", "row", "below", "place", "found", "j", "number"] ["field", "row", "below", "place"] (defScope sPAt) := ⟨rfl, rfl, rfl, by decide +kernel, rfl, by decide +kernel, by decide +kernel⟩
def spNBef (K : PySem.W.Frag) (C : Addr) : Sp := fun vs H Q _ => ∃ fl rv n r z, vs = [fl, rv, .int z] ∧ FldAt C H fl ∧ LsAt K H rv n r ∧ z < (n : Int) ∧ ∀ H' v, Same H H' → NumAt K H' v (rowB r z) → Q v H'
def spClr (K : PySem.W.Frag) (C : Addr) : Sp := fun vs H Q _ => ∃ fl a b l p wd c, vs = [fl, a, b, .int ((c : Nat) : Int)] ∧ FldAt C H fl ∧ LsAt K H a wd l ∧ LsAt K H b wd p ∧ FQ.ClrOK wd l p c ∧ wd ≤ 400 ∧ ∀ H' v, Same H H' → LsAt K H' v wd (FQ.clr l p c) → Q v H'
def spFst (K : PySem.W.Frag) (C : Addr) : Sp := fun vs H Q _ => ∃ fl a l wd, vs = [fl, a, .int ((wd : Nat) : Int)] ∧ FldAt C H fl ∧ LsAt K H a wd l ∧ wd ≤ 400 ∧ (FQ.firstNZ l wd = none → Q .non H) ∧ ∀ c, FQ.firstNZ l wd = some c → Q (.int ((c : Nat) : Int)) H
def spPAt (K : PySem.W.Frag) (C : Addr) : Sp := fun vs H Q _ => ∃ fl rv bv n r nb g place, vs = [fl, rv, bv, .int ((place : Nat) : Int)] ∧ FldAt C H fl ∧ LsAt K H rv n r ∧ LsAt K H bv nb g ∧ place < n ∧ FQ.PatOK g nb r place ∧ ∀ H' v, Same H H' → NumAt K H' v (FQ.patS g r place nb) → Q v H'
theorem fnz_some {l : FQ.Line} : ∀ {w c : Nat}, FQ.firstNZ l w = some c → c < w ∧ l c ≠ 0 ∧ ∀ i, i < c → l i = 0
  | 0, c, h => by cases h
  | w + 1, c, h => by
    unfold FQ.firstNZ at h
    cases e : FQ.firstNZ l w with
    | some d =>
      rw [e] at h
      cases h
      obtain ⟨a, b, c⟩ := fnz_some e
      exact ⟨by omega, b, c⟩
    | none =>
      rw [e] at h
      by_cases hz : l w = 0
      · simp [hz] at h
      · simp only [if_neg hz] at h
        cases h
        refine ⟨by omega, hz, fun i hi => ?_⟩
        have key : ∀ {v : Nat}, FQ.firstNZ l v = none → ∀ i, i < v → l i = 0 := fun {v} => by
          induction v with
          | zero => intro _ i hi; omega
          | succ v ih =>
            intro h i hi
            unfold FQ.firstNZ at h
            cases e2 : FQ.firstNZ l v with
            | some d => rw [e2] at h; cases h
            | none =>
              rw [e2] at h
              by_cases hz2 : l v = 0
              · by_cases q : i = v
                · rw [q, hz2]
                · exact ih e2 i (by omega)
              · simp only [if_neg hz2] at h
                cases h
        exact key e i hi
theorem fnz_none {l : FQ.Line} : ∀ {v : Nat}, FQ.firstNZ l v = none → ∀ i, i < v → l i = 0
  | 0, _, i, hi => by omega
  | v + 1, h, i, hi => by
    unfold FQ.firstNZ at h
    cases e2 : FQ.firstNZ l v with
    | some d => rw [e2] at h; cases h
    | none =>
      rw [e2] at h
      by_cases hz2 : l v = 0
      · by_cases q : i = v
        · rw [q, hz2]
        · exact fnz_none e2 i (by omega)
      · simp only [if_neg hz2] at h
        cases h
theorem fnz_of {l : FQ.Line} {c : Nat} (hc : l c ≠ 0) (hz : ∀ i, i < c → l i = 0) {w : Nat} (h : c < w) : FQ.firstNZ l w = some c := by
  cases e : FQ.firstNZ l w with
  | none => exact absurd (fnz_none e c h) hc
  | some d =>
    obtain ⟨a, b, z⟩ := fnz_some e
    rcases Nat.lt_trichotomy c d with q | q | q
    · exact absurd (z c q) hc
    · rw [q]
    · exact absurd (hz d q) b
theorem fnz_zero {l : FQ.Line} {w : Nat} (hz : ∀ i, i < w → l i = 0) : FQ.firstNZ l w = none := by
  cases e : FQ.firstNZ l w with
  | none => rfl
  | some d =>
    obtain ⟨a, b, _⟩ := fnz_some e
    exact absurd (hz d a) b
section
variable {P : Program} {w : World} {K : PySem.W.Frag} {mg : Str → Option Value} {base : Heap} {k : Nat} {CE : Addr}
theorem gd_nbef (X : Fld P w K mg base CE k) (a : At K mg "number_before" sNBef) : Gd P w K mg base "number_before" (k + 1) ["field", "row", "place"] (spNBef K CE) := by
  obtain ⟨f, fd, F, g⟩ := a.ex
  obtain ⟨fI, fdI, FI, mI, bI⟩ := X.nought.ex
  refine ⟨f, fd, ?_, g, F.kp, F.binds fun _ _ _ _ _ _ us hl => match us, hl with | [_, _, _], _ => rfl⟩
  refine F.ok scNBef (fun vs H Q E h => ?_) (fun cdv A outer s H vs Q E hr h => ?_)
  · obtain ⟨fl, rv, n, r, z, rfl, _⟩ := h
    rfl
  · obtain ⟨fl, rv, n, r, z, rfl, ⟨e, dx, rfl, he⟩, ⟨p, us, rfl, hp, Ip⟩, hz, q⟩ := h
    refine ⟨_, pss_cons (ps_if (pt_cmpR op_lt (pv 2) pe_int (nomark _)) (pss_one (ps_ret (pe_meth0 (pv 0) X.cls mI FI hr bI .nil pass0))) pss_nil) (pss_one (ps_ret (pe_ix ix_list (pv 1) (pv 2) (fun _ _ => rfl)))), ?_⟩
    refine ⟨_, rfl, _, _, rfl, rfl, _, rfl, ite2 (fun c => ?_) (fun c => ?_)⟩
    · have c' : z < 0 := of_decide_eq_true c
      refine ⟨_, rfl, e, dx, _, rfl, he, rfl, _, rfl, fun H' v sm hv => q _ _ sm ?_⟩
      unfold rowB
      rw [if_pos c']
      exact hv
    · have c' : ¬ z < 0 := fun y => c (decide_eq_true y)
      obtain ⟨v, ev, hv⟩ := Ip.at_ z.toNat (by omega)
      refine ⟨_, rfl, _, rfl, p, us, z, v, rfl, rfl, hp, atN (by omega) ev, q _ _ (Same.refl _) ?_⟩
      unfold rowB
      rw [if_neg c']
      exact hv
theorem gd_fst (B : Bi mg) (X : Fld P w K mg base CE k) (a : At K mg "first_column" sFst) : Gd P w K mg base "first_column" (k + 1) ["field", "line", "width"] (spFst K CE) := by
  obtain ⟨f, fd, F, g⟩ := a.ex
  obtain ⟨fI, fdI, FI, mI, bI⟩ := X.isn.ex
  refine ⟨f, fd, ?_, g, F.kp, F.binds fun _ _ _ _ _ _ us hl => match us, hl with | [_, _, _], _ => rfl⟩
  refine F.ok scFst (fun vs H Q E h => ?_) (fun cdv A outer s H vs Q E hr h => ?_)
  · obtain ⟨fl, a, l, wd, rfl, _⟩ := h
    rfl
  · obtain ⟨fl, a, l, wd, rfl, ⟨e, dx, rfl, he⟩, ⟨p, us, rfl, hp, Ip⟩, hw, q1, q2⟩ := h
    refine ⟨_, pss_cons (ps_for PassesOwn.never rfl (pi_range1 (by rfl) B.range (pa_cons (pv 2) pa_nil)) (pg_name (i := 3) scFst.nd rfl (.inl rfl))
        (pss_one (ps_if (pt_not (pt_val (pe_meth (pv 0) X.cls mI FI hr bI .nil pass0 (pa_cons (pe_ix ix_list (pv 1) (pv 3) (fun _ _ => rfl)) pa_nil)))) (pss_one (ps_ret (pv 3))) pss_nil)))
      (pss_one (ps_ret pe_non)), ?_⟩
    refine ⟨_, rfl, _, rfl, by omega, by omega, ?_⟩
    rw [Int.toNat_natCast]
    refine for_rng0 (fun i σ H' => H = H' ∧ ∃ y, σ = [some (.ref e), some (.ref p), some (.int ((wd : Nat) : Int)), y] ∧ ∀ j, j < i → l j = 0) ⟨rfl, none, rfl, fun j hj => absurd hj (Nat.not_lt_zero _)⟩ ?_ ?_
    · rintro i σ H' hi ⟨eH, y, rfl, hz⟩
      subst eH
      obtain ⟨v, ev, hv⟩ := Ip.at_ i hi
      refine ⟨_, rfl, e, dx, _, rfl, he, rfl, _, rfl, _, rfl, p, us, _, v, rfl, rfl, hp, atI_nat ev, _, v, l i, rfl, hv, _, rfl, ?_⟩
      by_cases c : l i = 0
      · rw [decide_eq_true c]
        refine iteF ⟨rfl, _, rfl, fun j hj => ?_⟩
        by_cases ej : j = i
        · rw [ej, c]
        · exact hz j (by omega)
      · rw [decide_eq_false c]
        exact iteT ⟨_, rfl, q2 i (fnz_of c hz hi)⟩
    · rintro σ H' ⟨eH, y, rfl, hz⟩
      subst eH
      exact q1 (fnz_zero hz)
theorem gd_pat (B : Bi mg) (X : Fld P w K mg base CE k) (a : At K mg "product_at" sPAt) (GN : Gd P w K mg base "number_before" k ["field", "row", "place"] (spNBef K CE)) : Gd P w K mg base "product_at" (k + 1) ["field", "row", "below", "place"] (spPAt K CE) := by
  obtain ⟨f, fd, F, g⟩ := a.ex
  obtain ⟨fI, fdI, FI, mI, bI⟩ := X.nought.ex
  obtain ⟨fP, fdP, FP, mP, bP⟩ := X.plus.ex
  obtain ⟨fM, fdM, FM, mM, bM⟩ := X.times.ex
  refine ⟨f, fd, ?_, g, F.kp, F.binds fun _ _ _ _ _ _ us hl => match us, hl with | [_, _, _, _], _ => rfl⟩
  refine F.ok scPAt (fun vs H Q E h => ?_) (fun cdv A outer s H vs Q E hr h => ?_)
  · obtain ⟨fl, rv, bv, n, r, nb, g, place, rfl, _⟩ := h
    rfl
  · obtain ⟨fl, rv, bv, n, r, nb, g, place, rfl, ⟨e, dx, rfl, he⟩, hR, ⟨p, us, rfl, hp, Ip⟩, hpl, ok, q⟩ := h
    refine ⟨_, pss_cons (ps_set (i := 4) scPAt.nd rfl (.inl rfl) (pe_meth0 (pv 0) X.cls mI FI hr bI .nil pass0))
      (pss_cons (ps_for PassesOwn.never rfl (pi_enum (by rfl) B.enumerate (pa_cons (pv 2) pa_nil)) (pg_tup rfl (pgs_cons (pg_name (i := 5) scPAt.nd rfl (.inl rfl)) (pgs_cons (pg_name (i := 6) scPAt.nd rfl (.inl rfl)) pgs_nil)))
        (pss_one (ps_set (i := 4) scPAt.nd rfl (.inl rfl) (pe_meth (pv 0) X.cls mP FP hr bP .nil pass0 (pa_cons (pv 4) (pa_cons (pe_meth (pv 0) X.cls mM FM hr bM .nil pass0 (pa_cons (pv 6) (pa_cons (pe_gd GN hr (by rfl) (pa_cons (pv 0) (pa_cons (pv 1) (pa_cons (pe_op op_sub (pv 3) (pv 5)) pa_nil)))) pa_nil))) pa_nil))))))
      (pss_one (ps_ret (pv 4)))), ?_⟩
    refine ⟨_, rfl, e, dx, _, rfl, he, rfl, _, rfl, fun H1 v1 s1 h1 => ?_⟩
    refine ⟨_, rfl, p, us, rfl, s1.seq hp, ?_⟩
    refine for_enumL (K := K) (a := p) (xs := us) (fun j σ H' => ∃ t y5 y6, σ = [some (.ref e), some rv, some (.ref p), some (.int ((place : Nat) : Int)), some t, y5, y6] ∧ Same H H' ∧ NumAt K H' t (FQ.patS g r place j)) ⟨v1, none, none, rfl, s1, h1⟩ (fun i σ H' _ ⟨_, _, _, _, sm, _⟩ => sm.seq hp) ?_ ?_
    · rintro j x σ H' T ex ⟨t, y5, y6, rfl, sm, ht⟩ hT
      have hj : j < nb := by
        rw [← Ip.len]
        exact (List.getElem?_eq_some_iff.mp ex).1
      have sT := same_upd (o := .tup [.int ((j : Nat) : Int), x]) hT
      have smT := sm.trans sT
      have hx := ((Ip.ext sm.text).get ex).mono sT
      refine g_pair (.inl (.inl upd_same)) ?_
      refine ⟨_, rfl, e, dx, _, rfl, smT _ _ he, rfl, _, rfl, _, rfl, e, dx, _, rfl, smT _ _ he, rfl, _, rfl, _, rfl, _, rfl, _, rfl, _, rfl, _, _, rfl, rfl, ?_⟩
      refine ⟨_, _, n, r, _, rfl, ⟨e, dx, rfl, smT _ _ he⟩, hR.same smT, by omega, fun H2 v2 s2 h2 => ?_⟩
      refine ⟨_, x, v2, _, _, rfl, hx.mono s2, h2, ok.fg j hj, ok.fr j hj, trivial, fun H3 v3 s3 h3 => ?_⟩
      refine ⟨_, t, v3, _, _, rfl, ht.mono (sT.trans (s2.trans s3)), h3, ok.pt j (by omega), ok.pr j hj, trivial, fun H4 v4 s4 h4 => ?_⟩
      exact ⟨v4, _, _, rfl, smT.trans (s2.trans (s3.trans s4)), h4⟩
    · rintro σ H' ⟨t, y5, y6, rfl, sm, ht⟩
      rw [Ip.len] at ht
      exact ⟨_, rfl, q _ _ sm ht⟩
end
end L2.FW
end
section
set_option Elab.async false
set_option linter.all false
set_option maxRecDepth 100000
namespace L2.FW
open PySem PySem.Spec PyProof.Rows
open FQ (Fit BB BB_eq FitP Ser IsLen Lt rowB)
theorem lc_zip {K : PySem.W.Frag} {a b : Addr} {xs ys : List V} {n : Nat} {g : TG} {tt : TT} {te : TE} {vs : List Nat} {σ : St} {H1 : Hp} {D : Addr} {Qd : Hp → Prop} (hx : xs.length = n) (hy : ys.length = n) (Pv : Nat → Hp → Prop) (h0 : Pv 0 (upd H1 D (.lst []))) (hl : ∀ i H, i ≤ n → Pv i H → SqL K H a xs ∧ SqL K H b ys)
    (hs : ∀ i x y H T, xs[i]? = some x → ys[i]? = some y → Pv i H → H T = none → g (.ref T) (wipe σ vs) (upd H T (.tup [x, y])) fun σ2 H2 => wipe σ2 vs = wipe σ vs ∧ tt σ2 H2 fun b H3 =>
      if b = true then te σ2 H3 fun y H4 => ∃ acc, H4 D = some (.lst acc) ∧ acc.length < sizeLine ∧ Pv (i + 1) (upd H4 D (.lst (acc ++ [y]))) else Pv (i + 1) H3) (hd : ∀ H, Pv n H → Qd H) :
    ∃ W : Nat → Nat → Hp → Prop, (∃ m, W 0 m (upd H1 D (.lst []))) ∧ ∀ i m H, W i m H →
      ((Itz K a b).stop i H ∧ Qd H) ∨ ((Itz K a b).go i H ∧ ∃ Nx : Hp → Prop, (∀ H', Nx H' → ∃ m', m' < m ∧ W (i + 1) m' H') ∧ ∀ x H', (Itz K a b).yld i H x H' → g x (wipe σ vs) H' fun σ2 H2 => wipe σ2 vs = wipe σ vs ∧ tt σ2 H2 fun b H3 =>
        if b = true then te σ2 H3 fun y H4 => ∃ acc, H4 D = some (.lst acc) ∧ acc.length < sizeLine ∧ Nx (upd H4 D (.lst (acc ++ [y]))) else Nx H3) := by
  refine ⟨fun i m H => m = n - i ∧ i ≤ n ∧ Pv i H, ⟨n, by simp, Nat.zero_le _, h0⟩, ?_⟩
  rintro i m H ⟨rfl, hi, p⟩
  obtain ⟨q1, q2⟩ := hl i H hi p
  by_cases hlt : i < n
  · refine .inr ⟨⟨xs, ys, xs[i], ys[i], q1, q2, by simp [hx, hlt], by simp [hy, hlt]⟩, Pv (i + 1), fun H' p' => ⟨n - (i + 1), by omega, rfl, hlt, p'⟩, fun x H' y => ?_⟩
    obtain ⟨T, x1, y1, rfl, hT, rfl, e1, e2⟩ := y
    exact hs i x1 y1 H T (e1 xs q1) (e2 ys q2) p hT
  · have e : i = n := by omega
    subst e
    exact .inl ⟨⟨xs, ys, q1, q2, .inl (by omega)⟩, hd H p⟩
/-- a tracked list of numbers -/
def LnAt (K : PySem.W.Frag) (H : Hp) (p : Addr) (wd : Nat) (l : Nat → Rat) : Prop := ∃ ls, H p = some (.lst ls) ∧ Items K H ls wd l
theorem LnAt.same {K : PySem.W.Frag} {H H' : Hp} {p : Addr} {wd : Nat} {l : Nat → Rat} (h : LnAt K H p wd l) (s : Same H H') : LnAt K H' p wd l := let ⟨ls, a, b⟩ := h; ⟨ls, s _ _ a, b.ext s.text⟩
theorem LnAt.upd {K : PySem.W.Frag} {H : Hp} {p D : Addr} {wd : Nat} {l : Nat → Rat} {xs : List V} {o : HO} (h : LnAt K H p wd l) (hD : H D = some (.lst xs)) (n : p ≠ D) : LnAt K (L2.upd H D o) p wd l :=
  let ⟨ls, a, b⟩ := h; ⟨ls, by rw [upd_ne n]; exact a, b.ext (TExt.upd hD)⟩
theorem LnAt.ls {K : PySem.W.Frag} {H : Hp} {p : Addr} {wd : Nat} {l : Nat → Rat} (h : LnAt K H p wd l) : LsAt K H (.ref p) wd l := let ⟨ls, a, b⟩ := h; ⟨p, ls, rfl, SqL.of a, b⟩
theorem LnAt.ne {K : PySem.W.Frag} {H : Hp} {p D : Addr} {wd : Nat} {l : Nat → Rat} (h : LnAt K H p wd l) (hD : H D = none) : p ≠ D := let ⟨_, a, _⟩ := h; ne_of_none a hD
def spClrT (K : PySem.W.Frag) (C : Addr) : Sp := fun vs H Q _ => ∃ fl a b l p wd c, vs = [fl, .ref a, .ref b, .int ((c : Nat) : Int)] ∧ FldAt C H fl ∧ LnAt K H a wd l ∧ LnAt K H b wd p ∧ FQ.ClrOK wd l p c ∧ wd ≤ 400 ∧
  ∀ H' q, Same H H' → LnAt K H' q wd (FQ.clr l p c) → (q = a ∨ H q = none) → Q (.ref q) H'
section
variable {P : Program} {w : World} {K : PySem.W.Frag} {mg : Str → Option Value} {base : Heap} {k : Nat} {CE : Addr}
theorem gd_clr (B : Bi mg) (X : Fld P w K mg base CE k) (a : At K mg "cleared" sClr) : Gd P w K mg base "cleared" (k + 1) ["field", "line", "pivot", "column"] (spClrT K CE) := by
  obtain ⟨f, fd, F, g⟩ := a.ex
  obtain ⟨fI, fdI, FI, mI, bI⟩ := X.isn.ex
  obtain ⟨fO, fdO, FO, mO, bO⟩ := X.over.ex
  obtain ⟨fS, fdS, FS, mS, bS⟩ := X.minus.ex
  obtain ⟨fM, fdM, FM, mM, bM⟩ := X.times.ex
  refine ⟨f, fd, ?_, g, F.kp, F.binds fun _ _ _ _ _ _ us hl => match us, hl with | [_, _, _, _], _ => rfl⟩
  refine F.ok scClr (fun vs H Q E h => ?_) (fun cdv A outer s H vs Q E hr h => ?_)
  · obtain ⟨fl, a, b, l, p, wd, c, rfl, _⟩ := h
    rfl
  · obtain ⟨fl, a, b, l, p, wd, c, rfl, ⟨e, dx, rfl, he⟩, ⟨ls, ha, Ia⟩, ⟨ps, hb, Ib⟩, ok, hw, q⟩ := h
    refine ⟨_, pss_cons (ps_if (pt_val (pe_meth (pv 0) X.cls mI FI hr bI .nil pass0 (pa_cons (pe_ix ix_list (pv 1) (pv 3) (fun _ _ => rfl)) pa_nil))) (pss_one (ps_ret (pv 1))) pss_nil)
      (pss_cons (ps_set (i := 4) scClr.nd rfl (.inr rfl) (pe_meth (pv 0) X.cls mO FO hr bO .nil pass0 (pa_cons (pe_ix ix_list (pv 1) (pv 3) (fun _ _ => rfl)) (pa_cons (pe_ix ix_list (pv 2) (pv 3) (fun _ _ => rfl)) pa_nil))))
      (pss_one (ps_ret (pe_lc (own := [("number", 5), ("other", 6)]) (g := gTup K 2 (gCons (gName 5) (gCons (gName 6) gNil))) (tt := tYes)
        (te := tMeth CE "minus" (spM2 K (fun x y => x - y) okT) [] E0 (tVar 0) (tCons (tVar 5) (tCons (tMeth CE "times" (spM2 K (fun x y => x * y) okT) [] E0 (tVar 0) (tCons (tVar 4) (tCons (tVar 6) tNil))) tNil)))
        rfl scClr.nd (pi_zip (by rfl) B.zip (pa_cons (pv 1) (pa_cons (pv 2) pa_nil))) (blkOk_by (N := ["field", "line", "pivot", "column", "share", "number", "other"]) (sc := defScope sClr) (by decide +kernel))
        (fun _ _ _ _ _ => pg_tup rfl (pgs_cons (pg_name (i := 5) scClr.nd rfl (.inl rfl)) (pgs_cons (pg_name (i := 6) scClr.nd rfl (.inl rfl)) pgs_nil))) (fun _ _ _ _ _ => pts_nil)
        (fun _ _ _ _ _ => pe_meth (pv 0) X.cls mS FS hr bS .nil pass0 (pa_cons (pv 5) (pa_cons (pe_meth (pv 0) X.cls mM FM hr bM .nil pass0 (pa_cons (pv 4) (pa_cons (pv 6) pa_nil))) pa_nil))))))), ?_⟩
    obtain ⟨v, ev, hv⟩ := Ia.at_ c ok.cw
    obtain ⟨u, eu, hu⟩ := Ib.at_ c ok.cw
    refine ⟨_, rfl, e, dx, _, rfl, he, rfl, _, rfl, _, rfl, a, ls, _, v, rfl, rfl, SqL.of ha, atI_nat ev, _, v, l c, rfl, hv, _, rfl, ?_⟩
    by_cases hz : l c = 0
    · rw [decide_eq_true hz]
      refine iteT ⟨_, rfl, q H a (Same.refl _) ⟨ls, ha, Ia.congr fun i _ => ?_⟩ (.inl rfl)⟩
      show l i = l i - l c / p c * p i
      rw [hz]
      grind
    · rw [decide_eq_false hz]
      refine iteF ⟨_, rfl, e, dx, _, rfl, he, rfl, _, rfl, _, rfl, a, ls, _, v, rfl, rfl, SqL.of ha, atI_nat ev, _, rfl, _, rfl, b, ps, _, u, rfl, rfl, SqL.of hb, atI_nat eu, ?_⟩
      refine ⟨_, v, u, _, _, rfl, hv, hu, ok.fl c ok.cw, ok.fp c ok.cw, ok.pc, fun H1 v1 s1 h1 => ?_⟩
      refine ⟨_, rfl, _, rfl, a, b, ls, ps, rfl, SqL.of (s1 _ _ ha), SqL.of (s1 _ _ hb), fun D hD => ?_⟩
      refine lc_zip (K := K) Ia.len Ib.len (fun i H'' => Same H1 H'' ∧ ∃ ys, H'' D = some (.lst ys) ∧ Items K H'' ys i (FQ.clr l p c)) ⟨same_upd hD, [], upd_same, .nil⟩ (fun i H'' _ hP => ⟨SqL.of (hP.1 _ _ (s1 _ _ ha)), SqL.of (hP.1 _ _ (s1 _ _ hb))⟩) ?_ ?_
      · rintro i x y H2 T ex ey ⟨s2, ys, hd, hy⟩ hT
        have hi : i < wd := by
          rw [← Ia.len]
          exact (List.getElem?_eq_some_iff.mp ex).1
        have sT := same_upd (o := .tup [x, y]) hT
        have s12 := s1.trans (s2.trans sT)
        have hx := (Ia.ext s12.text).get ex
        have hy2 := (Ib.ext s12.text).get ey
        refine g_pair (.inl (.inl upd_same)) ⟨rfl, lc_yes ?_⟩
        refine ⟨_, rfl, e, dx, _, rfl, s12 _ _ he, rfl, _, rfl, _, rfl, e, dx, _, rfl, s12 _ _ he, rfl, _, rfl, _, rfl, ?_⟩
        refine ⟨_, v1, y, _, _, rfl, h1.mono (s2.trans sT), hy2, ok.sh, ok.fp i hi, trivial, fun H4 v4 s4 h4 => ?_⟩
        refine ⟨_, x, v4, _, _, rfl, hx.mono s4, h4, ok.fl i hi, ok.pr i hi, trivial, fun H5 v5 s5 h5 => ?_⟩
        have s45 := sT.trans (s4.trans s5)
        have hd5 := s45 _ _ hd
        refine ⟨ys, hd5, ?_, (s2.trans s45).updN hD, ys ++ [v5], upd_same, ?_⟩
        · rw [hy.len]
          exact small1000 (by omega)
        · exact ((hy.ext s45.text).ext (TExt.upd hd5)).snoc (h5.ext (TExt.upd hd5))
      · rintro H2 ⟨s2, ys, hd, hy⟩
        exact q H2 D (s1.trans s2) ⟨ys, hd, hy⟩ (.inr (s1.free hD))
/-! ### pivots_of -/
abbrev sPivs : Stmt := topS 51
theorem scPivs : FnScope ["field", "lines", "width", "found", "line", "column", "pivot", "other"] ["field", "lines", "width"] (defScope sPivs) := ⟨rfl, rfl, rfl, by decide +kernel, rfl, by decide +kernel, by decide +kernel⟩
/-- pairs of a column and a line, none of the lines at D -/
structure FndAt (K : PySem.W.Frag) (H : Hp) (D : Addr) (vs : List V) (fs : List (Nat × FQ.Line)) (wd : Nat) : Prop where
  len : vs.length = fs.length
  at_ : ∀ (i : Nat) (p : Nat × FQ.Line), fs[i]? = some p → ∃ t q, vs[i]? = some (V.ref t) ∧ SqT K H t [.int ((p.1 : Nat) : Int), .ref q] ∧ LnAt K H q wd p.2 ∧ q ≠ D
theorem FndAt.same {H H' : Hp} {D : Addr} {vs : List V} {fs : List (Nat × FQ.Line)} {wd : Nat} (h : FndAt K H D vs fs wd) (s : Same H H') : FndAt K H' D vs fs wd :=
  ⟨h.len, fun i p e => let ⟨t, q, a, b, c, d⟩ := h.at_ i p e; ⟨t, q, a, s.seqT b, c.same s, d⟩⟩
theorem FndAt.upd {H : Hp} {D : Addr} {vs xs : List V} {fs : List (Nat × FQ.Line)} {wd : Nat} {o : HO} (h : FndAt K H D vs fs wd) (hD : H D = some (.lst xs)) : FndAt K (L2.upd H D o) D vs fs wd :=
  ⟨h.len, fun i p e => let ⟨t, q, a, b, c, d⟩ := h.at_ i p e; ⟨t, q, a, (TExt.upd hD).seqT b, c.upd hD d, d⟩⟩
theorem FndAt.snoc {H : Hp} {D : Addr} {vs : List V} {fs : List (Nat × FQ.Line)} {wd : Nat} {t q : Addr} {c : Nat} {l : FQ.Line} (h : FndAt K H D vs fs wd) (ht : SqT K H t [.int ((c : Nat) : Int), .ref q]) (hq : LnAt K H q wd l) (n : q ≠ D) : FndAt K H D (vs ++ [.ref t]) (fs ++ [(c, l)]) wd :=
  ⟨by rw [List.length_append, List.length_append, h.len]; rfl, fun i p e => by
    by_cases hi : i < fs.length
    · rw [List.getElem?_append_left hi] at e
      obtain ⟨t', q', a, b⟩ := h.at_ i p e
      exact ⟨t', q', by rw [List.getElem?_append_left (by rw [h.len]; exact hi)]; exact a, b⟩
    · have hl : i < (fs ++ [(c, l)]).length := (List.getElem?_eq_some_iff.mp e).1
      rw [List.length_append, List.length_singleton] at hl
      have ei : i = fs.length := by omega
      subst ei
      rw [List.getElem?_append_right (Nat.le_refl _), Nat.sub_self] at e
      cases e
      exact ⟨t, q, by rw [List.getElem?_append_right (by rw [h.len]; exact Nat.le_refl _), h.len, Nat.sub_self]; rfl, ht, hq, n⟩⟩
def spPivs (K : PySem.W.Frag) (C : Addr) : Sp := fun vs H Q _ => ∃ fl pl lvs ls wd, vs = [fl, .ref pl, .int ((wd : Nat) : Int)] ∧ FldAt C H fl ∧ SqL K H pl lvs ∧ lvs.length = ls.length ∧ (∀ (i : Nat) l, ls[i]? = some l → ∃ q, lvs[i]? = some (.ref q) ∧ LnAt K H q wd l) ∧ FQ.PivsOK wd ls ∧
  ∀ H' D us, Same H H' → H D = none → H' D = some (.lst us) → FndAt K H' D us (FQ.pivots wd ls) wd → Q (.ref D) H'
theorem pivots_snoc (wd : Nat) (ls : List FQ.Line) {i : Nat} {l : FQ.Line} (h : ls[i]? = some l) : FQ.pivots wd (ls.take (i + 1)) = FQ.pivStep wd (FQ.pivots wd (ls.take i)) l := by
  rw [List.take_add_one, h]
  show FQ.pivots wd (ls.take i ++ [l]) = _
  unfold FQ.pivots
  rw [List.foldl_append]
  rfl
theorem clrAll_snoc (fs : List (Nat × FQ.Line)) (l : FQ.Line) {j : Nat} {p : Nat × FQ.Line} (h : fs[j]? = some p) : FQ.clrAll (fs.take (j + 1)) l = FQ.clr (FQ.clrAll (fs.take j) l) p.2 p.1 := by
  rw [List.take_add_one, h]
  show FQ.clrAll (fs.take j ++ [p]) l = _
  unfold FQ.clrAll
  rw [List.foldl_append]
  rfl
theorem pivots_len (wd : Nat) : ∀ (ls : List FQ.Line) (fs : List (Nat × FQ.Line)), (ls.foldl (FQ.pivStep wd) fs).length ≤ fs.length + ls.length
  | [], fs => by simp
  | l :: ls, fs => by
    have h := pivots_len wd ls (FQ.pivStep wd fs l)
    have h2 : (FQ.pivStep wd fs l).length ≤ fs.length + 1 := by
      unfold FQ.pivStep
      split
      · omega
      · simp
    rw [List.foldl_cons, List.length_cons]
    omega
theorem gd_pivs (B : Bi mg) (a : At K mg "pivots_of" sPivs) (GC : Gd P w K mg base "cleared" k ["field", "line", "pivot", "column"] (spClrT K CE)) (GF : Gd P w K mg base "first_column" k ["field", "line", "width"] (spFst K CE)) :
    Gd P w K mg base "pivots_of" (k + 1) ["field", "lines", "width"] (spPivs K CE) := by
  obtain ⟨f, fd, F, g⟩ := a.ex
  refine ⟨f, fd, ?_, g, F.kp, F.binds fun _ _ _ _ _ _ us hl => match us, hl with | [_, _, _], _ => rfl⟩
  refine F.ok scPivs (fun vs H Q E h => ?_) (fun cdv A outer s H vs Q E hr h => ?_)
  · obtain ⟨fl, pl, lvs, ls, wd, rfl, _⟩ := h
    rfl
  · obtain ⟨fl, pl, lvs, ls, wd, rfl, hF, hP, hlen, hL, ok, q⟩ := h
    refine ⟨_, pss_cons (ps_set (i := 3) scPivs.nd rfl (.inl rfl) (pe_lst pa_nil))
      (pss_cons (ps_for PassesOwn.never rfl (pi_list (pv 1)) (pg_name (i := 4) scPivs.nd rfl (.inr rfl))
        (pss_cons (ps_for PassesOwn.never rfl (pi_list (pv 3)) (pg_tup rfl (pgs_cons (pg_name (i := 5) scPivs.nd rfl (.inr rfl)) (pgs_cons (pg_name (i := 6) scPivs.nd rfl (.inl rfl)) pgs_nil)))
          (pss_one (ps_set (i := 4) scPivs.nd rfl (.inr rfl) (pe_gd GC hr (by rfl) (pa_cons (pv 0) (pa_cons (pv 4) (pa_cons (pv 6) (pa_cons (pv 5) pa_nil))))))))
        (pss_cons (ps_set (i := 5) scPivs.nd rfl (.inr rfl) (pe_gd GF hr (by rfl) (pa_cons (pv 0) (pa_cons (pv 4) (pa_cons (pv 2) pa_nil)))))
        (pss_one (ps_if (pt_cmpR op_notN (pv 5) pe_non (nomark _))
          (pss_cons (ps_setLc (i := 3) (own := [("other", 7), ("pivot", 6)]) (g := gTup K 2 (gCons (gName 7) (gCons (gName 6) gNil))) (tt := tYes)
            (te := tTup (tCons (tVar 7) (tCons (tCall (spClrT K CE) [] E0 (tCons (tVar 0) (tCons (tVar 6) (tCons (tVar 4) (tCons (tVar 5) tNil))))) tNil)))
            rfl scPivs.nd rfl rfl (sw_true rfl rfl rfl (by decide +kernel)) (pi_list (pv 3)) (blkOk_by (N := ["field", "lines", "width", "found", "line", "column", "pivot", "other"]) (sc := defScope sPivs) (by decide +kernel))
            (fun _ _ _ _ _ => pg_tup rfl (pgs_cons (pg_name (i := 7) scPivs.nd rfl (.inl rfl)) (pgs_cons (pg_name (i := 6) scPivs.nd rfl (.inl rfl)) pgs_nil))) (fun _ _ _ _ _ => pts_nil)
            (fun _ _ _ _ _ => pe_tup (pa_cons (pv 7) (pa_cons (pe_gd GC hr (by rfl) (pa_cons (pv 0) (pa_cons (pv 6) (pa_cons (pv 4) (pa_cons (pv 5) pa_nil))))) pa_nil))))
          (pss_one (ps_expr (pe_bm PySem.F.plainAttrs_list PySem.F.slot_list_append PySem.F.type_list_append mt_append (pv 3) (pa_cons (pe_tup (pa_cons (pv 5) (pa_cons (pv 4) pa_nil))) pa_nil))))) pss_nil)))))
      (pss_one (ps_ret (pv 3)))), ?_⟩
    refine ⟨Nat.zero_le _, fun D0 hD0 => ?_⟩
    have nl := ok.n
    have nw := ok.w
    refine ⟨_, rfl, pl, rfl, ⟨_, (same_upd (o := .lst []) hD0).seq hP⟩, ?_⟩
    refine for_list (K := K) (a := pl) (xs := lvs) (fun i σ H' => ∃ D us y4 y5 y6, σ = [some fl, some (.ref pl), some (.int ((wd : Nat) : Int)), some (.ref D), y4, y5, y6, none] ∧ Same H H' ∧ H D = none ∧ H' D = some (.lst us) ∧ FndAt K H' D us (FQ.pivots wd (ls.take i)) wd)
      ⟨D0, [], none, none, none, rfl, same_upd hD0, hD0, upd_same, ⟨rfl, fun i p e => by simp [FQ.pivots] at e⟩⟩ (fun i σ H' _ ⟨_, _, _, _, _, _, sm, _⟩ => sm.seq hP) ?_ ?_
    · rintro i x σ H' ex ⟨D, us, y4, y5, y6, rfl, sm, nD, hD, hFn⟩
      have hi : i < ls.length := by
        rw [← hlen]
        exact (List.getElem?_eq_some_iff.mp ex).1
      obtain ⟨l, el⟩ : ∃ l, ls[i]? = some l := ⟨ls[i], List.getElem?_eq_getElem hi⟩
      obtain ⟨q0, eq0, hq0⟩ := hL i l el
      rw [ex] at eq0
      cases eq0
      have okS := ok.ok i l el
      have hq0D : q0 ≠ D := hq0.ne nD
      have hfl : (FQ.pivots wd (ls.take i)).length ≤ 200 := by
        have := pivots_len wd (ls.take i) []
        rw [List.length_take, List.length_nil] at this
        unfold FQ.pivots
        omega
      generalize hfs : FQ.pivots wd (ls.take i) = fs at *
      -- the inner loop
      refine ⟨_, rfl, D, rfl, ⟨_, SqL.of hD⟩, ?_⟩
      refine for_list (K := K) (a := D) (xs := us) (fun j σ H2 => ∃ q5 y5 y6, σ = [some fl, some (.ref pl), some (.int ((wd : Nat) : Int)), some (.ref D), some (.ref q5), y5, y6, none] ∧ Same H' H2 ∧ LnAt K H2 q5 wd (FQ.clrAll (fs.take j) l) ∧ q5 ≠ D)
        ⟨q0, y5, y6, rfl, Same.refl _, hq0.same sm, hq0D⟩ (fun j σ H2 _ ⟨_, _, _, _, s2, _⟩ => SqL.of (s2 _ _ hD)) ?_ ?_
      · rintro j z σ H2 ez ⟨q5, y5, y6, rfl, s2, h5, n5⟩
        have hj : j < fs.length := by
          rw [← hFn.len]
          exact (List.getElem?_eq_some_iff.mp ez).1
        obtain ⟨pp, ep⟩ : ∃ p, fs[j]? = some p := ⟨fs[j], List.getElem?_eq_getElem hj⟩
        obtain ⟨t, qp, et, ht, hqp, nqp⟩ := hFn.at_ j pp ep
        rw [ez] at et
        cases et
        refine g_pair (s2.seqT ht) ?_
        refine ⟨_, rfl, _, rfl, _, rfl, _, rfl, _, q5, qp, _, pp.2, wd, pp.1, rfl, hF.same (sm.trans s2), h5, hqp.same s2, okS.a j pp ep, by omega, fun H3 q6 s3 h6 d6 => ?_⟩
        refine ⟨q6, _, _, rfl, s2.trans s3, by rw [clrAll_snoc fs l ep]; exact h6, ?_⟩
        rcases d6 with d6 | d6
        · rw [d6]; exact n5
        · intro z
          rw [z, s2 _ _ hD] at d6
          cases d6
      · rintro σ H2 ⟨q5, y5', y6', rfl, s2, h5, n5⟩
        rw [hFn.len, List.take_length] at h5
        have sm2 := sm.trans s2
        refine ⟨_, rfl, _, rfl, _, rfl, _, _, _, wd, rfl, hF.same sm2, h5.ls, by omega, fun en => ?_, fun c ec => ?_⟩
        · refine ⟨_, rfl, rfl, _, rfl, ?_⟩
          refine iteF ⟨D, us, _, _, _, rfl, sm2, nD, s2 _ _ hD, ?_⟩
          rw [pivots_snoc wd ls el, hfs]
          unfold FQ.pivStep
          rw [en]
          exact hFn.same s2
        · refine ⟨_, rfl, rfl, _, rfl, ?_⟩
          refine iteT ⟨_, rfl, D, rfl, ⟨_, SqL.of (s2 _ _ hD)⟩, fun D2 hD2 => ?_⟩
          have hFn2 := hFn.same s2
          have nDD : D ≠ D2 := ne_of_none (s2 _ _ hD) hD2
          refine lc_list (K := K) (a := D) (xs := us) (fun j H3 => Same H2 H3 ∧ ∃ ws, H3 D2 = some (.lst ws) ∧ FndAt K H3 D2 ws ((fs.take j).map fun p => (p.1, FQ.clr p.2 (FQ.clrAll fs l) c)) wd)
            ⟨same_upd hD2, [], upd_same, ⟨rfl, fun i p e => by simp at e⟩⟩ (fun j H3 _ hP3 => SqL.of (hP3.1 _ _ (s2 _ _ hD))) ?_ ?_
          · rintro j z H3 ez ⟨s3, ws, hws, hFw⟩
            have hj : j < fs.length := by
              rw [← hFn.len]
              exact (List.getElem?_eq_some_iff.mp ez).1
            obtain ⟨pp, ep⟩ : ∃ p, fs[j]? = some p := ⟨fs[j], List.getElem?_eq_getElem hj⟩
            obtain ⟨t, qp, et, ht, hqp, nqp⟩ := hFn2.at_ j pp ep
            rw [ez] at et
            cases et
            refine g_pair (s3.seqT ht) ⟨rfl, lc_yes ?_⟩
            refine ⟨_, rfl, _, rfl, _, rfl, _, rfl, _, rfl, _, qp, q5, pp.2, _, wd, c, rfl, hF.same (sm2.trans s3), hqp.same s3, h5.same s3, okS.b c ec pp (List.mem_of_getElem? ep), by omega, fun H4 q6 s4 h6 d6 => ?_⟩
            refine ⟨by show 2 ≤ sizeLine; decide, fun t2 ht2 => ?_⟩
            have sT := same_upd (o := .tup [V.int ((pp.1 : Nat) : Int), V.ref q6]) ht2
            have s34 := s4.trans sT
            have hws4 := s34 _ _ hws
            have nq6 : q6 ≠ D2 := by
              rcases d6 with d6 | d6
              · rw [d6]; exact hqp.ne hD2
              · intro z
                rw [z, hws] at d6
                cases d6
            refine ⟨ws, hws4, ?_, (s3.trans s34).updN hD2, _, upd_same, ?_⟩
            · rw [hFw.len, List.length_map, List.length_take]
              exact small1000 (by omega)
            · have et2 : (fs.take (j + 1)).map (fun p => (p.1, FQ.clr p.2 (FQ.clrAll fs l) c)) = (fs.take j).map (fun p => (p.1, FQ.clr p.2 (FQ.clrAll fs l) c)) ++ [(pp.1, FQ.clr pp.2 (FQ.clrAll fs l) c)] := by
                rw [List.take_add_one, ep, List.map_append]
                rfl
              rw [et2]
              exact ((hFw.same s34).upd hws4).snoc (.inl (.inl (by rw [upd_ne (fun z => by rw [z, s4 _ _ hws] at ht2; cases ht2), upd_same]))) ((h6.same sT).upd hws4 nq6) nq6
          · rintro H3 ⟨s3, ws, hws, hFw⟩
            rw [hFn.len, List.take_length] at hFw
            -- found.append((column, line))
            refine ⟨_, rfl, .inl ⟨rfl, _, SqL.of hws⟩, _, rfl, _, rfl, (by show 2 ≤ sizeLine; decide), fun t2 ht2 => ?_⟩
            have sT := same_upd (o := .tup [V.int ((c : Nat) : Int), V.ref q5]) ht2
            have hws4 := sT _ _ hws
            refine ⟨D2, ws, _, rfl, rfl, hws4, ?_, ?_⟩
            · rw [hFw.len, List.length_map]
              exact small1000 (by omega)
            · have s234 := sm2.trans (s3.trans sT)
              have nD2 : H D2 = none := sm2.free hD2
              refine ⟨D2, _, _, _, _, rfl, s234.updN nD2, nD2, upd_same, ?_⟩
              rw [pivots_snoc wd ls el, hfs]
              unfold FQ.pivStep
              rw [ec]
              refine ((hFw.same sT).upd hws4).snoc (.inl (.inl ?_)) (((h5.same s3).same sT).upd hws4 (h5.ne hD2)) (h5.ne hD2)
              rw [upd_ne (fun z => by rw [z, hws] at ht2; cases ht2), upd_same]
    · rintro σ H' ⟨D, us, y4, y5, y6, rfl, sm, nD, hD, hFn⟩
      rw [hlen, List.take_length] at hFn
      exact ⟨_, rfl, q _ D us sm nD hD hFn⟩
end
end L2.FW
end
section
set_option Elab.async false
set_option linter.all false
set_option maxRecDepth 100000
namespace L2.FW
open PySem PySem.Spec PyProof.Rows
open FQ (Fit BB BB_eq FitP Ser IsLen Lt rowB)
abbrev sNull : Stmt := topS 52
abbrev sForm : Stmt := topS 54
abbrev sFurth : Stmt := topS 55
theorem scNull : FnScope ["field", "lines", "width", "found", "column", "line", "taken", "free", "numbers"] ["field", "lines", "width"] (defScope sNull) := ⟨rfl, rfl, rfl, by decide +kernel, rfl, by decide +kernel, by decide +kernel⟩
theorem scForm : FnScope ["field", "row", "m", "n", "lines", "place", "below", "top", "j"] ["field", "row", "m", "n"] (defScope sForm) := ⟨rfl, rfl, rfl, by decide +kernel, rfl, by decide +kernel, by decide +kernel⟩
theorem scFurth : FnScope ["row", "m", "n"] ["row", "m", "n"] (defScope sFurth) := ⟨rfl, rfl, rfl, by decide +kernel, rfl, by decide +kernel, by decide +kernel⟩
def spNull (K : PySem.W.Frag) (C : Addr) : Sp := fun vs H Q _ => ∃ fl pl lvs ls wd fr, vs = [fl, .ref pl, .int ((wd : Nat) : Int)] ∧ FldAt C H fl ∧ SqL K H pl lvs ∧ lvs.length = ls.length ∧ (∀ (i : Nat) l, ls[i]? = some l → ∃ q, lvs[i]? = some (V.ref q) ∧ LnAt K H q wd l) ∧ FQ.PivsOK wd ls ∧ FQ.NullOK wd (FQ.pivots wd ls) fr ∧
  ∀ H' p, Same H H' → LnAt K H' p wd (FQ.nullN (FQ.pivots wd ls) fr) → Q (.ref p) H'
theorem inV_int (fs : List (Nat × FQ.Line)) (i : Nat) : inV (.int ((i : Nat) : Int)) (fs.map fun p => V.int ((p.1 : Nat) : Int)) = decide (i ∈ fs.map (·.1)) := by
  unfold inV
  induction fs with
  | nil => rfl
  | cons p fs ih =>
    rw [List.map_cons, List.any_cons, ih, List.map_cons]
    by_cases h : p.1 = i
    · subst h
      have e : eqV (V.int ((p.1 : Nat) : Int)) (V.int ((p.1 : Nat) : Int)) = true := by
        show ((p.1 : Int) == (p.1 : Int)) = true
        simp
      rw [e, Bool.true_or, decide_eq_true (by simp)]
    · have e : eqV (V.int ((p.1 : Nat) : Int)) (V.int ((i : Nat) : Int)) = false := by
        show ((p.1 : Int) == (i : Int)) = false
        simp
        omega
      rw [e, Bool.false_or]
      by_cases h2 : i ∈ fs.map (·.1)
      · rw [decide_eq_true h2, decide_eq_true (List.mem_cons_of_mem _ h2)]
      · rw [decide_eq_false h2, decide_eq_false]
        intro z
        rcases List.mem_cons.mp z with z | z
        · exact h z.symm
        · exact h2 z
theorem fc_some {fs : List (Nat × FQ.Line)} {i c : Nat} (h : FQ.freeCol fs i = some c) : FQ.freeCol fs (i + 1) = some c := by
  show (match FQ.freeCol fs i with | some c => some c | none => if i ∈ fs.map (fun p : Nat × FQ.Line => p.1) then none else some i) = _
  rw [h]
theorem fc_mem {fs : List (Nat × FQ.Line)} {i : Nat} (h : FQ.freeCol fs i = none) (hm : i ∈ fs.map (·.1)) : FQ.freeCol fs (i + 1) = none := by
  show (match FQ.freeCol fs i with | some c => some c | none => if i ∈ fs.map (fun p : Nat × FQ.Line => p.1) then none else some i) = _
  rw [h]
  exact if_pos hm
theorem fc_new {fs : List (Nat × FQ.Line)} {i : Nat} (h : FQ.freeCol fs i = none) (hm : i ∉ fs.map (·.1)) : FQ.freeCol fs (i + 1) = some i := by
  show (match FQ.freeCol fs i with | some c => some c | none => if i ∈ fs.map (fun p : Nat × FQ.Line => p.1) then none else some i) = _
  rw [h]
  exact if_neg hm
theorem flat_ints (fs : List (Nat × FQ.Line)) : (fs.map fun p => V.int ((p.1 : Nat) : Int)).all flatV = true := by
  induction fs with
  | nil => rfl
  | cons p fs ih => rw [List.map_cons, List.all_cons, ih]; rfl
theorem find_take (fs : List (Nat × FQ.Line)) (hn : (fs.map (·.1)).Nodup) {j : Nat} {p : Nat × FQ.Line} (e : fs[j]? = some p) (i : Nat) :
    ((fs.take (j + 1)).find? fun q => q.1 == i) = if p.1 = i then some p else (fs.take j).find? fun q => q.1 == i := by
  rw [List.take_add_one, e]
  show (fs.take j ++ [p]).find? (fun q => q.1 == i) = _
  rw [List.find?_append]
  by_cases h : p.1 = i
  · rw [if_pos h]
    have hno : (fs.take j).find? (fun q => q.1 == i) = none := by
      rw [List.find?_eq_none]
      intro q hq
      intro z
      have z' : q.1 = i := by simpa using z
      obtain ⟨a, ha, ea⟩ := List.mem_iff_getElem.mp hq
      rw [List.length_take] at ha
      have e1 : fs[a]? = some q := by
        rw [← ea, List.getElem_take]
        exact List.getElem?_eq_getElem (by omega)
      have m1 : (fs.map (·.1))[a]? = some i := by rw [List.getElem?_map, e1]; simp [z']
      have m2 : (fs.map (·.1))[j]? = some i := by rw [List.getElem?_map, e]; simp [h]
      have := nd_ix hn m1 m2
      omega
    rw [hno]
    simp [h]
  · rw [if_neg h]
    have : ([p].find? fun q => q.1 == i) = none := by simp [h]
    rw [this]
    cases (fs.take j).find? (fun q => q.1 == i) <;> rfl
section
variable {P : Program} {w : World} {K : PySem.W.Frag} {mg : Str → Option Value} {base : Heap} {k : Nat} {CE : Addr}
theorem gd_null (B : Bi mg) (X : Fld P w K mg base CE k) (a : At K mg "null_numbers" sNull) (GP : Gd P w K mg base "pivots_of" k ["field", "lines", "width"] (spPivs K CE)) : Gd P w K mg base "null_numbers" (k + 1) ["field", "lines", "width"] (spNull K CE) := by
  obtain ⟨f, fd, F, g⟩ := a.ex
  obtain ⟨fN, fdN, FN, mN, bN⟩ := X.nought.ex
  obtain ⟨f1, fd1, F1, m1, b1⟩ := X.one.ex
  obtain ⟨fO, fdO, FO, mO, bO⟩ := X.over.ex
  obtain ⟨fS, fdS, FS, mS, bS⟩ := X.minus.ex
  refine ⟨f, fd, ?_, g, F.kp, F.binds fun _ _ _ _ _ _ us hl => match us, hl with | [_, _, _], _ => rfl⟩
  refine F.ok scNull (fun vs H Q E h => ?_) (fun cdv A outer s H vs Q E hr h => ?_)
  · obtain ⟨fl, pl, lvs, ls, wd, fr, rfl, _⟩ := h
    rfl
  · obtain ⟨fl, pl, lvs, ls, wd, fr, rfl, hF, hP, hlen, hL, ok, ok2, q⟩ := h
    refine ⟨_, pss_cons (ps_set (i := 3) scNull.nd rfl (.inl rfl) (pe_gd GP hr (by rfl) (pa_cons (pv 0) (pa_cons (pv 1) (pa_cons (pv 2) pa_nil)))))
      (pss_cons (ps_set (i := 6) scNull.nd rfl (.inr rfl) (pe_lc (own := [("column", 4), ("line", 5)]) (g := gTup K 2 (gCons (gName 4) (gCons (gName 5) gNil))) (tt := tYes) (te := tVar 4)
          rfl scNull.nd (pi_list (pv 3)) (blkOk_by (N := ["field", "lines", "width", "found", "column", "line", "taken", "free", "numbers"]) (sc := defScope sNull) (by decide +kernel))
          (fun _ _ _ _ _ => pg_tup rfl (pgs_cons (pg_name (i := 4) scNull.nd rfl (.inl rfl)) (pgs_cons (pg_name (i := 5) scNull.nd rfl (.inl rfl)) pgs_nil))) (fun _ _ _ _ _ => pts_nil) (fun _ _ _ _ _ => pv 4)))
      (pss_cons (ps_set (i := 7) scNull.nd rfl (.inl rfl) (pe_ix ix_list (pe_lc (own := [("column", 4)]) (g := gName 4) (tt := tTest (tOp (rIn K true) (tVar 4) (tVar 6))) (te := tVar 4)
          rfl scNull.nd (pi_range1 (by rfl) B.range (pa_cons (pv 2) pa_nil)) (blkOk_by (N := ["field", "lines", "width", "found", "column", "line", "taken", "free", "numbers"]) (sc := defScope sNull) (by decide +kernel))
          (fun _ _ _ _ _ => pg_name (i := 4) scNull.nd rfl (.inl rfl)) (fun _ _ _ _ _ => pts_one (pt_cmpR op_notIn_seq (pv 4) (pv 6) (by with_unfolding_all rfl))) (fun _ _ _ _ _ => pv 4)) pe_int (fun _ _ => rfl)))
      (pss_cons (ps_set (i := 8) scNull.nd rfl (.inl rfl) (pe_op op_rep (pe_lst (pa_cons (pe_meth0 (pv 0) X.cls mN FN hr bN .nil pass0) pa_nil)) (pv 2)))
      (pss_cons (ps_asg (pe_meth0 (pv 0) X.cls m1 F1 hr b1 .nil pass0) (pg_sub (pv 8) (pv 7) set_list))
      (pss_cons (ps_for PassesOwn.never rfl (pi_list (pv 3)) (pg_tup rfl (pgs_cons (pg_name (i := 4) scNull.nd rfl (.inl rfl)) (pgs_cons (pg_name (i := 5) scNull.nd rfl (.inl rfl)) pgs_nil)))
        (pss_one (ps_asg (pe_meth (pv 0) X.cls mS FS hr bS .nil pass0 (pa_cons (pe_meth0 (pv 0) X.cls mN FN hr bN .nil pass0) (pa_cons (pe_meth (pv 0) X.cls mO FO hr bO .nil pass0 (pa_cons (pe_ix ix_list (pv 5) (pv 7) (fun _ _ => rfl)) (pa_cons (pe_ix ix_list (pv 5) (pv 4) (fun _ _ => rfl)) pa_nil))) pa_nil)))
          (pg_sub (pv 8) (pv 4) set_list))))
      (pss_one (ps_ret (pv 8)))))))), ?_⟩
    have nw := ok.w
    refine ⟨_, rfl, _, rfl, _, rfl, fl, pl, lvs, ls, wd, rfl, hF, hP, hlen, hL, ok, fun H1 D us s1 nD hD hFn => ?_⟩
    have nfs : (FQ.pivots wd ls).length ≤ 200 := by
      have := pivots_len wd ls []
      rw [List.length_nil] at this
      have := ok.n
      unfold FQ.pivots
      omega
    generalize FQ.pivots wd ls = fs at *
    -- taken
    refine ⟨_, rfl, D, rfl, ⟨_, SqL.of hD⟩, fun Dt hDt => ?_⟩
    refine lc_list (K := K) (a := D) (xs := us) (fun j H2 => Same H1 H2 ∧ H2 Dt = some (.lst ((fs.take j).map fun p => V.int ((p.1 : Nat) : Int)))) ⟨same_upd hDt, upd_same⟩ (fun j H2 _ hP2 => SqL.of (hP2.1 _ _ hD)) ?_ ?_
    · rintro j z H2 ez ⟨s2, ht⟩
      have hj : j < fs.length := by
        rw [← hFn.len]
        exact (List.getElem?_eq_some_iff.mp ez).1
      obtain ⟨pp, ep⟩ : ∃ p, fs[j]? = some p := ⟨fs[j], List.getElem?_eq_getElem hj⟩
      obtain ⟨t, qp, et, htt, _⟩ := hFn.at_ j pp ep
      rw [ez] at et
      cases et
      refine g_pair (s2.seqT htt) ⟨rfl, lc_yes ⟨_, rfl, _, ht, ?_, s2.updN hDt, ?_⟩⟩
      · rw [List.length_map, List.length_take]
        exact small1000 (by omega)
      · rw [upd_same, List.take_add_one, ep, List.map_append]
        rfl
    · rintro H2 ⟨s2, ht⟩
      rw [hFn.len, List.take_length] at ht
      -- free
      refine ⟨_, rfl, _, rfl, by omega, by omega, fun Df hDf => ?_⟩
      rw [Int.toNat_natCast]
      refine lc_rng0 (fun i H3 => Same H2 H3 ∧ ∃ acc : List V, H3 Df = some (.lst acc) ∧ acc.length ≤ i ∧ acc[0]? = (FQ.freeCol fs i).map fun c => V.int ((c : Nat) : Int)) ⟨same_upd hDf, [], upd_same, Nat.le_refl _, rfl⟩ ?_ ?_
      · rintro i H3 hi ⟨s3, acc, ha, la, fa⟩
        refine ⟨rfl, _, rfl, _, rfl, Dt, _, rfl, .inl (SqL.of (s3 _ _ ht)), rfl, flat_ints fs, _, rfl, ?_⟩
        rw [if_pos rfl, inV_int]
        by_cases hm : i ∈ fs.map (·.1)
        · rw [decide_eq_true hm]
          refine iteF ⟨s3, acc, ha, by omega, ?_⟩
          rw [fa]
          cases ef : FQ.freeCol fs i with
          | some c => rw [fc_some ef]
          | none => rw [fc_mem ef hm]
        · rw [decide_eq_false hm]
          refine iteT ⟨_, rfl, acc, ha, small1000 (by omega), s3.updN hDf, acc ++ [V.int ((i : Nat) : Int)], upd_same, by rw [List.length_append, List.length_singleton]; omega, ?_⟩
          cases ef : FQ.freeCol fs i with
          | some c =>
            rw [ef] at fa
            have la2 : 0 < acc.length := (List.getElem?_eq_some_iff.mp fa).1
            rw [List.getElem?_append_left la2, fa, fc_some ef]
          | none =>
            rw [ef] at fa
            have la2 : acc = [] := by
              cases acc with
              | nil => rfl
              | cons b r => cases fa
            subst la2
            rw [fc_new ef hm]
            rfl
      · rintro H3 ⟨s3, acc, ha, la, fa⟩
        rw [ok2.free] at fa
        refine ⟨Df, acc, 0, _, rfl, rfl, SqL.of ha, atN (j := 0) rfl fa, ?_⟩
        have s13 := s2.trans s3
        have s03 := s1.trans s13
        obtain ⟨e, dx, rfl, he⟩ := id hF
        -- numbers
        refine ⟨_, rfl, e, dx, _, rfl, s03 _ _ he, rfl, _, rfl, fun H4 v4 s4 h4 => ?_⟩
        refine ⟨Nat.succ_le_of_lt (small1000 (by decide)), fun l0 hl0 => ?_⟩
        have s5 := s4.new (o := .lst [v4]) hl0
        refine ⟨_, rfl, l0, _, [v4], rfl, rfl, upd_same, by omega, by omega, ?_, fun ln hln => ?_⟩
        · rw [Int.toNat_natCast]
          exact small1 (by rw [List.length_singleton]; omega)
        rw [Int.toNat_natCast, rep_flat]
        have s6 := s5.new (o := .lst (List.replicate wd v4)) hln
        have I6 : Items K (upd (upd H4 l0 (.lst [v4])) ln (.lst (List.replicate wd v4))) (List.replicate wd v4) wd fun _ => 0 := Items.rep ((h4.mono (same_upd hl0)).mono (same_upd hln))
        have lnH3 : H3 ln = none := s5.free hln
        -- numbers[free] = one
        have s06 := s03.trans s6
        have frw : fr < wd := by
          have : ∀ {w c : Nat}, FQ.freeCol fs w = some c → c < w := fun {w} => by
            induction w with
            | zero => intro c h; cases h
            | succ w ih =>
              intro c h
              unfold FQ.freeCol at h
              cases ef : FQ.freeCol fs w with
              | some d => rw [ef] at h; cases h; have := ih ef; omega
              | none =>
                rw [ef] at h
                by_cases hm : w ∈ fs.map (·.1)
                · simp only [if_pos hm] at h; cases h
                · simp only [if_neg hm] at h; cases h; omega
          exact this ok2.free
        have frn : fr ∉ fs.map (·.1) := by
          have : ∀ {w c : Nat}, FQ.freeCol fs w = some c → c ∉ fs.map (·.1) := fun {w} => by
            induction w with
            | zero => intro c h; cases h
            | succ w ih =>
              intro c h
              unfold FQ.freeCol at h
              cases ef : FQ.freeCol fs w with
              | some d => rw [ef] at h; cases h; exact ih ef
              | none =>
                rw [ef] at h
                by_cases hm : w ∈ fs.map (·.1)
                · simp only [if_pos hm] at h; cases h
                · simp only [if_neg hm] at h; cases h; exact hm
          exact this ok2.free
        refine ⟨_, rfl, e, dx, _, rfl, s06 _ _ he, rfl, _, rfl, fun H7 v7 s7 h7 => ?_⟩
        have hn7 : H7 ln = some (.lst (List.replicate wd v4)) := s7 _ _ upd_same
        refine ⟨_, rfl, _, rfl, ln, _, _, fr, rfl, rfl, hn7, ixN_nat rfl (by rw [List.length_replicate]; exact frw), ?_⟩
        have x8 : TExt H7 (upd H7 ln (.lst ((List.replicate wd v4).set fr v7))) := TExt.upd hn7
        have s37 : Same H3 (upd H7 ln (.lst ((List.replicate wd v4).set fr v7))) := (s6.trans s7).updN lnH3
        have I8 : Items K (upd H7 ln (.lst ((List.replicate wd v4).set fr v7))) ((List.replicate wd v4).set fr v7) wd (FQ.nullN (fs.take 0) fr) := by
          refine Items.set ((I6.ext s7.text).ext x8) ?_ fun i hi ni => ?_
          · show NumAt K _ v7 (FQ.nullN (fs.take 0) fr fr)
            unfold FQ.nullN
            rw [if_pos rfl]
            exact h7.ext x8
          · unfold FQ.nullN
            rw [if_neg ni]
            rfl
        -- the loop
        refine ⟨_, rfl, D, rfl, ⟨_, SqL.of (s37 _ _ (s13 _ _ hD))⟩, ?_⟩
        refine for_list (K := K) (a := D) (xs := us) (fun j σ H9 => ∃ y4 y5 ns, σ = [some (.ref e), some (.ref pl), some (.int ((wd : Nat) : Int)), some (.ref D), y4, y5, some (.ref Dt), some (.int ((fr : Nat) : Int)), some (.ref ln)] ∧ Same H3 H9 ∧ H9 ln = some (.lst ns) ∧ Items K H9 ns wd (FQ.nullN (fs.take j) fr))
          ⟨none, none, _, rfl, s37, upd_same, I8⟩ (fun j σ H9 _ ⟨_, _, _, _, s9, _⟩ => SqL.of (s9 _ _ (s13 _ _ hD))) ?_ ?_
        · rintro j z σ H9 ez ⟨y4, y5, ns, rfl, s9, hn9, I9⟩
          have hj : j < fs.length := by
            rw [← hFn.len]
            exact (List.getElem?_eq_some_iff.mp ez).1
          obtain ⟨pp, ep⟩ : ∃ p, fs[j]? = some p := ⟨fs[j], List.getElem?_eq_getElem hj⟩
          obtain ⟨t, qp, et, htt, ⟨ls9, hq1, Iq⟩, _⟩ := hFn.at_ j pp ep
          rw [ez] at et
          cases et
          have s19 := s13.trans s9
          have mem := List.mem_of_getElem? ep
          obtain ⟨u1, eu1, hu1⟩ := (Iq.ext s19.text).at_ fr frw
          obtain ⟨u2, eu2, hu2⟩ := (Iq.ext s19.text).at_ pp.1 (ok2.cw pp mem)
          refine g_pair (s19.seqT htt) ?_
          refine ⟨_, rfl, e, dx, _, rfl, (s1.trans s19) _ _ he, rfl, ?_⟩
          refine ⟨_, rfl, e, dx, _, rfl, (s1.trans s19) _ _ he, rfl, _, rfl, fun H10 v10 s10 h10 => ?_⟩
          refine ⟨_, rfl, e, dx, _, rfl, s10 _ _ ((s1.trans s19) _ _ he), rfl, ?_⟩
          refine ⟨_, rfl, _, rfl, qp, ls9, _, u1, rfl, rfl, SqL.of (s10 _ _ (s19 _ _ hq1)), atI_nat eu1, _, rfl, _, rfl, qp, ls9, _, u2, rfl, rfl, SqL.of (s10 _ _ (s19 _ _ hq1)), atI_nat eu2, ?_⟩
          refine ⟨_, u1, u2, _, _, rfl, hu1.mono s10, hu2.mono s10, ok2.f1 pp mem, ok2.f2 pp mem, ok2.pc pp mem, fun H11 v11 s11 h11 => ?_⟩
          refine ⟨_, v10, v11, _, _, rfl, h10.mono s11, h11, ok2.f0, ok2.f3 pp mem, trivial, fun H12 v12 s12 h12 => ?_⟩
          have s1012 := s10.trans (s11.trans s12)
          have hn12 := s1012 _ _ hn9
          refine ⟨_, rfl, _, rfl, ln, ns, _, pp.1, rfl, rfl, hn12, ixN_nat rfl (by rw [I9.len]; exact ok2.cw pp mem), ?_⟩
          refine ⟨_, _, _, rfl, (s9.trans s1012).updN lnH3, upd_same, ?_⟩
          have nfr : pp.1 ≠ fr := fun z => frn (List.mem_map.mpr ⟨pp, mem, z⟩)
          refine Items.set ((I9.ext s1012.text).ext (TExt.upd hn12)) ?_ fun i hi ni => ?_
          · unfold FQ.nullN
            rw [if_neg nfr, find_take fs ok2.nd ep, if_pos rfl]
            exact h12.ext (TExt.upd hn12)
          · unfold FQ.nullN
            by_cases c : i = fr
            · rw [if_pos c, if_pos c]
            · rw [if_neg c, if_neg c, find_take fs ok2.nd ep, if_neg (Ne.symm ni)]
        · rintro σ H9 ⟨y4, y5, ns, rfl, s9, hn9, I9⟩
          rw [hFn.len, List.take_length] at I9
          exact ⟨_, rfl, q H9 ln (s03.trans s9) ⟨ns, hn9, I9⟩⟩
def spForm (K : PySem.W.Frag) (C : Addr) : Sp := fun vs H Q _ => ∃ fl rv nr r m n a b, vs = [fl, rv, .int ((m : Nat) : Int), .int ((n : Nat) : Int)] ∧ FldAt C H fl ∧ LsAt K H rv nr r ∧ m + n + 1 ≤ nr ∧ FQ.FormOK r m n a b ∧ ∀ H' v, Same H H' → QuoAt K H' v a b → Q v H'
theorem gd_form (B : Bi mg) (a : At K mg "form_in" sForm) (GN : Gd P w K mg base "number_before" k ["field", "row", "place"] (spNBef K CE)) (GU : Gd P w K mg base "null_numbers" k ["field", "lines", "width"] (spNull K CE)) (GA : Gd P w K mg base "product_at" k ["field", "row", "below", "place"] (spPAt K CE))
    (GT : Gd P w K mg base "trimmed" k ["field", "numbers"] (spTrim K CE)) (GQ : Gd P w K mg base "quotient_in" k ["field", "top", "below"] (spQuoIn K CE)) : Gd P w K mg base "form_in" (k + 1) ["field", "row", "m", "n"] (spForm K CE) := by
  obtain ⟨f, fd, F, g⟩ := a.ex
  refine ⟨f, fd, ?_, g, F.kp, F.binds fun _ _ _ _ _ _ us hl => match us, hl with | [_, _, _, _], _ => rfl⟩
  refine F.ok scForm (fun vs H Q E h => ?_) (fun cdv A outer s H vs Q E hr h => ?_)
  · obtain ⟨fl, rv, nr, r, m, n, a, b, rfl, _⟩ := h
    rfl
  · obtain ⟨fl, rv, nr, r, m, n, a, b, rfl, hF, hR, hmn, ⟨⟨fr, ok1, ok2, ok3, ok4⟩, m1, n1⟩, q⟩ := h
    refine ⟨_, pss_cons (ps_set (i := 4) scForm.nd rfl (.inl rfl) (pe_lst pa_nil))
      (pss_cons (ps_for PassesOwn.never rfl (pi_range2 (by rfl) B.range (pa_cons (pe_op op_add (pv 2) pe_int) (pa_cons (pe_op op_add (pe_op op_add (pv 2) (pv 3)) pe_int) pa_nil))) (pg_name (i := 5) scForm.nd rfl (.inr rfl))
        (pss_one (ps_expr (pe_bm PySem.F.plainAttrs_list PySem.F.slot_list_append PySem.F.type_list_append mt_append (pv 4) (pa_cons
          (pe_lc (own := [("j", 8)]) (g := gName 8) (tt := tYes) (te := tCall (spNBef K CE) [] E0 (tCons (tVar 0) (tCons (tVar 1) (tCons (tOp (rI0 fun i j => .int (i - j)) (tVar 5) (tVar 8)) tNil))))
            rfl scForm.nd (pi_range1 (by rfl) B.range (pa_cons (pe_op op_add (pv 3) pe_int) pa_nil)) (blkOk_by (N := ["field", "row", "m", "n", "lines", "place", "below", "top", "j"]) (sc := defScope sForm) (by decide +kernel))
            (fun _ _ _ _ _ => pg_name (i := 8) scForm.nd rfl (.inl rfl)) (fun _ _ _ _ _ => pts_nil) (fun _ _ _ _ _ => pe_gd GN hr (by rfl) (pa_cons (pv 0) (pa_cons (pv 1) (pa_cons (pe_op op_sub (pv 5) (pv 8)) pa_nil))))) pa_nil)))))
      (pss_cons (ps_set (i := 6) scForm.nd rfl (.inr rfl) (pe_gd GU hr (by rfl) (pa_cons (pv 0) (pa_cons (pv 4) (pa_cons (pe_op op_add (pv 3) pe_int) pa_nil)))))
      (pss_cons (ps_setLc (i := 7) (own := [("place", 5)]) (g := gName 5) (tt := tYes) (te := tCall (spPAt K CE) [] E0 (tCons (tVar 0) (tCons (tVar 1) (tCons (tVar 6) (tCons (tVar 5) tNil)))))
          rfl scForm.nd rfl rfl (sw_true rfl rfl rfl (by decide +kernel)) (pi_range1 (by rfl) B.range (pa_cons (pe_op op_add (pv 2) pe_int) pa_nil)) (blkOk_by (N := ["field", "row", "m", "n", "lines", "place", "below", "top", "j"]) (sc := defScope sForm) (by decide +kernel))
          (fun _ _ _ _ _ => pg_name (i := 5) scForm.nd rfl (.inl rfl)) (fun _ _ _ _ _ => pts_nil) (fun _ _ _ _ _ => pe_gd GA hr (by rfl) (pa_cons (pv 0) (pa_cons (pv 1) (pa_cons (pv 6) (pa_cons (pv 5) pa_nil))))))
      (pss_one (ps_ret (pe_gd GQ hr (by rfl) (pa_cons (pv 0) (pa_cons (pe_gd GT hr (by rfl) (pa_cons (pv 0) (pa_cons (pv 7) pa_nil))) (pa_cons (pe_gd GT hr (by rfl) (pa_cons (pv 0) (pa_cons (pv 6) pa_nil))) pa_nil))))))))), ?_⟩
    refine ⟨Nat.zero_le _, fun pl hpl => ?_⟩
    refine ⟨_, rfl, _, _, rfl, rfl, _, rfl, _, rfl, _, _, rfl, rfl, _, _, rfl, rfl, _, _, rfl, by omega, ?_⟩
    rw [show ((m : Int) + (n : Int) + 1 - ((m : Int) + 1)).toNat = n by omega]
    refine for_range (fun i σ H' => ∃ y5 lvs, σ = [some fl, some rv, some (.int ((m : Nat) : Int)), some (.int ((n : Nat) : Int)), some (.ref pl), y5, none, none, none] ∧ Same H H' ∧ H' pl = some (.lst lvs) ∧ lvs.length = i ∧ ∀ j : Nat, j < i → ∃ qa, lvs[j]? = some (V.ref qa) ∧ qa ≠ pl ∧ LnAt K H' qa (n + 1) (FQ.lineF r m j))
      ⟨none, [], rfl, same_upd hpl, upd_same, rfl, fun j hj => absurd hj (Nat.not_lt_zero _)⟩ ?_ ?_
    · rintro i σ H' hi ⟨y5, lvs, rfl, sm, hL, hlen, hJ⟩
      have epl : (m : Int) + 1 + (i : Int) = ((m + 1 + i : Nat) : Int) := by omega
      rw [epl]
      refine ⟨.ref pl, rfl, .inl ⟨rfl, _, SqL.of hL⟩, ?_⟩
      refine ⟨_, rfl, _, _, rfl, rfl, _, rfl, by omega, by omega, fun D hD => ?_⟩
      rw [show ((n : Int) + 1).toNat = n + 1 by omega]
      refine lc_rng0 (fun j H2 => Same H' H2 ∧ ∃ ys, H2 D = some (.lst ys) ∧ Items K H2 ys j (FQ.lineF r m i)) ⟨same_upd hD, [], upd_same, .nil⟩ ?_ ?_
      · rintro j H2 hj ⟨s2, ys, hd, hy⟩
        refine ⟨rfl, lc_yes ?_⟩
        refine ⟨_, rfl, _, rfl, _, rfl, _, rfl, _, _, rfl, rfl, fl, rv, nr, r, _, rfl, hF.same (sm.trans s2), hR.same (sm.trans s2), by omega, fun H3 v3 s3 h3 => ?_⟩
        have hd3 := s3 _ _ hd
        refine ⟨ys, hd3, ?_, (s2.trans s3).updN hD, ys ++ [v3], upd_same, ?_⟩
        · rw [hy.len]
          exact small1000 (by omega)
        · exact ((hy.ext s3.text).ext (TExt.upd hd3)).snoc (h3.ext (TExt.upd hd3))
      · rintro H2 ⟨s2, ys, hd, hy⟩
        have npD : pl ≠ D := ne_of_none hL hD
        have hL2 := s2 _ _ hL
        refine ⟨pl, lvs, _, rfl, rfl, hL2, ?_, ?_⟩
        · rw [hlen]
          exact small1000 (by omega)
        · refine ⟨_, lvs ++ [.ref D], rfl, (sm.trans s2).updN hpl, upd_same, by rw [List.length_append, hlen, List.length_singleton], fun j hj => ?_⟩
          by_cases ej : j = i
          · subst ej
            exact ⟨D, by rw [List.getElem?_append_right (by omega), hlen, Nat.sub_self]; rfl, npD.symm, (show LnAt K H2 D (n + 1) (FQ.lineF r m j) from ⟨ys, hd, hy⟩).upd hL2 npD.symm⟩
          · obtain ⟨qa, e1, e2, e3⟩ := hJ j (by omega)
            exact ⟨qa, by rw [List.getElem?_append_left (by omega)]; exact e1, e2, (e3.same s2).upd hL2 e2⟩
    · rintro σ H' ⟨y5, lvs, rfl, sm, hL, hlen, hJ⟩
      have hls : lvs.length = (FQ.linesF r m n).length := by
        unfold FQ.linesF
        rw [List.length_map, List.length_range, hlen]
      refine ⟨_, rfl, _, rfl, _, rfl, _, _, rfl, rfl, fl, pl, lvs, FQ.linesF r m n, n + 1, fr, rfl, hF.same sm, SqL.of hL, hls, fun i l el => ?_, ok1, ok2, fun H2 pb s2 hb => ?_⟩
      · unfold FQ.linesF at el
        rw [List.getElem?_map] at el
        have hi : i < n := by
          cases er : (List.range n)[i]? with
          | none => rw [er] at el; cases el
          | some v =>
            have := (List.getElem?_eq_some_iff.mp er).1
            rw [List.length_range] at this
            exact this
        rw [List.getElem?_range hi] at el
        cases el
        obtain ⟨qa, e1, e2, e3⟩ := hJ i hi
        exact ⟨qa, e1, e3⟩
      have sm2 := sm.trans s2
      generalize hg : FQ.nullN (FQ.pivots (n + 1) (FQ.linesF r m n)) fr = gg at *
      refine ⟨_, rfl, _, _, rfl, rfl, _, rfl, by omega, by omega, fun D hD => ?_⟩
      rw [show ((m : Int) + 1).toNat = m + 1 by omega]
      refine lc_rng0 (fun j H3 => Same H2 H3 ∧ ∃ ys, H3 D = some (.lst ys) ∧ Items K H3 ys j fun i => FQ.patS gg r i (n + 1)) ⟨same_upd hD, [], upd_same, .nil⟩ ?_ ?_
      · rintro j H3 hj ⟨s3, ys, hd, hy⟩
        refine ⟨rfl, lc_yes ?_⟩
        refine ⟨_, rfl, _, rfl, _, rfl, _, rfl, fl, rv, .ref pb, nr, r, n + 1, gg, j, rfl, hF.same (sm2.trans s3), hR.same (sm2.trans s3), (hb.same s3).ls, by omega, ok3 j (by omega), fun H4 v4 s4 h4 => ?_⟩
        have hd4 := s4 _ _ hd
        refine ⟨ys, hd4, ?_, (s3.trans s4).updN hD, ys ++ [v4], upd_same, ?_⟩
        · rw [hy.len]
          exact small1000 (by omega)
        · exact ((hy.ext s4.text).ext (TExt.upd hd4)).snoc (h4.ext (TExt.upd hd4))
      · rintro H3 ⟨s3, ys, hd, hy⟩
        have sm3 := sm2.trans s3
        refine ⟨_, rfl, _, rfl, _, rfl, fl, _, m + 1, _, rfl, hF.same sm3, .inl ⟨D, ys, rfl, SqL.of hd, hy.congr (g := (⟨fun i => if i ≤ m then FQ.patS gg r i (n + 1) else 0⟩ : Ser).co) fun i hi => (if_pos (by omega)).symm⟩, by omega, fun i hi => if_neg (by omega), fun H4 v4 s4 h4 => ?_⟩
        obtain ⟨bs, hb1, hb2⟩ := hb.same (s3.trans s4)
        refine ⟨_, rfl, _, rfl, fl, _, n + 1, _, rfl, hF.same (sm3.trans s4), .inl ⟨pb, bs, rfl, SqL.of hb1, hb2.congr (g := (⟨fun i => if i ≤ n then gg i else 0⟩ : Ser).co) fun i hi => (if_pos (by omega)).symm⟩, by omega, fun i hi => if_neg (by omega), fun H5 v5 s5 h5 => ?_⟩
        exact ⟨fl, v4, v5, _, _, a, b, rfl, hF.same (sm3.trans (s4.trans s5)), h4.ext s5.text, h5, ok4, fun H6 v6 s6 h6 => q _ _ (sm3.trans (s4.trans (s5.trans s6))) h6⟩
def spFurth (K : PySem.W.Frag) : Sp := fun vs H Q _ => ∃ rv nr r m n a b, vs = [rv, .int ((m : Nat) : Int), .int ((n : Nat) : Int)] ∧ LsAt K H rv nr r ∧ m + n + 1 ≤ nr ∧ FQ.FormOK r m n a b ∧ ∀ H' v, Same H H' → QuoAt K H' v a b → Q v H'
theorem gd_furth (B : Bi mg) (ME : MkE K CE) (mE : mg "Exact" = some (.ref CE)) (a : At K mg "furthest" sFurth) (GF : Gd P w K mg base "form_in" k ["field", "row", "m", "n"] (spForm K CE)) : Gd P w K mg base "furthest" (k + 1) ["row", "m", "n"] (spFurth K) := by
  obtain ⟨f, fd, F, g⟩ := a.ex
  refine ⟨f, fd, ?_, g, F.kp, F.binds fun _ _ _ _ _ _ us hl => match us, hl with | [_, _, _], _ => rfl⟩
  refine F.ok scFurth (fun vs H Q E h => ?_) (fun cdv A outer s H vs Q E hr h => ?_)
  · obtain ⟨rv, nr, r, m, n, a, b, rfl, _⟩ := h
    rfl
  · obtain ⟨rv, nr, r, m, n, a, b, rfl, hR, hmn, ok, q⟩ := h
    obtain ⟨p, us, rfl, hp, Ip⟩ := id hR
    refine ⟨_, pss_cons (ps_if (pt_cmpR op_lt (pe_callB call_len_seq (by rfl) B.len b_len (pa_cons (pv 0) pa_nil)) (pe_op op_add (pe_op op_add (pv 1) (pv 2)) pe_int) (nomark _)) pss_never pss_nil)
      (pss_one (ps_ret (pe_gd GF hr (by rfl) (pa_cons (pe_makeE ME (by rfl) mE) (pa_cons (pv 0) (pa_cons (pv 1) (pa_cons (pv 2) pa_nil))))))), ?_⟩
    refine ⟨_, rfl, p, us, rfl, .inl hp, _, rfl, _, rfl, _, _, rfl, rfl, _, _, rfl, rfl, _, _, rfl, rfl, _, rfl, ite2 (fun c => ?_) (fun _ => ?_)⟩
    · have c' := of_decide_eq_true c
      rw [Ip.len] at c'
      have c2 : (nr : Int) < (m : Int) + (n : Int) + 1 := c'
      omega
    · intro x dx nx nd ne
      have s1 := same_make (C := CE) nx nd ne
      exact ⟨_, rfl, _, rfl, _, rfl, _, _, nr, r, m, n, a, b, rfl, fld_make, hR.same s1, hmn, ok, fun H' v sm hv => q _ _ (s1.trans sm) hv⟩
end
end L2.FW
end
section
set_option Elab.async false
set_option linter.all false
set_option maxRecDepth 100000
namespace L2.FW
open PySem PySem.Spec PyProof.Rows
open FQ (Fit BB BB_eq FitP Ser IsLen Lt rowB trn)
abbrev sPow : Stmt := topS 59
abbrev sFirst : Stmt := topS 60
abbrev sNext : Stmt := topS 61
abbrev sByP : Stmt := topS 62
theorem scPow : FnScope ["many"] ["many"] (defScope sPow) := ⟨rfl, rfl, rfl, by decide +kernel, rfl, by decide +kernel, by decide +kernel⟩
theorem scFirst : FnScope ["row"] ["row"] (defScope sFirst) := ⟨rfl, rfl, rfl, by decide +kernel, rfl, by decide +kernel, by decide +kernel⟩
theorem scNext : FnScope ["ahead", "here", "often", "rest"] ["ahead", "here"] (defScope sNext) := ⟨rfl, rfl, rfl, by decide +kernel, rfl, by decide +kernel, by decide +kernel⟩
theorem scByP : FnScope ["row", "m", "n", "ahead", "here"] ["row", "m", "n"] (defScope sByP) := ⟨rfl, rfl, rfl, by decide +kernel, rfl, by decide +kernel, by decide +kernel⟩
/-- a number of the module's own -/
structure CoAt (K : PySem.W.Frag) (mg : Str → Option Value) (x : Str) (q : Rat) : Prop where
  ex : ∃ a, mg x = some (.ref a) ∧ ∀ H, NumAt K H (.ref a) q
def spPow (K : PySem.W.Frag) : Sp := fun vs H Q _ => ∃ n : Nat, vs = [.int ((n : Nat) : Int)] ∧ n ≤ 400 ∧ ∀ H' v, Same H H' → PolyAt K H' v (Ser.X n) → Q v H'
def spFirst (K : PySem.W.Frag) : Sp := fun vs H Q _ => ∃ rv n r, vs = [rv] ∧ LsAt K H rv n r ∧ n ≤ 300 ∧ ∀ H' v v1 v2 a b c d, Same H H' → PairAt K H' v v1 v2 → PairAt K H' v1 a b → PairAt K H' v2 c d → PolyAt K H' a (Ser.X n) → PolyAt K H' b 0 → PolyAt K H' c (trn n r) → PolyAt K H' d 1 → Q v H'
def spNext (K : PySem.W.Frag) : Sp := fun vs H Q _ => ∃ v1 v2 a b c d ra ta r t na nr, vs = [v1, v2] ∧ PairAt K H v1 a b ∧ PairAt K H v2 c d ∧ PolyAt K H a ra ∧ PolyAt K H b ta ∧ PolyAt K H c r ∧ PolyAt K H d t ∧
  IsLen ra na ∧ IsLen r (nr + 1) ∧ FQ.DivOK ra r (nr + 1) (na + 1 - (nr + 1)) ∧ FQ.MulOK (FQ.quo ra r (nr + 1) (na + 1 - (nr + 1))) t ∧ FitP ta ∧ FitP (FQ.quo ra r (nr + 1) (na + 1 - (nr + 1)) * t) ∧ Lt ra 400 ∧ Lt r 400 ∧ Lt ta 400 ∧ Lt t 400 ∧ Lt (FQ.quo ra r (nr + 1) (na + 1 - (nr + 1)) * t) 400 ∧
  ∀ H' v x y, Same H H' → PairAt K H' v x y → PolyAt K H' x (FQ.rem ra r (nr + 1) (na + 1 - (nr + 1))) → PolyAt K H' y (ta - FQ.quo ra r (nr + 1) (na + 1 - (nr + 1)) * t) → Q v H'
def spByP (K : PySem.W.Frag) : Sp := fun vs H Q _ => ∃ rv nr r m n a b, vs = [rv, .int ((m : Nat) : Int), .int ((n : Nat) : Int)] ∧ LsAt K H rv nr r ∧ m + n + 1 ≤ nr ∧ FQ.PartOK r m n a b ∧ ∀ H' v, Same H H' → QuoAt K H' v a b → Q v H'
theorem len_X (n : Nat) : IsLen (Ser.X n) (n + 1) := ⟨FQ.Lt.X n, .inr (by show Ser.X n n ≠ 0; rw [FQ.Ser.X_co, if_pos rfl]; decide)⟩
section
variable {P : Program} {w : World} {K : PySem.W.Frag} {mg : Str → Option Value} {base : Heap} {k : Nat} {CE : Addr}
theorem gd_pow (B : Bi mg) (c0 : CoAt K mg "NOUGHT" 0) (c1 : CoAt K mg "ONE" 1) (a : At K mg "power_of_x" sPow) : Gd P w K mg base "power_of_x" (k + 1) ["many"] (spPow K) := by
  obtain ⟨f, fd, F, g⟩ := a.ex
  obtain ⟨a0, g0, h0⟩ := c0.ex
  obtain ⟨a1, g1, h1⟩ := c1.ex
  refine ⟨f, fd, ?_, g, F.kp, F.binds fun _ _ _ _ _ _ us hl => match us, hl with | [_], _ => rfl⟩
  refine F.ok scPow (fun vs H Q E h => ?_) (fun cdv A outer s H vs Q E hr h => ?_)
  · obtain ⟨n, rfl, _⟩ := h
    rfl
  · obtain ⟨n, rfl, hn, q⟩ := h
    refine ⟨_, pss_one (ps_ret (pe_callTy call_tuple_of (by rfl) B.tuple b_tuple (pa_cons (pe_op op_cat (pe_op op_rep (pe_lst (pa_cons (pe_glob (v := .ref a0) (by rfl) g0 rfl) pa_nil)) (pv 0)) (pe_lst (pa_cons (pe_glob (v := .ref a1) (by rfl) g1 rfl) pa_nil))) pa_nil))), ?_⟩
    refine ⟨Nat.succ_le_of_lt (small1000 (by decide)), fun l0 hl0 => ?_⟩
    have s1 := same_upd (o := .lst [V.ref a0]) hl0
    refine ⟨_, rfl, l0, _, _, rfl, rfl, upd_same, by omega, by omega, ?_, fun l1 hl1 => ?_⟩
    · rw [Int.toNat_natCast]
      exact small1 (by rw [List.length_singleton]; omega)
    rw [Int.toNat_natCast, rep_flat]
    have s2 := s1.new (o := .lst (List.replicate n (V.ref a0))) hl1
    refine ⟨Nat.succ_le_of_lt (small1000 (by decide)), fun l2 hl2 => ?_⟩
    have s3 := s2.new (o := .lst [V.ref a1]) hl2
    have n12 : l1 ≠ l2 := ne_of_none upd_same hl2
    refine ⟨l1, l2, _, _, rfl, rfl, by rw [upd_ne n12, upd_same], upd_same, small1 (by rw [List.length_replicate, List.length_singleton]; omega), fun l3 hl3 => ?_⟩
    have s4 := s3.new (o := .lst (List.replicate n (V.ref a0) ++ [V.ref a1])) hl3
    refine ⟨l3, _, rfl, .inl ⟨.inl (.inl upd_same), fun t ht => ?_⟩⟩
    refine q _ _ (s4.new ht) ⟨n + 1, ⟨t, _, rfl, .inl (.inl upd_same), ?_⟩, len_X n⟩
    refine Items.snoc ((Items.rep (h0 _)).congr fun i hi => ?_) ?_
    · show (0 : Rat) = Ser.X n i
      rw [FQ.Ser.X_co, if_neg (by omega)]
    · show NumAt K _ _ (Ser.X n n)
      rw [FQ.Ser.X_co, if_pos rfl]
      exact h1 _
theorem gd_first (B : Bi mg) (c1 : CoAt K mg "ONE" 1) (a : At K mg "first_steps" sFirst) (GX : Gd P w K mg base "power_of_x" k ["many"] (spPow K)) (GP : Gd P w K mg base "poly" k ["numbers"] (spPoly K)) : Gd P w K mg base "first_steps" (k + 1) ["row"] (spFirst K) := by
  obtain ⟨f, fd, F, g⟩ := a.ex
  obtain ⟨a1, g1, h1⟩ := c1.ex
  refine ⟨f, fd, ?_, g, F.kp, F.binds fun _ _ _ _ _ _ us hl => match us, hl with | [_], _ => rfl⟩
  refine F.ok scFirst (fun vs H Q E h => ?_) (fun cdv A outer s H vs Q E hr h => ?_)
  · obtain ⟨rv, n, r, rfl, _⟩ := h
    rfl
  · obtain ⟨rv, n, r, rfl, hR, hn, q⟩ := h
    obtain ⟨p, us, rfl, hp, Ip⟩ := id hR
    refine ⟨_, pss_one (ps_ret (pe_tup (pa_cons (pe_tup (pa_cons (pe_gd GX hr (by rfl) (pa_cons (pe_callB call_len_seq (by rfl) B.len b_len (pa_cons (pv 0) pa_nil)) pa_nil)) (pa_cons (pe_tup pa_nil) pa_nil)))
      (pa_cons (pe_tup (pa_cons (pe_gd GP hr (by rfl) (pa_cons (pv 0) pa_nil)) (pa_cons (pe_tup (pa_cons (pe_glob (v := .ref a1) (by rfl) g1 rfl) pa_nil)) pa_nil))) pa_nil)))), ?_⟩
    refine ⟨_, rfl, p, us, rfl, .inl hp, n, by rw [Ip.len]; rfl, by omega, fun H1 v1 s1 hX => ?_⟩
    refine ⟨Nat.zero_le _, fun t0 ht0 => ?_⟩
    have s2 := same_upd (o := .tup []) ht0
    refine ⟨(by show 2 ≤ sizeLine; decide), fun t1 ht1 => ?_⟩
    have s3 := same_upd (o := .tup [v1, .ref t0]) ht1
    have s13 := s1.trans (s2.trans s3)
    refine ⟨_, rfl, _, n, trn n r, rfl, .inl ⟨p, us, rfl, s13.seq hp, (Ip.ext s13.text).congr fun i hi => (if_pos hi).symm⟩, by omega, lt_trn n r, fun H2 v2 s4 hP => ?_⟩
    refine ⟨Nat.succ_le_of_lt (small1000 (by decide)), fun t2 ht2 => ?_⟩
    have s5 := same_upd (o := .tup [.ref a1]) ht2
    refine ⟨(by show 2 ≤ sizeLine; decide), fun t3 ht3 => ?_⟩
    have s6 := same_upd (o := .tup [v2, .ref t2]) ht3
    refine ⟨(by show 2 ≤ sizeLine; decide), fun t4 ht4 => ?_⟩
    have s7 := same_upd (o := .tup [.ref t1, .ref t3]) ht4
    have s47 := s4.trans (s5.trans (s6.trans s7))
    refine q _ (.ref t4) (.ref t1) (.ref t3) v1 (.ref t0) v2 (.ref t2) (s13.trans s47) ⟨t4, rfl, .inl (.inl upd_same)⟩ ⟨t1, rfl, .inl (.inl (s47 _ _ upd_same))⟩ ⟨t3, rfl, .inl (.inl (s7 _ _ upd_same))⟩ (hX.ext (s2.trans (s3.trans s47)).text) ?_ (hP.ext (s5.trans (s6.trans s7)).text) ?_
    · exact ⟨0, ⟨t0, [], rfl, .inl (.inl ((s3.trans s47) _ _ upd_same)), .nil⟩, FQ.IsLen.zero⟩
    · exact ⟨1, ⟨t2, [.ref a1], rfl, .inl (.inl ((s6.trans s7) _ _ upd_same)), (Items.nil (f := (1 : Ser).co)).snoc (h1 _)⟩, FQ.IsLen.one⟩
theorem gd_next (a : At K mg "next_step" sNext) (GP : Gd P w K mg base "parted" k ["one", "other"] (spPParted K)) (GL : Gd P w K mg base "poly_less" k ["one", "other"] (spPLess K)) (GM : Gd P w K mg base "poly_product" k ["one", "other"] (spPProd K)) :
    Gd P w K mg base "next_step" (k + 1) ["ahead", "here"] (spNext K) := by
  obtain ⟨f, fd, F, g⟩ := a.ex
  refine ⟨f, fd, ?_, g, F.kp, F.binds fun _ _ _ _ _ _ us hl => match us, hl with | [_, _], _ => rfl⟩
  refine F.ok scNext (fun vs H Q E h => ?_) (fun cdv A outer s H vs Q E hr h => ?_)
  · obtain ⟨v1, v2, a, b, c, d, ra, ta, r, t, na, nr, rfl, _⟩ := h
    rfl
  · obtain ⟨v1, v2, a, b, c, d, ra, ta, r, t, na, nr, rfl, ⟨p1, rfl, hp1⟩, ⟨p2, rfl, hp2⟩, ha, hb, hc, hd, Ia, Ir, ok, mul, fa, fq, la, lr, lta, lt, lqt, q⟩ := h
    refine ⟨_, pss_cons (ps_asg (pe_gd GP hr (by rfl) (pa_cons (pe_ix ix_tup (pv 0) pe_int (fun _ _ => rfl)) (pa_cons (pe_ix ix_tup (pv 1) pe_int (fun _ _ => rfl)) pa_nil))) (pg_tup rfl (pgs_cons (pg_name (i := 2) scNext.nd rfl (.inl rfl)) (pgs_cons (pg_name (i := 3) scNext.nd rfl (.inl rfl)) pgs_nil))))
      (pss_one (ps_ret (pe_tup (pa_cons (pv 3) (pa_cons (pe_gd GL hr (by rfl) (pa_cons (pe_ix ix_tup (pv 0) pe_int (fun _ _ => rfl)) (pa_cons (pe_gd GM hr (by rfl) (pa_cons (pv 2) (pa_cons (pe_ix ix_tup (pv 1) pe_int (fun _ _ => rfl)) pa_nil))) pa_nil))) pa_nil))))), ?_⟩
    refine ⟨_, rfl, p1, _, 0, _, rfl, rfl, hp1, at0, _, rfl, p2, _, 0, _, rfl, rfl, hp2, at0, a, c, ra, r, na, nr, rfl, ha, hc, Ia, Ir, ok, la, lr, fun H1 v x y s1 ⟨pp, e1, hpp⟩ hx hy => ?_⟩
    subst e1
    refine g_pair hpp ?_
    refine ⟨_, rfl, _, rfl, p1, _, 1, _, rfl, rfl, s1.seqT hp1, at1, ?_⟩
    have na4 := Ia.le la
    refine ⟨_, rfl, _, rfl, p2, _, 1, _, rfl, rfl, s1.seqT hp2, at1, x, d, _, t, rfl, hx, hd.ext s1.text, mul, (Lt.quoT _ _ _ _).mono (by omega), lt, fun H2 v2 s2 h2 => ?_⟩
    refine ⟨b, v2, ta, _, rfl, hb.ext (s1.trans s2).text, h2, fa, fq, lta, lqt, fun H3 v3 s3 h3 => ?_⟩
    refine ⟨(by show 2 ≤ sizeLine; decide), fun t4 ht4 => ?_⟩
    have s4 := same_upd (o := .tup [y, v3]) ht4
    exact q _ _ y v3 (s1.trans (s2.trans (s3.trans s4))) ⟨t4, rfl, .inl (.inl upd_same)⟩ (hy.ext (s2.trans (s3.trans s4)).text) (h3.ext s4.text)
theorem gd_byP (B : Bi mg) (a : At K mg "by_parting" sByP) (GF : Gd P w K mg base "first_steps" k ["row"] (spFirst K)) (GD : Gd P w K mg base "degree" k ["one"] (spDeg K)) (GN : Gd P w K mg base "next_step" k ["ahead", "here"] (spNext K)) (GQ : Gd P w K mg base "quotient_of" k ["top", "below"] (spQuoOf K)) :
    Gd P w K mg base "by_parting" (k + 1) ["row", "m", "n"] (spByP K) := by
  obtain ⟨f, fd, F, g⟩ := a.ex
  refine ⟨f, fd, ?_, g, F.kp, F.binds fun _ _ _ _ _ _ us hl => match us, hl with | [_, _, _], _ => rfl⟩
  refine F.ok scByP (fun vs H Q E h => ?_) (fun cdv A outer s H vs Q E hr h => ?_)
  · obtain ⟨rv, nr, r, m, n, a, b, rfl, _⟩ := h
    rfl
  · obtain ⟨rv, nr, r, m, n, a, b, rfl, hR, hmn, ⟨⟨r', t', par, quo⟩, m1, n1⟩, q⟩ := h
    obtain ⟨p, us, rfl, hp, Ip⟩ := id hR
    refine ⟨_, pss_cons (ps_if (pt_cmpR op_lt (pe_callB call_len_seq (by rfl) B.len b_len (pa_cons (pv 0) pa_nil)) (pe_op op_add (pe_op op_add (pv 1) (pv 2)) pe_int) (nomark _)) pss_never pss_nil)
      (pss_cons (ps_asg (pe_gd GF hr (by rfl) (pa_cons (pe_slice sl_list (pv 0) po_none (po_some (pe_op op_add (pe_op op_add (pv 1) (pv 2)) pe_int))) pa_nil)) (pg_tup rfl (pgs_cons (pg_name (i := 3) scByP.nd rfl (.inl rfl)) (pgs_cons (pg_name (i := 4) scByP.nd rfl (.inl rfl)) pgs_nil))))
      (pss_cons (ps_while PassesOwn.never (pt_cmpR op_gt (pe_gd GD hr (by rfl) (pa_cons (pe_ix ix_tup (pv 4) pe_int (fun _ _ => rfl)) pa_nil)) (pv 1) (nomark _))
        (pss_one (ps_par (i := 3) (j := 4) rfl scByP.nd rfl rfl (by decide) rfl rfl (pa_cons (pv 4) (pa_cons (pe_gd GN hr (by rfl) (pa_cons (pv 3) (pa_cons (pv 4) pa_nil))) pa_nil)) rfl)))
      (pss_one (ps_ret (pe_gd GQ hr (by rfl) (pa_cons (pe_ix ix_tup (pv 4) pe_int (fun _ _ => rfl)) (pa_cons (pe_ix ix_tup (pv 4) pe_int (fun _ _ => rfl)) pa_nil))))))), ?_⟩
    refine ⟨_, rfl, p, us, rfl, .inl hp, _, rfl, _, rfl, _, _, rfl, rfl, _, _, rfl, rfl, _, _, rfl, rfl, _, rfl, ite2 (fun c => ?_) (fun _ => ?_)⟩
    · have c' := of_decide_eq_true c
      rw [Ip.len] at c'
      have c2 : (nr : Int) < (m : Int) + (n : Int) + 1 := c'
      omega
    refine ⟨_, rfl, _, rfl, _, rfl, _, _, rfl, rfl, _, _, rfl, rfl, _, rfl, p, us, rfl, hp, fun D hD => ?_⟩
    have ec : cutV us none (some ((fun i j => i + j) ((fun i j => i + j) (m : Int) (n : Int)) 1)) = us.take (m + n + 1) := cut_head us (by show (m : Int) + (n : Int) + 1 = _; omega)
    rw [ec]
    have s0 := same_upd (o := .lst (us.take (m + n + 1))) hD
    refine ⟨_, m + n + 1, r, rfl, ⟨D, _, rfl, SqL.of upd_same, (Ip.ext s0.text).take (m + n + 1) hmn⟩, by omega, fun H1 v v1 v2 x1 x2 x3 x4 s1 ⟨pp, e1, hpp⟩ h1 h2 g1 g2 g3 g4 => ?_⟩
    subst e1
    refine g_pair hpp ?_
    have s01 := s0.trans s1
    obtain ⟨nc, Tc, Ic⟩ := id g3
    refine ⟨fun d σ H' => ∃ v1 v2 x1 x2 x3 x4 ra ta rr t, σ = [some (.ref p), some (.int ((m : Nat) : Int)), some (.int ((n : Nat) : Int)), some v1, some v2] ∧ Same H H' ∧ PairAt K H' v1 x1 x2 ∧ PairAt K H' v2 x3 x4 ∧ PolyAt K H' x1 ra ∧ PolyAt K H' x2 ta ∧ PolyAt K H' x3 rr ∧ PolyAt K H' x4 t ∧ IsLen rr d ∧ FQ.Par m ra ta rr t r' t',
      ⟨nc, v1, v2, x1, x2, x3, x4, _, _, _, _, rfl, s01, h1, h2, g1, g2, g3, g4, Ic, par⟩, ?_⟩
    rintro d σ H' ⟨v1, v2, x1, x2, x3, x4, ra, ta, rr, t, rfl, sm, h1, ⟨pv2, e2, hp2⟩, g1, g2, g3, g4, Id, par1⟩
    subst e2
    refine ⟨_, rfl, pv2, _, 0, _, rfl, rfl, hp2, at0, x3, rr, d, rfl, g3, Id, _, rfl, _, _, rfl, rfl, _, rfl, ite2 (fun c => ?_) (fun c => ?_)⟩
    · have c' : (m : Int) < (d : Int) - 1 := of_decide_eq_true c
      cases par1 with
      | stop h =>
        have := Id.le h
        omega
      | @step _ _ _ _ _ _ na nr1 ha hr1 hm ok mul fa fq la lr lta lt lqt next =>
        have ed := Id.unique hr1
        subst ed
        refine ⟨fun σ' H'' => ∃ d, d < nr1 + 1 ∧ ∃ v1 v2 x1 x2 x3 x4 ra ta rr t, σ' = [some (.ref p), some (.int ((m : Nat) : Int)), some (.int ((n : Nat) : Int)), some v1, some v2] ∧ Same H H'' ∧ PairAt K H'' v1 x1 x2 ∧ PairAt K H'' v2 x3 x4 ∧ PolyAt K H'' x1 ra ∧ PolyAt K H'' x2 ta ∧ PolyAt K H'' x3 rr ∧ PolyAt K H'' x4 t ∧ IsLen rr d ∧ FQ.Par m ra ta rr t r' t', fun σ' H'' hN => hN, ?_⟩
        refine ⟨_, rfl, _, rfl, _, rfl, v1, .ref pv2, x1, x2, x3, x4, ra, ta, rr, t, na, nr1, rfl, h1, ⟨pv2, rfl, hp2⟩, g1, g2, g3, g4, ha, hr1, ok, mul, fa, fq, la, lr, lta, lt, lqt, fun H2 v3 y1 y2 s2 hv3 hy1 hy2 => ?_⟩
        obtain ⟨nd, Td, Idd⟩ := id hy1
        have rr2 := Lt.remT ha hr1
        refine ⟨_, _, rfl, nd, Nat.lt_succ_of_le (Nat.le_trans (Idd.le rr2) (Nat.min_le_left _ _)), .ref pv2, v3, x3, x4, y1, y2, rr, t, _, _, rfl, sm.trans s2, ⟨pv2, rfl, s2.seqT hp2⟩, hv3, g3.ext s2.text, g4.ext s2.text, hy1, hy2, Idd, next⟩
    · have c' : ¬ (m : Int) < (d : Int) - 1 := fun z => c (decide_eq_true z)
      have er : rr = r' ∧ t = t' := by
        cases par1 with
        | stop h => exact ⟨rfl, rfl⟩
        | step ha hr1 hm =>
          have := Id.unique hr1
          omega
      obtain ⟨rfl, rfl⟩ := er
      exact ⟨_, rfl, pv2, _, 0, _, rfl, rfl, hp2, at0, _, rfl, pv2, _, 1, _, rfl, rfl, hp2, at1, x3, x4, rr, t, a, b, rfl, g3, g4, quo, fun H2 v2 s2 hv2 => q _ _ (sm.trans s2) hv2⟩
end
end L2.FW
end
section
set_option Elab.async false
set_option linter.all false
set_option maxRecDepth 100000
namespace PySem
open Sem (wp)
/-- a zip whatever it keeps -/
abbrev IsZipG (h : Heap) (z TI TO : Addr) (f0 f1 : Value) : Prop :=
  h.get? z = some { cls := .type "zip", dict := none, data := .fields #[f0, f1, .bool false, .ref TI, .ref TO], slots := #[] }
section
variable {prog : Program} {w : World} {A : Around} {E : Value → Shared → Prop} {s : Shared}
theorem fw_zip_free_item {z TI TO i1 i2 l1 l2 : Addr} {k1 k2 : Nat} {xs ys : Array Value} {x y a b f0 f1 : Value} {Q : Value → Shared → Prop} (D : ZipApart z TI TO i1 i2 l1 l2)
    (hz : IsZipG s.heap z TI TO f0 f1) (hfree : ∀ Q : Bool → Shared → Prop, Q true s → wpAny (model prog w) A (Builtin.SmallTypes.ownedTupleIsFree (.ref z)) Q E s) (hTI : IsPair s.heap TI (.ref i1) (.ref i2)) (hTO : IsPair s.heap TO a b)
    (h1 : s.heap.IsListIter i1 l1 k1) (h2 : s.heap.IsListIter i2 l2 k2) (hl1 : s.heap.IsList l1 xs) (hl2 : s.heap.IsList l2 ys) (hx : xs[k1]? = some x) (hy : ys[k2]? = some y)
    (hQ : ∀ h', IsZip h' z TI TO (rawInt s.heap.objs.size) → IsPair h' TO x y → h'.IsListIter i1 l1 (k1 + 1) → h'.IsListIter i2 l2 (k2 + 1) → IsPair h' s.heap.objs.size x y → h'.objs.size = s.heap.objs.size + 1 →
      (∀ c o, c ≠ z → c ≠ TO → c ≠ i1 → c ≠ i2 → s.heap.get? c = some o → h'.get? c = some o) → Q (.ref s.heap.objs.size) { s with heap := h' }) :
    wpAny (model prog w) A (Builtin.«zip.__next__» ⟨[.ref z], []⟩) (fun fin s' => ∃ v, fin = .done (.ret v) ∧ Q v s') E s := by
  show wpAny _ _ (field (.ref z) 2 >>= _) _ _ _
  refine wpAny_bind (wpAny_field hz rfl (x := .bool false) rfl ?_)
  show wpAny _ _ (field (.ref z) 3 >>= _) _ _ _
  refine wpAny_bind (wpAny_field hz rfl (x := .ref TI) rfl ?_)
  refine wpAny_bind (wpAny_seqItems hTI rfl ?_)
  show wpAny _ _ (Builtin.SmallTypes.ownedTupleIsFree (.ref z) >>= _) _ _ _
  refine wpAny_bind (hfree _ ?_)
  simp only [if_true]
  refine wpAny_bind (wpAny_rule ?_)
  refine wpAny_bind (wpAny_field hz rfl (x := .ref TO) rfl ?_)
  refine wpAny_bind (wpAny_setField_rec hz (by simp) fun h₁ hz₁ hs₁ => ?_)
  replace hz₁ : IsZipG h₁ z TI TO .ellipsis f1 := hz₁
  refine wpAny_bind ?_
  simp only [List.zipIdx_cons, List.zipIdx_nil, List.forIn_cons, List.forIn_nil]

  refine wpAny_bind (wpAny_bind (wpAny_onRaise ?_))
  show wpAny _ _ (Builtin.SmallTypes.nextOf (.ref i1) >>= _) _ _ _
  refine wpAny_bind (wpAny_nextOf_list_item (h1.extBut hs₁.extBut D.i1z) (hl1.extBut hs₁.extBut D.l1z) hx fun h₂ h1₂ hs₂ => wpAny_pure ?_)
  have hTO₂ : IsPair h₂ TO a b := hs₂.extBut _ _ D.TOi1 (hs₁.extBut _ _ D.TOz hTO)
  refine wpAny_bind (wpAny_seqItems hTO₂ rfl ?_)
  refine wpAny_bind (wpAny_updateSeq_pair hTO₂ fun h₃ hTO₃ hs₃ => ?_)
  replace hTO₃ : IsPair h₃ TO x b := hTO₃
  refine wpAny_bind (wpAny_letGo (wpAny_pure ?_))

  refine wpAny_bind (wpAny_bind (wpAny_onRaise ?_))
  show wpAny _ _ (Builtin.SmallTypes.nextOf (.ref i2) >>= _) _ _ _
  refine wpAny_bind (wpAny_nextOf_list_item (((h2.extBut hs₁.extBut D.i2z).extBut hs₂.extBut D.i12.symm).extBut hs₃.extBut D.TOi2.symm)
    (((hl2.extBut hs₁.extBut D.l2z).extBut hs₂.extBut D.l2i1).extBut hs₃.extBut D.l2TO) hy fun h₄ h2₄ hs₄ => wpAny_pure ?_)
  have hTO₄ : IsPair h₄ TO x b := hs₄.extBut _ _ D.TOi2 hTO₃
  refine wpAny_bind (wpAny_seqItems hTO₄ rfl ?_)
  refine wpAny_bind (wpAny_updateSeq_pair hTO₄ fun h₅ hTO₅ hs₅ => ?_)
  replace hTO₅ : IsPair h₅ TO x y := hTO₅
  refine wpAny_bind (wpAny_letGo (wpAny_pure (wpAny_pure ?_)))

  refine wpAny_bind (wpAny_seqItems hTO₅ rfl ?_)
  refine wpAny_bind (wpAny_newTuple ?_)
  have hsz : h₅.objs.size = s.heap.objs.size := by rw [hs₅.1, hs₄.1, hs₃.1, hs₂.1, hs₁.1]
  have hz₅ : IsZipG h₅ z TI TO .ellipsis f1 := hs₅.extBut _ _ D.TOz.symm (hs₄.extBut _ _ D.i2z.symm (hs₃.extBut _ _ D.TOz.symm (hs₂.extBut _ _ D.i1z.symm hz₁)))
  have hk₅ : ∀ c o, c ≠ z → c ≠ TO → c ≠ i1 → c ≠ i2 → s.heap.get? c = some o → h₅.get? c = some o := fun c o c1 c2 c3 c4 e =>
    hs₅.extBut _ _ c2 (hs₄.extBut _ _ c4 (hs₃.extBut _ _ c2 (hs₂.extBut _ _ c3 (hs₁.extBut _ _ c1 e))))
  have h1₅ : h₅.IsListIter i1 l1 (k1 + 1) := ((h1₂.extBut hs₃.extBut D.TOi1.symm).extBut hs₄.extBut D.i12).extBut hs₅.extBut D.TOi1.symm
  have h2₅ : h₅.IsListIter i2 l2 (k2 + 1) := h2₄.extBut hs₅.extBut D.TOi2.symm
  have hzlt : z < h₅.objs.size := Heap.lt_size hz₅
  have hTOlt : TO < h₅.objs.size := Heap.lt_size hTO₅
  have hi1lt : i1 < h₅.objs.size := by obtain ⟨_, e, _⟩ := h1₅; exact Heap.lt_size e
  have hi2lt : i2 < h₅.objs.size := by obtain ⟨_, e, _⟩ := h2₅; exact Heap.lt_size e
  show wpAny _ _ (Builtin.SmallTypes.ownedTupleHandOut (.ref z) (.ref h₅.objs.size) >>= _) _ _ _
  refine wpAny_bind ?_
  unfold Builtin.SmallTypes.ownedTupleHandOut
  have hz₆ : IsZipG (h₅.push { cls := .type "tuple", data := .seq #[x, y] }) z TI TO .ellipsis f1 := Heap.get?_push_of_some _ hz₅
  refine wpAny_bind (wpAny_setField_rec hz₆ (by simp) fun h₇ hz₇ hs₇ => ?_)
  replace hz₇ : IsZipG h₇ z TI TO (rawInt h₅.objs.size) f1 := hz₇
  refine wpAny_setField_rec hz₇ (by simp) fun h₈ hz₈ hs₈ => ?_
  replace hz₈ : IsZip h₈ z TI TO (rawInt h₅.objs.size) := hz₈
  have up : ∀ c o, c ≠ z → h₅.get? c = some o → h₈.get? c = some o := fun c o c1 e => hs₈.extBut _ _ c1 (hs₇.extBut _ _ c1 (Heap.get?_push_of_some _ e))
  have hT₈ : IsPair h₈ h₅.objs.size x y := hs₈.extBut _ _ (Nat.ne_of_gt hzlt) (hs₇.extBut _ _ (Nat.ne_of_gt hzlt) (Heap.get?_push_size _ rfl))
  have hz8 : h₈.objs.size = h₅.objs.size + 1 := by rw [hs₈.1, hs₇.1, Heap.size_push]
  rw [hsz] at hz₈ hT₈ hz8
  refine wpAny_pure ⟨_, rfl, ?_⟩
  show Q (.ref h₅.objs.size) _
  rw [hsz]
  exact hQ h₈ hz₈ (up _ _ D.TOz hTO₅) (h1₅.at fun o e => up _ o D.i1z e) (h2₅.at fun o e => up _ o D.i2z e) hT₈ hz8 fun c o c1 c2 c3 c4 e => up c o c1 (hk₅ c o c1 c2 c3 c4 e)

theorem fw_zip_free_end {z TI TO i1 i2 l1 l2 : Addr} {k1 k2 : Nat} {xs ys : Array Value} {a b f0 f1 : Value} {Q : Fin → Shared → Prop} (hh : A.handled = none) (D : ZipApart z TI TO i1 i2 l1 l2)
    (hz : IsZipG s.heap z TI TO f0 f1) (hfree : ∀ Q : Bool → Shared → Prop, Q true s → wpAny (model prog w) A (Builtin.SmallTypes.ownedTupleIsFree (.ref z)) Q E s) (hTI : IsPair s.heap TI (.ref i1) (.ref i2)) (hTO : IsPair s.heap TO a b)
    (h1 : s.heap.IsListIter i1 l1 k1) (h2 : s.heap.IsListIter i2 l2 k2) (hl1 : s.heap.IsList l1 xs) (hl2 : s.heap.IsList l2 ys) (hend : xs[k1]? = none ∨ ys[k2]? = none)
    (hE : ∀ h' e, (∀ c o, c ≠ z → c ≠ TO → c ≠ i1 → c ≠ i2 → s.heap.get? c = some o → h'.get? c = some o) → (∃ o, h'.get? e = some o ∧ o.cls = .type "StopIteration") → E (.ref e) { s with heap := h' }) :
    wpAny (model prog w) A (Builtin.«zip.__next__» ⟨[.ref z], []⟩) Q E s := by
  show wpAny _ _ (field (.ref z) 2 >>= _) _ _ _
  refine wpAny_bind (wpAny_field hz rfl (x := .bool false) rfl ?_)
  show wpAny _ _ (field (.ref z) 3 >>= _) _ _ _
  refine wpAny_bind (wpAny_field hz rfl (x := .ref TI) rfl ?_)
  refine wpAny_bind (wpAny_seqItems hTI rfl ?_)
  show wpAny _ _ (Builtin.SmallTypes.ownedTupleIsFree (.ref z) >>= _) _ _ _
  refine wpAny_bind (hfree _ ?_)
  simp only [if_true]
  refine wpAny_bind (wpAny_rule ?_)
  refine wpAny_bind (wpAny_field hz rfl (x := .ref TO) rfl ?_)
  refine wpAny_bind (wpAny_setField_rec hz (by simp) fun h₁ hz₁ hs₁ => ?_)
  replace hz₁ : IsZipG h₁ z TI TO .ellipsis f1 := hz₁
  refine wpAny_bind ?_
  simp only [List.zipIdx_cons, List.zipIdx_nil, List.forIn_cons, List.forIn_nil]
  refine wpAny_bind (wpAny_bind (wpAny_onRaise ?_))
  show wpAny _ _ (Builtin.SmallTypes.nextOf (.ref i1) >>= _) _ _ _
  cases hx : xs[k1]? with
  | none =>
    refine wpAny_bind (wpAny_nextOf_list_end hh (h1.extBut hs₁.extBut D.i1z) (hl1.extBut hs₁.extBut D.l1z) hx fun h₂ e hs₂ he => ?_)
    obtain ⟨oe, hoe, hce⟩ := he
    have hz₂ : IsZipG h₂ z TI TO .ellipsis f1 := hs₂ _ _ D.i1z.symm hz₁
    have hez : e ≠ z := fun x => by subst x; rw [hz₂] at hoe; cases hoe; simp at hce
    refine wpAny_setField_rec hz₂ (by simp) fun h₃ _ hs₃ => hE h₃ e (fun c o c1 _ c3 _ x => hs₃.extBut _ _ c1 (hs₂ _ _ c3 (hs₁.extBut _ _ c1 x))) ⟨oe, hs₃.extBut _ _ hez hoe, hce⟩
  | some x =>
    have hy : ys[k2]? = none := by rcases hend with h | h; rw [hx] at h; cases h; exact h
    refine wpAny_bind (wpAny_nextOf_list_item (h1.extBut hs₁.extBut D.i1z) (hl1.extBut hs₁.extBut D.l1z) hx fun h₂ h1₂ hs₂ => wpAny_pure ?_)
    have hTO₂ : IsPair h₂ TO a b := hs₂.extBut _ _ D.TOi1 (hs₁.extBut _ _ D.TOz hTO)
    refine wpAny_bind (wpAny_seqItems hTO₂ rfl ?_)
    refine wpAny_bind (wpAny_updateSeq_pair hTO₂ fun h₃ hTO₃ hs₃ => ?_)
    refine wpAny_bind (wpAny_letGo (wpAny_pure ?_))
    refine wpAny_bind (wpAny_bind (wpAny_onRaise ?_))
    show wpAny _ _ (Builtin.SmallTypes.nextOf (.ref i2) >>= _) _ _ _
    refine wpAny_bind (wpAny_nextOf_list_end hh (((h2.extBut hs₁.extBut D.i2z).extBut hs₂.extBut D.i12.symm).extBut hs₃.extBut D.TOi2.symm)
      (((hl2.extBut hs₁.extBut D.l2z).extBut hs₂.extBut D.l2i1).extBut hs₃.extBut D.l2TO) hy fun h₄ e hs₄ he => ?_)
    obtain ⟨oe, hoe, hce⟩ := he
    have hz₄ : IsZipG h₄ z TI TO .ellipsis f1 := hs₄ _ _ D.i2z.symm (hs₃.extBut _ _ D.TOz.symm (hs₂.extBut _ _ D.i1z.symm hz₁))
    have hez : e ≠ z := fun x => by subst x; rw [hz₄] at hoe; cases hoe; simp at hce
    refine wpAny_setField_rec hz₄ (by simp) fun h₅ _ hs₅ => hE h₅ e (fun c o c1 c2 c3 c4 x => hs₅.extBut _ _ c1 (hs₄ _ _ c4 (hs₃.extBut _ _ c2 (hs₂.extBut _ _ c3 (hs₁.extBut _ _ c1 x))))) ⟨oe, hs₅.extBut _ _ hez hoe, hce⟩


theorem fw_dead {a : Addr} {Q : Option Obj → Shared → Prop} (ho : s.heap.get? a = none) (h : Q none s) : wpAny (model prog w) A (loadIfAlive a) Q E s := by
  have h' : Q (s.heap.get? a) s := by rw [ho]; exact h
  exact fun _ _ _ => h'
/-- how far a zip over two lists is -/
def ZipSt (z TI TO i1 i2 a b : Addr) (i : Nat) (h : Heap) : Prop :=
  ((IsZip h z TI TO .none) ∨ ∃ T f, IsZipHeld h z TI TO T f) ∧ IsPair h TI (.ref i1) (.ref i2) ∧ (∃ x y, IsPair h TO x y) ∧ h.IsListIter i1 a i ∧ h.IsListIter i2 b i
theorem fw_zip_any_item {z TI TO i1 i2 l1 l2 : Addr} {k : Nat} {xs ys : Array Value} {x y : Value} {Q : Value → Shared → Prop} (D : ZipApart z TI TO i1 i2 l1 l2) (st : ZipSt z TI TO i1 i2 l1 l2 k s.heap)
    (hl1 : s.heap.IsList l1 xs) (hl2 : s.heap.IsList l2 ys) (hx : xs[k]? = some x) (hy : ys[k]? = some y)
    (hQ : ∀ h', ZipSt z TI TO i1 i2 l1 l2 (k + 1) h' → IsPair h' s.heap.objs.size x y → h'.objs.size = s.heap.objs.size + 1 →
      (∀ c o, c ≠ z → c ≠ TO → c ≠ i1 → c ≠ i2 → s.heap.get? c = some o → h'.get? c = some o) → Q (.ref s.heap.objs.size) { s with heap := h' }) :
    wpAny (model prog w) A (Builtin.«zip.__next__» ⟨[.ref z], []⟩) (fun fin s' => ∃ v, fin = .done (.ret v) ∧ Q v s') E s := by
  obtain ⟨hz, hTI, ⟨u, v, hTO⟩, h1, h2⟩ := st
  rcases hz with hz | ⟨T, f, hz⟩
  · refine fw_zip_free_item D (f0 := .none) (f1 := .bool false) hz (fun Q q => ?_) hTI hTO h1 h2 hl1 hl2 hx hy fun h' a1 a2 a3 a4 a5 a6 a7 => hQ h' ⟨.inr ⟨_, false, a1⟩, a7 _ _ D.TIz D.TITO D.TIi1 D.TIi2 hTI, ⟨_, _, a2⟩, a3, a4⟩ a5 a6 a7
    unfold Builtin.SmallTypes.ownedTupleIsFree
    exact wpAny_bind (wpAny_field hz rfl (x := .none) rfl (wpAny_pure q))
  · cases hT : s.heap.get? T with
    | none =>
      refine fw_zip_free_item D (f0 := rawInt T) (f1 := .bool f) hz (fun Q q => ?_) hTI hTO h1 h2 hl1 hl2 hx hy fun h' a1 a2 a3 a4 a5 a6 a7 => hQ h' ⟨.inr ⟨_, false, a1⟩, a7 _ _ D.TIz D.TITO D.TIi1 D.TIi2 hTI, ⟨_, _, a2⟩, a3, a4⟩ a5 a6 a7
      unfold Builtin.SmallTypes.ownedTupleIsFree
      refine wpAny_bind (wpAny_field hz rfl (x := rawInt T) rfl ?_)
      show wpAny _ _ (loadIfAlive ((T : Int).toNat) >>= _) _ _ _
      rw [Int.toNat_natCast]
      refine wpAny_bind (fw_dead hT ?_)
      simp only [Option.isNone_none, if_true]
      exact wpAny_pure q
    | some oT =>
      refine zip_next_item_held D hz hT hTI h1 h2 hl1 hl2 hx hy fun h' a1 a3 a4 a5 a6 a7 => hQ h' ⟨.inr ⟨_, true, a1⟩, a7 _ _ D.TIz D.TIi1 D.TIi2 hTI, ⟨_, _, a7 _ _ D.TOz D.TOi1 D.TOi2 hTO⟩, a3, a4⟩ a5 a6 fun c o c1 c2 c3 c4 e => a7 c o c1 c3 c4 e
theorem fw_zip_any_end {z TI TO i1 i2 l1 l2 : Addr} {k : Nat} {xs ys : Array Value} {Q : Fin → Shared → Prop} (hh : A.handled = none) (D : ZipApart z TI TO i1 i2 l1 l2) (st : ZipSt z TI TO i1 i2 l1 l2 k s.heap)
    (hl1 : s.heap.IsList l1 xs) (hl2 : s.heap.IsList l2 ys) (hend : xs[k]? = none ∨ ys[k]? = none)
    (hE : ∀ h' e, (∀ c o, c ≠ z → c ≠ TO → c ≠ i1 → c ≠ i2 → s.heap.get? c = some o → h'.get? c = some o) → (∃ o, h'.get? e = some o ∧ o.cls = .type "StopIteration") → E (.ref e) { s with heap := h' }) :
    wpAny (model prog w) A (Builtin.«zip.__next__» ⟨[.ref z], []⟩) Q E s := by
  obtain ⟨hz, hTI, ⟨u, v, hTO⟩, h1, h2⟩ := st
  rcases hz with hz | ⟨T, f, hz⟩
  · refine fw_zip_free_end hh D (f0 := .none) (f1 := .bool false) hz (fun Q q => ?_) hTI hTO h1 h2 hl1 hl2 hend hE
    unfold Builtin.SmallTypes.ownedTupleIsFree
    exact wpAny_bind (wpAny_field hz rfl (x := .none) rfl (wpAny_pure q))
  · cases hT : s.heap.get? T with
    | none =>
      refine fw_zip_free_end hh D (f0 := rawInt T) (f1 := .bool f) hz (fun Q q => ?_) hTI hTO h1 h2 hl1 hl2 hend hE
      unfold Builtin.SmallTypes.ownedTupleIsFree
      refine wpAny_bind (wpAny_field hz rfl (x := rawInt T) rfl ?_)
      show wpAny _ _ (loadIfAlive ((T : Int).toNat) >>= _) _ _ _
      rw [Int.toNat_natCast]
      refine wpAny_bind (fw_dead hT ?_)
      simp only [Option.isNone_none, if_true]
      exact wpAny_pure q
    | some oT => exact zip_next_end_held hh D hz hT hTI h1 h2 hl1 hl2 hend fun h' e k he => hE h' e (fun c o c1 c2 c3 c4 x => k c o c1 c3 c4 x) he
theorem ZipSt.typeIs {z TI TO i1 i2 l1 l2 : Addr} {k : Nat} (st : ZipSt z TI TO i1 i2 l1 l2 k s.heap) : s.TypeIs (.ref z) "zip" := by
  rcases st.1 with h | ⟨T, f, h⟩
  · exact ⟨_, h, rfl⟩
  · exact ⟨_, h, rfl⟩
theorem fw_nextOf_zip_item {z TI TO i1 i2 l1 l2 : Addr} {k : Nat} {xs ys : Array Value} {x y : Value} {Q : Value → Shared → Prop} (D : ZipApart z TI TO i1 i2 l1 l2) (st : ZipSt z TI TO i1 i2 l1 l2 k s.heap)
    (hl1 : s.heap.IsList l1 xs) (hl2 : s.heap.IsList l2 ys) (hx : xs[k]? = some x) (hy : ys[k]? = some y)
    (hQ : ∀ h', ZipSt z TI TO i1 i2 l1 l2 (k + 1) h' → IsPair h' s.heap.objs.size x y → h'.objs.size = s.heap.objs.size + 1 →
      (∀ c o, c ≠ z → c ≠ TO → c ≠ i1 → c ≠ i2 → s.heap.get? c = some o → h'.get? c = some o) → Q (.ref s.heap.objs.size) { s with heap := h' }) :
    wpAny (model prog w) A (Builtin.SmallTypes.nextOf (.ref z)) Q E s := by
  have hT := st.typeIs
  unfold Builtin.SmallTypes.nextOf
  exact wpAny_bind (wpAny_callSpecial?_slot (name := Str.ofString "__next__") hT F.slot_zip_next
    (wpAny_call_entry F.slot_zip_next hT F.entry_zip_next (fw_zip_any_item D st hl1 hl2 hx hy fun h' a1 a2 a3 a4 => wpAny_pure (hQ h' a1 a2 a3 a4)) (F.args_zip_next_1 _)))
theorem fw_nextOf_zip_end {z TI TO i1 i2 l1 l2 : Addr} {k : Nat} {xs ys : Array Value} {Q : Value → Shared → Prop} (hh : A.handled = none) (D : ZipApart z TI TO i1 i2 l1 l2) (st : ZipSt z TI TO i1 i2 l1 l2 k s.heap)
    (hl1 : s.heap.IsList l1 xs) (hl2 : s.heap.IsList l2 ys) (hend : xs[k]? = none ∨ ys[k]? = none)
    (hE : ∀ h' e, (∀ c o, c ≠ z → c ≠ TO → c ≠ i1 → c ≠ i2 → s.heap.get? c = some o → h'.get? c = some o) → (∃ o, h'.get? e = some o ∧ o.cls = .type "StopIteration") → E (.ref e) { s with heap := h' }) :
    wpAny (model prog w) A (Builtin.SmallTypes.nextOf (.ref z)) Q E s := by
  have hT := st.typeIs
  unfold Builtin.SmallTypes.nextOf
  exact wpAny_bind (wpAny_callSpecial?_slot (name := Str.ofString "__next__") hT F.slot_zip_next
    (wpAny_call_entry F.slot_zip_next hT F.entry_zip_next (fw_zip_any_end hh D st hl1 hl2 hend hE) (F.args_zip_next_1 _)))
/-- enumerate's step, whatever is under it -/
theorem fw_enum_step {e z : Addr} {c : Int} {old : Value} {P : Value → Heap → Prop} {Q : Value → Shared → Prop} (he : IsEnum s.heap e z c old)
    (hP : ∀ x h, P x h → IsEnum h e z c old)
    (hn : ∀ Q1 : Value → Shared → Prop, (∀ x h, P x h → Q1 x { s with heap := h }) → wpAny (model prog w) A (Builtin.SmallTypes.nextOf (.ref z)) Q1 E s)
    (hQ : ∀ x h1 h', P x h1 → IsEnumOut h' e z (c + 1) x h1.objs.size →
      h'.get? h1.objs.size = some { cls := .type "tuple", data := .seq #[.int c s.toks, x] } → h'.objs.size = h1.objs.size + 1 →
      (∀ b o, b ≠ e → h1.get? b = some o → h'.get? b = some o) → Q (.ref h1.objs.size) { s with heap := h', toks := s.toks + 1 }) :
    wpAny (model prog w) A (Builtin.«enumerate.__next__» ⟨[.ref e], []⟩) (fun fin s' => ∃ v, fin = .done (.ret v) ∧ Q v s') E s := by
  obtain ⟨hp, g, d, tk, os⟩ := s
  show wpAny _ _ (field (.ref e) 2 >>= _) _ _ _
  refine wpAny_bind (wpAny_field he rfl (x := .ref z) rfl ?_)
  refine wpAny_bind (hn _ fun x h₁ hPx => ?_)
  have he₁ : IsEnum h₁ e z c old := hP x h₁ hPx
  show wpAny _ _ (field (.ref e) 3 >>= _) _ _ ⟨h₁, g, d, tk, os⟩
  refine wpAny_bind (wpAny_field he₁ rfl (x := rawInt c) rfl ?_)
  show wpAny _ _ (field (.ref e) 4 >>= _) _ _ ⟨h₁, g, d, tk, os⟩
  refine wpAny_bind (wpAny_field he₁ rfl (x := .none) rfl ?_)
  show wpAny _ _ (mkInt c >>= _) _ _ ⟨h₁, g, d, tk, os⟩
  refine wpAny_bind (wpAny_mkInt ?_)
  show wpAny _ _ (setField (.ref e) 3 (rawInt (c + 1)) >>= _) _ _ ⟨h₁, g, d, tk + 1, os⟩
  refine wpAny_bind (wpAny_setField_rec he₁ (by simp) fun h₂ he₂ hs₂ => ?_)
  replace hs₂ : Heap.SameBut e h₁ h₂ := hs₂
  replace he₂ : IsEnum h₂ e z (c + 1) old := he₂
  show wpAny _ _ (setField (.ref e) 4 .none >>= _) _ _ ⟨h₂, g, d, tk + 1, os⟩
  refine wpAny_bind (wpAny_setField_rec he₂ (by simp) fun h₃ he₃ hs₃ => ?_)
  replace hs₃ : Heap.SameBut e h₂ h₃ := hs₃
  replace he₃ : IsEnum h₃ e z (c + 1) old := he₃
  show wpAny _ _ (newTuple [.int c tk, x] >>= _) _ _ ⟨h₃, g, d, tk + 1, os⟩
  refine wpAny_bind (wpAny_newTuple ?_)
  have he₄ : IsEnum (h₃.push { cls := .type "tuple", data := .seq #[.int c tk, x] }) e z (c + 1) old := Heap.get?_push_of_some _ he₃
  generalize hh₄ : h₃.push { cls := .type "tuple", data := .seq #[.int c tk, x] } = h₄ at he₄
  have hsz : h₃.objs.size = h₁.objs.size := by rw [hs₃.1, hs₂.1]
  have hel : e < h₁.objs.size := Heap.lt_size he₁
  have ht₄ : h₄.get? h₁.objs.size = some { cls := .type "tuple", data := .seq #[.int c tk, x] } := by rw [← hh₄, ← hsz]; exact Heap.get?_push_size _ rfl
  have hz₄ : h₄.objs.size = h₁.objs.size + 1 := by rw [← hh₄, Heap.size_push, hsz]
  have hk₄ : ∀ b o, b ≠ e → h₁.get? b = some o → h₄.get? b = some o := fun b o hbe hb => by
    rw [← hh₄]; exact Heap.get?_push_of_some _ (hs₃.extBut b o hbe (hs₂.extBut b o hbe hb))
  show wpAny _ _ (Builtin.SmallTypes.ownedTupleIsFree (.ref e) >>= _) _ _ ⟨h₄, g, d, tk + 1, os⟩
  rw [hsz]
  clear hh₄ he₃ hs₃ he₂ hs₂ hsz h₃ h₂
  refine wpAny_bind ?_
  · unfold Builtin.SmallTypes.ownedTupleIsFree
    refine wpAny_bind (wpAny_field he₄ rfl (x := .none) rfl (wpAny_pure ?_))
    simp only [if_true]
    refine wpAny_bind (wpAny_rule ?_)
    refine wpAny_bind (wpAny_field he₄ rfl (x := old) rfl ?_)
    refine wpAny_bind (wpAny_setField_rec he₄ (by simp) fun h₅ he₅ hs₅ => ?_)
    replace hs₅ : Heap.SameBut e h₄ h₅ := hs₅
    replace he₅ : IsEnum h₅ e z (c + 1) x := he₅
    show wpAny _ _ (Builtin.SmallTypes.ownedTupleHandOut (.ref e) (.ref h₁.objs.size) >>= _) _ _ ⟨h₅, g, d, tk + 1, os⟩
    refine wpAny_bind ?_
    · unfold Builtin.SmallTypes.ownedTupleHandOut
      refine wpAny_bind (wpAny_setField_rec he₅ (by simp) fun h₆ he₆ hs₆ => ?_)
      replace hs₆ : Heap.SameBut e h₅ h₆ := hs₆
      replace he₆ : IsEnumOut h₆ e z (c + 1) x h₁.objs.size := he₆
      refine wpAny_setField_rec he₆ (by simp) fun h₇ he₇ hs₇ => ?_
      replace hs₇ : Heap.SameBut e h₆ h₇ := hs₇
      replace he₇ : IsEnumOut h₇ e z (c + 1) x h₁.objs.size := he₇
      refine wpAny_bind (wpAny_letGo (wpAny_pure ⟨_, rfl, hQ x h₁ h₇ hPx he₇ ?_ ?_ ?_⟩))
      · exact hs₇.extBut _ _ (Nat.ne_of_gt hel) (hs₆.extBut _ _ (Nat.ne_of_gt hel) (hs₅.extBut _ _ (Nat.ne_of_gt hel) ht₄))
      · rw [hs₇.1, hs₆.1, hs₅.1, hz₄]
      · exact fun b o hbe hb => hs₇.extBut b o hbe (hs₆.extBut b o hbe (hs₅.extBut b o hbe (hk₄ b o hbe hb)))
end
theorem fw_meets_enumZ (z TI TO : Addr) (f0 : Value) :
    Meets (Builtin.«enumerate.__new__» ⟨[.type "enumerate", .ref z], []⟩) (fun _ R s => IsZip s.heap z TI TO f0 ∧
      R (.ok (.ret (.ref s.heap.objs.size)))
        { s with heap := s.heap.push { cls := .type "enumerate", data := .fields #[.none, .bool false, .ref z, rawInt 0, .none, .none] } }) :=
  .of_wp fun prog w A R s h => by
    obtain ⟨hp, g, d, tk, os⟩ := s; obtain ⟨hl, h⟩ := h
    have hsub := sub_enumerate
    wp_walk using AutoSeq1.wpAny_loadPart' hl
    refine wpAny_stack_any fun st => wpAny_pure ?_
    have hz : IsZip (Shared.heap ⟨hp, g, d, tk, os⟩) z TI TO f0 := hl
    split
    · rename_i c _ _ _ _ _
      cases (c == Value.type "enumerate")
      · wp_walk using AutoSeq1.wpAny_loadPart' hl, wpAny_pyIter_zip hz
        exact ⟨_, rfl, h⟩
      · wp_walk using AutoSeq1.wpAny_loadPart' hl, wpAny_pyIter_zip hz
        exact ⟨_, rfl, h⟩
    · wp_walk using AutoSeq1.wpAny_loadPart' hl, wpAny_pyIter_zip hz
      exact ⟨_, rfl, h⟩
section
variable {prog : Program} {w : World} {A : Around} {E : Value → Shared → Prop} {s : Shared}
theorem fw_call_enumZ {z TI TO : Addr} {f0 : Value} {Q : Value → Shared → Prop} (hz : IsZip s.heap z TI TO f0)
    (h : ∀ h', IsEnum h' s.heap.objs.size z 0 .none → (∀ b o, s.heap.get? b = some o → h'.get? b = some o) → Q (.ref s.heap.objs.size) { s with heap := h' }) :
    wpAny (model prog w) A (call (.type "enumerate") [.ref z]) Q E s := by
  refine callType_new F.called_enumerate (by decide) (F.typeCall_enumerate_1 _) (F.newCall_enumerate_1 _) (fun obj => F.args_object_init_2 obj _) F.entry_enumerate_new
    (fw_meets_enumZ z TI TO f0) ⟨hz, ?_⟩
  show _ ∧ _
  have he : IsEnum (s.heap.push { cls := .type "enumerate", data := .fields #[.none, .bool false, .ref z, rawInt 0, .none, .none] }) s.heap.objs.size z 0 .none := Heap.get?_push_size _ rfl
  exact ⟨⟨_, he, rfl⟩, h _ he fun b o x => Heap.get?_push_of_some _ x⟩
end
end PySem
end
section
set_option Elab.async false
set_option linter.all false
set_option maxRecDepth 100000
namespace L2.FW
open PySem PySem.Spec PyProof.Rows
/-! ### enumerate(zip(list, list)) -/
def IteZ (K : PySem.W.Frag) (a b : Addr) : It :=
  ⟨fun i H => ∃ (xs ys : List V) (x y : V), SqL K H a xs ∧ SqL K H b ys ∧ xs[i]? = some x ∧ ys[i]? = some y,
    fun i H v H' => ∃ T1 T2 x y, v = .ref T2 ∧ H T1 = none ∧ (upd H T1 (.tup [x, y])) T2 = none ∧ H' = upd (upd H T1 (.tup [x, y])) T2 (.tup [.int (i : Nat), .ref T1]) ∧ (∀ xs, SqL K H a xs → xs[i]? = some x) ∧ ∀ ys, SqL K H b ys → ys[i]? = some y,
    fun i H => ∃ xs ys : List V, SqL K H a xs ∧ SqL K H b ys ∧ (xs.length ≤ i ∨ ys.length ≤ i)⟩
theorem turn_enumZ {P : Program} {w : World} {K : PySem.W.Frag} {elts : List Expr} {kk : Nat} {tpos : Pos} {a b e z TI TO i1 i2 : Addr} (D : ZipApart z TI TO i1 i2 a b) (ez : e ≠ z) (eTI : e ≠ TI) (eTO : e ≠ TO) (e1 : e ≠ i1) (e2 : e ≠ i2) :
    Turn P w K (.Tuple elts kk tpos) (IteZ K a b) [e, z, TI, TO, i1, i2] e (fun i h => (∃ old, IsEnum h e z ((i : Nat) : Int) old) ∧ ZipSt z TI TO i1 i2 a b i h) where
  mem := by simp
  obj := fun i h st c hc => by
    obtain ⟨⟨old, he⟩, hz, hTI, ⟨x, y, hTO⟩, ⟨o1, q1, _, d1⟩, ⟨o2, q2, _, d2⟩⟩ := st
    have e' : c = e ∨ c = z ∨ c = TI ∨ c = TO ∨ c = i1 ∨ c = i2 := by simpa using hc
    rcases e' with q | q | q | q | q | q
    · rw [q]; exact ⟨_, he, fun v q => nomatch q⟩
    · rw [q]
      rcases hz with hz | ⟨T, f, hz⟩
      · exact ⟨_, hz, fun v q => nomatch q⟩
      · exact ⟨_, hz, fun v q => nomatch q⟩
    · rw [q]; exact ⟨_, hTI, fun v q => nomatch q⟩
    · rw [q]; exact ⟨_, hTO, fun v q => nomatch q⟩
    · rw [q]; exact ⟨o1, q1, fun v q => by rw [d1] at q; cases q⟩
    · rw [q]; exact ⟨o2, q2, fun v q => by rw [d2] at q; cases q⟩
  keep := fun i h h' st k => by
    obtain ⟨⟨old, he⟩, hz, hTI, ⟨x, y, hTO⟩, h1, h2⟩ := st
    refine ⟨⟨old, k e (by simp) _ he⟩, ?_, k TI (by simp) _ hTI, ⟨x, y, k TO (by simp) _ hTO⟩, h1.at fun o q => k i1 (by simp) o q, h2.at fun o q => k i2 (by simp) o q⟩
    rcases hz with hz | ⟨T, f, hz⟩
    · exact .inl (k z (by simp) _ hz)
    · exact .inr ⟨T, f, k z (by simp) _ hz⟩
  item := by
    intro X hP hw hK hc i pins s σ H E I hf st hg
    subst hP hw hK
    obtain ⟨⟨old, he⟩, hzs⟩ := st
    obtain ⟨xs, ys, x, y, hqx, hqy, hx, hy⟩ := hg
    obtain ⟨its, rv, p, _⟩ := I.list hqx
    obtain ⟨its2, rv2, p2, _⟩ := I.list hqy
    obtain ⟨u, hu, ru⟩ := rv.get hx
    obtain ⟨u2, hu2, ru2⟩ := rv2.get hy
    have hel : e < s.heap.objs.size := Heap.lt_size he
    have hT : s.TypeIs (.ref e) "enumerate" := ⟨_, he, rfl⟩
    unfold pyNext
    refine wpAny_bind (wpAny_attempt (wpAny_callSpecial?_slot (name := Str.ofString "__next__") hT F.slot_enumerate_next
      (wpAny_call_entry F.slot_enumerate_next hT F.entry_enumerate_next
        (fw_enum_step (P := fun v h => v = .ref s.heap.objs.size ∧ ZipSt z TI TO i1 i2 a b (i + 1) h ∧ IsPair h s.heap.objs.size u u2 ∧ h.objs.size = s.heap.objs.size + 1 ∧
          ∀ c o, c ≠ z → c ≠ TO → c ≠ i1 → c ≠ i2 → s.heap.get? c = some o → h.get? c = some o) he (fun v h q => q.2.2.2.2 _ _ ez eTO e1 e2 he)
          (fun Q1 hQ1 => fw_nextOf_zip_item D hzs p.isList p2.isList (x := u) (y := u2) (by simpa using hu) (by simpa using hu2) fun h' a1 a2 a3 a4 => hQ1 _ _ ⟨rfl, a1, a2, a3, a4⟩)
          fun v h1 h' hPv ho hTp hsz hk => wpAny_pure ?_) (F.args_enumerate_next_1 _))))
    obtain ⟨rfl, z1, pr1, sz1, k1⟩ := hPv
    refine ⟨_, rfl, wpAny_letOwnedTupleGo_enum (s := { s with heap := h', toks := s.toks + 1 }) ho fun h'' he' sb => ?_⟩
    have hfz : ∀ c, c ∈ [z, TO, i1, i2] → FpOk X pins H c := fun c hc => hf c (by
      have e' : c = z ∨ c = TO ∨ c = i1 ∨ c = i2 := by simpa using hc
      rcases e' with q | q | q | q <;> simp [q])
    have new1 : ObjOk X.prog X.w (upd H s.heap.objs.size (.tup [x, y])) h1 s.heap.objs.size (.tup [x, y]) :=
      ⟨by show 2 ≤ sizeLine; decide, [u, u2], .cons ru (.cons ru2 .nil), ⟨_, pr1, rfl, _, rfl⟩⟩
    have I1 : Inv X pins σ (upd H s.heap.objs.size (.tup [x, y])) { s with heap := h1 } :=
      I.turnedNew (t' := s.toks) (ch := [z, TO, i1, i2]) (fun c o hb q => k1 c o (fun q' => hb (by simp [q'])) (fun q' => hb (by simp [q'])) (fun q' => hb (by simp [q'])) (fun q' => hb (by simp [q'])) q) hfz (Nat.le_refl _) new1
    have hel1 : e < h1.objs.size := by rw [sz1]; exact Nat.lt_succ_of_lt hel
    have nTe : h1.objs.size ≠ e := Nat.ne_of_gt hel1
    have hT2 : h''.get? h1.objs.size = some { cls := .type "tuple", data := .seq #[.int i s.toks, .ref s.heap.objs.size] } := (sb.2 _ nTe).trans hTp
    have fe := hf e (by simp)
    have hfe : ∀ c, c ∈ [e] → FpOk X pins (upd H s.heap.objs.size (.tup [x, y])) c := fun c hc => by
      have : c = e := by simpa using hc
      subst this
      exact ⟨by rw [upd_ne (Nat.ne_of_lt hel)]; exact fe.1, fe.2⟩
    have new2 : ObjOk X.prog X.w (upd (upd H s.heap.objs.size (.tup [x, y])) h1.objs.size (.tup [.int (i : Nat), .ref s.heap.objs.size])) h'' h1.objs.size (.tup [.int (i : Nat), .ref s.heap.objs.size]) :=
      ⟨by show 2 ≤ sizeLine; decide, [.int i s.toks, .ref s.heap.objs.size], .cons ⟨_, rfl⟩ (.cons rfl .nil), ⟨_, hT2, rfl, _, rfl⟩⟩
    have I2 : Inv X pins σ (upd (upd H s.heap.objs.size (.tup [x, y])) h1.objs.size (.tup [.int (i : Nat), .ref s.heap.objs.size])) { s with heap := h'', toks := s.toks + 1 } :=
      I1.turnedNew (t' := s.toks + 1) (ch := [e]) (fun c o hb q => (sb.2 c (fun q' => hb (by simp [q']))).trans (hk c o (fun q' => hb (by simp [q'])) q)) hfe (Nat.le_refl _) new2
    refine ⟨.ref h1.objs.size, _, I2, rfl, ⟨_, _, x, y, rfl, I.hok.fresh (Nat.le_refl _), I1.hok.fresh (Nat.le_refl _), rfl, fun l hl => by rw [I.list_inj hl hqx]; exact hx, fun l hl => by rw [I.list_inj hl hqy]; exact hy⟩, ⟨⟨.ref s.heap.objs.size, ?_⟩, ?_⟩, fun c hcm => ?_⟩
    · have q1 : ((i + 1 : Nat) : Int) = (i : Int) + 1 := by omega
      rw [q1]; exact he'
    · obtain ⟨hz, hTI, ⟨x', y', hTO⟩, g1, g2⟩ := z1
      have kk : ∀ c o, c ≠ e → h1.get? c = some o → h''.get? c = some o := fun c o hc q => (sb.2 c hc).trans (hk c o hc q)
      refine ⟨?_, kk _ _ eTI.symm hTI, ⟨_, _, kk _ _ eTO.symm hTO⟩, g1.at fun o q => kk _ o e1.symm q, g2.at fun o q => kk _ o e2.symm q⟩
      rcases hz with hz | ⟨T, f, hz⟩
      · exact .inl (kk _ _ ez.symm hz)
      · exact .inr ⟨T, f, kk _ _ ez.symm hz⟩
    · have hlt : c < s.heap.objs.size := by
        obtain ⟨hz, hTI, ⟨x', y', hTO⟩, ⟨_, g1, _⟩, ⟨_, g2, _⟩⟩ := hzs
        have e' : c = e ∨ c = z ∨ c = TI ∨ c = TO ∨ c = i1 ∨ c = i2 := by simpa using hcm
        rcases e' with q | q | q | q | q | q
        · rw [q]; exact hel
        · rw [q]
          rcases hz with hz | ⟨T, f, hz⟩
          · exact Heap.lt_size hz
          · exact Heap.lt_size hz
        · rw [q]; exact Heap.lt_size hTI
        · rw [q]; exact Heap.lt_size hTO
        · rw [q]; exact Heap.lt_size g1
        · rw [q]; exact Heap.lt_size g2
      rw [upd_ne (Nat.ne_of_lt (by rw [sz1]; exact Nat.lt_succ_of_lt hlt)), upd_ne (Nat.ne_of_lt hlt)]
      exact (hf c hcm).1
  done := by
    intro X hP hw hK hc i pins s σ H E I hf st hg
    subst hP hw hK
    obtain ⟨⟨old, he⟩, hzs⟩ := st
    obtain ⟨xs, ys, hqx, hqy, hend⟩ := hg
    obtain ⟨its, rv, p, _⟩ := I.list hqx
    obtain ⟨its2, rv2, p2, _⟩ := I.list hqy
    have l1 := rv.length
    have l2 := rv2.length
    have hen : its.toArray[i]? = none ∨ its2.toArray[i]? = none := by
      rcases hend with q | q
      · exact .inl (by simp; omega)
      · exact .inr (by simp; omega)
    have hT : s.TypeIs (.ref e) "enumerate" := ⟨_, he, rfl⟩
    unfold pyNext
    refine wpAny_bind (wpAny_attempt (wpAny_callSpecial?_slot (name := Str.ofString "__next__") hT F.slot_enumerate_next
      (wpAny_call_entry F.slot_enumerate_next hT F.entry_enumerate_next ?_ (F.args_enumerate_next_1 _))))
    show wpAny _ _ (field (.ref e) 2 >>= _) _ _ _
    refine wpAny_bind (wpAny_field he rfl (x := .ref z) rfl ?_)
    refine wpAny_bind (fw_nextOf_zip_end (I.ok.hd hc) D hzs p.isList p2.isList hen fun h' x he' hx' => ?_)
    obtain ⟨o, ho, hcx⟩ := hx'
    refine wpAny_bind (wpAny_isInstance (T := "StopIteration") (b := true) ⟨o, ho, hcx⟩ isSubtype_stop ?_)
    exact wpAny_pure ⟨rfl, I.turnedL (t' := s.toks) (ch := [z, TO, i1, i2]) (fun c o hb q => he' c o (fun q' => hb (by simp [q'])) (fun q' => hb (by simp [q'])) (fun q' => hb (by simp [q'])) (fun q' => hb (by simp [q'])) q) fun c hc => hf c (by
      have e' : c = z ∨ c = TO ∨ c = i1 ∨ c = i2 := by simpa using hc
      rcases e' with q | q | q | q <;> simp [q])⟩
  self := fun A i s Q E st h => let ⟨⟨_, he⟩, _⟩ := st; wpAny_pyIter_enum he h
def iEnumZ (K : PySem.W.Frag) (ta : TA) : TI := fun σ H R => ta σ H fun vs H1 => ∃ a b xs ys, vs = [.ref a, .ref b] ∧ SqL K H1 a xs ∧ SqL K H1 b ys ∧ R (IteZ K a b) H1
theorem pi_enumZ {X : Cx} {e e2 : Expr} {ta : TA} {p pos tpos p2 pos2 : Pos} {elts : List Expr} {kk : Nat} (hg : Gl X "enumerate") (hm : X.mg "enumerate" = none) (hg2 : Gl X "zip") (hm2 : X.mg "zip" = none) (ha : PA X [e, e2] ta)
    (hs : starEach [e, e2] X.env = (false, eval e X.env) :: starEach [e2] X.env := by rfl) (hpl : (backTo pos2 (starEach [e2] X.env)).any (·.1) = false := by rfl) :
    PI X (.Tuple elts kk tpos) (.Call (.Name "enumerate" p) [.Call (.Name "zip" p2) [e, e2] [] pos2] [] pos) (iEnumZ X.K ta) := by
  refine ⟨fun pins s σ H R I h => ?_⟩
  refine Call_ (ld_blt I hg hm boot_enumerate (PyProof.Rows.callWith_type1 (Calls.spliced_cons (thn (Call_ (ld_blt I hg2 hm2 PyProof.Rows.boot_zip (PyProof.Rows.callWith_type1 (thn (ha.run pos2 pins s σ H _ I h) fun us s1 ⟨vs, H1, I1, r1, q1⟩ => ?_) hs hpl))) fun _ _ q => Calls.spliced_nil q)) rfl rfl))
  obtain ⟨a, b, xs, ys, ex, hqx, hqy, q⟩ := q1
  subst ex
  cases r1 with
  | cons r rr =>
    cases rr with
    | cons r' rr =>
      cases rr
      cases r
      cases r'
      obtain ⟨its, rv, p1, _⟩ := I1.list hqx
      obtain ⟨its2, rv2, p2, _⟩ := I1.list hqy
      have la : a < s1.heap.objs.size := p1.lt
      have lb : b < s1.heap.objs.size := p2.lt
      refine call_zip_2 p1.isList p2.isList fun h' hz hTI hTO h1 h2 hsz hk => ?_
      refine fw_call_enumZ (s := { s1 with heap := h' }) hz fun h'' he hk2 => wpAny_pyIter_enum he ?_
      have I2 : Inv X pins σ H1 { s1 with heap := h'' } := I1.kept (t' := s1.toks) fun b o q => hk2 b o (hk b o q)
      have hsz' : h'.objs.size = s1.heap.objs.size + 5 := hsz
      have nej : ∀ j : Nat, j < 5 → h'.objs.size ≠ s1.heap.objs.size + j := fun j hj => by rw [hsz']; omega
      refine ⟨h'.objs.size, [h'.objs.size, s1.heap.objs.size + 4, s1.heap.objs.size + 2, s1.heap.objs.size + 3, s1.heap.objs.size, s1.heap.objs.size + 1], _, _, H1, rfl, I2,
        turn_enumZ (PySem.W.ktu_apart s1.heap.objs.size a b la lb) (nej 4 (by decide)) (nej 2 (by decide)) (nej 3 (by decide)) (nej 0 (by decide)) (nej 1 (by decide)), ⟨⟨_, he⟩, .inl (hk2 _ _ hz), hk2 _ _ hTI, ⟨_, _, hk2 _ _ hTO⟩, h1.at fun o q => hk2 _ o q, h2.at fun o q => hk2 _ o q⟩, fun c hcm => ?_, q⟩
      have e' : c = h'.objs.size ∨ c = s1.heap.objs.size + 4 ∨ c = s1.heap.objs.size + 2 ∨ c = s1.heap.objs.size + 3 ∨ c = s1.heap.objs.size ∨ c = s1.heap.objs.size + 1 := by simpa using hcm
      have hle : s1.heap.objs.size ≤ c := by
        rcases e' with z | z | z | z | z | z
        · rw [z, hsz']; exact Nat.le_add_right _ _
        · rw [z]; exact Nat.le_add_right _ _
        · rw [z]; exact Nat.le_add_right _ _
        · rw [z]; exact Nat.le_add_right _ _
        · rw [z]; exact Nat.le_refl _
        · rw [z]; exact Nat.le_add_right _ _
      exact I1.fpOk hle (I1.hok.fresh hle)
end L2.FW
end
section
set_option Elab.async false
set_option linter.all false
set_option maxRecDepth 100000
namespace L2.FW
open PySem PySem.Spec PyProof.Rows
open FQ (Fit BB BB_eq FitP Ser IsLen Lt rowB)
theorem for_enumZ {K : PySem.W.Frag} {a b : Addr} {xs ys : List V} {g : TG} {tb : TS} {D : Ends} {σ : St} {H : Hp} (hl : xs.length = ys.length) (Pv : Nat → St → Hp → Prop) (h0 : Pv 0 σ H) (hq : ∀ i σ H, Pv i σ H → SqL K H a xs ∧ SqL K H b ys)
    (hs : ∀ (i : Nat) (x y : V) (T1 T2 : Addr) (σ : St) (H : Hp), xs[i]? = some x → ys[i]? = some y → Pv i σ H → H T1 = none → (upd H T1 (.tup [x, y])) T2 = none →
      g (.ref T2) σ (upd (upd H T1 (.tup [x, y])) T2 (.tup [.int (i : Nat), .ref T1])) fun σ2 H2 => tb { D with nx := Pv (i + 1), ct := Pv (i + 1), bk := D.nx } σ2 H2) (hd : ∀ σ H, Pv xs.length σ H → D.nx σ H) :
    ∃ W : Nat → Nat → St → Hp → Prop, (∃ m, W 0 m σ H) ∧ ∀ i m σ H, W i m σ H →
      ((IteZ K a b).stop i H ∧ D.nx σ H) ∨ ((IteZ K a b).go i H ∧ ∃ N : St → Hp → Prop, (∀ σ' H', N σ' H' → ∃ m', m' < m ∧ W (i + 1) m' σ' H') ∧ ∀ v H', (IteZ K a b).yld i H v H' → g v σ H' fun σ2 H2 => tb { D with nx := N, ct := N, bk := D.nx } σ2 H2) := by
  refine ⟨fun i m σ H => m = xs.length - i ∧ i ≤ xs.length ∧ Pv i σ H, ⟨xs.length, rfl, Nat.zero_le _, h0⟩, ?_⟩
  rintro i m σ H ⟨rfl, hi, p⟩
  obtain ⟨qx, qy⟩ := hq i σ H p
  by_cases hlt : i < xs.length
  · have hx : xs[i]? = some xs[i] := List.getElem?_eq_getElem hlt
    have hlt2 : i < ys.length := by omega
    have hy : ys[i]? = some ys[i] := List.getElem?_eq_getElem hlt2
    refine .inr ⟨⟨xs, ys, _, _, qx, qy, hx, hy⟩, Pv (i + 1), fun σ' H' p' => ⟨xs.length - (i + 1), by omega, rfl, hlt, p'⟩, fun v H' y => ?_⟩
    obtain ⟨T1, T2, x', y', rfl, hT1, hT2, rfl, f1, f2⟩ := y
    exact hs i x' y' T1 T2 σ H (f1 xs qx) (f2 ys qy) p hT1 hT2
  · have e : i = xs.length := by omega
    subst e
    exact .inl ⟨⟨xs, ys, qx, qy, Or.inl (Nat.le_refl _)⟩, hd σ H p⟩
/-! ### agrees_in, agrees, side_of, block_of: where all places agree -/
abbrev sAgIn : Stmt := topS 32
abbrev sAg : Stmt := topS 46
abbrev sSide : Stmt := topS 64
abbrev sBlock : Stmt := topS 65
theorem scAgIn : FnScope ["field", "row", "one", "place", "here", "there"] ["field", "row", "one"] (defScope sAgIn) := ⟨rfl, rfl, rfl, by decide +kernel, rfl, by decide +kernel, by decide +kernel⟩
theorem scAg : FnScope ["row", "one"] ["row", "one"] (defScope sAg) := ⟨rfl, rfl, rfl, by decide +kernel, rfl, by decide +kernel, by decide +kernel⟩
theorem scSide : FnScope ["row", "one", "many", "top", "below"] ["row", "one"] (defScope sSide) := ⟨rfl, rfl, rfl, by decide +kernel, rfl, by decide +kernel, by decide +kernel⟩
theorem scBlock : FnScope ["row", "m", "n", "one"] ["row", "m", "n"] (defScope sBlock) := ⟨rfl, rfl, rfl, by decide +kernel, rfl, by decide +kernel, by decide +kernel⟩
/-- the row is the quotient's own -/
structure OwnRow (a b : Ser) (n : Nat) (r : Nat → Rat) : Prop where
  ex : ∃ ng, RowOK a b ng n r ∧ ng ≤ 400
  la : Lt a 400
  ln : n ≤ 400
def spAgIn (K : PySem.W.Frag) (C : Addr) : Sp := fun vs H Q _ => ∃ fl rv ov n r a b, vs = [fl, rv, ov] ∧ FldAt C H fl ∧ LsAt K H rv n r ∧ QuoAt K H ov a b ∧ OwnRow a b n r ∧ ∀ H', Same H H' → Q (.int ((n : Nat) : Int)) H'
def spAg (K : PySem.W.Frag) : Sp := fun vs H Q _ => ∃ rv ov n r a b, vs = [rv, ov] ∧ LsAt K H rv n r ∧ QuoAt K H ov a b ∧ OwnRow a b n r ∧ ∀ H', Same H H' → Q (.int ((n : Nat) : Int)) H'
def spSide (K : PySem.W.Frag) : Sp := fun vs H Q _ => ∃ rv ov n r a b, vs = [rv, ov] ∧ LsAt K H rv n r ∧ QuoAt K H ov a b ∧ OwnRow a b n r ∧ ∀ H', Same H H' → Q .non H'
def spBlock (K : PySem.W.Frag) : Sp := fun vs H Q _ => ∃ rv nr r m n a b na nb, vs = [rv, .int ((m : Nat) : Int), .int ((n : Nat) : Int)] ∧ LsAt K H rv nr r ∧ m + n + 1 ≤ nr ∧ FQ.FormOK r m n a b ∧ IsLen a na ∧ IsLen b nb ∧
  (na = 0 → ∀ H', Same H H' → Q .non H') ∧ (na ≠ 0 → OwnRow a b nr r ∧ ∀ H' t, Same H H' → SqT K H' t [.int ((na : Int) - 1), .int ((nb : Int) - 1), .non] → Q (.ref t) H')
section
variable {P : Program} {w : World} {K : PySem.W.Frag} {mg : Str → Option Value} {base : Heap} {k : Nat} {CE : Addr}
theorem num_dp {H : Hp} {v : V} {x : Rat} (h : NumAt K H v x) : Dp K H v (.tuple [.int x.num, .int (x.den : Int)]) := by
  obtain ⟨p, rfl, hp⟩ := h
  exact .tup hp (.cons (.int _) (.cons (.int _) .nil))
theorem items_dp {H : Hp} : ∀ (vs : List V) (n : Nat) (f : Nat → Rat), Items K H vs n f → ∃ ds, DpAll K H vs ds ∧ ds.length = n ∧ PyData.canLayAll0 ds = true ∧ PyData.depthAll ds ≤ 1
  | [], n, f, h => ⟨[], .nil, h.len, rfl, Nat.zero_le _⟩
  | v :: vs, n, f, h => by
    have hn : n = vs.length + 1 := h.len.symm
    subst hn
    have h0 : NumAt K H v (f 0) := h.get (i := 0) rfl
    have ht : Items K H vs vs.length (fun i => f (i + 1)) := ⟨rfl, fun i hi => by
      have := h.at_ (i + 1) (by omega)
      simpa using this⟩
    obtain ⟨ds, a, b, c, d⟩ := items_dp vs _ _ ht
    refine ⟨_ :: ds, .cons (num_dp h0) a, by rw [List.length_cons, b], ?_, ?_⟩
    · rw [PyData.canLayAll0, c]
      rfl
    · rw [PyData.depthAll]
      exact Nat.max_le.mpr ⟨by simp [PyData.depth, PyData.depthAll], d⟩
theorem items_shaped {H : Hp} {vs : List V} {n : Nat} {f : Nat → Rat} (h : Items K H vs n f) : ∃ ds, DpAll K H vs ds ∧ ds.length = n ∧ SeqAt.shaped (.tuple ds) = true ∧ SeqAt.shaped (.list ds) = true := by
  obtain ⟨ds, a, b, c, d⟩ := items_dp vs n f h
  have e : SeqAt.shaped (.tuple ds) = true := by
    unfold SeqAt.shaped
    rw [PyData.canLay0, c, PyData.depth, decide_eq_true (by omega)]
    rfl
  have e2 : SeqAt.shaped (.list ds) = true := by
    unfold SeqAt.shaped
    rw [PyData.canLay0, c, PyData.depth, decide_eq_true (by omega)]
    rfl
  exact ⟨ds, a, b, e, e2⟩
theorem gd_agIn (B : Bi mg) (a : At K mg "agrees_in" sAgIn) (GR : Gd P w K mg base "row_in" k ["field", "one", "many"] (spRowIn K CE)) : Gd P w K mg base "agrees_in" (k + 1) ["field", "row", "one"] (spAgIn K CE) := by
  obtain ⟨f, fd, F, g⟩ := a.ex
  refine ⟨f, fd, ?_, g, F.kp, F.binds fun _ _ _ _ _ _ us hl => match us, hl with | [_, _, _], _ => rfl⟩
  refine F.ok scAgIn (fun vs H Q E h => ?_) (fun cdv A outer s H vs Q E hr h => ?_)
  · obtain ⟨fl, rv, ov, n, r, a, b, rfl, _⟩ := h
    rfl
  · obtain ⟨fl, rv, ov, n, r, a, b, rfl, hF, ⟨p, us, rfl, hp, Ip⟩, ho, ⟨⟨ng, ok, hng⟩, la, ln⟩, q⟩ := h
    refine ⟨_, pss_cons (ps_for PassesOwn.never rfl (pi_enumZ (by rfl) B.enumerate (by rfl) B.zip (pa_cons (pv 1) (pa_cons (pe_gd GR hr (by rfl) (pa_cons (pv 0) (pa_cons (pv 2) (pa_cons (pe_callB call_len_seq (by rfl) B.len b_len (pa_cons (pv 1) pa_nil)) pa_nil)))) pa_nil)))
        (pg_tup rfl (pgs_cons (pg_name (i := 3) scAgIn.nd rfl (.inl rfl)) (pgs_cons (pg_tup rfl (pgs_cons (pg_name (i := 4) scAgIn.nd rfl (.inl rfl)) (pgs_cons (pg_name (i := 5) scAgIn.nd rfl (.inl rfl)) pgs_nil))) pgs_nil)))
        (pss_one (ps_if (pt_cmpR (op_neD hr.units) (pv 4) (pv 5) (nomark _)) pss_never pss_nil)))
      (pss_one (ps_ret (pe_callB call_len_seq (by rfl) B.len b_len (pa_cons (pv 1) pa_nil)))), ?_⟩
    refine ⟨_, rfl, _, rfl, _, rfl, _, rfl, p, us, rfl, .inl hp, _, _, a, b, ng, n, r, by rw [Ip.len]; rfl, hF, ho, ok, ln, la, hng, fun H1 l vs s1 hl0 hl Il => ?_⟩
    refine ⟨p, l, us, vs, rfl, s1.seq hp, SqL.of hl, ?_⟩
    refine for_enumZ (by rw [Ip.len, Il.len]) (fun i σ H' => ∃ y3 y4 y5, σ = [some fl, some (.ref p), some ov, y3, y4, y5] ∧ Same H1 H') ⟨none, none, none, rfl, Same.refl _⟩ (fun i σ H' ⟨_, _, _, _, sm⟩ => ⟨sm.seq (s1.seq hp), sm.seq (SqL.of hl)⟩) ?_ ?_
    · rintro i x y T1 T2 σ H' hx hy ⟨y3, y4, y5, rfl, sm⟩ hT1 hT2
      have t1 := same_upd (o := .tup [x, y]) hT1
      have t2 := same_upd (o := .tup [.int (i : Nat), .ref T1]) hT2
      refine ⟨T2, [.int (i : Nat), .ref T1], rfl, .inl (.inl upd_same), rfl, .int (i : Nat), [.ref T1], rfl, .ref T1, [], rfl, T1, [x, y], rfl, .inl (.inl (t2 _ _ upd_same)), rfl, x, [y], rfl, y, [], rfl, rfl, rfl, ?_⟩
      have nx := ((Ip.ext (s1.trans sm).text).get hx).mono (t1.trans t2)
      have ny := ((Il.ext sm.text).get hy).mono (t1.trans t2)
      refine ⟨_, rfl, _, rfl, _, _, num_dp nx, num_dp ny, rfl, rfl, ?_⟩
      rw [show (!PyData.eqv (.tuple [.int (r i).num, .int ((r i).den : Int)]) (.tuple [.int (r i).num, .int ((r i).den : Int)])) = false by simp [PyData.eqv, PyData.eqvAll]]
      exact ⟨_, rfl, iteF ⟨_, _, _, rfl, sm.trans (t1.trans t2)⟩⟩
    · rintro σ H' ⟨y3, y4, y5, rfl, sm⟩
      refine ⟨_, rfl, p, us, rfl, .inl (sm.seq (s1.seq hp)), ?_⟩
      rw [Ip.len]
      exact q _ (s1.trans sm)
theorem gd_ag (ME : MkE K CE) (mE : mg "Exact" = some (.ref CE)) (a : At K mg "agrees" sAg) (G : Gd P w K mg base "agrees_in" k ["field", "row", "one"] (spAgIn K CE)) : Gd P w K mg base "agrees" (k + 1) ["row", "one"] (spAg K) := by
  obtain ⟨f, fd, F, g⟩ := a.ex
  refine ⟨f, fd, ?_, g, F.kp, F.binds fun _ _ _ _ _ _ us hl => match us, hl with | [_, _], _ => rfl⟩
  refine F.ok scAg (fun vs H Q E h => ?_) (fun cdv A outer s H vs Q E hr h => ?_)
  · obtain ⟨rv, ov, n, r, a, b, rfl, _⟩ := h
    rfl
  · obtain ⟨rv, ov, n, r, a, b, rfl, hR, ho, ok, q⟩ := h
    refine ⟨_, pss_one (ps_ret (pe_gd G hr (by rfl) (pa_cons (pe_makeE ME (by rfl) mE) (pa_cons (pv 0) (pa_cons (pv 1) pa_nil))))), fun x dx nx nd ne => ?_⟩
    have s1 := same_make (C := CE) nx nd ne
    exact ⟨_, rfl, _, rfl, _, _, _, n, r, a, b, rfl, fld_make, hR.same s1, QuoAt.ext ho s1.text, ok, fun H' sm => q _ (s1.trans sm)⟩
theorem gd_side (B : Bi mg) (a : At K mg "side_of" sSide) (G : Gd P w K mg base "agrees" k ["row", "one"] (spAg K)) : Gd P w K mg base "side_of" (k + 1) ["row", "one"] (spSide K) := by
  obtain ⟨f, fd, F, g⟩ := a.ex
  refine ⟨f, fd, ?_, g, F.kp, F.binds fun _ _ _ _ _ _ us hl => match us, hl with | [_, _], _ => rfl⟩
  refine F.ok scSide (fun vs H Q E h => ?_) (fun cdv A outer s H vs Q E hr h => ?_)
  · obtain ⟨rv, ov, n, r, a, b, rfl, _⟩ := h
    rfl
  · obtain ⟨rv, ov, n, r, a, b, rfl, hR, ho, ok, q⟩ := h
    obtain ⟨p, us, rfl, hp, Ip⟩ := id hR
    refine ⟨_, pss_cons (ps_set (i := 2) scSide.nd rfl (.inl rfl) (pe_gd G hr (by rfl) (pa_cons (pv 0) (pa_cons (pv 1) pa_nil))))
      (pss_cons (ps_if (pt_cmpR op_eq (pv 2) (pe_callB call_len_seq (by rfl) B.len b_len (pa_cons (pv 0) pa_nil)) (nomark _)) (pss_one (ps_ret pe_non)) pss_nil) pss_never), ?_⟩
    refine ⟨_, rfl, _, rfl, _, _, n, r, a, b, rfl, hR, ho, ok, fun H1 s1 => ?_⟩
    refine ⟨_, rfl, _, rfl, p, us, rfl, .inl (s1.seq hp), ?_⟩
    rw [Ip.len]
    refine ⟨rfl, _, rfl, ?_⟩
    rw [decide_eq_true rfl]
    exact iteT (q _ s1)
theorem gd_block (a : At K mg "block_of" sBlock) (GF : Gd P w K mg base "furthest" k ["row", "m", "n"] (spFurth K)) (GH : Gd P w K mg base "heights" k ["one"] (spHts K)) (GS : Gd P w K mg base "side_of" k ["row", "one"] (spSide K)) : Gd P w K mg base "block_of" (k + 1) ["row", "m", "n"] (spBlock K) := by
  obtain ⟨f, fd, F, g⟩ := a.ex
  refine ⟨f, fd, ?_, g, F.kp, F.binds fun _ _ _ _ _ _ us hl => match us, hl with | [_, _, _], _ => rfl⟩
  refine F.ok scBlock (fun vs H Q E h => ?_) (fun cdv A outer s H vs Q E hr h => ?_)
  · obtain ⟨rv, nr, r, m, n, a, b, na, nb, rfl, _⟩ := h
    rfl
  · obtain ⟨rv, nr, r, m, n, a, b, na, nb, rfl, hR, hmn, form, Ia, Ib, q0, q1⟩ := h
    refine ⟨_, pss_cons (ps_set (i := 3) scBlock.nd rfl (.inl rfl) (pe_gd GF hr (by rfl) (pa_cons (pv 0) (pa_cons (pv 1) (pa_cons (pv 2) pa_nil)))))
      (pss_cons (ps_if (pt_cmpR (op_eqD hr.units) (pe_ix ix_tup (pv 3) pe_int (fun _ _ => rfl)) (pe_tup pa_nil) (nomark _)) (pss_one (ps_ret pe_non)) pss_nil)
      (pss_one (ps_ret (pe_op op_catT (pe_gd GH hr (by rfl) (pa_cons (pv 3) pa_nil)) (pe_tup (pa_cons (pe_gd GS hr (by rfl) (pa_cons (pv 0) (pa_cons (pv 3) pa_nil))) pa_nil)))))), ?_⟩
    refine ⟨_, rfl, _, rfl, _, rfl, _, nr, r, m, n, a, b, rfl, hR, hmn, form, fun H1 v s1 hv => ?_⟩
    obtain ⟨x, y, ⟨p, rfl, hp⟩, hx, hy⟩ := id hv
    obtain ⟨na', ⟨px, ux, rfl, hpx, Ix⟩, Ia'⟩ := id hx
    obtain rfl := Ia'.unique Ia
    refine ⟨_, rfl, p, _, 0, _, rfl, rfl, hp, at0, Nat.zero_le _, fun t ht => ?_⟩
    have s2 := same_upd (o := .tup []) ht
    obtain ⟨ds, hds, hlen, hsh, _⟩ := items_shaped (Ix.ext s2.text)
    refine ⟨_, _, .tup (s2.seqT hpx) hds, .tup (.inl (.inl upd_same)) .nil, hsh, rfl, ?_⟩
    cases ds with
    | nil =>
      exact ⟨_, rfl, iteT (q0 hlen.symm _ (s1.trans s2))⟩
    | cons d ds =>
      have hn : na' ≠ 0 := by
        rw [← hlen]
        simp
      obtain ⟨own, q⟩ := q1 hn
      refine ⟨_, rfl, iteF ?_⟩
      refine ⟨_, rfl, _, a, b, na', nb, rfl, QuoAt.ext hv s2.text, Ia, Ib, fun H2 v2 s3 hv2 => ?_⟩
      obtain ⟨p2, rfl, hp2⟩ := hv2
      have s123 := s1.trans (s2.trans s3)
      refine ⟨_, rfl, _, rfl, _, _, nr, r, a, b, rfl, hR.same s123, QuoAt.ext hv (s2.trans s3).text, own, fun H3 s4 => ?_⟩
      refine ⟨(by show 1 ≤ sizeLine; decide), fun t1 ht1 => ?_⟩
      have s5 := same_upd (o := .tup [.non]) ht1
      refine ⟨p2, t1, _, _, rfl, rfl, (s4.trans s5).seqT hp2, .inl (.inl upd_same), by simp, (by show 3 ≤ sizeLine; decide), (fun z => nomatch z), fun _ t2 ht2 => ?_⟩
      exact q _ t2 (s123.trans (s4.trans (s5.trans (same_upd ht2)))) (.inl (.inl upd_same))
end
end L2.FW
end
section
set_option Elab.async false
set_option linter.all false
set_option maxRecDepth 100000
namespace L2.FW
open PySem PySem.Spec PyProof.Rows
open FQ (Fit BB BB_eq FitP Ser IsLen Lt rowB)
/-! ### the law's draws -/
abbrev sBegin : Stmt := topS 67
abbrev sTake : Stmt := topS 68
theorem scBegin : FnScope ["_law_script", "_law_cells"] ["_law_script"] (defScope sBegin) := ⟨rfl, rfl, rfl, by decide +kernel, rfl, by decide +kernel, by decide +kernel⟩
theorem scTake : FnScope ["_law_state", "_law_many", "_law_turn", "_law_place", "_law_cell", "_law_digit", "_law_mixed"] ["_law_state", "_law_many"] (defScope sTake) := ⟨rfl, rfl, rfl, by decide +kernel, rfl, by decide +kernel, by decide +kernel⟩
abbrev kCells : Key := .inr "cells"
abbrev kTurn : Key := .inr "turn"
/-- the law's state: a dict of the cells and the turn; b takes are left -/
structure StAt (H : Hp) (d c : Addr) (b : Nat) : Prop where
  ex : ∃ xs t, H d = some (.dK [(kCells, .ref c), (kTurn, .int t)]) ∧ H c = some (.lst xs) ∧ xs ≠ [] ∧ (∀ x ∈ xs, ∃ i, x = V.int i) ∧ xs.length ≤ 1000 ∧ 0 ≤ t ∧ t + (b : Int) ≤ 1000000
theorem StAt.mono {H : Hp} {d c : Addr} {b b' : Nat} (h : StAt H d c b) (hb : b' ≤ b) : StAt H d c b' := by
  obtain ⟨xs, t, h1, h2, h3, h4, h5, h6, h7⟩ := h.ex
  exact ⟨xs, t, h1, h2, h3, h4, h5, h6, by omega⟩
theorem StAt.same {H H' : Hp} {d c : Addr} {b : Nat} (h : StAt H d c b) (s : Same H H') : StAt H' d c b := by
  obtain ⟨xs, t, h1, h2, h3, h4, h5, h6, h7⟩ := h.ex
  exact ⟨xs, t, s _ _ h1, s _ _ h2, h3, h4, h5, h6, h7⟩
theorem StAt.text {H H' : Hp} {d c : Addr} {b : Nat} (h : StAt H d c b) (k : Keep [d, c] H H') : TExt H H' := by
  obtain ⟨xs, t, h1, h2, _⟩ := h.ex
  intro b
  refine ⟨fun xs e => k b _ e fun hb => ?_, fun o u e => k b _ e fun hb => ?_⟩
  all_goals
    have hb' : b = d ∨ b = c := by simpa using hb
    rcases hb' with z | z
    · rw [z] at e; rw [e] at h1; cases h1
    · rw [z] at e; rw [e] at h2; cases h2
/-- a list that is not the state's is kept -/
theorem StAt.lst {H H' : Hp} {d c : Addr} {b : Nat} (h : StAt H d c b) (k : Keep [d, c] H H') {l : Addr} {o : HO} (hl : H l = some o) (hc : l ≠ c) (hd : l ≠ d) : H' l = some o := k l o hl (by simp; exact ⟨hd, hc⟩)
theorem StAt.nd {H : Hp} {d c : Addr} {b : Nat} (h : StAt H d c b) : d ≠ c := by
  obtain ⟨xs, t, h1, h2, _⟩ := h.ex
  intro z
  rw [z, h2] at h1
  cases h1
theorem b_divmod : bootBuiltins "divmod" = some (.builtin "divmod") := by decide +kernel
def spBegin (K : PySem.W.Frag) : Sp := fun vs H Q _ => ∃ a xs, vs = [.ref a] ∧ SqL K H a xs ∧ (∀ x ∈ xs, ∃ i, x = V.int i) ∧ ∀ H' d c, Same H H' → H d = none → H c = none → StAt H' d c 999000 → Q (.ref d) H'
def spTake (K : PySem.W.Frag) : Sp := fun vs H Q _ => ∃ d c b many, vs = [.ref d, .int many] ∧ StAt H d c (b + 1) ∧ 0 < many ∧ ∀ H' r, Keep [d, c] H H' → StAt H' d c b → 0 ≤ r → r < many → Q (.int r) H'
theorem ints_dp {K : PySem.W.Frag} {H : Hp} : ∀ xs : List V, (∀ x ∈ xs, ∃ i, x = V.int i) → ∃ ds, DpAll K H xs ds ∧ ds.length = xs.length ∧ PyData.canLayAll0 ds = true ∧ PyData.depthAll ds ≤ 0
  | [], _ => ⟨[], .nil, rfl, rfl, Nat.le_refl _⟩
  | x :: xs, h => by
    obtain ⟨i, rfl⟩ := h x List.mem_cons_self
    obtain ⟨ds, a, b, c, d⟩ := ints_dp xs fun y hy => h y (List.mem_cons_of_mem _ hy)
    refine ⟨_ :: ds, .cons (.int i) a, by rw [List.length_cons, b]; rfl, ?_, ?_⟩
    · rw [PyData.canLayAll0, c]
      rfl
    · rw [PyData.depthAll]
      exact Nat.max_le.mpr ⟨Nat.le_refl 0, d⟩
section
variable {P : Program} {w : World} {K : PySem.W.Frag} {mg : Str → Option Value} {base : Heap} {k : Nat}
theorem gd_begin (B : Bi mg) (a : At K mg "_law_begin" sBegin) : Gd P w K mg base "_law_begin" (k + 1) ["_law_script"] (spBegin K) := by
  obtain ⟨f, fd, F, g⟩ := a.ex
  refine ⟨f, fd, ?_, g, F.kp, F.binds fun _ _ _ _ _ _ us hl => match us, hl with | [_], _ => rfl⟩
  refine F.ok scBegin (fun vs H Q E h => ?_) (fun cdv A outer s H vs Q E hr h => ?_)
  · obtain ⟨a, xs, rfl, _⟩ := h
    rfl
  · obtain ⟨a, xs, rfl, hL, hI, q⟩ := h
    refine ⟨_, pss_cons (ps_set (i := 1) scBegin.nd rfl (.inl rfl) (pe_callTy call_list_of (by rfl) B.list b_list (pa_cons (pe_slice sl_list (pv 0) po_none (po_some pe_int)) pa_nil)))
      (pss_cons (ps_if (pt_cmpR (op_eqD hr.units) (pv 1) (pe_lst pa_nil) (nomark _)) (pss_one (ps_set (i := 1) scBegin.nd rfl (.inl rfl) (pe_lst (pa_cons pe_int pa_nil)))) pss_nil)
      (pss_one (ps_ret (pe_disp (pps_cons pe_str (pv 1) (pps_cons pe_str pe_int pps_nil)) rfl rfl (by decide) (by decide))))), ?_⟩
    refine ⟨_, rfl, _, rfl, a, xs, rfl, hL, fun l hl => ⟨l, _, rfl, .inl (.inl (.inl upd_same)), fun l2 hl2 => ?_⟩⟩
    have s1 := same_upd (o := .lst (cutV xs none (some 63))) hl
    have s2 := s1.new (o := .lst (cutV xs none (some 63))) hl2
    have ec : cutV xs none (some (63 : Int)) = xs.take 63 := cut_head xs (k := 63) rfl
    have hI2 : ∀ x ∈ cutV xs none (some 63), ∃ i, x = V.int i := fun x hx => hI x (by
      rw [ec] at hx
      exact List.mem_of_mem_take hx)
    have hlen : (cutV xs none (some 63)).length ≤ 63 := by
      rw [ec, List.length_take]
      omega
    clear ec
    generalize cutV xs none (some 63) = ys at s1 s2 hI2 hlen hl2 ⊢
    refine ⟨_, rfl, Nat.zero_le _, fun l3 hl3 => ?_⟩
    have s3 := s2.new (o := .lst []) hl3
    obtain ⟨ds, da, dl, dc, dd⟩ := ints_dp (K := K) (H := upd (upd (upd H l (.lst ys)) l2 (.lst ys)) l3 (.lst [])) ys hI2
    have n32 : l2 ≠ l3 := ne_of_none (upd_same (H := upd H l (.lst ys)) (a := l2) (o := .lst ys)) hl3
    refine ⟨.list ds, .list [], .lst (.inl (.inl (by rw [upd_ne n32, upd_same]))) da, .lst (.inl (.inl upd_same)) .nil, ?_, rfl, ?_⟩
    · unfold SeqAt.shaped
      rw [PyData.canLay0, dc, PyData.depth, decide_eq_true (by omega)]
      rfl
    have fin : ∀ H1 c ys, Same H H1 → H c = none → H1 c = some (.lst ys) → ys ≠ [] → (∀ x ∈ ys, ∃ i, x = V.int i) → ys.length ≤ 63 → ∀ p, H1 p = none → Q (.ref p) (upd (upd H1 p (.dK [])) p (.dK [(kCells, .ref c), (kTurn, .int 0)])) := fun H1 c ys sm hc hy hn hi hle p hp => by
      have e : upd (upd H1 p (.dK [])) p (.dK [(kCells, .ref c), (kTurn, .int 0)]) = upd H1 p (.dK [(kCells, .ref c), (kTurn, .int 0)]) := by
        funext x
        by_cases z : x = p
        · rw [z, upd_same, upd_same]
        · rw [upd_ne z, upd_ne z, upd_ne z]
      rw [e]
      refine q _ p c (sm.new hp) (sm.free hp) hc ⟨ys, 0, upd_same, same_upd hp _ _ hy, hn, hi, by omega, by omega, by decide⟩
    cases ds with
    | nil =>
      refine ⟨_, rfl, iteT ⟨(by show 1 ≤ sizeLine; decide), fun l4 hl4 => ?_⟩⟩
      have s4 := s3.new (o := .lst [.int 7]) hl4
      intro p hp
      refine ⟨_, rfl, upd_same, [(kCells, .ref l4), (kTurn, .int 0)], rfl, (by show 2 ≤ 15; decide), ?_⟩
      exact fin _ l4 [.int 7] s4 (s3.free hl4) upd_same (by simp) (fun x hx => ⟨7, by simpa using hx⟩) (by simp) p hp
    | cons d ds =>
      refine ⟨_, rfl, iteF ?_⟩
      intro p hp
      refine ⟨_, rfl, upd_same, [(kCells, .ref l2), (kTurn, .int 0)], rfl, (by show 2 ≤ 15; decide), ?_⟩
      exact fin _ l2 ys s3 (s1.free hl2) (by rw [upd_ne n32, upd_same]) (fun z => by rw [z] at dl; simp at dl) hI2 hlen p hp
theorem gd_take (hS : base.NoSeer) (hT : P.given.tree = none) (hk : 33 ≤ k) (B : Bi mg) (a : At K mg "_law_take" sTake) : Gd P w K mg base "_law_take" (k + 1) ["_law_state", "_law_many"] (spTake K) := by
  obtain ⟨f, fd, F, g⟩ := a.ex
  refine ⟨f, fd, ?_, g, F.kp, F.binds fun _ _ _ _ _ _ us hl => match us, hl with | [_, _], _ => rfl⟩
  refine F.ok scTake (fun vs H Q E h => ?_) (fun cdv A outer s H vs Q E hr h => ?_)
  · obtain ⟨d, c, b, many, rfl, _⟩ := h
    rfl
  · obtain ⟨d, c, b, many, rfl, hS, hm, q⟩ := h
    have Bg := big_cx (CX := CX0) (P := P) (w := w) (K := K) (mg := mg) (base := base) (outer := outer) (s := s) (H := H) (E := E) ‹_› hT scTake hr hk
    have hu : (cxOf CX0 P w K mg base ["_law_state", "_law_many", "_law_turn", "_law_place", "_law_cell", "_law_digit", "_law_mixed"] "_law_take" (defScope sTake) f cdv A outer s H E).nox.A.units + 1 < cLine := Nat.lt_of_le_of_lt (Nat.add_le_add_left (by decide : 1 ≤ 64) _) hr.units
    refine ⟨_, pss_cons (ps_set (i := 2) scTake.nd rfl (.inl rfl) (pe_op op_add (pe_dget hu (pv 0) pe_str (fun _ _ => rfl)) pe_int))
      (pss_cons (ps_dput hu (pv 0) pe_str (pv 2) rfl)
      (pss_cons (ps_set (i := 3) scTake.nd rfl (.inl rfl) (pe_op op_mod (pv 2) (pe_callB call_len_seq (by rfl) B.len b_len (pa_cons (pe_dget hu (pv 0) pe_str (fun _ _ => rfl)) pa_nil))))
      (pss_cons (ps_set (i := 4) scTake.nd rfl (.inl rfl) (pe_ix ix_list (pe_dget hu (pv 0) pe_str (fun _ _ => rfl)) (pv 3) (fun _ _ => rfl)))
      (pss_cons (ps_if (pt_cmpR op_ge (pv 4) (pe_op op_pow pe_int pe_int) (nomark _))
        (pss_cons (ps_asg (pe_callB (call_divmodP Bg) (by rfl) B.divmod b_divmod (pa_cons (pv 4) (pa_cons (pv 1) pa_nil))) (pg_tup rfl (pgs_cons (pg_sub (pe_dget hu (pv 0) pe_str (fun _ _ => rfl)) (pv 3) set_list) (pgs_cons (pg_name (i := 5) scTake.nd rfl (.inl rfl)) pgs_nil))))
          (pss_one (ps_ret (pv 5)))) pss_nil)
      (pss_cons (ps_set (i := 6) scTake.nd rfl (.inl rfl) (pe_op op_mod (pe_op op_mul (pe_op op_add (pe_op op_add (pe_op op_mod (pv 4) pe_int) (pe_op op_mul (pe_op op_mul (pv 2) (pv 2)) pe_int)) pe_int) pe_int) pe_int))
      (pss_cons (ps_set (i := 6) scTake.nd rfl (.inl rfl) (pe_op op_mod (pe_op op_mul (pv 6) (pv 6)) pe_int))
      (pss_one (ps_ret (pe_op op_mod (pe_op op_fdiv (pe_op op_mod (pe_op op_mul (pe_op op_add (pv 6) (pe_op op_mul (pv 2) pe_int)) pe_int) pe_int) pe_int) (pv 1)))))))))), ?_⟩
    obtain ⟨xs, t, h1, h2, h3, h4, h5, h6, h7⟩ := hS.ex
    have ndc := hS.nd
    refine ⟨_, rfl, d, .int t, rfl, .inl ⟨_, kTurn, .inl h1, rfl, rfl⟩, _, _, rfl, rfl, ?_⟩
    refine ⟨_, rfl, _, rfl, d, upd H d (.dK [(kCells, .ref c), (kTurn, .int (t + 1))]), rfl, .inl ⟨_, kTurn, h1, rfl, (by show 2 < sizeLine; decide), rfl⟩, ?_⟩
    have k1 : Keep [d, c] H (upd H d (.dK [(kCells, .ref c), (kTurn, .int (t + 1))])) := Keep.upd (by simp)
    have hd1 : upd H d (.dK [(kCells, .ref c), (kTurn, .int (t + 1))]) d = some (.dK [(kCells, .ref c), (kTurn, .int (t + 1))]) := upd_same
    have hc1 : upd H d (.dK [(kCells, .ref c), (kTurn, .int (t + 1))]) c = some (.lst xs) := by rw [upd_ne ndc.symm]; exact h2
    generalize upd H d (.dK [(kCells, .ref c), (kTurn, .int (t + 1))]) = H1 at k1 hd1 hc1 ⊢
    have hlen : 0 < xs.length := by
      cases xs with
      | nil => exact absurd rfl h3
      | cons => exact Nat.succ_pos _
    refine ⟨_, rfl, _, rfl, d, _, rfl, .inl ⟨_, kCells, .inl hd1, rfl, rfl⟩, c, xs, rfl, .inl (SqL.of hc1), _, _, rfl, rfl, (by omega), ?_⟩
    have m0 := Int.emod_nonneg (t + 1) (show (xs.length : Int) ≠ 0 by omega)
    have m1 := Int.emod_lt_of_pos (t + 1) (show (0 : Int) < (xs.length : Int) by omega)
    obtain ⟨j, ej⟩ : ∃ j : Nat, (t + 1) % (xs.length : Int) = (j : Int) := ⟨((t + 1) % (xs.length : Int)).toNat, by omega⟩
    have hj : j < xs.length := by omega
    obtain ⟨cell, ecell⟩ := h4 xs[j] (List.getElem_mem hj)
    have eget : xs[j]? = some (.int cell) := by rw [List.getElem?_eq_getElem hj, ecell]
    refine ⟨_, rfl, d, _, rfl, .inl ⟨_, kCells, .inl hd1, rfl, rfl⟩, _, rfl, c, xs, _, .int cell, rfl, rfl, SqL.of hc1, atN ej eget, ?_⟩
    refine ⟨_, rfl, _, _, rfl, rfl, ⟨by decide, by decide, by decide⟩, _, _, rfl, rfl, _, rfl, ite2 (fun _ => ?_) (fun _ => ?_)⟩
    · refine ⟨_, rfl, _, rfl, cell, many, rfl, hm, fun p hp => ?_⟩
      have s1 := same_upd (o := .tup [.int (cell / many), .int (cell % many)]) hp
      refine ⟨p, [.int (cell / many), .int (cell % many)], rfl, .inl (.inl upd_same), rfl, .int (cell / many), [.int (cell % many)], rfl, ?_⟩
      refine ⟨_, rfl, d, _, rfl, .inl ⟨_, kCells, .inl (s1 _ _ hd1), rfl, rfl⟩, _, rfl, c, xs, _, j, rfl, rfl, s1 _ _ hc1, ixN_nat ej hj, ?_⟩
      refine ⟨.int (cell % many), [], rfl, rfl, _, rfl, ?_⟩
      refine q _ _ ((k1.trans (Keep.of s1)).updN (by simp)) ⟨xs.set j (.int (cell / many)), t + 1, ?_, upd_same, ?_, ?_, by rw [List.length_set]; exact h5, by omega, by omega⟩ (Int.emod_nonneg _ (by omega)) (Int.emod_lt_of_pos _ hm)
      · rw [upd_ne ndc]
        exact s1 _ _ hd1
      · intro z
        have := congrArg List.length z
        rw [List.length_set] at this
        simp at this
        exact h3 this
      · intro x hx
        rcases List.mem_or_eq_of_mem_set hx with hx | hx
        · exact h4 x hx
        · exact ⟨_, hx⟩
    · have lo : ∀ {x m : Int}, 0 < m → m < 2 ^ 64 → -(2 ^ 64) < x % m ∧ x % m < 2 ^ 64 := fun {x m} h1 h2 => by
        have a := Int.emod_nonneg x (show m ≠ 0 by omega)
        have b := Int.emod_lt_of_pos x h1
        omega
      have tt : -(2 ^ 64) < t + 1 ∧ t + 1 < 2 ^ 64 := by omega
      refine ⟨_, rfl, _, _, rfl, rfl, (by show (0 : Int) < _; decide), _, rfl, _, rfl, _, _, rfl, rfl, .inl tt, _, _, rfl, rfl, .inr (by decide), _, _, rfl, rfl, _, _, rfl, rfl, _, _, rfl, rfl, .inr (by decide), _, _, rfl, rfl, (by show (0 : Int) < _; decide), ?_⟩
      refine ⟨_, rfl, _, rfl, _, _, rfl, rfl, .inl (lo (by decide) (by decide)), _, _, rfl, rfl, (by show (0 : Int) < _; decide), ?_⟩
      refine ⟨_, rfl, _, rfl, _, _, rfl, rfl, .inr (by decide), _, _, rfl, rfl, _, _, rfl, rfl, .inr (by decide), _, _, rfl, rfl, (by show (0 : Int) < _; decide), _, _, rfl, rfl, ⟨by decide, by decide⟩, _, rfl, _, _, rfl, rfl, hm, ?_⟩
      exact q _ _ k1 ⟨xs, t + 1, hd1, hc1, h3, h4, h5, by omega, by omega⟩ (Int.emod_nonneg _ (by omega)) (Int.emod_lt_of_pos _ hm)
end
end L2.FW
end
section
set_option Elab.async false
set_option linter.all false
set_option maxRecDepth 100000
namespace L2.FW
open PySem PySem.Spec PyProof.Rows
open FQ (Fit BB BB_eq FitP Ser IsLen Lt rowB)
/-! ### the law's own numbers -/
abbrev sSame : Stmt := topS 69
abbrev sLPart : Stmt := topS 70
abbrev sLPlus : Stmt := topS 71
abbrev sLMinus : Stmt := topS 72
abbrev sLTimes : Stmt := topS 73
theorem scSame : FnScope ["_law_found", "_law_due", "_law_one", "_law_other"] ["_law_found", "_law_due"] (defScope sSame) := ⟨rfl, rfl, rfl, by decide +kernel, rfl, by decide +kernel, by decide +kernel⟩
theorem scLPart : FnScope ["_law_top", "_law_below", "_law_one", "_law_other", "_law_sign"] ["_law_top", "_law_below"] (defScope sLPart) := ⟨rfl, rfl, rfl, by decide +kernel, rfl, by decide +kernel, by decide +kernel⟩
theorem scLPlus : FnScope ["_law_one", "_law_other"] ["_law_one", "_law_other"] (defScope sLPlus) := ⟨rfl, rfl, rfl, by decide +kernel, rfl, by decide +kernel, by decide +kernel⟩
theorem scLMinus : FnScope ["_law_one", "_law_other"] ["_law_one", "_law_other"] (defScope sLMinus) := ⟨rfl, rfl, rfl, by decide +kernel, rfl, by decide +kernel, by decide +kernel⟩
theorem scLTimes : FnScope ["_law_one", "_law_other"] ["_law_one", "_law_other"] (defScope sLTimes) := ⟨rfl, rfl, rfl, by decide +kernel, rfl, by decide +kernel, by decide +kernel⟩
theorem b_abs : bootBuiltins "abs" = some (.builtin "abs") := by decide +kernel
theorem b_int : bootBuiltins "int" = some (.type "int") := by decide +kernel
theorem b_str : bootBuiltins "str" = some (.type "str") := by decide +kernel
theorem b_bool : bootBuiltins "bool" = some (.type "bool") := by decide +kernel
theorem b_isi : bootBuiltins "isinstance" = some (.builtin "isinstance") := by decide +kernel
theorem b_all : bootBuiltins "all" = some (.builtin "all") := by decide +kernel
theorem b_any : bootBuiltins "any" = some (.builtin "any") := by decide +kernel
def spL2 (K : PySem.W.Frag) (g : Rat → Rat → Rat) : Sp := fun vs H Q _ => ∃ a b x y, vs = [a, b] ∧ NumAt K H a x ∧ NumAt K H b y ∧ Fit x ∧ Fit y ∧ ∀ H' v, Same H H' → NumAt K H' v (g x y) → Q v H'
/-- two values say the same: None, ints and tuples of such -/
inductive SameD (K : PySem.W.Frag) (H : Hp) : Nat → V → V → Prop
  | non (n : Nat) : SameD K H n .non .non
  | int (n : Nat) (i : Int) : SameD K H n (.int i) (.int i)
  | tup (n : Nat) (a b : Addr) (xs ys : List V) (ha : SqT K H a xs) (hb : SqT K H b ys) (hl : xs.length = ys.length) (hz : xs.length ≤ 900) (h : ∀ (i : Nat) (x y : V), xs[i]? = some x → ys[i]? = some y → SameD K H n x y) : SameD K H (n + 1) (.ref a) (.ref b)
theorem SameD.ext {K : PySem.W.Frag} {H H' : Hp} {n : Nat} {x y : V} (h : SameD K H n x y) (s : TExt H H') : SameD K H' n x y := by
  induction h with
  | non n => exact .non n
  | int n i => exact .int n i
  | tup n a b xs ys ha hb hl hz h ih => exact .tup n a b xs ys (s.seqT ha) (s.seqT hb) hl hz ih
def spSame (K : PySem.W.Frag) (n : Nat) : Sp := fun vs H Q _ => ∃ x y, vs = [x, y] ∧ SameD K H n x y ∧ ∀ H', Same H H' → Q (.bl true) H'
theorem tyx_tup {K : PySem.W.Frag} {H : Hp} {a : Addr} {xs : List V} (h : SqT K H a xs) : TyX K H (.ref a) (.type "tuple") := by
  rcases h with (h | ⟨o, h⟩) | ⟨o, its, n, h, hc, _⟩
  · exact .base (.tup h)
  · exact .fTuple h
  · exact .kTuple h hc
theorem lc_zipT {K : PySem.W.Frag} {a b : Addr} {xs ys : List V} {n : Nat} {g : TG} {tt : TT} {te : TE} {vs : List Nat} {σ : St} {H1 : Hp} {D : Addr} {Qd : Hp → Prop} (hx : xs.length = n) (hy : ys.length = n) (Pv : Nat → Hp → Prop) (h0 : Pv 0 (upd H1 D (.lst []))) (hl : ∀ i H, i ≤ n → Pv i H → SqT K H a xs ∧ SqT K H b ys)
    (hs : ∀ i x y H T, xs[i]? = some x → ys[i]? = some y → Pv i H → H T = none → g (.ref T) (wipe σ vs) (upd H T (.tup [x, y])) fun σ2 H2 => wipe σ2 vs = wipe σ vs ∧ tt σ2 H2 fun b H3 =>
      if b = true then te σ2 H3 fun y H4 => ∃ acc, H4 D = some (.lst acc) ∧ acc.length < sizeLine ∧ Pv (i + 1) (upd H4 D (.lst (acc ++ [y]))) else Pv (i + 1) H3) (hd : ∀ H, Pv n H → Qd H) :
    ∃ W : Nat → Nat → Hp → Prop, (∃ m, W 0 m (upd H1 D (.lst []))) ∧ ∀ i m H, W i m H →
      ((RZ.ItzT K a b).stop i H ∧ Qd H) ∨ ((RZ.ItzT K a b).go i H ∧ ∃ Nx : Hp → Prop, (∀ H', Nx H' → ∃ m', m' < m ∧ W (i + 1) m' H') ∧ ∀ x H', (RZ.ItzT K a b).yld i H x H' → g x (wipe σ vs) H' fun σ2 H2 => wipe σ2 vs = wipe σ vs ∧ tt σ2 H2 fun b H3 =>
        if b = true then te σ2 H3 fun y H4 => ∃ acc, H4 D = some (.lst acc) ∧ acc.length < sizeLine ∧ Nx (upd H4 D (.lst (acc ++ [y]))) else Nx H3) := by
  refine ⟨fun i m H => m = n - i ∧ i ≤ n ∧ Pv i H, ⟨n, by simp, Nat.zero_le _, h0⟩, ?_⟩
  rintro i m H ⟨rfl, hi, p⟩
  obtain ⟨q1, q2⟩ := hl i H hi p
  by_cases hlt : i < n
  · refine .inr ⟨⟨xs, ys, xs[i], ys[i], q1, q2, by simp [hx, hlt], by simp [hy, hlt]⟩, Pv (i + 1), fun H' p' => ⟨n - (i + 1), by omega, rfl, hlt, p'⟩, fun x H' y => ?_⟩
    obtain ⟨T, x1, y1, rfl, hT, rfl, e1, e2⟩ := y
    exact hs i x1 y1 H T (e1 xs q1) (e2 ys q2) p hT
  · have e : i = n := by omega
    subst e
    exact .inl ⟨⟨xs, ys, q1, q2, .inl (by omega)⟩, hd H p⟩
section
variable {P : Program} {w : World} {K : PySem.W.Frag} {mg : Str → Option Value} {base : Heap} {k : Nat}
theorem gd_lpart (hS : base.NoSeer) (hT : P.given.tree = none) (hk : 33 ≤ k) (B : Bi mg) (a : At K mg "_law_part" sLPart) : Gd P w K mg base "_law_part" (k + 1) ["_law_top", "_law_below"] (spNumber K) := by
  obtain ⟨f, fd, F, g⟩ := a.ex
  refine ⟨f, fd, ?_, g, F.kp, F.binds fun _ _ _ _ _ _ us hl => match us, hl with | [_, _], _ => rfl⟩
  refine F.ok scLPart (fun vs H Q E h => ?_) (fun cdv A outer s H vs Q E hr h => ?_)
  · obtain ⟨t, b, rfl, _⟩ := h
    rfl
  · obtain ⟨t, b, rfl, hb, q⟩ := h
    have Bg := big_cx (CX := CX0) (P := P) (w := w) (K := K) (mg := mg) (base := base) (outer := outer) (s := s) (H := H) (E := E) hS hT scLPart hr hk
    refine ⟨_, pss_cons (ps_par (i := 2) (j := 3) rfl scLPart.nd rfl rfl (by decide) rfl rfl (pa_cons (pe_callB call_abs (by rfl) B.abs b_abs (pa_cons (pv 0) pa_nil)) (pa_cons (pe_callB call_abs (by rfl) B.abs b_abs (pa_cons (pv 1) pa_nil)) pa_nil)) rfl)
      (pss_cons (ps_while PassesOwn.never (pt_cmpR op_gt (pv 3) pe_int (nomark _))
        (pss_one (ps_par (i := 2) (j := 3) rfl scLPart.nd rfl rfl (by decide) rfl rfl (pa_cons (pv 3) (pa_cons (pe_op op_mod (pv 2) (pv 3)) pa_nil)) rfl)))
      (pss_cons (ps_set (i := 4) scLPart.nd rfl (.inl rfl) (pe_op op_sub pe_int (pe_op op_mul pe_int (pe_callTy call_int1 (by rfl) B.int b_int (pa_cons (pe_cmpR op_lt (pv 1) pe_int (nomark _)) pa_nil)))))
      (pss_one (ps_ret (pe_tup (pa_cons (pe_op (op_fdivP Bg) (pe_op op_mul (pv 4) (pv 0)) (pv 2)) (pa_cons (pe_op (op_fdivP Bg) (pe_op op_mul (pv 4) (pv 1)) (pv 2)) pa_nil))))))), ?_⟩
    refine ⟨_, rfl, t, rfl, _, rfl, b, rfl, _, _, rfl, ?_⟩
    rw [iabs, iabs]
    refine while_by (fun σ H' => H' = H ∧ ∃ c d : Int, σ = [some (.int t), some (.int b), some (.int c), some (.int d), none] ∧ 0 ≤ c ∧ 0 ≤ d ∧ Int.gcd c d = Int.gcd t b) (fun σ _ => match σ with | [_, _, _, some (.int d), _] => d.toNat | _ => 0) ⟨rfl, _, _, rfl, by omega, by omega, by simp [Int.gcd]⟩ ?_ ?_
    · rintro σ _ ⟨rfl, c, d, rfl, hc, hd, e⟩
      refine ⟨_, rfl, _, _, rfl, rfl, _, rfl, ?_⟩
      refine ite2 (fun hn => ?_) (fun hn => ?_)
      · have hdp : 0 < d := of_decide_eq_true hn
        have hd0 : d ≠ 0 := by omega
        refine ⟨_, rfl, _, rfl, _, rfl, _, _, rfl, rfl, hdp, _, _, rfl, ⟨rfl, _, _, rfl, hd, Int.emod_nonneg _ hd0, ?_⟩, ?_⟩
        · rw [FQ.emod_gcd hc hdp, e]
        · have := Int.emod_lt_of_pos c hdp
          have := Int.emod_nonneg c hd0
          show (c % d).toNat < d.toNat
          omega
      · have hn' : ¬ 0 < d := fun z => hn (decide_eq_true z)
        have hd0 : d = 0 := by omega
        subst hd0
        have e2 : c = (Int.gcd t b : Int) := by rw [← e, Int.gcd_zero_right]; omega
        have gp : c ≠ 0 := by
          have := Int.gcd_pos_of_ne_zero_right t hb
          omega
        refine ⟨_, rfl, _, _, rfl, rfl, .inr ⟨_, rfl, ?_⟩⟩
        rcases Int.lt_or_gt_of_ne hb with hneg | hpos
        · rw [decide_eq_true hneg]
          refine ⟨_, _, rfl, rfl, .inl (by decide), _, _, rfl, rfl, _, rfl, _, rfl, _, _, rfl, rfl, .inl (by decide), _, rfl, _, _, rfl, rfl, gp, _, rfl, _, rfl, _, _, rfl, rfl, .inl (by decide), _, rfl, _, _, rfl, rfl, gp, (by show 2 ≤ sizeLine; decide), fun p hp => ?_⟩
          refine q _ _ (same_upd hp) ⟨p, rfl, .inl (.inl ?_)⟩
          rw [upd_same]
          have e3 : c = (Int.gcd (-t) (-b) : Nat) := by rw [Int.gcd_neg, Int.neg_gcd]; exact e2
          have := num_made (-t) (-b) (by omega)
          rw [Rat.neg_divInt_neg, ← e3] at this
          rw [← this]
          simp
        · rw [decide_eq_false (by omega)]
          refine ⟨_, _, rfl, rfl, .inl (by decide), _, _, rfl, rfl, _, rfl, _, rfl, _, _, rfl, rfl, .inl (by decide), _, rfl, _, _, rfl, rfl, gp, _, rfl, _, rfl, _, _, rfl, rfl, .inl (by decide), _, rfl, _, _, rfl, rfl, gp, (by show 2 ≤ sizeLine; decide), fun p hp => ?_⟩
          refine q _ _ (same_upd hp) ⟨p, rfl, .inl (.inl ?_)⟩
          rw [upd_same]
          have := num_made t b (by omega)
          rw [← e2] at this
          rw [← this]
          simp
    · intro σ H Q Q' hq h
      obtain ⟨v, e1, i, j, e2, e3, kk, e4, h2⟩ := h
      exact ⟨v, e1, i, j, e2, e3, kk, e4, hq _ _ h2⟩
theorem gd_lplus (a : At K mg "_law_plus" sLPlus) (G : Gd P w K mg base "_law_part" k ["_law_top", "_law_below"] (spNumber K)) : Gd P w K mg base "_law_plus" (k + 1) ["_law_one", "_law_other"] (spL2 K fun x y => x + y) := by
  obtain ⟨f, fd, F, g⟩ := a.ex
  refine ⟨f, fd, ?_, g, F.kp, F.binds fun _ _ _ _ _ _ us hl => match us, hl with | [_, _], _ => rfl⟩
  refine F.ok scLPlus (fun vs H Q E h => ?_) (fun cdv A outer s H vs Q E hr h => ?_)
  · obtain ⟨a, b, x, y, rfl, _⟩ := h
    rfl
  · obtain ⟨a, b, x, y, rfl, ⟨pa, rfl, ha⟩, ⟨pb, rfl, hb⟩, fx, fy, q⟩ := h
    refine ⟨_, pss_one (ps_ret (pe_gd G hr (by rfl) (pa_cons
      (pe_op op_add (pe_op op_mulX (pe_ix ix_tup (pv 0) pe_int (fun _ _ => rfl)) (pe_ix ix_tup (pv 1) pe_int (fun _ _ => rfl)))
        (pe_op op_mulX (pe_ix ix_tup (pv 1) pe_int (fun _ _ => rfl)) (pe_ix ix_tup (pv 0) pe_int (fun _ _ => rfl))))
      (pa_cons (pe_op op_mulX (pe_ix ix_tup (pv 0) pe_int (fun _ _ => rfl)) (pe_ix ix_tup (pv 1) pe_int (fun _ _ => rfl))) pa_nil)))), ?_⟩
    refine ⟨_, rfl, pa, _, 0, _, rfl, rfl, ha, at0, _, rfl, pb, _, 1, _, rfl, rfl, hb, at1, _, _, rfl, rfl, fit_mul fx.n fy.d, ?_⟩
    refine ⟨_, rfl, pb, _, 0, _, rfl, rfl, hb, at0, _, rfl, pa, _, 1, _, rfl, rfl, ha, at1, _, _, rfl, rfl, fit_mul fy.n fx.d, _, _, rfl, rfl, ?_⟩
    refine ⟨_, rfl, pa, _, 1, _, rfl, rfl, ha, at1, _, rfl, pb, _, 1, _, rfl, rfl, hb, at1, _, _, rfl, rfl, fit_mul fx.d fy.d, ?_⟩
    refine ⟨_, _, rfl, ?_, ?_⟩
    · exact Int.ne_of_gt (Int.mul_pos (FQ.den_pos' x) (FQ.den_pos' y))
    · rw [FQ.add_eq]
      exact q
theorem gd_lminus (a : At K mg "_law_minus" sLMinus) (G : Gd P w K mg base "_law_part" k ["_law_top", "_law_below"] (spNumber K)) : Gd P w K mg base "_law_minus" (k + 1) ["_law_one", "_law_other"] (spL2 K fun x y => x - y) := by
  obtain ⟨f, fd, F, g⟩ := a.ex
  refine ⟨f, fd, ?_, g, F.kp, F.binds fun _ _ _ _ _ _ us hl => match us, hl with | [_, _], _ => rfl⟩
  refine F.ok scLMinus (fun vs H Q E h => ?_) (fun cdv A outer s H vs Q E hr h => ?_)
  · obtain ⟨a, b, x, y, rfl, _⟩ := h
    rfl
  · obtain ⟨a, b, x, y, rfl, ⟨pa, rfl, ha⟩, ⟨pb, rfl, hb⟩, fx, fy, q⟩ := h
    refine ⟨_, pss_one (ps_ret (pe_gd G hr (by rfl) (pa_cons
      (pe_op op_sub (pe_op op_mulX (pe_ix ix_tup (pv 0) pe_int (fun _ _ => rfl)) (pe_ix ix_tup (pv 1) pe_int (fun _ _ => rfl)))
        (pe_op op_mulX (pe_ix ix_tup (pv 1) pe_int (fun _ _ => rfl)) (pe_ix ix_tup (pv 0) pe_int (fun _ _ => rfl))))
      (pa_cons (pe_op op_mulX (pe_ix ix_tup (pv 0) pe_int (fun _ _ => rfl)) (pe_ix ix_tup (pv 1) pe_int (fun _ _ => rfl))) pa_nil)))), ?_⟩
    refine ⟨_, rfl, pa, _, 0, _, rfl, rfl, ha, at0, _, rfl, pb, _, 1, _, rfl, rfl, hb, at1, _, _, rfl, rfl, fit_mul fx.n fy.d, ?_⟩
    refine ⟨_, rfl, pb, _, 0, _, rfl, rfl, hb, at0, _, rfl, pa, _, 1, _, rfl, rfl, ha, at1, _, _, rfl, rfl, fit_mul fy.n fx.d, _, _, rfl, rfl, ?_⟩
    refine ⟨_, rfl, pa, _, 1, _, rfl, rfl, ha, at1, _, rfl, pb, _, 1, _, rfl, rfl, hb, at1, _, _, rfl, rfl, fit_mul fx.d fy.d, ?_⟩
    refine ⟨_, _, rfl, ?_, ?_⟩
    · exact Int.ne_of_gt (Int.mul_pos (FQ.den_pos' x) (FQ.den_pos' y))
    · rw [FQ.sub_eq]
      exact q
theorem gd_ltimes (a : At K mg "_law_times" sLTimes) (G : Gd P w K mg base "_law_part" k ["_law_top", "_law_below"] (spNumber K)) : Gd P w K mg base "_law_times" (k + 1) ["_law_one", "_law_other"] (spL2 K fun x y => x * y) := by
  obtain ⟨f, fd, F, g⟩ := a.ex
  refine ⟨f, fd, ?_, g, F.kp, F.binds fun _ _ _ _ _ _ us hl => match us, hl with | [_, _], _ => rfl⟩
  refine F.ok scLTimes (fun vs H Q E h => ?_) (fun cdv A outer s H vs Q E hr h => ?_)
  · obtain ⟨a, b, x, y, rfl, _⟩ := h
    rfl
  · obtain ⟨a, b, x, y, rfl, ⟨pa, rfl, ha⟩, ⟨pb, rfl, hb⟩, fx, fy, q⟩ := h
    refine ⟨_, pss_one (ps_ret (pe_gd G hr (by rfl) (pa_cons
      (pe_op op_mulX (pe_ix ix_tup (pv 0) pe_int (fun _ _ => rfl)) (pe_ix ix_tup (pv 1) pe_int (fun _ _ => rfl)))
      (pa_cons (pe_op op_mulX (pe_ix ix_tup (pv 0) pe_int (fun _ _ => rfl)) (pe_ix ix_tup (pv 1) pe_int (fun _ _ => rfl))) pa_nil)))), ?_⟩
    refine ⟨_, rfl, pa, _, 0, _, rfl, rfl, ha, at0, _, rfl, pb, _, 0, _, rfl, rfl, hb, at0, _, _, rfl, rfl, fit_mul fx.n fy.n, ?_⟩
    refine ⟨_, rfl, pa, _, 1, _, rfl, rfl, ha, at1, _, rfl, pb, _, 1, _, rfl, rfl, hb, at1, _, _, rfl, rfl, fit_mul fx.d fy.d, ?_⟩
    refine ⟨_, _, rfl, ?_, ?_⟩
    · exact Int.ne_of_gt (Int.mul_pos (FQ.den_pos' x) (FQ.den_pos' y))
    · rw [FQ.mul_eq]
      exact q
end
end L2.FW
end
section
set_option Elab.async false
set_option linter.all false
set_option maxRecDepth 100000
namespace L2.FW
open PySem PySem.Spec PyProof.Rows
open FQ (Fit BB BB_eq FitP Ser IsLen Lt rowB)
theorem k_tl {K : PySem.W.Frag} : PySem.W.kitOne K (.type "tuple") (.type "list") = some false := kit_ty (by decide +kernel)
theorem k_tt {K : PySem.W.Frag} : PySem.W.kitOne K (.type "tuple") (.type "tuple") = some true := kit_ty (by decide +kernel)
theorem k_il {K : PySem.W.Frag} : PySem.W.kitOne K (.type "int") (.type "list") = some false := kit_ty (by decide +kernel)
theorem k_it {K : PySem.W.Frag} : PySem.W.kitOne K (.type "int") (.type "tuple") = some false := kit_ty (by decide +kernel)
theorem k_is {K : PySem.W.Frag} : PySem.W.kitOne K (.type "int") (.type "str") = some false := kit_ty (by decide +kernel)
theorem k_ii {K : PySem.W.Frag} : PySem.W.kitOne K (.type "int") (.type "int") = some true := kit_ty (by decide +kernel)
theorem k_ib {K : PySem.W.Frag} : PySem.W.kitOne K (.type "int") (.type "bool") = some false := kit_ty (by decide +kernel)
section
variable {P : Program} {w : World} {K : PySem.W.Frag} {mg : Str → Option Value} {base : Heap} {k : Nat}
theorem gd_same0 (B : Bi mg) (a : At K mg "_law_same" sSame) : Gd P w K mg base "_law_same" (k + 1) ["_law_found", "_law_due"] (spSame K 0) := by
  obtain ⟨f, fd, F, g⟩ := a.ex
  refine ⟨f, fd, ?_, g, F.kp, F.binds fun _ _ _ _ _ _ us hl => match us, hl with | [_, _], _ => rfl⟩
  refine F.ok scSame (fun vs H Q E h => ?_) (fun cdv A outer s H vs Q E hr h => ?_)
  · obtain ⟨x, y, rfl, _⟩ := h
    rfl
  · obtain ⟨x, y, rfl, hd, q⟩ := h
    refine ⟨_, pss_cons (ps_if (pt_cmp (pc_isN (pv 1))) (pss_one (ps_ret (pe_cmp (pc_isN (pv 0))))) pss_nil)
      (pss_cons (ps_if (PW.pt (pw_or (pt_val (pe_callB call_isi (by rfl) B.isinstance b_isi (pa_cons (pv 1) (pa_cons (pe_bltn (v := .ty "list") (by rfl) B.list b_list rfl) pa_nil)))) (pw_or1 (pt_val (pe_callB call_isi (by rfl) B.isinstance b_isi (pa_cons (pv 1) (pa_cons (pe_bltn (v := .ty "tuple") (by rfl) B.tuple b_tuple rfl) pa_nil))))))) pss_never pss_nil)
      (pss_cons (ps_if (pt_val (pe_callB call_isi (by rfl) B.isinstance b_isi (pa_cons (pv 1) (pa_cons (pe_bltn (v := .ty "str") (by rfl) B.str b_str rfl) pa_nil)))) pss_never pss_nil)
      (pss_one (ps_ret (pe_and (pe_callB call_isi (by rfl) B.isinstance b_isi (pa_cons (pv 0) (pa_cons (pe_bltn (v := .ty "int") (by rfl) B.int b_int rfl) pa_nil)))
        (pe_and (pe_not (pe_callB call_isi (by rfl) B.isinstance b_isi (pa_cons (pv 0) (pa_cons (pe_bltn (v := .ty "bool") (by rfl) B.bool b_bool rfl) pa_nil)))) (pe_one (pe_cmpR op_eq (pv 0) (pv 1) (nomark _))))))))), ?_⟩
    cases hd with
    | non =>
      refine ⟨_, rfl, _, rfl, ?_⟩
      rw [decide_eq_true rfl]
      refine iteT ⟨_, rfl, ?_⟩
      exact (show Q (.bl (decide (V.non = V.non))) _ from by rw [decide_eq_true rfl]; exact q _ (Same.refl _))
    | int n i =>
      refine ⟨_, rfl, _, rfl, ?_⟩
      rw [decide_eq_false (fun z => nomatch z)]
      refine iteF ⟨_, rfl, _, _, _, _, _, rfl, .ty _, .base (.int i), k_il, _, rfl, iteF ⟨_, rfl, _, _, _, _, _, rfl, .ty _, .base (.int i), k_it, _, rfl, iteF ?_⟩⟩
      refine ⟨_, rfl, _, _, _, _, _, rfl, .ty _, .base (.int i), k_is, _, rfl, iteF ?_⟩
      refine ⟨_, rfl, _, _, _, _, _, rfl, .ty _, .base (.int i), k_ii, _, rfl, iteT ⟨_, rfl, _, _, _, _, _, rfl, .ty _, .base (.int i), k_ib, _, rfl, _, rfl, iteT ⟨_, rfl, _, rfl, rfl, ?_⟩⟩⟩
      rw [decide_eq_true rfl]
      exact q _ (Same.refl _)
theorem gd_sameS {n : Nat} (B : Bi mg) (a : At K mg "_law_same" sSame) (G : Gd P w K mg base "_law_same" k ["_law_found", "_law_due"] (spSame K n)) : Gd P w K mg base "_law_same" (k + 1) ["_law_found", "_law_due"] (spSame K (n + 1)) := by
  obtain ⟨f, fd, F, g⟩ := a.ex
  refine ⟨f, fd, ?_, g, F.kp, F.binds fun _ _ _ _ _ _ us hl => match us, hl with | [_, _], _ => rfl⟩
  refine F.ok scSame (fun vs H Q E h => ?_) (fun cdv A outer s H vs Q E hr h => ?_)
  · obtain ⟨x, y, rfl, _⟩ := h
    rfl
  · obtain ⟨x, y, rfl, hd, q⟩ := h
    refine ⟨_, pss_cons (ps_if (pt_cmp (pc_isN (pv 1))) (pss_one (ps_ret (pe_cmp (pc_isN (pv 0))))) pss_nil)
      (pss_cons (ps_if (PW.pt (pw_or (pt_val (pe_callB call_isi (by rfl) B.isinstance b_isi (pa_cons (pv 1) (pa_cons (pe_bltn (v := .ty "list") (by rfl) B.list b_list rfl) pa_nil)))) (pw_or1 (pt_val (pe_callB call_isi (by rfl) B.isinstance b_isi (pa_cons (pv 1) (pa_cons (pe_bltn (v := .ty "tuple") (by rfl) B.tuple b_tuple rfl) pa_nil)))))))
        (pss_cons (ps_if (pt_cmpR op_ne (pe_callB call_isi (by rfl) B.isinstance b_isi (pa_cons (pv 0) (pa_cons (pe_bltn (v := .ty "list") (by rfl) B.list b_list rfl) pa_nil))) (pe_callB call_isi (by rfl) B.isinstance b_isi (pa_cons (pv 1) (pa_cons (pe_bltn (v := .ty "list") (by rfl) B.list b_list rfl) pa_nil))) (nomark _)) pss_never pss_nil)
        (pss_cons (ps_if (PW.pt (pw_or (pt_cmpR op_ne (pe_callB call_isi (by rfl) B.isinstance b_isi (pa_cons (pv 0) (pa_cons (pe_bltn (v := .ty "tuple") (by rfl) B.tuple b_tuple rfl) pa_nil))) (pe_callB call_isi (by rfl) B.isinstance b_isi (pa_cons (pv 1) (pa_cons (pe_bltn (v := .ty "tuple") (by rfl) B.tuple b_tuple rfl) pa_nil))) (nomark _))
          (pw_or1 (pt_cmpR op_ne (pe_callB call_len_seq (by rfl) B.len b_len (pa_cons (pv 0) pa_nil)) (pe_callB call_len_seq (by rfl) B.len b_len (pa_cons (pv 1) pa_nil)) (nomark _))))) pss_never pss_nil)
        (pss_one (ps_ret (pe_callB (cr_all rfl) (by rfl) B.all b_all (pa_cons (pe_lc (own := [("_law_one", 2), ("_law_other", 3)]) (g := gTup K 2 (gCons (gName 2) (gCons (gName 3) gNil))) (tt := tYes)
          (te := tCall (spSame K n) [] E0 (tCons (tVar 2) (tCons (tVar 3) tNil)))
          rfl scSame.nd (RZ.pi_zipA (by rfl) B.zip (pa_cons (pv 0) (pa_cons (pv 1) pa_nil))) (blkOk_by (N := ["_law_found", "_law_due", "_law_one", "_law_other"]) (sc := defScope sSame) (by decide +kernel))
          (fun _ _ _ _ _ => pg_tup rfl (pgs_cons (pg_name (i := 2) scSame.nd rfl (.inl rfl)) (pgs_cons (pg_name (i := 3) scSame.nd rfl (.inl rfl)) pgs_nil))) (fun _ _ _ _ _ => pts_nil)
          (fun _ _ _ _ _ => pe_gd G hr (by rfl) (pa_cons (pv 2) (pa_cons (pv 3) pa_nil)))) pa_nil)))))) pss_nil)
      (pss_cons (ps_if (pt_val (pe_callB call_isi (by rfl) B.isinstance b_isi (pa_cons (pv 1) (pa_cons (pe_bltn (v := .ty "str") (by rfl) B.str b_str rfl) pa_nil)))) pss_never pss_nil)
      (pss_one (ps_ret (pe_and (pe_callB call_isi (by rfl) B.isinstance b_isi (pa_cons (pv 0) (pa_cons (pe_bltn (v := .ty "int") (by rfl) B.int b_int rfl) pa_nil)))
        (pe_and (pe_not (pe_callB call_isi (by rfl) B.isinstance b_isi (pa_cons (pv 0) (pa_cons (pe_bltn (v := .ty "bool") (by rfl) B.bool b_bool rfl) pa_nil)))) (pe_one (pe_cmpR op_eq (pv 0) (pv 1) (nomark _))))))))), ?_⟩
    cases hd with
    | non =>
      refine ⟨_, rfl, _, rfl, ?_⟩
      rw [decide_eq_true rfl]
      refine iteT ⟨_, rfl, ?_⟩
      exact (show Q (.bl (decide (V.non = V.non))) _ from by rw [decide_eq_true rfl]; exact q _ (Same.refl _))
    | int n i =>
      refine ⟨_, rfl, _, rfl, ?_⟩
      rw [decide_eq_false (fun z => nomatch z)]
      refine iteF ⟨_, rfl, _, _, _, _, _, rfl, .ty _, .base (.int i), k_il, _, rfl, iteF ⟨_, rfl, _, _, _, _, _, rfl, .ty _, .base (.int i), k_it, _, rfl, iteF ?_⟩⟩
      refine ⟨_, rfl, _, _, _, _, _, rfl, .ty _, .base (.int i), k_is, _, rfl, iteF ?_⟩
      refine ⟨_, rfl, _, _, _, _, _, rfl, .ty _, .base (.int i), k_ii, _, rfl, iteT ⟨_, rfl, _, _, _, _, _, rfl, .ty _, .base (.int i), k_ib, _, rfl, _, rfl, iteT ⟨_, rfl, _, rfl, rfl, ?_⟩⟩⟩
      rw [decide_eq_true rfl]
      exact q _ (Same.refl _)
    | tup n a b xs ys ha hb hl hz9 hd =>
      refine ⟨_, rfl, _, rfl, ?_⟩
      rw [decide_eq_false (fun z => nomatch z)]
      refine iteF ⟨_, rfl, _, _, _, _, _, rfl, .ty _, tyx_tup hb, k_tl, _, rfl, iteF ⟨_, rfl, _, _, _, _, _, rfl, .ty _, tyx_tup hb, k_tt, _, rfl, iteT ?_⟩⟩
      refine ⟨_, rfl, _, _, _, _, _, rfl, .ty _, tyx_tup ha, k_tl, _, rfl, _, _, _, _, _, rfl, .ty _, tyx_tup hb, k_tl, rfl, _, rfl, iteF ?_⟩
      refine ⟨_, rfl, _, _, _, _, _, rfl, .ty _, tyx_tup ha, k_tt, _, rfl, _, _, _, _, _, rfl, .ty _, tyx_tup hb, k_tt, rfl, _, rfl, iteF ?_⟩
      refine ⟨_, rfl, a, xs, rfl, .inr ha, _, rfl, b, ys, rfl, .inr hb, ?_⟩
      rw [hl]
      refine ⟨rfl, _, rfl, ?_⟩
      rw [decide_eq_true rfl]
      refine iteF ⟨_, rfl, _, rfl, a, b, xs, ys, rfl, .inr ⟨ha, hb, fun D hD => ?_⟩⟩
      refine lc_zipT (K := K) rfl hl.symm (fun i H'' => Same H H'' ∧ ∃ zs, H'' D = some (.lst zs) ∧ zs = List.replicate i (V.bl true)) ⟨same_upd hD, [], upd_same, rfl⟩ (fun i H'' _ hP => ⟨hP.1.seqT ha, hP.1.seqT hb⟩) ?_ ?_
      · rintro i x y H2 T ex ey ⟨s2, zs, hz, ez⟩ hT
        have sT := same_upd (o := .tup [x, y]) hT
        refine g_pair (.inl (.inl upd_same)) ⟨rfl, lc_yes ?_⟩
        have h2 : SameD K (upd H2 T (.tup [x, y])) n x y := (hd i x y ex ey).ext (s2.trans sT).text
        refine ⟨_, rfl, _, rfl, x, y, rfl, h2, fun H3 s3 => ?_⟩
        have s23 := s2.trans (sT.trans s3)
        refine ⟨zs, s3 _ _ (sT _ _ hz), ?_, s23.updN hD, _, upd_same, by rw [ez, List.replicate_succ']⟩
        have hi : i < xs.length := (List.getElem?_eq_some_iff.mp ex).1
        rw [ez, List.length_replicate]
        exact small1000 (by omega)
      · rintro H2 ⟨s2, zs, hz, ez⟩
        refine ⟨D, List.replicate xs.length true, rfl, SqL.of (by rw [hz, ez, List.map_replicate]), ?_⟩
        rw [show (List.replicate xs.length true).all id = true by simp]
        exact q _ s2
theorem gd_same (B : Bi mg) (a : At K mg "_law_same" sSame) : ∀ n, Gd P w K mg base "_law_same" (k + n + 1) ["_law_found", "_law_due"] (spSame K n)
  | 0 => gd_same0 B a
  | n + 1 => gd_sameS B a (gd_same B a n)
end
end L2.FW
end
section
set_option Elab.async false
set_option linter.all false
set_option maxRecDepth 100000
namespace L2.FW
open PySem PySem.Spec PyProof.Rows
open FQ (Fit BB BB_eq FitP Ser IsLen Lt rowB)
/-! ### drawn numbers -/
abbrev sNumR : Stmt := topS 74
abbrev sSmall : Stmt := topS 75
abbrev sLTrim : Stmt := topS 76
abbrev sSeries : Stmt := topS 77
theorem scNumR : FnScope ["_law_state", "_law_way", "_law_top"] ["_law_state"] (defScope sNumR) := ⟨rfl, rfl, rfl, by decide +kernel, rfl, by decide +kernel, by decide +kernel⟩
theorem scSmall : FnScope ["_law_state"] ["_law_state"] (defScope sSmall) := ⟨rfl, rfl, rfl, by decide +kernel, rfl, by decide +kernel, by decide +kernel⟩
theorem scLTrim : FnScope ["_law_numbers", "_law_found"] ["_law_numbers"] (defScope sLTrim) := ⟨rfl, rfl, rfl, by decide +kernel, rfl, by decide +kernel, by decide +kernel⟩
theorem scSeries : FnScope ["_law_top", "_law_below", "_law_many", "_law_found", "_law_i", "_law_figure", "_law_j"] ["_law_top", "_law_below", "_law_many"] (defScope sSeries) := ⟨rfl, rfl, rfl, by decide +kernel, rfl, by decide +kernel, by decide +kernel⟩
structure NumOK (x : Rat) (A D : Nat) : Prop where
  n : x.num.natAbs ≤ A
  d : x.den ≤ D
theorem NumOK.mono {x : Rat} {A D A' D' : Nat} (h : NumOK x A D) (h1 : A ≤ A') (h2 : D ≤ D') : NumOK x A' D' := ⟨Nat.le_trans h.n h1, Nat.le_trans h.d h2⟩
theorem numOK_int (z : Int) {A : Nat} (h : z.natAbs ≤ A) : NumOK (z : Rat) A 1 := ⟨by rw [Rat.num_intCast]; exact h, by rw [Rat.den_intCast]; exact Nat.le_refl _⟩
theorem numOK_div {t b : Int} {A D : Nat} (hb : 0 < b) (ht : t.natAbs ≤ A) (hd : b ≤ (D : Int)) : NumOK (Rat.divInt t b) A D := by
  have g0 : (0 : Int) < (Int.gcd t b : Nat) := by
    have := Int.gcd_pos_of_ne_zero_right t (show b ≠ 0 by omega)
    omega
  refine ⟨?_, ?_⟩
  · rw [FQ.divInt_num t b hb]
    exact Nat.le_trans (Int.natAbs_ediv_le_natAbs _ _) ht
  · have e := FQ.divInt_den t b hb
    have h2 : b / (Int.gcd t b : Nat) ≤ b := Int.ediv_le_self _ (by omega)
    omega
theorem num_int {K : PySem.W.Frag} {H : Hp} {p : Addr} {z : Int} (h : SqT K H p [.int z, .int 1]) : NumAt K H (.ref p) (z : Rat) := ⟨p, rfl, by rw [Rat.num_intCast, Rat.den_intCast]; exact h⟩
def spNumR (K : PySem.W.Frag) : Sp := fun vs H Q _ => ∃ d c b, vs = [.ref d] ∧ StAt H d c (b + 5) ∧ ∀ H' v x, Keep [d, c] H H' → StAt H' d c b → NumAt K H' v x → NumOK x 1000000000 1000000 → Q v H'
def spSmall (K : PySem.W.Frag) : Sp := fun vs H Q _ => ∃ d c b, vs = [.ref d] ∧ StAt H d c (b + 2) ∧ ∀ H' v x, Keep [d, c] H H' → StAt H' d c b → NumAt K H' v x → NumOK x 3 2 → x ≠ 0 → Q v H'
def spLTrim (K : PySem.W.Frag) : Sp := fun vs H Q _ => ∃ nv n f, vs = [nv] ∧ SeqAt K H nv n f.co ∧ n ≤ 1000 ∧ Lt f n ∧ ∀ H' v, Same H H' → PolyAt K H' v f → Q v H'
/-- the sum of one place of a row by the law, m terms in -/
def lsum (f g : Ser) (r : Nat → Rat) (i m : Nat) : Rat := f i - FQ.sumTo m fun j => g (j + 1) * r (i - 1 - j)
structure LserOK (f g : Ser) (nb many : Nat) (r : Nat → Rat) : Prop where
  lb : IsLen g (nb + 1)
  n : many ≤ 400
  fr : ∀ i, i < many → Fit (r i)
  fg : FitP g
  pr : ∀ i j, i < many → Fit (g j * r i)
  ps : ∀ i m, i < many → m ≤ min i nb → Fit (lsum f g r i m)
  eq : ∀ i, i < many → r i = lsum f g r i (min i nb)
def spSeries (K : PySem.W.Frag) : Sp := fun vs H Q _ => ∃ tv bv f g nb many r, vs = [tv, bv, .int ((many : Nat) : Int)] ∧ PolyAt K H tv f ∧ PolyAt K H bv g ∧ LserOK f g nb many r ∧
  ∀ H' p vs, Same H H' → H p = none → H' p = some (.lst vs) → Items K H' vs many r → Q (.ref p) H'
theorem tif_join {c : Bool} {ta tb : TE} {σ : St} {H : Hp} {Kq : VK} (Pv : V → Hp → Prop) (key : ∀ v H1, Pv v H1 → Kq v H1) (ha : c = true → (∀ v H1, Pv v H1 → Kq v H1) → ta σ H Kq) (hb : c = false → (∀ v H1, Pv v H1 → Kq v H1) → tb σ H Kq) :
    if c = true then ta σ H Kq else tb σ H Kq := by
  cases c with
  | true => exact iteT (ha rfl key)
  | false => exact iteF (hb rfl key)
section
variable {P : Program} {w : World} {K : PySem.W.Frag} {mg : Str → Option Value} {base : Heap} {k : Nat}
theorem gd_numR (a : At K mg "_law_number" sNumR) (GT : Gd P w K mg base "_law_take" k ["_law_state", "_law_many"] (spTake K)) (GP : Gd P w K mg base "_law_part" k ["_law_top", "_law_below"] (spNumber K)) : Gd P w K mg base "_law_number" (k + 1) ["_law_state"] (spNumR K) := by
  obtain ⟨f, fd, F, g⟩ := a.ex
  refine ⟨f, fd, ?_, g, F.kp, F.binds fun _ _ _ _ _ _ us hl => match us, hl with | [_], _ => rfl⟩
  refine F.ok scNumR (fun vs H Q E h => ?_) (fun cdv A outer s H vs Q E hr h => ?_)
  · obtain ⟨d, c, b, rfl, _⟩ := h
    rfl
  · obtain ⟨d, c, b, rfl, hS, q⟩ := h
    refine ⟨_, pss_cons (ps_set (i := 1) scNumR.nd rfl (.inl rfl) (pe_gd GT hr (by rfl) (pa_cons (pv 0) (pa_cons pe_int pa_nil))))
      (pss_cons (ps_if (pt_cmpR op_lt (pv 1) pe_int (nomark _)) (pss_one (ps_ret (pe_tup (pa_cons (pe_op op_sub (pe_gd GT hr (by rfl) (pa_cons (pv 0) (pa_cons pe_int pa_nil))) pe_int) (pa_cons pe_int pa_nil))))) pss_nil)
      (pss_cons (ps_if (pt_cmpR op_lt (pv 1) pe_int (nomark _)) (pss_one (ps_ret (pe_gd GP hr (by rfl) (pa_cons (pe_op op_sub (pe_gd GT hr (by rfl) (pa_cons (pv 0) (pa_cons pe_int pa_nil))) pe_int) (pa_cons (pe_op op_add pe_int (pe_gd GT hr (by rfl) (pa_cons (pv 0) (pa_cons pe_int pa_nil)))) pa_nil))))) pss_nil)
      (pss_cons (ps_set (i := 2) scNumR.nd rfl (.inl rfl) (pe_op op_add (pe_op op_mul (pe_gd GT hr (by rfl) (pa_cons (pv 0) (pa_cons pe_int pa_nil))) (pe_op op_pow pe_int pe_int)) (pe_gd GT hr (by rfl) (pa_cons (pv 0) (pa_cons (pe_op op_pow pe_int pe_int) pa_nil)))))
      (pss_one (ps_ret (pe_gd GP hr (by rfl) (pa_cons (pe_op op_mul (pv 2) (pe_op op_sub pe_int (pe_op op_mul pe_int (pe_gd GT hr (by rfl) (pa_cons (pv 0) (pa_cons pe_int pa_nil)))))) (pa_cons (pe_op op_add pe_int (pe_gd GT hr (by rfl) (pa_cons (pv 0) (pa_cons pe_int pa_nil)))) pa_nil)))))))), ?_⟩
    refine ⟨_, rfl, d, c, b + 4, 16, rfl, hS, by decide, fun H1 r k1 S1 r0 r1 => ?_⟩
    refine ⟨_, rfl, _, _, rfl, rfl, _, rfl, ite2 (fun _ => ?_) (fun _ => ?_)⟩
    · refine ⟨_, rfl, d, c, b + 3, 9, rfl, S1, by decide, fun H2 r k2 S2 r0 r1 => ?_⟩
      refine ⟨_, _, rfl, rfl, (by show 2 ≤ sizeLine; decide), fun p hp => ?_⟩
      have s3 := same_upd (o := .tup [.int (r - 4), .int 1]) hp
      refine q _ _ ((r - 4 : Int) : Rat) (k1.trans (k2.trans (Keep.of s3))) ((S2.same s3).mono (by omega)) (num_int (.inl (.inl upd_same))) ((numOK_int (A := 4) _ (by omega)).mono (by decide) (by decide))
    refine ⟨_, rfl, _, _, rfl, rfl, _, rfl, ite2 (fun _ => ?_) (fun _ => ?_)⟩
    · refine ⟨_, rfl, d, c, b + 3, 25, rfl, S1, by decide, fun H2 r k2 S2 r0 r1 => ?_⟩
      refine ⟨_, _, rfl, rfl, _, rfl, d, c, b + 2, 4, rfl, S2, by decide, fun H3 u k3 S3 u0 u1 => ?_⟩
      refine ⟨_, _, rfl, rfl, r - 12, 2 + u, rfl, by omega, fun H4 v s4 hv => ?_⟩
      refine q _ _ _ (k1.trans (k2.trans (k3.trans (Keep.of s4)))) ((S3.same s4).mono (by omega)) hv ((numOK_div (A := 12) (D := 5) (by omega) (by omega) (by omega)).mono (by decide) (by decide))
    · refine ⟨_, rfl, d, c, b + 3, 1000, rfl, S1, by decide, fun H2 r k2 S2 r0 r1 => ?_⟩
      refine ⟨_, _, rfl, rfl, ⟨by decide, by decide, by decide⟩, _, _, rfl, rfl, .inr (by decide), _, rfl, _, _, rfl, rfl, ⟨by decide, by decide, by decide⟩, d, c, b + 2, 1000000, rfl, S2, by decide, fun H3 u k3 S3 u0 u1 => ?_⟩
      refine ⟨_, _, rfl, rfl, _, rfl, _, rfl, d, c, b + 1, 2, rfl, S3, by decide, fun H4 z k4 S4 z0 z1 => ?_⟩
      refine ⟨_, _, rfl, rfl, .inl (by decide), _, _, rfl, rfl, _, _, rfl, rfl, ?_, _, rfl, d, c, b, 999999, rfl, S4, by decide, fun H5 y k5 S5 y0 y1 => ?_⟩
      · refine .inr ?_
        show -(2 ^ 64) < 1 - 2 * z ∧ 1 - 2 * z < 2 ^ 64
        omega
      refine ⟨_, _, rfl, rfl, _, _, rfl, ?_, fun H6 v s6 hv => ?_⟩
      · show 1 + y ≠ 0
        omega
      refine q _ _ _ (k1.trans (k2.trans (k3.trans (k4.trans (k5.trans (Keep.of s6)))))) (S5.same s6) hv (numOK_div (A := 1000000000) (D := 1000000) ?_ ?_ ?_)
      · show 0 < 1 + y
        omega
      · have ez : z = 0 ∨ z = 1 := by omega
        show ((r * 10 ^ (6 : Int).toNat + u) * (1 - 2 * z)).natAbs ≤ 1000000000
        have e6 : (10 : Int) ^ (6 : Int).toNat = 1000000 := by decide
        rw [e6]
        rcases ez with e | e
        · subst e
          omega
        · subst e
          omega
      · show 1 + y ≤ ((1000000 : Nat) : Int)
        omega
theorem gd_small (a : At K mg "_law_small" sSmall) (GT : Gd P w K mg base "_law_take" k ["_law_state", "_law_many"] (spTake K)) (GP : Gd P w K mg base "_law_part" k ["_law_top", "_law_below"] (spNumber K)) : Gd P w K mg base "_law_small" (k + 1) ["_law_state"] (spSmall K) := by
  obtain ⟨f, fd, F, g⟩ := a.ex
  refine ⟨f, fd, ?_, g, F.kp, F.binds fun _ _ _ _ _ _ us hl => match us, hl with | [_], _ => rfl⟩
  refine F.ok scSmall (fun vs H Q E h => ?_) (fun cdv A outer s H vs Q E hr h => ?_)
  · obtain ⟨d, c, b, rfl, _⟩ := h
    rfl
  · obtain ⟨d, c, b, rfl, hS, q⟩ := h
    refine ⟨_, pss_one (ps_ret (pe_gd GP hr (by rfl) (pa_cons (pe_ix ix_list (pe_lst (pa_cons pe_int (pa_cons (pe_un un_neg pe_int) (pa_cons pe_int (pa_cons (pe_un un_neg pe_int) (pa_cons pe_int (pa_cons (pe_un un_neg pe_int) (pa_cons pe_int (pa_cons (pe_un un_neg pe_int) pa_nil)))))))))
        (pe_gd GT hr (by rfl) (pa_cons (pv 0) (pa_cons pe_int pa_nil))) (fun _ _ => rfl))
      (pa_cons (pe_op op_add pe_int (pe_op op_fdiv (pe_gd GT hr (by rfl) (pa_cons (pv 0) (pa_cons pe_int pa_nil))) pe_int)) pa_nil)))), ?_⟩
    refine ⟨1, rfl, 2, rfl, 3, rfl, 1, rfl, (by show 8 ≤ sizeLine; decide), fun l hl => ?_⟩
    have s0 := same_upd (o := .lst [V.int 1, .int (-1), .int 2, .int (-2), .int 3, .int (-3), .int 1, .int (-1)]) hl
    refine ⟨_, rfl, d, c, b + 1, 8, rfl, hS.same s0, by decide, fun H1 r k1 S1 r0 r1 => ?_⟩
    have hl1 : H1 l = some (.lst [V.int 1, .int (-1), .int 2, .int (-2), .int 3, .int (-3), .int 1, .int (-1)]) := by
      refine k1 _ _ upd_same ?_
      obtain ⟨xs, t, h1, h2, _⟩ := hS.ex
      intro z
      have z' : l = d ∨ l = c := by simpa using z
      rcases z' with z | z
      · rw [z, h1] at hl; cases hl
      · rw [z, h2] at hl; cases hl
    have er : ∃ x : Int, [V.int 1, .int (-1), .int 2, .int (-2), .int 3, .int (-3), .int 1, .int (-1)][r.toNat]? = some (.int x) ∧ x ≠ 0 ∧ x.natAbs ≤ 3 := by
      have : r = 0 ∨ r = 1 ∨ r = 2 ∨ r = 3 ∨ r = 4 ∨ r = 5 ∨ r = 6 ∨ r = 7 := by omega
      rcases this with e | e | e | e | e | e | e | e <;> subst e
      · exact ⟨1, rfl, by decide, by decide⟩
      · exact ⟨-1, rfl, by decide, by decide⟩
      · exact ⟨2, rfl, by decide, by decide⟩
      · exact ⟨-2, rfl, by decide, by decide⟩
      · exact ⟨3, rfl, by decide, by decide⟩
      · exact ⟨-3, rfl, by decide, by decide⟩
      · exact ⟨1, rfl, by decide, by decide⟩
      · exact ⟨-1, rfl, by decide, by decide⟩
    obtain ⟨x, ex, x0, x3⟩ := er
    have etn : r = ((r.toNat : Nat) : Int) := by omega
    refine ⟨l, _, r, .int x, rfl, rfl, SqL.of hl1, atN etn ex, ?_⟩
    refine ⟨_, rfl, d, c, b, 8, rfl, S1, by decide, fun H2 u k2 S2 u0 u1 => ?_⟩
    refine ⟨_, _, rfl, rfl, ⟨by decide, by decide⟩, _, _, rfl, rfl, x, _, rfl, ?_, fun H3 v s3 hv => ?_⟩
    · show 1 + u / 6 ≠ 0
      omega
    refine q _ _ _ ((Keep.of s0).trans (k1.trans (k2.trans (Keep.of s3)))) (S2.same s3) hv (numOK_div ?_ x3 ?_) ?_
    · show 0 < 1 + u / 6
      omega
    · show 1 + u / 6 ≤ ((2 : Nat) : Int)
      omega
    · intro z
      have e := FQ.divInt_num x (1 + u / 6) (by omega)
      rw [z] at e
      have g0 : (0 : Int) < (Int.gcd x (1 + u / 6) : Nat) := by
        have := Int.gcd_pos_of_ne_zero_left (1 + u / 6) x0
        omega
      have gd : ((Int.gcd x (1 + u / 6) : Nat) : Int) ∣ x := Int.gcd_dvd_left ..
      have e2 : x / (Int.gcd x (1 + u / 6) : Nat) = 0 := by rw [← e]; rfl
      have := Int.ediv_mul_cancel gd
      rw [e2] at this
      omega
theorem gd_ltrim (B : Bi mg) (a : At K mg "_law_trimmed" sLTrim) : Gd P w K mg base "_law_trimmed" (k + 1) ["_law_numbers"] (spLTrim K) := by
  obtain ⟨f, fd, F, g⟩ := a.ex
  refine ⟨f, fd, ?_, g, F.kp, F.binds fun _ _ _ _ _ _ us hl => match us, hl with | [_], _ => rfl⟩
  refine F.ok scLTrim (fun vs H Q E h => ?_) (fun cdv A outer s H vs Q E hr h => ?_)
  · obtain ⟨nv, n, f, rfl, _⟩ := h
    rfl
  · obtain ⟨nv, n, f, rfl, hN, hn, hl, q⟩ := h
    obtain ⟨p, us, rfl, hp, Ip⟩ := hN.get
    refine ⟨_, pss_cons (ps_set (i := 1) scLTrim.nd rfl (.inl rfl) (pe_callTy call_list_of (by rfl) B.list b_list (pa_cons (pv 0) pa_nil)))
      (pss_cons (ps_while PassesOwn.never (PW.pt (pw_and (pt_cmpR (op_neD hr.units) (pv 1) (pe_lst pa_nil) (nomark _)) (pw_and1 (pt_cmpR op_eq (pe_ix ix_tup (pe_ix ix_list (pv 1) (pe_un un_neg pe_int) (fun _ _ => rfl)) pe_int (fun _ _ => rfl)) pe_int (nomark _)))))
        (pss_one (ps_expr (pe_bm0 PySem.F.plainAttrs_list PySem.F.slot_list_pop PySem.F.type_list_pop mt_pop (pv 1)))))
      (pss_one (ps_ret (pe_callTy call_tuple_of (by rfl) B.tuple b_tuple (pa_cons (pv 1) pa_nil))))), ?_⟩
    refine ⟨_, rfl, p, us, rfl, hp, fun l hl0 => ?_⟩
    have sl := same_upd (o := .lst us) hl0
    refine ⟨fun m σ H' => σ = [some (.ref p), some (.ref l)] ∧ Same H H' ∧ H' l = some (.lst (us.take m)) ∧ m ≤ n ∧ Lt f m, ⟨n, rfl, sl, by rw [upd_same, ← Ip.len, List.take_length], Nat.le_refl _, hl⟩, ?_⟩
    rintro m σ H' ⟨rfl, sm, hL, hm, lm⟩
    have Im : Items K H' (us.take m) m f.co := (Ip.ext sm.text).take m hm
    refine ⟨_, rfl, Nat.zero_le _, fun l2 hl2 => ?_⟩
    have s2 := same_upd (o := .lst []) hl2
    have hL2 := s2 _ _ hL
    obtain ⟨ds, hds, hdl, _, hsh⟩ := items_shaped (Im.ext s2.text)
    refine ⟨.list ds, .list [], .lst (SqL.of hL2) hds, .lst (SqL.of upd_same) .nil, hsh, rfl, _, rfl, ?_⟩
    cases m with
    | zero =>
      have : ds = [] := List.eq_nil_of_length_eq_zero hdl
      subst this
      refine iteF (iteF ⟨_, rfl, l, us.take 0, rfl, .inl ⟨SqL.of hL2, fun t ht => ?_⟩⟩)
      exact q _ _ (sm.trans (s2.trans (same_upd ht))) ⟨0, ⟨t, _, rfl, .inl (.inl upd_same), (Im.ext s2.text).ext (same_upd ht).text⟩, ⟨lm, .inl rfl⟩⟩
    | succ m =>
      have hne : (!PyData.eqv (.list ds) (.list [])) = true := by
        cases ds with
        | nil => simp at hdl
        | cons d ds => rfl
      rw [hne]
      refine iteT ?_
      obtain ⟨v, ev, hv⟩ := (Im.ext s2.text).at_ m (by omega)
      obtain ⟨pv', rfl, hpv⟩ := id hv
      refine ⟨_, rfl, 1, rfl, l, us.take (m + 1), _, _, rfl, rfl, SqL.of hL2, at_neg (j := 0) rfl (by rw [Im.len]; omega) (by rw [Im.len]; exact ev), pv', _, 0, _, rfl, rfl, hpv, at0, rfl, _, rfl, ?_⟩
      by_cases hz : f.co m = 0
      · have en : (f.co m).num = 0 := by rw [hz]; rfl
        rw [en, decide_eq_true rfl]
        refine iteT ⟨fun σ' H'' => σ' = [some (.ref p), some (.ref l)] ∧ Same H H'' ∧ H'' l = some (.lst (us.take m)) ∧ m ≤ n ∧ Lt f m, fun σ' H'' h => ⟨m, Nat.lt_succ_self _, h⟩, ?_⟩
        have ed : (us.take (m + 1)).dropLast = us.take m := by
          rw [List.dropLast_eq_take, List.take_take, Im.len]
          congr 1
          omega
        refine ⟨.ref l, rfl, .inl ⟨rfl, _, SqL.of hL2⟩, l, us.take (m + 1), .ref pv', rfl, rfl, hL2, by rw [Im.len]; exact ev, ?_⟩
        rw [ed]
        refine ⟨rfl, (sm.trans s2).updN hl0, upd_same, by omega, fun i hi => ?_⟩
        by_cases e : i = m
        · rw [e]; exact hz
        · exact lm i (by omega)
      · have en : (f.co m).num ≠ 0 := fun z => hz (Rat.num_eq_zero.mp z)
        rw [decide_eq_false (fun z => en (V.int.inj z))]
        refine iteF ⟨_, rfl, l, us.take (m + 1), rfl, .inl ⟨SqL.of hL2, fun t ht => ?_⟩⟩
        exact q _ _ (sm.trans (s2.trans (same_upd ht))) ⟨m + 1, ⟨t, _, rfl, .inl (.inl upd_same), (Im.ext s2.text).ext (same_upd ht).text⟩, ⟨lm, .inr hz⟩⟩
theorem gd_series (B : Bi mg) (a : At K mg "_law_series" sSeries) (GM : Gd P w K mg base "_law_minus" k ["_law_one", "_law_other"] (spL2 K fun x y => x - y)) (GT : Gd P w K mg base "_law_times" k ["_law_one", "_law_other"] (spL2 K fun x y => x * y)) :
    Gd P w K mg base "_law_series" (k + 1) ["_law_top", "_law_below", "_law_many"] (spSeries K) := by
  obtain ⟨f, fd, F, g⟩ := a.ex
  refine ⟨f, fd, ?_, g, F.kp, F.binds fun _ _ _ _ _ _ us hl => match us, hl with | [_, _, _], _ => rfl⟩
  refine F.ok scSeries (fun vs H Q E h => ?_) (fun cdv A outer s H vs Q E hr h => ?_)
  · obtain ⟨tv, bv, f, g, nb, many, r, rfl, _⟩ := h
    rfl
  · obtain ⟨tv, bv, f, g, nb, many, r, rfl, hf, hg, ok, q⟩ := h
    obtain ⟨nf, ⟨p, us, rfl, hp, Ip⟩, If⟩ := id hf
    obtain ⟨ng', ⟨p2, ws, rfl, hp2, Ig⟩, Lg⟩ := id hg
    obtain rfl := Lg.unique ok.lb
    have n4 := ok.n
    refine ⟨_, pss_cons (ps_set (i := 3) scSeries.nd rfl (.inl rfl) (pe_lst pa_nil))
      (pss_cons (ps_for PassesOwn.never rfl (pi_range1 (by rfl) B.range (pa_cons (pv 2) pa_nil)) (pg_name (i := 4) scSeries.nd rfl (.inl rfl))
        (pss_cons (ps_set (i := 5) scSeries.nd rfl (.inl rfl) (pe_ifExp (pt_cmpR op_lt (pv 4) (pe_callB call_len_seq (by rfl) B.len b_len (pa_cons (pv 0) pa_nil)) (nomark _)) (pe_ix ix_tup (pv 0) (pv 4) (fun _ _ => rfl)) (pe_tup (pa_cons pe_int (pa_cons pe_int pa_nil)))))
        (pss_cons (ps_for PassesOwn.never rfl (pi_range2 (by rfl) B.range (pa_cons pe_int (pa_cons (pe_callB (call_min2 rfl) (by rfl) B.min b_min (pa_cons (pe_op op_add (pv 4) pe_int) (pa_cons (pe_callB call_len_seq (by rfl) B.len b_len (pa_cons (pv 1) pa_nil)) pa_nil))) pa_nil))) (pg_name (i := 6) scSeries.nd rfl (.inl rfl))
          (pss_one (ps_set (i := 5) scSeries.nd rfl (.inl rfl) (pe_gd GM hr (by rfl) (pa_cons (pv 5) (pa_cons (pe_gd GT hr (by rfl) (pa_cons (pe_ix ix_tup (pv 1) (pv 6) (fun _ _ => rfl)) (pa_cons (pe_ix ix_list (pv 3) (pe_op op_sub (pv 4) (pv 6)) (fun _ _ => rfl)) pa_nil))) pa_nil))))))
        (pss_one (ps_expr (pe_bm PySem.F.plainAttrs_list PySem.F.slot_list_append PySem.F.type_list_append mt_append (pv 3) (pa_cons (pv 5) pa_nil)))))))
      (pss_one (ps_ret (pv 3)))), ?_⟩
    refine ⟨Nat.zero_le _, fun l hl => ?_⟩
    have sl := same_upd (o := .lst []) hl
    refine ⟨_, rfl, _, rfl, (by omega), (by omega), ?_⟩
    rw [Int.toNat_natCast]
    refine for_rng0 (fun i σ H' => ∃ y4 y5 y6 vs, σ = [some (.ref p), some (.ref p2), some (.int ((many : Nat) : Int)), some (.ref l), y4, y5, y6] ∧ Same H H' ∧ H' l = some (.lst vs) ∧ Items K H' vs i r)
      ⟨none, none, none, [], rfl, sl, upd_same, .nil⟩ ?_ ?_
    · rintro i σ H' hi ⟨y4, y5, y6, vs, rfl, sm, hL, hI⟩
      refine ⟨_, rfl, _, rfl, p, us, rfl, .inr (sm.seqT hp), _, _, rfl, rfl, _, rfl, ?_⟩
      rw [Ip.len]
      refine tif_join (fun v H1 => Same H' H1 ∧ NumAt K H1 v (f i)) (fun fig H1 ⟨s1, hfig⟩ => ?_) (fun c key => ?_) (fun c key => ?_)
      · refine ⟨_, rfl, _, _, rfl, rfl, _, rfl, p2, ws, rfl, .inr (s1.seqT (sm.seqT hp2)), _, _, rfl, ?_⟩
        rw [Ig.len]
        have emin : (if ((nb + 1 : Nat) : Int) < ((i : Int) + 1) then ((nb + 1 : Nat) : Int) else ((i : Int) + 1)) = ((min i nb + 1 : Nat) : Int) := by split <;> omega
        refine ⟨1, _, rfl, ?_, ?_⟩
        · rw [emin]
          omega
        rw [emin, show (((min i nb + 1 : Nat) : Int) - 1).toNat = min i nb by omega]
        have hL1 := s1 _ _ hL
        refine for_range (fun j σ H'' => ∃ t y6, σ = [some (.ref p), some (.ref p2), some (.int ((many : Nat) : Int)), some (.ref l), some (.int ((i : Nat) : Int)), some t, y6] ∧ Same H1 H'' ∧ NumAt K H'' t (lsum f g r i j)) ⟨fig, y6, rfl, Same.refl _, ?_⟩ ?_ ?_
        · have e0 : lsum f g r i 0 = f i := by
            unfold lsum
            rw [FQ.sumTo]
            grind
          rw [e0]
          exact hfig
        · rintro j σ H2 hj ⟨t, y6', rfl, sm2, ht⟩
          have ei : (1 : Int) + (j : Int) = ((j + 1 : Nat) : Int) := by omega
          obtain ⟨b, eb, hb⟩ := (Ig.ext (sm.trans (s1.trans sm2)).text).at_ (j + 1) (by omega)
          obtain ⟨z, ez, hz⟩ := (hI.ext (s1.trans sm2).text).at_ (i - 1 - j) (by omega)
          refine ⟨_, rfl, _, rfl, _, rfl, p2, ws, _, b, rfl, rfl, (sm.trans (s1.trans sm2)).seqT hp2, atN ei eb, ?_⟩
          refine ⟨_, rfl, _, rfl, _, rfl, _, _, rfl, rfl, l, vs, _, z, rfl, rfl, SqL.of (sm2 _ _ hL1), atN (j := i - 1 - j) (by omega) ez, ?_⟩
          refine ⟨b, z, _, _, rfl, hb, hz, ok.fg _, ok.fr _ (by omega), fun H3 v3 s3 h3 => ?_⟩
          refine ⟨t, v3, _, _, rfl, ht.mono s3, h3, ok.ps i j hi (by omega), ok.pr _ _ (by omega), fun H4 v4 s4 h4 => ?_⟩
          refine ⟨v4, _, rfl, sm2.trans (s3.trans s4), ?_⟩
          have es : lsum f g r i (j + 1) = lsum f g r i j - g (j + 1) * r (i - 1 - j) := by
            unfold lsum
            rw [FQ.sumTo]
            grind
          rw [es]
          exact h4
        · rintro σ H2 ⟨t, y6', rfl, sm2, ht⟩
          have hL2 := sm2 _ _ hL1
          refine ⟨.ref l, rfl, .inl ⟨rfl, _, SqL.of hL2⟩, _, rfl, l, vs, t, rfl, rfl, hL2, ?_, ?_⟩
          · rw [hI.len]
            exact small1000 (by omega)
          refine ⟨_, _, _, vs ++ [t], rfl, (sm.trans (s1.trans sm2)).updN hl, upd_same, ?_⟩
          refine Items.snoc ((hI.ext (s1.trans sm2).text).ext (TExt.upd hL2)) ?_
          rw [ok.eq i hi]
          exact ht.ext (TExt.upd hL2)
      · have hc : (i : Int) < (nf : Int) := of_decide_eq_true c
        obtain ⟨v, ev, hv⟩ := (Ip.ext sm.text).at_ i (by omega)
        exact ⟨_, rfl, _, rfl, p, us, _, v, rfl, rfl, sm.seqT hp, atI_nat ev, key _ _ ⟨Same.refl _, hv⟩⟩
      · have hc : ¬ (i : Int) < (nf : Int) := fun z => by rw [decide_eq_true z] at c; cases c
        have ez : f i = 0 := If.1 i (by omega)
        refine ⟨(by show 2 ≤ sizeLine; decide), fun t ht => key _ _ ⟨same_upd ht, ?_⟩⟩
        rw [ez]
        exact num_int (z := 0) (.inl (.inl upd_same))
    · rintro σ H' ⟨y4, y5, y6, vs, rfl, sm, hL, hI⟩
      exact ⟨_, rfl, q _ l vs sm hl hL hI⟩
end
end L2.FW
end
section
set_option Elab.async false
set_option linter.all false
set_option maxRecDepth 100000
namespace L2.FW
open PySem PySem.Spec PyProof.Rows
open FQ (Fit BB BB_eq FitP Ser IsLen Lt rowB FormOK PartOK)
/-! ### the law's checks of one length -/
abbrev sAgreed : Stmt := topS 81
abbrev sTR : Stmt := topS 82
abbrev sRR : Stmt := topS 83
theorem scAgreed : FnScope ["_law_row_here", "_law_one", "_law_own", "_law_many"] ["_law_row_here", "_law_one"] (defScope sAgreed) := ⟨rfl, rfl, rfl, by decide +kernel, rfl, by decide +kernel, by decide +kernel⟩
theorem scTR : FnScope ["_law_row_here", "_law_off", "_law_length", "_law_told", "_law_m", "_law_block"] ["_law_row_here", "_law_off", "_law_length", "_law_told"] (defScope sTR) := ⟨rfl, rfl, rfl, by decide +kernel, rfl, by decide +kernel, by decide +kernel⟩
theorem scRR : FnScope ["_law_row_here", "_law_off", "_law_ahead", "_law_length", "_law_earlier", "_law_told"] ["_law_row_here", "_law_off", "_law_ahead", "_law_length"] (defScope sRR) := ⟨rfl, rfl, rfl, by decide +kernel, rfl, by decide +kernel, by decide +kernel⟩
/-- a row and a quotient agree at the first m of n places, no further -/
structure AgrOK (a b : Ser) (n : Nat) (r : Nat → Rat) (m : Nat) : Prop where
  ex : ∃ nb s, LserOK a b nb n s ∧ (∀ i, i < m → r i = s i) ∧ (m < n → r m ≠ s m)
  le : m ≤ n
def spAgreed (K : PySem.W.Frag) : Sp := fun vs H Q _ => ∃ rv ov n r a b m, vs = [rv, ov] ∧ LsAt K H rv n r ∧ QuoAt K H ov a b ∧ AgrOK a b n r m ∧ ∀ H', Same H H' → Q (.int ((m : Nat) : Int)) H'
/-- what the law asks where the chain is told -/
structure RightOK (nr : Nat) (r : Nat → Rat) (off : Int) (L : Nat) (a b : Ser) : Prop where
  ex : ∃ m na nb : Nat, (L : Int) + off = (m : Int) ∧ m + L + 1 ≤ nr ∧ FormOK r m L a b ∧ PartOK r m L a b ∧ IsLen a na ∧ IsLen b nb ∧ na ≤ 900 ∧ nb ≤ 900 ∧ (na ≠ 0 → OwnRow a b nr r)
def spTR (K : PySem.W.Frag) : Sp := fun vs H Q _ => ∃ rv tv nr r off L a b, vs = [rv, .int off, .int ((L : Nat) : Int), tv] ∧ LsAt K H rv nr r ∧ QuoAt K H tv a b ∧ RightOK nr r off L a b ∧ ∀ H', Same H H' → Q (.bl true) H'
def ToldAt (K : PySem.W.Frag) (H : Hp) (v : V) : Option (Ser × Ser) → Prop
  | none => v = .non
  | some (a, b) => QuoAt K H v a b
theorem ToldAt.ext {K : PySem.W.Frag} {H H' : Hp} {v : V} {o : Option (Ser × Ser)} (h : ToldAt K H v o) (s : TExt H H') : ToldAt K H' v o := by
  cases o with
  | none => exact h
  | some p => exact QuoAt.ext h s
/-- what the law asks where the chain came to be longer -/
structure RiseOK (n : Nat) (r : Nat → Rat) (off : Int) (e : Nat) (told : Option (Ser × Ser)) (L : Nat) : Prop where
  sum : (e : Int) + (L : Int) = (n : Int) - off - 1
  n1 : 1 ≤ n
  ag : ∀ a b, told = some (a, b) → AgrOK a b n r (n - 1)
  less : 0 ≤ (L : Int) + off - 1 → 2 * (L : Int) + off - 1 ≤ (n : Int) → ∃ (m j k : Nat) (a b : Ser), (L : Int) + off - 1 = (m : Int) ∧ L = j + 1 ∧ m + j + 1 ≤ n ∧ FormOK r m j a b ∧ AgrOK a b n r k ∧ k < n
def spRR (K : PySem.W.Frag) : Sp := fun vs H Q _ => ∃ rv av tv n r off e told L, vs = [rv, .int off, av, .int ((L : Nat) : Int)] ∧ LsAt K H rv n r ∧ PairAt K H av (.int ((e : Nat) : Int)) tv ∧ ToldAt K H tv told ∧ RiseOK n r off e told L ∧ ∀ H', Same H H' → Q (.bl true) H'
section
variable {P : Program} {w : World} {K : PySem.W.Frag} {mg : Str → Option Value} {base : Heap} {k : Nat}
theorem num_eqv (x y : Rat) : PyData.eqv (.tuple [.int x.num, .int (x.den : Int)]) (.tuple [.int y.num, .int (y.den : Int)]) = decide (x = y) := by
  have e : PyData.eqv (.tuple [.int x.num, .int (x.den : Int)]) (.tuple [.int y.num, .int (y.den : Int)]) = ((x.num == y.num) && ((x.den : Int) == (y.den : Int))) := by
    simp [PyData.eqv, PyData.eqvAll]
  rw [e]
  by_cases h : x = y
  · subst h
    simp
  · rw [decide_eq_false h]
    rw [Bool.and_eq_false_iff]
    by_cases h1 : x.num = y.num
    · refine .inr ?_
      rw [beq_eq_false_iff_ne]
      intro h2
      exact h (Rat.ext h1 (by omega))
    · exact .inl (beq_eq_false_iff_ne.mpr h1)
theorem gd_agreed (B : Bi mg) (a : At K mg "_law_agreed" sAgreed) (GS : Gd P w K mg base "_law_series" k ["_law_top", "_law_below", "_law_many"] (spSeries K)) : Gd P w K mg base "_law_agreed" (k + 1) ["_law_row_here", "_law_one"] (spAgreed K) := by
  obtain ⟨f, fd, F, g⟩ := a.ex
  refine ⟨f, fd, ?_, g, F.kp, F.binds fun _ _ _ _ _ _ us hl => match us, hl with | [_, _], _ => rfl⟩
  refine F.ok scAgreed (fun vs H Q E h => ?_) (fun cdv A outer s H vs Q E hr h => ?_)
  · obtain ⟨rv, ov, n, r, a, b, m, rfl, _⟩ := h
    rfl
  · obtain ⟨rv, ov, n, r, a, b, m, rfl, ⟨p, us, rfl, hp, Ip⟩, ⟨x, y, ⟨po, rfl, hpo⟩, hx, hy⟩, ⟨⟨nb, s, ok, eq, ne⟩, hm⟩, q⟩ := h
    refine ⟨_, pss_cons (ps_set (i := 2) scAgreed.nd rfl (.inl rfl) (pe_gd GS hr (by rfl) (pa_cons (pe_ix ix_tup (pv 1) pe_int (fun _ _ => rfl)) (pa_cons (pe_ix ix_tup (pv 1) pe_int (fun _ _ => rfl)) (pa_cons (pe_callB call_len_seq (by rfl) B.len b_len (pa_cons (pv 0) pa_nil)) pa_nil)))))
      (pss_cons (ps_set (i := 3) scAgreed.nd rfl (.inl rfl) pe_int)
      (pss_cons (ps_while PassesOwn.never (PW.pt (pw_and (pt_cmpR op_lt (pv 3) (pe_callB call_len_seq (by rfl) B.len b_len (pa_cons (pv 0) pa_nil)) (nomark _)) (pw_and1 (pt_cmpR (op_eqD hr.units) (pe_ix ix_list (pv 0) (pv 3) (fun _ _ => rfl)) (pe_ix ix_list (pv 2) (pv 3) (fun _ _ => rfl)) (nomark _)))))
        (pss_one (ps_set (i := 3) scAgreed.nd rfl (.inl rfl) (pe_op op_add (pv 3) pe_int))))
      (pss_one (ps_ret (pv 3))))), ?_⟩
    refine ⟨_, rfl, po, _, 0, _, rfl, rfl, hpo, at0, _, rfl, po, _, 1, _, rfl, rfl, hpo, at1, _, rfl, p, us, rfl, .inl hp, x, y, a, b, nb, n, s, by rw [Ip.len]; rfl, hx, hy, ok, fun H1 l vs s1 hl0 hl Il => ?_⟩
    refine ⟨fun c σ H' => c ≤ m ∧ σ = [some (.ref p), some (.ref po), some (.ref l), some (.int (((m - c : Nat) : Nat) : Int))] ∧ H1 = H', ⟨m, Nat.le_refl _, by rw [Nat.sub_self]; rfl, rfl⟩, ?_⟩
    rintro c σ H' ⟨hc, rfl, rfl⟩
    refine ⟨_, rfl, _, rfl, p, us, rfl, .inl (s1.seq hp), _, _, rfl, rfl, _, rfl, ?_⟩
    rw [Ip.len]
    by_cases hmn : m - c < n
    · rw [decide_eq_true (show ((m - c : Nat) : Int) < (n : Int) by omega)]
      obtain ⟨u, eu, hu⟩ := (Ip.ext s1.text).at_ (m - c) hmn
      obtain ⟨z, ez, hz⟩ := Il.at_ (m - c) hmn
      refine iteT ⟨_, rfl, _, rfl, p, us, _, u, rfl, rfl, s1.seq hp, atI_nat eu, _, rfl, _, rfl, l, vs, _, z, rfl, rfl, SqL.of hl, atI_nat ez, _, _, num_dp hu, num_dp hz, rfl, rfl, _, rfl, ?_⟩
      rw [num_eqv]
      cases c with
      | zero =>
        rw [decide_eq_false (show ¬ r (m - 0) = s (m - 0) from ne hmn)]
        exact iteF ⟨_, rfl, q _ s1⟩
      | succ c =>
        rw [decide_eq_true (eq (m - (c + 1)) (by omega))]
        refine iteT ⟨fun σ' H'' => c ≤ m ∧ σ' = [some (.ref p), some (.ref po), some (.ref l), some (.int (((m - c : Nat) : Nat) : Int))] ∧ H1 = H'', fun σ' H'' h => ⟨c, Nat.lt_succ_self _, h⟩, ?_⟩
        refine ⟨_, rfl, _, _, rfl, rfl, by omega, ?_, rfl⟩
        rw [show ((m - c : Nat) : Int) = ((m - (c + 1) : Nat) : Int) + 1 by omega]
        rfl
    · have hc0 : c = 0 := by omega
      subst hc0
      rw [decide_eq_false (show ¬ ((m - 0 : Nat) : Int) < (n : Int) by omega)]
      exact iteF (iteF ⟨_, rfl, q _ s1⟩)
theorem quo_same {H : Hp} {v u : V} {a b : Ser} {na nb : Nat} (hv : QuoAt K H v a b) (hu : QuoAt K H u a b) (la : IsLen a na) (lb : IsLen b nb) (ha : na ≤ 900) (hb : nb ≤ 900) : SameD K H 3 v u := by
  have num : ∀ {v u : V} {x : Rat}, NumAt K H v x → NumAt K H u x → SameD K H 1 v u := by
    rintro v u x ⟨p, rfl, hp⟩ ⟨p2, rfl, hp2⟩
    refine .tup _ p p2 _ _ hp hp2 rfl (by show 2 ≤ 900; decide) fun i y z h1 h2 => ?_
    rw [h1] at h2
    cases h2
    have : y = .int x.num ∨ y = .int (x.den : Int) := by
      have := List.mem_of_getElem? h1
      simpa using this
    rcases this with e | e <;> rw [e] <;> exact .int _ _
  have poly : ∀ {v u : V} {f : Ser} {n : Nat}, PolyAt K H v f → PolyAt K H u f → IsLen f n → n ≤ 900 → SameD K H 2 v u := by
    rintro v u f n ⟨n1, ⟨p, xs, rfl, hp, Ip⟩, l1⟩ ⟨n2, ⟨p2, ys, rfl, hp2, Ip2⟩, l2⟩ ln hn
    obtain rfl := l1.unique ln
    obtain rfl := l2.unique ln
    refine .tup _ p p2 xs ys hp hp2 (by rw [Ip.len, Ip2.len]) (by rw [Ip.len]; exact hn) fun i y z h1 h2 => num (Ip.get h1) (Ip2.get h2)
  obtain ⟨x, y, ⟨p, rfl, hp⟩, hx, hy⟩ := hv
  obtain ⟨x2, y2, ⟨p2, rfl, hp2⟩, hx2, hy2⟩ := hu
  refine .tup _ p p2 _ _ hp hp2 rfl (by show 2 ≤ 900; decide) fun i u v h1 h2 => ?_
  match i, h1, h2 with
  | 0, h1, h2 => cases h1; cases h2; exact poly hx hx2 la ha
  | 1, h1, h2 => cases h1; cases h2; exact poly hy hy2 lb hb
  | i + 2, h1, h2 => cases h1
theorem gd_tr (B : Bi mg) (a : At K mg "_law_told_right" sTR) (GS : Gd P w K mg base "_law_same" k ["_law_found", "_law_due"] (spSame K 3)) (GF : Gd P w K mg base "furthest" k ["row", "m", "n"] (spFurth K)) (GP : Gd P w K mg base "by_parting" k ["row", "m", "n"] (spByP K)) (GB : Gd P w K mg base "block_of" k ["row", "m", "n"] (spBlock K)) :
    Gd P w K mg base "_law_told_right" (k + 1) ["_law_row_here", "_law_off", "_law_length", "_law_told"] (spTR K) := by
  obtain ⟨f, fd, F, g⟩ := a.ex
  refine ⟨f, fd, ?_, g, F.kp, F.binds fun _ _ _ _ _ _ us hl => match us, hl with | [_, _, _, _], _ => rfl⟩
  refine F.ok scTR (fun vs H Q E h => ?_) (fun cdv A outer s H vs Q E hr h => ?_)
  · obtain ⟨rv, tv, nr, r, off, L, a, b, rfl, _⟩ := h
    rfl
  · obtain ⟨rv, tv, nr, r, off, L, a, b, rfl, hR, hT, ⟨m, na, nb, em, hmn, form, part, la, lb, na9, nb9, own⟩, q⟩ := h
    refine ⟨_, pss_cons (ps_set (i := 4) scTR.nd rfl (.inl rfl) (pe_op op_add (pv 2) (pv 1)))
      (pss_cons (ps_if (PW.pt (pw_or (pt_not (pt_val (pe_gd GS hr (by rfl) (pa_cons (pe_gd GF hr (by rfl) (pa_cons (pv 0) (pa_cons (pv 4) (pa_cons (pv 2) pa_nil)))) (pa_cons (pv 3) pa_nil)))))
        (pw_or1 (pt_not (pt_val (pe_gd GS hr (by rfl) (pa_cons (pe_gd GP hr (by rfl) (pa_cons (pv 0) (pa_cons (pv 4) (pa_cons (pv 2) pa_nil)))) (pa_cons (pv 3) pa_nil)))))))) pss_never pss_nil)
      (pss_cons (ps_set (i := 5) scTR.nd rfl (.inl rfl) (pe_gd GB hr (by rfl) (pa_cons (pv 0) (pa_cons (pv 4) (pa_cons (pv 2) pa_nil)))))
      (pss_cons (ps_if (pt_cmpR (op_eqD hr.units) (pe_ix ix_tup (pv 3) pe_int (fun _ _ => rfl)) (pe_tup pa_nil) (nomark _)) (pss_one (ps_ret (pe_cmp (pc_isN (pv 5))))) pss_nil)
      (pss_one (ps_ret (pe_gd GS hr (by rfl) (pa_cons (pv 5) (pa_cons (pe_tup (pa_cons (pe_op op_sub (pe_callB call_len_seq (by rfl) B.len b_len (pa_cons (pe_ix ix_tup (pv 3) pe_int (fun _ _ => rfl)) pa_nil)) pe_int)
        (pa_cons (pe_op op_sub (pe_callB call_len_seq (by rfl) B.len b_len (pa_cons (pe_ix ix_tup (pv 3) pe_int (fun _ _ => rfl)) pa_nil)) pe_int) (pa_cons pe_non pa_nil)))) pa_nil)))))))), ?_⟩
    obtain ⟨x, y, ⟨po, rfl, hpo⟩, hx, hy⟩ := id hT
    obtain ⟨na', ⟨px, ux, rfl, hpx, Ix⟩, Ia'⟩ := id hx
    obtain rfl := Ia'.unique la
    obtain ⟨nb', ⟨py, uy, rfl, hpy, Iy⟩, Ib'⟩ := id hy
    obtain rfl := Ib'.unique lb
    refine ⟨_, rfl, _, rfl, _, _, rfl, rfl, ?_⟩
    refine ⟨_, rfl, _, rfl, _, rfl, rv, nr, r, m, L, a, b, by rw [← em]; rfl, hR, hmn, form, fun H1 v1 s1 h1 => ?_⟩
    refine ⟨_, rfl, v1, _, rfl, quo_same h1 (QuoAt.ext hT s1.text) la lb na9 nb9, fun H2 s2 => ⟨_, rfl, iteF ?_⟩⟩
    have s12 := s1.trans s2
    refine ⟨_, rfl, _, rfl, _, rfl, rv, nr, r, m, L, a, b, by rw [← em]; rfl, hR.same s12, hmn, part, fun H3 v3 s3 h3 => ?_⟩
    have s13 := s12.trans s3
    refine ⟨_, rfl, v3, _, rfl, quo_same h3 (QuoAt.ext hT s13.text) la lb na9 nb9, fun H4 s4 => ⟨_, rfl, iteF ?_⟩⟩
    have s14 := s13.trans s4
    refine ⟨_, rfl, _, rfl, _, rfl, rv, nr, r, m, L, a, b, na', nb', by rw [← em]; rfl, hR.same s14, hmn, form, la, lb, fun z H5 s5 => ?_, fun nz => ⟨own nz, fun H5 t s5 ht => ?_⟩⟩
    · have s15 := s14.trans s5
      refine ⟨_, rfl, po, _, 0, _, rfl, rfl, s15.seqT hpo, at0, Nat.zero_le _, fun t0 ht0 => ?_⟩
      have s6 := same_upd (o := .tup []) ht0
      obtain ⟨ds, hds, hlen, hsh, _⟩ := items_shaped (Ix.ext (s15.trans s6).text)
      refine ⟨_, _, .tup ((s15.trans s6).seqT hpx) hds, .tup (.inl (.inl upd_same)) .nil, hsh, rfl, ?_⟩
      have : ds = [] := List.eq_nil_of_length_eq_zero (hlen.trans z)
      subst this
      refine ⟨_, rfl, iteT ⟨_, rfl, ?_⟩⟩
      exact (show Q (.bl (decide (V.non = V.non))) _ from by rw [decide_eq_true rfl]; exact q _ (s15.trans s6))
    · have s15 := s14.trans s5
      refine ⟨_, rfl, po, _, 0, _, rfl, rfl, s15.seqT hpo, at0, Nat.zero_le _, fun t0 ht0 => ?_⟩
      have s6 := same_upd (o := .tup []) ht0
      have s16 := s15.trans s6
      obtain ⟨ds, hds, hlen, hsh, _⟩ := items_shaped (Ix.ext s16.text)
      refine ⟨_, _, .tup (s16.seqT hpx) hds, .tup (.inl (.inl upd_same)) .nil, hsh, rfl, ?_⟩
      cases ds with
      | nil => exact absurd hlen.symm nz
      | cons d ds =>
        refine ⟨_, rfl, iteF ⟨_, rfl, _, rfl, po, _, 0, _, rfl, rfl, s16.seqT hpo, at0, px, ux, rfl, .inr (s16.seqT hpx), _, _, rfl, rfl, _, rfl, po, _, 1, _, rfl, rfl, s16.seqT hpo, at1, py, uy, rfl, .inr (s16.seqT hpy), _, _, rfl, rfl, (by show 3 ≤ sizeLine; decide), fun t1 ht1 => ?_⟩⟩
        have s7 := same_upd (o := .tup [.int (((ux.length : Nat) : Int) - 1), .int (((uy.length : Nat) : Int) - 1), .non]) ht1
        refine ⟨_, _, rfl, .tup _ t t1 _ _ ((s6.trans s7).seqT ht) (.inl (.inl upd_same)) rfl (by show 3 ≤ 900; decide) fun i u v h1 h2 => ?_, fun H8 s8 => q _ (s16.trans (s7.trans s8))⟩
        rw [Ix.len, Iy.len] at h2
        rw [h1] at h2
        cases h2
        have : u = .int ((na' : Int) - 1) ∨ u = .int ((nb' : Int) - 1) ∨ u = .non := by
          have := List.mem_of_getElem? h1
          simpa using this
        rcases this with e | e | e
        · rw [e]; exact .int _ _
        · rw [e]; exact .int _ _
        · rw [e]; exact .non _
theorem tand_join {t u : TT} {σ : St} {H : Hp} {Kq : Bool → Hp → Prop} (Pv : Hp → Prop) (key : ∀ H1, Pv H1 → Kq false H1) (h : (∀ H1, Pv H1 → Kq false H1) → tAnd t u σ H Kq) : tAnd t u σ H Kq := h key
theorem tand_join2 {t u : TT} {σ : St} {H : Hp} {Kq : Bool → Hp → Prop} (Pv : Bool → Hp → Prop) (key : ∀ b H1, Pv b H1 → Kq b H1) (h : (∀ b H1, Pv b H1 → Kq b H1) → tAnd t u σ H Kq) : tAnd t u σ H Kq := h key
theorem gd_rr (B : Bi mg) (a : At K mg "_law_rise_right" sRR) (GA : Gd P w K mg base "_law_agreed" k ["_law_row_here", "_law_one"] (spAgreed K)) (GF : Gd P w K mg base "furthest" k ["row", "m", "n"] (spFurth K)) :
    Gd P w K mg base "_law_rise_right" (k + 1) ["_law_row_here", "_law_off", "_law_ahead", "_law_length"] (spRR K) := by
  obtain ⟨f, fd, F, g⟩ := a.ex
  refine ⟨f, fd, ?_, g, F.kp, F.binds fun _ _ _ _ _ _ us hl => match us, hl with | [_, _, _, _], _ => rfl⟩
  refine F.ok scRR (fun vs H Q E h => ?_) (fun cdv A outer s H vs Q E hr h => ?_)
  · obtain ⟨rv, av, tv, n, r, off, e, told, L, rfl, _⟩ := h
    rfl
  · obtain ⟨rv, av, tv, n, r, off, e, told, L, rfl, hR, ⟨pa, rfl, hpa⟩, hT, ⟨sum, n1, ag, less⟩, q⟩ := h
    obtain ⟨p, us, rfl, hp, Ip⟩ := id hR
    refine ⟨_, pss_cons (ps_asg (pv 2) (pg_tup rfl (pgs_cons (pg_name (i := 4) scRR.nd rfl (.inl rfl)) (pgs_cons (pg_name (i := 5) scRR.nd rfl (.inl rfl)) pgs_nil))))
      (pss_cons (ps_if (pt_cmpR op_ne (pe_op op_add (pv 4) (pv 3)) (pe_op op_sub (pe_op op_sub (pe_callB call_len_seq (by rfl) B.len b_len (pa_cons (pv 0) pa_nil)) (pv 1)) pe_int) (nomark _)) pss_never pss_nil)
      (pss_cons (ps_if (PW.pt (pw_and (pt_cmp (pc_notN (pv 5))) (pw_and1 (pt_cmpR op_ne (pe_gd GA hr (by rfl) (pa_cons (pv 0) (pa_cons (pv 5) pa_nil))) (pe_op op_sub (pe_callB call_len_seq (by rfl) B.len b_len (pa_cons (pv 0) pa_nil)) pe_int) (nomark _))))) pss_never pss_nil)
      (pss_cons (ps_if (PW.pt (pw_and (pt_cmpR op_ge (pe_op op_sub (pe_op op_add (pv 3) (pv 1)) pe_int) pe_int (nomark _)) (pw_and1 (pt_cmpR op_ge (pe_callB call_len_seq (by rfl) B.len b_len (pa_cons (pv 0) pa_nil)) (pe_op op_sub (pe_op op_add (pe_op op_mul pe_int (pv 3)) (pv 1)) pe_int) (nomark _)))))
        (pss_one (ps_ret (pe_cmpR op_lt (pe_gd GA hr (by rfl) (pa_cons (pv 0) (pa_cons (pe_gd GF hr (by rfl) (pa_cons (pv 0) (pa_cons (pe_op op_sub (pe_op op_add (pv 3) (pv 1)) pe_int) (pa_cons (pe_op op_sub (pv 3) pe_int) pa_nil)))) pa_nil))) (pe_callB call_len_seq (by rfl) B.len b_len (pa_cons (pv 0) pa_nil)) (nomark _)))) pss_nil)
      (pss_one (ps_ret pe_bl))))), ?_⟩
    refine ⟨_, rfl, g_pair hpa ?_⟩
    refine ⟨_, rfl, _, rfl, _, _, rfl, rfl, _, rfl, p, us, rfl, .inl hp, _, rfl, _, _, rfl, rfl, _, _, rfl, rfl, rfl, _, rfl, ?_⟩
    rw [Ip.len]
    rw [show (!decide (V.int ((fun i j => i + j) (e : Int) (L : Int)) = V.int ((fun i j => i - j) ((fun i j => i - j) ((n : Nat) : Int) off) 1))) = false by
      rw [decide_eq_true (show V.int ((e : Int) + (L : Int)) = V.int ((n : Int) - off - 1) by rw [sum])]
      rfl]
    refine iteF ?_
    simp only [tNext, tSeq, tIfS]
    refine tand_join (fun H1 => Same H H1) ?_ ?_
    · intro H1 s1
      refine iteF ?_
      refine tand_join2 (fun b H2 => (b = true → ∃ (m j k : Nat) (a b : Ser), (L : Int) + off - 1 = (m : Int) ∧ L = j + 1 ∧ m + j + 1 ≤ n ∧ FormOK r m j a b ∧ AgrOK a b n r k ∧ k < n) ∧ H1 = H2) ?_ ?_
      · intro b H2 h2
        obtain ⟨h2, rfl⟩ := h2
        cases b with
        | false => exact iteF (q _ s1)
        | true =>
          obtain ⟨m, j, kk, a2, b2, em, ej, hmn, form, agr, kn⟩ := h2 rfl
          refine iteT ⟨_, rfl, _, rfl, _, rfl, _, rfl, _, _, rfl, rfl, _, _, rfl, rfl, _, rfl, _, _, rfl, rfl, _, n, r, m, j, a2, b2, ?_, hR.same s1, hmn, form, fun H2 v2 s2 h2 => ?_⟩
          · show [V.ref p, V.int ((L : Int) + off - 1), V.int ((L : Int) - 1)] = _
            rw [em, ej]
            congr 3
            simp
          refine ⟨_, v2, n, r, a2, b2, kk, rfl, hR.same (s1.trans s2), h2, agr, fun H3 s3 => ⟨_, rfl, p, us, rfl, .inl ((s1.trans (s2.trans s3)).seq hp), ?_⟩⟩
          rw [Ip.len]
          refine ⟨_, _, rfl, rfl, ?_⟩
          exact (show Q (.bl (decide (((kk : Nat) : Int) < ((n : Nat) : Int)))) _ from by
            rw [decide_eq_true (show ((kk : Nat) : Int) < ((n : Nat) : Int) by omega)]
            exact q _ (s1.trans (s2.trans s3)))
      · intro key
        refine ⟨_, rfl, _, rfl, _, _, rfl, rfl, _, _, rfl, rfl, _, _, rfl, rfl, _, rfl, ?_⟩
        refine ite2 (fun c1 => ?_) (fun c1 => key false _ ⟨(fun z => nomatch z), rfl⟩)
        refine ⟨_, rfl, p, us, rfl, .inl (s1.seq hp), ?_⟩
        refine ⟨_, rfl, _, _, rfl, rfl, .inl (by decide), ?_⟩
        refine ⟨_, rfl, _, _, rfl, rfl, ?_⟩
        refine ⟨_, _, rfl, rfl, _, _, rfl, rfl, _, rfl, ?_⟩
        rw [Ip.len]
        refine key _ _ ⟨fun c2 => ?_, rfl⟩
        have c1' : (L : Int) + off - 1 ≥ 0 := of_decide_eq_true c1
        have c2' : ((n : Nat) : Int) ≥ 2 * (L : Int) + off - 1 := of_decide_eq_true c2
        exact less (by omega) (by omega)
    · intro key
      cases told with
      | none =>
        have e2 : tv = .non := hT
        subst e2
        refine ⟨_, rfl, _, rfl, ?_⟩
        exact iteF (key _ (Same.refl _))
      | some o =>
        obtain ⟨a2, b2⟩ := o
        have hq : QuoAt K H tv a2 b2 := hT
        obtain ⟨x, y, ⟨pq, rfl, _⟩, _⟩ := id hq
        refine ⟨_, rfl, _, rfl, ?_⟩
        refine iteT ⟨_, rfl, _, rfl, _, _, n, r, a2, b2, n - 1, rfl, hR, hq, ag _ _ rfl, fun H1 s1 => ?_⟩
        refine ⟨_, rfl, p, us, rfl, .inl (s1.seq hp), _, _, rfl, rfl, rfl, _, rfl, ?_⟩
        rw [Ip.len]
        rw [show (!decide (V.int (((n - 1 : Nat) : Nat) : Int) = V.int (((n : Nat) : Int) - 1))) = false by
          rw [decide_eq_true (show V.int (((n - 1 : Nat) : Nat) : Int) = V.int (((n : Nat) : Int) - 1) by congr 1; omega)]
          rfl]
        exact key _ s1
end
end L2.FW
end
section
set_option Elab.async false
set_option linter.all false
set_option maxRecDepth 100000
set_option pp.maxSteps 300
set_option maxHeartbeats 200000
namespace L2.FW
open PySem PySem.Spec PyProof.Rows
open FQ (Fit BB BB_eq FitP Ser IsLen Lt rowB FormOK PartOK GrS PutOK GrownOK)
/-! ### walked -/
abbrev sWalked : Stmt := topS 84
theorem scWalked : FnScope ["_law_row_here", "_law_off", "_law_grower", "_law_lengths", "_law_ahead", "_law_k", "_law_part_here", "_law_here"] ["_law_row_here", "_law_off"] (defScope sWalked) := ⟨rfl, rfl, rfl, by decide +kernel, rfl, by decide +kernel, by decide +kernel⟩
/-- the grower when k places are put -/
def gst (off : Int) (r : Nat → Rat) : Nat → GrS
  | 0 => GrS.start off
  | k + 1 => (gst off r k).put (r k)
def glen (off : Int) (r : Nat → Rat) (k : Nat) : Nat := (gst off r k).ch.L
structure WalkOK (off : Int) (n : Nat) (r : Nat → Rat) (told : Nat → Option (Ser × Ser)) : Prop where
  n4 : n ≤ 300
  gn : ∀ k, (gst off r k).n = k
  goff : ∀ k, (gst off r k).off = off
  put : ∀ k, k < n → ((k + 1 : Nat) : Int) > off + 1 → PutOK (gst off r k).ch (r k) ∧ (gst off r k).ch.k ≤ k
  told0 : ∀ k, k ≤ n → (k : Int) < 2 * (glen off r k : Int) + off + 1 → told k = none
  told1 : ∀ k, k ≤ n → ¬ (k : Int) < 2 * (glen off r k : Int) + off + 1 → 0 ≤ (glen off r k : Int) + off + 1 ∧ ∃ a b, told k = some (a, b) ∧ GrownOK (gst off r k).ch.C (gst off r k).ch.nC ((glen off r k : Int) + off + 1).toNat k (gst off r k).r a b
  n1 : ∀ k, 1 ≤ (gst off r k).ch.nC ∧ 1 ≤ (gst off r k).ch.nB
  mono : ∀ k, k < n → glen off r k ≤ glen off r (k + 1)
  rise : ∀ k, k < n → glen off r k < glen off r (k + 1) → RiseOK (k + 1) r off (glen off r k) (told k) (glen off r (k + 1))
  right : ∀ k a b, k < n → told (k + 1) = some (a, b) → 0 ≤ (glen off r (k + 1) : Int) + off → (n < 11 ∨ k % 3 = 2) → RightOK (k + 1) r off (glen off r (k + 1)) a b
def lensV (off : Int) (r : Nat → Rat) (n : Nat) : List V := (List.range n).map fun k => .int ((glen off r (k + 1) : Nat) : Int)
def spWalked (K : PySem.W.Frag) : Sp := fun vs H Q _ => ∃ rv off n r told, vs = [rv, .int off] ∧ LsAt K H rv n r ∧ WalkOK off n r told ∧ ∀ H' l, Same H H' → H l = none → H' l = some (.lst (lensV off r n)) → Q (.ref l) H'
theorem same_keep {H0 H H' : Hp} {S : List Addr} (s : Same H0 H) (k : Keep S H H') (h : ∀ b ∈ S, H0 b = none) : Same H0 H' := fun b o e => k b o (s b o e) fun hb => by
  rw [h b hb] at e
  cases e
theorem lensV_len (off : Int) (r : Nat → Rat) (n : Nat) : (lensV off r n).length = n := by
  unfold lensV
  rw [List.length_map, List.length_range]
theorem lensV_succ (off : Int) (r : Nat → Rat) (n : Nat) : lensV off r n ++ [.int ((glen off r (n + 1) : Nat) : Int)] = lensV off r (n + 1) := by
  unfold lensV
  rw [List.range_succ, List.map_append]
  rfl
section
variable {P : Program} {w : World} {K : PySem.W.Frag} {mg : Str → Option Value} {base : Heap} {k : Nat} {GC CC CE : Addr}
theorem told_read {off : Int} {n : Nat} {r : Nat → Rat} {told : Nat → Option (Ser × Ser)} (ok : WalkOK off n r told) {i : Nat} (hi : i ≤ n) {H : Hp} {Q : VK} {E : XK} {g ls c lj lo lb la : Addr} (hG : GrowAt K GC CC CE H g ls c lj lo lb la (gst off r i))
    (q : ∀ H' v, Same H H' → ToldAt K H' v (told i) → Q v H') : spGrT K GC CC CE [.ref g] H Q E := by
  refine ⟨g, ls, c, lj, lo, lb, la, gst off r i, rfl, hG, fun h => ?_, fun h => ?_⟩
  · rw [ok.gn, ok.goff] at h
    refine q _ _ (Same.refl _) ?_
    rw [ok.told0 i hi h]
    rfl
  · rw [ok.gn, ok.goff] at h ⊢
    obtain ⟨h0, a, b, e, gr⟩ := ok.told1 i hi h
    refine ⟨h0, a, b, gr, fun H' v s hv => q _ _ s ?_⟩
    rw [e]
    exact hv
theorem told_readN {σ : St} {off : Int} {n : Nat} {r : Nat → Rat} {told : Nat → Option (Ser × Ser)} (ok : WalkOK off n r told) {i : Nat} (hi : i ≤ n) {H : Hp} {Q : VK} {E : XK} {g ls c lj lo lb la : Addr} (hG : GrowAt K GC CC CE H g ls c lj lo lb la (gst off r i))
    (q : ∀ H' v, Same H H' → ToldAt K H' v (told i) → Q v H') : tNil σ H (fun vs H2 => spGrT K GC CC CE (V.ref g :: (vs ++ [])) H2 Q E) := told_read (E := E) ok hi hG q
theorem items_ints {H : Hp} {off : Int} {r : Nat → Rat} {n m : Nat} {f : Nat → Rat} (h : Items K H (lensV off r n) m f) (hm : 1 ≤ m) : False := by
  obtain ⟨v, ev, p, rfl, _⟩ := h.at_ 0 hm
  have := List.mem_of_getElem? ev
  unfold lensV at this
  obtain ⟨a, _, e⟩ := List.mem_map.mp this
  cases e
theorem GrowAt.updL {H : Hp} {g ls c lj lo lb la l : Addr} {st : GrS} {zs : List V} {o : HO} (x : GrowAt K GC CC CE H g ls c lj lo lb la st) (hl : H l = some (.lst zs)) (n1 : ls ≠ l) (n2 : lj ≠ l) (n3 : lo ≠ l) (n4 : lb ≠ l) (n5 : la ≠ l) :
    GrowAt K GC CC CE (upd H l o) g ls c lj lo lb la st := by
  have tx : TExt H (upd H l o) := TExt.upd hl
  obtain ⟨dx, a⟩ := x.obj
  obtain ⟨vs, b, b'⟩ := x.row
  obtain ⟨js, d, e⟩ := x.jm
  obtain ⟨dx2, fl, gg, h1, ⟨ee, dxe, rfl, h2⟩, h3⟩ := x.ch.obj
  obtain ⟨rs, h4, h5⟩ := x.ch.row
  obtain ⟨bs, h6, h7⟩ := x.ch.bel
  obtain ⟨as, h8, h9⟩ := x.ch.ah
  have ni : ∀ {b : Addr} {C dx : Addr} {fs : List (Str × V)}, H b = some (.ins C dx fs) → upd H l o b = some (.ins C dx fs) := fun {b C dx fs} q => by
    rw [upd_ne (fun z => by rw [z, hl] at q; cases q)]
    exact q
  refine ⟨⟨dx, ni a⟩, ⟨vs, by rw [upd_ne n1]; exact b, b'.ext tx⟩, ⟨⟨dx2, .ref ee, gg, ni h1, ⟨ee, dxe, rfl, ni h2⟩, h3.ext tx⟩, ⟨rs, by rw [upd_ne n3]; exact h4, h5.ext tx⟩, ⟨bs, by rw [upd_ne n4]; exact h6, h7.ext tx⟩, ⟨as, by rw [upd_ne n5]; exact h8, h9.ext tx⟩, x.ch.ob, x.ch.oa⟩, ⟨js, by rw [upd_ne n2]; exact d, e⟩, x.d1, x.d2, x.d3, x.d4, x.d5, x.d6, x.d7⟩
theorem tor_join {t u : TT} {σ : St} {H : Hp} {Kq : Bool → Hp → Prop} (Pv : Hp → Prop) (key : ∀ H1, Pv H1 → Kq false H1) (h : (∀ H1, Pv H1 → Kq false H1) → tOr t u σ H Kq) : tOr t u σ H Kq := h key
theorem tor_join2 {t u : TT} {σ : St} {H : Hp} {Kq : Bool → Hp → Prop} (Pv : Bool → Hp → Prop) (key : ∀ b H1, Pv b H1 → Kq b H1) (h : (∀ b H1, Pv b H1 → Kq b H1) → tOr t u σ H Kq) : tOr t u σ H Kq := h key
theorem tif_joinS {c : TT} {t u : TS} {D : Ends} {σ : St} {H : Hp} (Pv : Hp → Prop) (key : ∀ H1, Pv H1 → D.nx σ H1) (h : (∀ H1, Pv H1 → D.nx σ H1) → tIfS c t u D σ H) : tIfS c t u D σ H := h key
theorem gd_walked (B : Bi mg) (T : GrT K GC) {fG : Addr} (MG : Mk K GC fG) (mG : mg "Grower" = some (.ref GC)) (GI : Md P w K mg base GC "__init__" k ["self", "off"] (spGrI K GC CC CE)) (GP : Md P w K mg base GC "put" k ["self", "number"] (spGrP K GC CC CE))
    (GL : Md P w K mg base GC "length" k ["self"] (spGrL K GC CC CE)) (GT : Md P w K mg base GC "told" k ["self"] (spGrT K GC CC CE)) (a : At K mg "_law_walked" sWalked)
    (GR : Gd P w K mg base "_law_rise_right" k ["_law_row_here", "_law_off", "_law_ahead", "_law_length"] (spRR K)) (GTR : Gd P w K mg base "_law_told_right" k ["_law_row_here", "_law_off", "_law_length", "_law_told"] (spTR K)) :
    Gd P w K mg base "_law_walked" (k + 2) ["_law_row_here", "_law_off"] (spWalked K) := by
  obtain ⟨f, fd, F, g⟩ := a.ex
  obtain ⟨fI, fdI, FI, mI, bI⟩ := GI.ex
  obtain ⟨fP, fdP, FP, mP, bP⟩ := GP.ex
  obtain ⟨fL, fdL, FL, mL, bL⟩ := GL.ex
  obtain ⟨fT, fdT, FT, mT, bT⟩ := GT.ex
  have efI : fI = fG := by
    have e1 := mI.at_
    have e2 := MG.init
    rw [e1] at e2
    cases e2
    rfl
  subst efI
  refine ⟨f, fd, ?_, g, F.kp, F.binds fun _ _ _ _ _ _ us hl => match us, hl with | [_, _], _ => rfl⟩
  refine F.ok scWalked (fun vs H Q E h => ?_) (fun cdv A outer s H vs Q E hr h => ?_)
  · obtain ⟨rv, off, n, r, told, rfl, _⟩ := h
    rfl
  · obtain ⟨rv, off, n, r, told, rfl, hR, ok, q⟩ := h
    obtain ⟨p, us, rfl, hp, Ip⟩ := id hR
    have hr0 := hr.mono (Nat.le_succ k)
    have n4 := ok.n4
    refine ⟨_, pss_cons (ps_set (i := 2) scWalked.nd rfl (.inl rfl) (pe_make MG FI hr (by rfl) mG bI .nil pass0 (pa_cons (pv 1) pa_nil)))
      (pss_cons (ps_set (i := 3) scWalked.nd rfl (.inl rfl) (pe_lst pa_nil))
      (pss_cons (ps_set (i := 4) scWalked.nd rfl (.inl rfl) (pe_tup (pa_cons pe_int (pa_cons (pe_meth0 (pv 2) T.cls mT FT hr0 bT .nil pass0) pa_nil))))
      (pss_cons (ps_for PassesOwn.never rfl (pi_enum (by rfl) B.enumerate (pa_cons (pv 0) pa_nil)) (pg_tup rfl (pgs_cons (pg_name (i := 5) scWalked.nd rfl (.inl rfl)) (pgs_cons (pg_name (i := 6) scWalked.nd rfl (.inl rfl)) pgs_nil)))
        (pss_cons (ps_expr (pe_meth (pv 2) T.cls mP FP hr0 bP .nil pass0 (pa_cons (pv 6) pa_nil)))
        (pss_cons (ps_set (i := 7) scWalked.nd rfl (.inl rfl) (pe_tup (pa_cons (pe_meth0 (pv 2) T.cls mL FL hr0 bL .nil pass0) (pa_cons (pe_meth0 (pv 2) T.cls mT FT hr0 bT .nil pass0) pa_nil))))
        (pss_cons (ps_if (PW.pt (pw_or (pt_cmpR op_lt (pe_ix ix_tup (pv 7) pe_int (fun _ _ => rfl)) (pe_ix ix_tup (pv 4) pe_int (fun _ _ => rfl)) (nomark _))
            (pw_or1 (PW.pt (pw_and (pt_cmpR op_gt (pe_ix ix_tup (pv 7) pe_int (fun _ _ => rfl)) (pe_ix ix_tup (pv 4) pe_int (fun _ _ => rfl)) (nomark _))
              (pw_and1 (pt_not (pt_val (pe_gd GR hr0 (by rfl) (pa_cons (pe_slice sl_list (pv 0) po_none (po_some (pe_op op_add (pv 5) pe_int))) (pa_cons (pv 1) (pa_cons (pv 4) (pa_cons (pe_ix ix_tup (pv 7) pe_int (fun _ _ => rfl)) pa_nil))))))))))))) pss_never pss_nil)
        (pss_cons (ps_if (PW.pt (pw_and (pt_cmp (pc_notN (pe_ix ix_tup (pv 7) pe_int (fun _ _ => rfl)))) (pw_and (pt_cmpR op_ge (pe_op op_add (pe_ix ix_tup (pv 7) pe_int (fun _ _ => rfl)) (pv 1)) pe_int (nomark _))
            (pw_and1 (PW.pt (pw_or (pt_cmpR op_lt (pe_callB call_len_seq (by rfl) B.len b_len (pa_cons (pv 0) pa_nil)) pe_int (nomark _)) (pw_or1 (pt_cmpR op_eq (pe_op op_mod (pv 5) pe_int) pe_int (nomark _)))))))))
          (pss_one (ps_if (pt_not (pt_val (pe_gd GTR hr0 (by rfl) (pa_cons (pe_slice sl_list (pv 0) po_none (po_some (pe_op op_add (pv 5) pe_int))) (pa_cons (pv 1) (pa_cons (pe_ix ix_tup (pv 7) pe_int (fun _ _ => rfl)) (pa_cons (pe_ix ix_tup (pv 7) pe_int (fun _ _ => rfl)) pa_nil))))))) pss_never pss_nil)) pss_nil)
        (pss_cons (ps_expr (pe_bm PySem.F.plainAttrs_list PySem.F.slot_list_append PySem.F.type_list_append mt_append (pv 3) (pa_cons (pe_ix ix_tup (pv 7) pe_int (fun _ _ => rfl)) pa_nil)))
        (pss_one (ps_set (i := 4) scWalked.nd rfl (.inl rfl) (pv 7)))))))))
      (pss_one (ps_ret (pv 3)))))), ?_⟩
    refine ⟨_, rfl, ?_⟩
    intro g dxg ng ndg neg
    have s1 := (same_upd (o := .own g) ndg).trans (same_upd (o := .ins GC dxg []) (by rw [upd_ne neg.symm]; exact ng))
    generalize hHa : upd (upd H dxg (.own g)) g (.ins GC dxg []) = Ha at s1
    have hga : Ha g = some (.ins GC dxg []) := by rw [← hHa, upd_same]
    refine ⟨g, off, dxg, rfl, hga, fun H1 ls c lj lo lb la k1 nls nc nlj nlo hG => ⟨rfl, ?_⟩⟩
    have hg0 : H g = none := ng
    have s2 : Same H H1 := same_keep s1 k1 (by simpa using hg0)
    have z1 : H ls = none := s1.free nls
    have z2 : H c = none := s1.free nc
    have z3 : H lj = none := s1.free nlj
    have z4 : H lo = none := s1.free nlo
    refine ⟨Nat.zero_le _, fun l hl => ?_⟩
    have s3 := same_upd (o := .lst []) hl
    have hlH : H l = none := s2.free hl
    obtain ⟨vls, els, _⟩ := hG.row
    obtain ⟨dxc, fl, gg, ho, hfl, hgg⟩ := hG.ch.obj
    obtain ⟨vlo, elo, _⟩ := hG.ch.row
    obtain ⟨vlj, elj, _⟩ := hG.jm
    have m1 : ls ≠ l := ne_of_none els hl
    have m2 : c ≠ l := ne_of_none ho hl
    have m3 : lj ≠ l := ne_of_none elj hl
    have m4 : lo ≠ l := ne_of_none elo hl
    have hG1 := hG.same s3
    have hl1 : upd H1 l (.lst []) l = some (.lst []) := upd_same
    have s13 := s2.trans s3
    generalize upd H1 l (.lst []) = H2 at hG1 hl1 s13
    obtain ⟨dx1, hg1⟩ := hG1.obj
    refine ⟨_, rfl, g, dx1, _, rfl, hg1, rfl, ?_⟩
    refine told_readN ok (i := 0) (Nat.zero_le _) hG1 fun H3 tv s4 hT => ?_
    refine ⟨(by show 2 ≤ sizeLine; decide), fun t0 ht0 => ?_⟩
    have s5 := same_upd (o := .tup [.int 0, tv]) ht0
    refine ⟨_, rfl, p, us, rfl, (s13.trans (s4.trans s5)).seq hp, ?_⟩
    refine for_enumL (fun i σ H' => ∃ y5 y6 y7 av tv lb la, σ = [some (.ref p), some (.int off), some (.ref g), some (.ref l), some av, y5, y6, y7] ∧ Same H H' ∧ GrowAt K GC CC CE H' g ls c lj lo lb la (gst off r i) ∧ PairAt K H' av (.int ((glen off r i : Nat) : Int)) tv ∧ ToldAt K H' tv (told i) ∧ H' l = some (.lst (lensV off r i)))
      ⟨none, none, none, _, _, _, _, rfl, s13.trans (s4.trans s5), hG1.same (s4.trans s5), ⟨t0, rfl, .inl (.inl upd_same)⟩, hT.ext s5.text, s5 _ _ (s4 _ _ hl1)⟩
      (fun i σ H' _ ⟨_, _, _, _, _, _, _, _, sm, _⟩ => sm.seq hp) ?_ ?_
    · rintro i x σ H' Tt ex ⟨y5, y6, y7, av, tv, lb, la, rfl, sm, hG, hav, htv, hl⟩ hT0
      have hi : i < n := by
        rw [← Ip.len]
        exact (List.getElem?_eq_some_iff.mp ex).1
      have sT := same_upd (o := .tup [.int ((i : Nat) : Int), x]) hT0
      have hx := ((Ip.ext sm.text).get ex).mono sT
      refine g_pair (.inl (.inl upd_same)) ?_
      have hG2 := hG.same sT
      have smT := sm.trans sT
      have hl2 := sT _ _ hl
      have hav2 : PairAt K _ av _ tv := hav.ext sT.text
      have htv2 := htv.ext sT.text
      generalize upd H' Tt (.tup [.int ((i : Nat) : Int), x]) = Ha at hG2 smT hl2 hav2 htv2 hx
      obtain ⟨dx2, hg2⟩ := hG2.obj
      refine ⟨_, rfl, g, dx2, _, rfl, hg2, rfl, _, rfl, g, ls, c, lj, lo, lb, la, gst off r i, x, r i, rfl, hG2, hx, ?_, ?_, fun Hb lb' la' kb hG3 => ?_⟩
      · rw [ok.gn, ok.goff]
        exact ok.put i hi
      · rw [ok.gn]
        omega
      have smb : Same H Hb := same_keep smT kb (by simp; exact ⟨z2, z4, z1, z3⟩)
      have hlb : Hb l = some (.lst (lensV off r i)) := kb _ _ hl2 (by simp; exact ⟨m2.symm, m4.symm, m1.symm, m3.symm⟩)
      have tb : TExt Ha Hb := kb.text (by
        obtain ⟨vls, els, _⟩ := hG2.row
        obtain ⟨dxc, fl, gg, ho, hfl, hgg⟩ := hG2.ch.obj
        obtain ⟨vlo, elo, _⟩ := hG2.ch.row
        obtain ⟨vlj, elj, _⟩ := hG2.jm
        intro b hb
        have hb' : b = c ∨ b = lo ∨ b = ls ∨ b = lj := by simpa using hb
        rcases hb' with e | e | e | e
        · rw [e]; exact .inr ⟨_, _, _, ho⟩
        · rw [e]; exact .inl ⟨_, elo⟩
        · rw [e]; exact .inl ⟨_, els⟩
        · rw [e]; exact .inl ⟨_, elj⟩)
      have hav3 := hav2.ext tb
      have htv3 := htv2.ext tb
      obtain ⟨dx3, hg3⟩ := hG3.obj
      refine ⟨_, rfl, g, dx3, _, rfl, hg3, rfl, g, ls, c, lj, lo, lb', la', gst off r (i + 1), rfl, hG3, ?_⟩
      refine ⟨_, rfl, g, dx3, _, rfl, hg3, rfl, ?_⟩
      refine told_readN ok (i := i + 1) hi hG3 fun Hc tv2 sc hT2 => ?_
      refine ⟨(by show 2 ≤ sizeLine; decide), fun t1 ht1 => ?_⟩
      have sd := same_upd (o := .tup [.int (((gst off r (i + 1)).ch.L : Nat) : Int), tv2]) ht1
      have scd := sc.trans sd
      have sme : Same H _ := smb.trans scd
      have hG4 := hG3.same scd
      have hle := scd _ _ hlb
      have hav4 := hav3.ext scd.text
      have htv4 := htv3.ext scd.text
      have hT4 := hT2.ext sd.text
      have ht1e : SqT K (upd Hc t1 (.tup [.int (((gst off r (i + 1)).ch.L : Nat) : Int), tv2])) t1 [.int (((gst off r (i + 1)).ch.L : Nat) : Int), tv2] := .inl (.inl upd_same)
      generalize upd Hc t1 (.tup [.int (((gst off r (i + 1)).ch.L : Nat) : Int), tv2]) = He at scd sme hG4 hle hav4 htv4 hT4 ht1e
      obtain ⟨pa, rfl, hpa⟩ := id hav4
      have hmono := ok.mono i hi
      have erow : ∀ {Hx : Hp} {D : Addr}, Same H Hx → Hx D = none → LsAt K (upd Hx D (.lst (us.take (i + 1)))) (.ref D) (i + 1) r := fun {Hx D} s hD =>
        ⟨D, _, rfl, SqL.of upd_same, (Ip.ext (s.trans (same_upd hD)).text).take (i + 1) hi⟩
      have ecut : cutV us none (some ((fun i j : Int => i + j) ((i : Nat) : Int) 1)) = us.take (i + 1) := cut_head us (k := i + 1) (by show (i : Int) + 1 = _; omega)
      simp only [tNext, tSeq, tIfS]
      refine tor_join (fun H1 => Same He H1) ?_ ?_
      · intro Hf sf
        refine iteF ?_
        have smf := sme.trans sf
        have step : ∀ Hg, Same He Hg → ∃ y5' y6' y7' av tv lb la, [some (.ref p), some (.int off), some (.ref g), some (.ref l), some (.ref t1), some (.int ((i : Nat) : Int)), some x, some (.ref t1)] = [some (.ref p), some (.int off), some (.ref g), some (.ref l), some av, y5', y6', y7'] ∧ Same H (upd Hg l (.lst (lensV off r i ++ [.int (((gst off r (i + 1)).ch.L : Nat) : Int)]))) ∧ GrowAt K GC CC CE (upd Hg l (.lst (lensV off r i ++ [.int (((gst off r (i + 1)).ch.L : Nat) : Int)]))) g ls c lj lo lb la (gst off r (i + 1)) ∧
            PairAt K (upd Hg l (.lst (lensV off r i ++ [.int (((gst off r (i + 1)).ch.L : Nat) : Int)]))) av (.int ((glen off r (i + 1) : Nat) : Int)) tv ∧ ToldAt K (upd Hg l (.lst (lensV off r i ++ [.int (((gst off r (i + 1)).ch.L : Nat) : Int)]))) tv (told (i + 1)) ∧ upd Hg l (.lst (lensV off r i ++ [.int (((gst off r (i + 1)).ch.L : Nat) : Int)])) l = some (.lst (lensV off r (i + 1))) := fun Hg sfg => by
          have hlg := sfg _ _ hle
          refine ⟨_, _, _, _, tv2, lb', la', rfl, (sme.trans sfg).updN hlH, ?_, ⟨t1, rfl, (TExt.upd hlg).seqT (sfg.seqT ht1e)⟩, (hT4.ext sfg.text).ext (TExt.upd hlg), ?_⟩
          · have hGg := hG4.same sfg
            obtain ⟨bs, h6, h7⟩ := hGg.ch.bel
            obtain ⟨as, h8, h9⟩ := hGg.ch.ah
            have nn := ok.n1 (i + 1)
            refine hGg.updL hlg m1 m3 m4 (fun z => ?_) (fun z => ?_)
            · rw [z, hlg] at h6
              cases h6
              exact items_ints h7 nn.1
            · rw [z, hlg] at h8
              cases h8
              exact items_ints h9 nn.2
          · rw [upd_same, ← lensV_succ]
            rfl
        have et0 : told (i + 1) = none ∨ ∃ a b, told (i + 1) = some (a, b) := by
          cases told (i + 1) with
          | none => exact .inl rfl
          | some ab => exact .inr ⟨_, _, rfl⟩
        rcases et0 with et | ⟨a2, b2, et⟩
        · have hT5 := hT4
          rw [et] at hT5
          have e2 : tv2 = .non := hT5
          refine ⟨_, rfl, t1, _, 1, _, rfl, rfl, sf.seqT ht1e, at1, _, rfl, ite2 (fun c => ?_) (fun _ => ite2 (fun c => by cases c) (fun _ => ?_))⟩
          · rw [e2] at c
            simp at c
          refine ⟨.ref l, rfl, .inl ⟨rfl, _, SqL.of (sf _ _ hle)⟩, _, rfl, t1, _, 0, _, rfl, rfl, (sf).seqT ht1e, at0, l, _, _, rfl, rfl, sf _ _ hle, ?_, ?_⟩
          · rw [lensV_len]
            exact small1000 (by omega)
          obtain ⟨w1, w2, w3, w4, w5, w6, w7, w8, w9, wa, wb, wc, wd⟩ := step _ (sf)
          exact ⟨_, rfl, w1, w2, w3, w4, w5, w6, w7, w8, w9, wa, wb, wc, wd⟩
        · have hT5 := hT4
          rw [et] at hT5
          have hq : QuoAt K He tv2 a2 b2 := hT5
          have hq2 := QuoAt.ext hq sf.text
          have hne : tv2 ≠ .non := fun z => by
            obtain ⟨x1, y1, ⟨pq, e1, _⟩, _⟩ := hq
            rw [z] at e1
            cases e1
          refine ⟨_, rfl, t1, _, 1, _, rfl, rfl, sf.seqT ht1e, at1, _, rfl, ite2 (fun _ => ?_) (fun c => absurd (by simp [hne]) c)⟩
          refine ⟨_, rfl, t1, _, 0, _, rfl, rfl, sf.seqT ht1e, at0, _, rfl, _, _, rfl, rfl, _, _, rfl, rfl, _, rfl, ite2 (fun c1 => ?_) (fun _ => ite2 (fun c => by cases c) (fun _ => ?_))⟩
          · have c1' : ((glen off r (i + 1) : Nat) : Int) + off ≥ 0 := of_decide_eq_true c1
            have fin : (n < 11 ∨ i % 3 = 2) → RightOK (i + 1) r off (glen off r (i + 1)) a2 b2 := fun h => ok.right i a2 b2 hi et (by omega) h
            refine ⟨_, rfl, p, us, rfl, .inl (smf.seq hp), _, _, rfl, rfl, _, rfl, ite2 (fun c2 => ?_) (fun c2 => ?_)⟩
            · have c2' : ((us.length : Nat) : Int) < 11 := of_decide_eq_true c2
              rw [Ip.len] at c2'
              have right := fin (.inl (by omega))
              refine iteT ?_
              refine ⟨_, rfl, _, rfl, _, _, rfl, rfl, _, rfl, p, us, rfl, smf.seq hp, fun D hD => ?_⟩
              rw [ecut]
              have s6 := same_upd (o := .lst (us.take (i + 1))) hD
              refine ⟨_, rfl, _, rfl, t1, _, 0, _, rfl, rfl, (sf.trans s6).seqT ht1e, at0, _, rfl, t1, _, 1, _, rfl, rfl, (sf.trans s6).seqT ht1e, at1, ?_⟩
              refine ⟨_, _, i + 1, r, off, glen off r (i + 1), a2, b2, rfl, erow smf hD, QuoAt.ext hq2 s6.text, right, fun H7 s7 => ⟨_, rfl, iteF ?_⟩⟩
              refine ⟨.ref l, rfl, .inl ⟨rfl, _, SqL.of ((sf.trans (s6.trans s7)) _ _ hle)⟩, _, rfl, t1, _, 0, _, rfl, rfl, ((sf.trans (s6.trans s7))).seqT ht1e, at0, l, _, _, rfl, rfl, (sf.trans (s6.trans s7)) _ _ hle, ?_, ?_⟩
              · rw [lensV_len]
                exact small1000 (by omega)
              obtain ⟨w1, w2, w3, w4, w5, w6, w7, w8, w9, wa, wb, wc, wd⟩ := step _ ((sf.trans (s6.trans s7)))
              exact ⟨_, rfl, w1, w2, w3, w4, w5, w6, w7, w8, w9, wa, wb, wc, wd⟩
            · refine ⟨_, rfl, _, _, rfl, rfl, (by show (0 : Int) < 3; decide), rfl, _, rfl, ite2 (fun c3 => ?_) (fun c3 => ?_)⟩
              · have c4 : V.int ((i : Int) % 3) = V.int 2 := of_decide_eq_true c3
                have c5 := V.int.inj c4
                have right := fin (.inr (by omega))
                refine ⟨_, rfl, _, rfl, _, _, rfl, rfl, _, rfl, p, us, rfl, smf.seq hp, fun D hD => ?_⟩
                rw [ecut]
                have s6 := same_upd (o := .lst (us.take (i + 1))) hD
                refine ⟨_, rfl, _, rfl, t1, _, 0, _, rfl, rfl, (sf.trans s6).seqT ht1e, at0, _, rfl, t1, _, 1, _, rfl, rfl, (sf.trans s6).seqT ht1e, at1, ?_⟩
                refine ⟨_, _, i + 1, r, off, glen off r (i + 1), a2, b2, rfl, erow smf hD, QuoAt.ext hq2 s6.text, right, fun H7 s7 => ⟨_, rfl, iteF ?_⟩⟩
                refine ⟨.ref l, rfl, .inl ⟨rfl, _, SqL.of ((sf.trans (s6.trans s7)) _ _ hle)⟩, _, rfl, t1, _, 0, _, rfl, rfl, ((sf.trans (s6.trans s7))).seqT ht1e, at0, l, _, _, rfl, rfl, (sf.trans (s6.trans s7)) _ _ hle, ?_, ?_⟩
                · rw [lensV_len]
                  exact small1000 (by omega)
                obtain ⟨w1, w2, w3, w4, w5, w6, w7, w8, w9, wa, wb, wc, wd⟩ := step _ ((sf.trans (s6.trans s7)))
                exact ⟨_, rfl, w1, w2, w3, w4, w5, w6, w7, w8, w9, wa, wb, wc, wd⟩
              · skip
                refine ⟨.ref l, rfl, .inl ⟨rfl, _, SqL.of (sf _ _ hle)⟩, _, rfl, t1, _, 0, _, rfl, rfl, (sf).seqT ht1e, at0, l, _, _, rfl, rfl, sf _ _ hle, ?_, ?_⟩
                · rw [lensV_len]
                  exact small1000 (by omega)
                obtain ⟨w1, w2, w3, w4, w5, w6, w7, w8, w9, wa, wb, wc, wd⟩ := step _ (sf)
                exact ⟨_, rfl, w1, w2, w3, w4, w5, w6, w7, w8, w9, wa, wb, wc, wd⟩
          refine ⟨.ref l, rfl, .inl ⟨rfl, _, SqL.of (sf _ _ hle)⟩, _, rfl, t1, _, 0, _, rfl, rfl, (sf).seqT ht1e, at0, l, _, _, rfl, rfl, sf _ _ hle, ?_, ?_⟩
          · rw [lensV_len]
            exact small1000 (by omega)
          obtain ⟨w1, w2, w3, w4, w5, w6, w7, w8, w9, wa, wb, wc, wd⟩ := step _ (sf)
          exact ⟨_, rfl, w1, w2, w3, w4, w5, w6, w7, w8, w9, wa, wb, wc, wd⟩
      · intro key
        refine ⟨_, rfl, t1, _, 0, _, rfl, rfl, ht1e, at0, _, rfl, pa, _, 0, _, rfl, rfl, hpa, at0, _, _, rfl, rfl, _, rfl, ite2 (fun c0 => ?_) (fun _ => ?_)⟩
        · exfalso
          have c0' : ((glen off r (i + 1) : Nat) : Int) < ((glen off r i : Nat) : Int) := of_decide_eq_true c0
          omega
        refine ⟨_, rfl, t1, _, 0, _, rfl, rfl, ht1e, at0, _, rfl, pa, _, 0, _, rfl, rfl, hpa, at0, _, _, rfl, rfl, _, rfl, ite2 (fun c => ?_) (fun c => key _ (Same.refl _))⟩
        have c' : ((glen off r (i + 1) : Nat) : Int) > ((glen off r i : Nat) : Int) := of_decide_eq_true c
        have hrise := ok.rise i hi (by omega)
        refine ⟨_, rfl, _, rfl, _, _, rfl, rfl, _, rfl, p, us, rfl, sme.seq hp, fun D hD => ?_⟩
        rw [ecut]
        have s6 := same_upd (o := .lst (us.take (i + 1))) hD
        refine ⟨_, rfl, _, rfl, _, rfl, t1, _, 0, _, rfl, rfl, s6.seqT ht1e, at0, ?_⟩
        refine ⟨_, _, tv, i + 1, r, off, glen off r i, told i, glen off r (i + 1), rfl, erow sme hD, (PairAt.ext ⟨pa, rfl, hpa⟩ s6.text), htv4.ext s6.text, hrise, fun H7 s7 => ⟨_, rfl, ?_⟩⟩
        exact key _ (s6.trans s7)
    · rintro σ H' ⟨y5, y6, y7, av, tv, lb, la, rfl, sm, hG, hav, htv, hl⟩
      rw [Ip.len] at hl
      exact ⟨_, rfl, q _ l sm hlH hl⟩
end
end L2.FW
end
section
set_option Elab.async false
set_option linter.all false
set_option maxRecDepth 100000
set_option pp.maxSteps 300
namespace L2.FW
open PySem PySem.Spec PyProof.Rows
open FQ (Fit BB BB_eq FitP Ser IsLen Lt rowB)
/-! ### any, two_polys -/
abbrev sTwo : Stmt := topS 78
abbrev sAny : Stmt := topS 79
theorem scTwo : FnScope ["_law_state", "_law_a", "_law_b", "_law_top", "_law_below", "_law_k"] ["_law_state", "_law_a", "_law_b"] (defScope sTwo) := ⟨rfl, rfl, rfl, by decide +kernel, rfl, by decide +kernel, by decide +kernel⟩
theorem scAny : FnScope ["_law_state", "_law_many"] ["_law_state", "_law_many"] (defScope sAny) := ⟨rfl, rfl, rfl, by decide +kernel, rfl, by decide +kernel, by decide +kernel⟩
def anyA (many : Nat) : Nat := if 6 < many then 4 else 1000000000
def anyD (many : Nat) : Nat := if 6 < many then 1 else 1000000
def spAny (K : PySem.W.Frag) : Sp := fun vs H Q _ => ∃ d c b many, vs = [.ref d, .int ((many : Nat) : Int)] ∧ StAt H d c (b + 5) ∧ ∀ H' v x, Keep [d, c] H H' → StAt H' d c b → NumAt K H' v x → NumOK x (anyA many) (anyD many) → Q v H'
structure TopOK (f : Ser) (a : Nat) : Prop where
  lt : Lt f (a + 1)
  n : ∀ k, NumOK (f k) 1000000000 1000000
  t : ∀ k, 2 ≤ k → NumOK (f k) 4 2
structure BelOK (g : Ser) (b : Nat) : Prop where
  len : IsLen g (b + 1)
  one : g 0 = 1
  n : ∀ k, NumOK (g k) 3 2
  t : ∀ k, k < b → (g k).den = 1
def spTwo (K : PySem.W.Frag) : Sp := fun vs H Q _ => ∃ d c bu a b, vs = [.ref d, .int ((a : Nat) : Int), .int ((b : Nat) : Int)] ∧ StAt H d c (bu + 5 * a + b + 4) ∧ a ≤ 100 ∧ b ≤ 100 ∧ ∀ H' v x y f g, Keep [d, c] H H' → StAt H' d c bu → PairAt K H' v x y → PolyAt K H' x f → PolyAt K H' y g → TopOK f a → BelOK g b → Q v H'
theorem items_more {K : PySem.W.Frag} {H : Hp} {vs : List V} {n : Nat} {f : Nat → Rat} {v : V} {x : Rat} (h : Items K H vs n f) (hv : NumAt K H v x) : Items K H (vs ++ [v]) (n + 1) fun j => if j = n then x else f j :=
  Items.snoc (h.congr fun i hi => by rw [if_neg (by omega)]) (by rw [if_pos rfl]; exact hv)
theorem StAt.new {H : Hp} {d c D : Addr} {b : Nat} (h : StAt H d c b) (hD : H D = none) : D ≠ d ∧ D ≠ c := by
  obtain ⟨xs, t, h1, h2, _⟩ := h.ex
  exact ⟨(fun z => by rw [z, h1] at hD; cases hD), (fun z => by rw [z, h2] at hD; cases hD)⟩
theorem StAt.updL {H : Hp} {d c D : Addr} {b : Nat} {o : HO} (h : StAt H d c b) (n1 : D ≠ d) (n2 : D ≠ c) : StAt (upd H D o) d c b := by
  obtain ⟨xs, t, h1, h2, h3⟩ := h.ex
  exact ⟨xs, t, by rw [upd_ne n1.symm]; exact h1, by rw [upd_ne n2.symm]; exact h2, h3⟩
/-- kept but for the state, over a new list -/
theorem Keep.updN2 {S : List Addr} {H0 H : Hp} {D : Addr} {o : HO} (k : Keep S H0 H) (h : H0 D = none) : Keep S H0 (L2.upd H D o) := fun b x e n => by
  rw [upd_ne (ne_of_none e h)]
  exact k _ _ e n
section
variable {P : Program} {w : World} {K : PySem.W.Frag} {mg : Str → Option Value} {base : Heap} {k : Nat}
theorem gd_any (a : At K mg "_law_any" sAny) (GT : Gd P w K mg base "_law_take" k ["_law_state", "_law_many"] (spTake K)) (GN : Gd P w K mg base "_law_number" k ["_law_state"] (spNumR K)) : Gd P w K mg base "_law_any" (k + 1) ["_law_state", "_law_many"] (spAny K) := by
  obtain ⟨f, fd, F, g⟩ := a.ex
  refine ⟨f, fd, ?_, g, F.kp, F.binds fun _ _ _ _ _ _ us hl => match us, hl with | [_, _], _ => rfl⟩
  refine F.ok scAny (fun vs H Q E h => ?_) (fun cdv A outer s H vs Q E hr h => ?_)
  · obtain ⟨d, c, b, many, rfl, _⟩ := h
    rfl
  · obtain ⟨d, c, b, many, rfl, hS, q⟩ := h
    refine ⟨_, pss_cons (ps_if (pt_cmpR op_gt (pv 1) pe_int (nomark _)) (pss_one (ps_ret (pe_tup (pa_cons (pe_op op_sub (pe_gd GT hr (by rfl) (pa_cons (pv 0) (pa_cons pe_int pa_nil))) pe_int) (pa_cons pe_int pa_nil))))) pss_nil)
      (pss_one (ps_ret (pe_gd GN hr (by rfl) (pa_cons (pv 0) pa_nil)))), ?_⟩
    refine ⟨_, rfl, _, _, rfl, rfl, _, rfl, ite2 (fun c1 => ?_) (fun c1 => ?_)⟩
    · have c1' : ((many : Nat) : Int) > 6 := of_decide_eq_true c1
      refine ⟨_, rfl, d, c, b + 4, 9, rfl, hS, by decide, fun H2 r k2 S2 r0 r1 => ?_⟩
      refine ⟨_, _, rfl, rfl, (by show 2 ≤ sizeLine; decide), fun p hp => ?_⟩
      have s3 := same_upd (o := .tup [.int (r - 4), .int 1]) hp
      refine q _ _ ((r - 4 : Int) : Rat) (k2.trans (Keep.of s3)) ((S2.same s3).mono (by omega)) (num_int (.inl (.inl upd_same))) ?_
      unfold anyA anyD
      rw [if_pos (by omega), if_pos (by omega)]
      exact numOK_int _ (by omega)
    · have c1' : ¬ ((many : Nat) : Int) > 6 := fun z => c1 (decide_eq_true z)
      refine ⟨_, rfl, d, c, b, rfl, hS, fun H2 v x k2 S2 hv ok => q _ _ x k2 S2 hv ?_⟩
      unfold anyA anyD
      rw [if_neg (by omega), if_neg (by omega)]
      exact ok
theorem gd_two (B : Bi mg) (a : At K mg "_law_two_polys" sTwo) (GT : Gd P w K mg base "_law_take" k ["_law_state", "_law_many"] (spTake K)) (GN : Gd P w K mg base "_law_number" k ["_law_state"] (spNumR K)) (GS : Gd P w K mg base "_law_small" k ["_law_state"] (spSmall K))
    (GL : Gd P w K mg base "_law_trimmed" k ["_law_numbers"] (spLTrim K)) : Gd P w K mg base "_law_two_polys" (k + 1) ["_law_state", "_law_a", "_law_b"] (spTwo K) := by
  obtain ⟨f, fd, F, g⟩ := a.ex
  refine ⟨f, fd, ?_, g, F.kp, F.binds fun _ _ _ _ _ _ us hl => match us, hl with | [_, _, _], _ => rfl⟩
  refine F.ok scTwo (fun vs H Q E h => ?_) (fun cdv A outer s H vs Q E hr h => ?_)
  · obtain ⟨d, c, bu, a, b, rfl, _⟩ := h
    rfl
  · obtain ⟨d, c, bu, a, b, rfl, hS, ha1, hb1, q⟩ := h
    refine ⟨_, pss_cons (ps_set (i := 3) scTwo.nd rfl (.inl rfl) (pe_op op_cat (pe_lc (own := [("_law_k", 5)]) (g := gName 5) (tt := tYes)
          (te := tIf (tTest (tOp (rI0 fun i j => .bl (decide (i < j))) (tVar 5) (tC (.int 2)))) (tCall (spNumR K) [] E0 (tCons (tVar 0) tNil)) (tTup (tCons (tOp (rI0 fun i j => .int (i - j)) (tCall (spTake K) [] E0 (tCons (tVar 0) (tCons (tC (.int 7)) tNil))) (tC (.int 3))) (tCons (tC (.int 1)) tNil))))
          rfl scTwo.nd (pi_range1 (by rfl) B.range (pa_cons (pv 1) pa_nil)) (blkOk_by (N := ["_law_state", "_law_a", "_law_b", "_law_top", "_law_below", "_law_k"]) (sc := defScope sTwo) (by decide +kernel))
          (fun _ _ _ _ _ => pg_name (i := 5) scTwo.nd rfl (.inl rfl)) (fun _ _ _ _ _ => pts_nil)
          (fun _ _ _ _ _ => pe_ifExp (pt_cmpR op_lt (pv 5) pe_int (nomark _)) (pe_gd GN hr (by rfl) (pa_cons (pv 0) pa_nil)) (pe_tup (pa_cons (pe_op op_sub (pe_gd GT hr (by rfl) (pa_cons (pv 0) (pa_cons pe_int pa_nil))) pe_int) (pa_cons pe_int pa_nil)))))
        (pe_lst (pa_cons (pe_gd GS hr (by rfl) (pa_cons (pv 0) pa_nil)) pa_nil))))
      (pss_cons (ps_set (i := 4) scTwo.nd rfl (.inl rfl) (pe_op op_cat (pe_lst (pa_cons (pe_tup (pa_cons pe_int (pa_cons pe_int pa_nil))) pa_nil)) (pe_lc (own := [("_law_k", 5)]) (g := gName 5) (tt := tYes)
          (te := tTup (tCons (tOp (rI0 fun i j => .int (i - j)) (tCall (spTake K) [] E0 (tCons (tVar 0) (tCons (tC (.int 5)) tNil))) (tC (.int 2))) (tCons (tC (.int 1)) tNil)))
          rfl scTwo.nd (pi_range1 (by rfl) B.range (pa_cons (pe_op op_sub (pv 2) pe_int) pa_nil)) (blkOk_by (N := ["_law_state", "_law_a", "_law_b", "_law_top", "_law_below", "_law_k"]) (sc := defScope sTwo) (by decide +kernel))
          (fun _ _ _ _ _ => pg_name (i := 5) scTwo.nd rfl (.inl rfl)) (fun _ _ _ _ _ => pts_nil)
          (fun _ _ _ _ _ => pe_tup (pa_cons (pe_op op_sub (pe_gd GT hr (by rfl) (pa_cons (pv 0) (pa_cons pe_int pa_nil))) pe_int) (pa_cons pe_int pa_nil))))))
      (pss_one (ps_ret (pe_tup (pa_cons (pe_gd GL hr (by rfl) (pa_cons (pv 3) pa_nil)) (pa_cons (pe_callTy call_tuple_of (by rfl) B.tuple b_tuple (pa_cons (pe_op op_cat (pv 4) (pe_op op_rep (pe_lst (pa_cons (pe_gd GS hr (by rfl) (pa_cons (pv 0) pa_nil)) pa_nil)) (pe_callTy call_int1 (by rfl) B.int b_int (pa_cons (pe_cmpR op_gt (pv 2) pe_int (nomark _)) pa_nil)))) pa_nil)) pa_nil)))))), ?_⟩
    refine ⟨_, rfl, _, rfl, by omega, by omega, fun D hD => ?_⟩
    rw [Int.toNat_natCast]
    have nD := hS.new hD
    refine lc_rng0 (fun i H2 => Keep [d, c] H H2 ∧ StAt H2 d c (bu + 5 * (a - i) + b + 4) ∧ ∃ ys F, H2 D = some (.lst ys) ∧ Items K H2 ys i F ∧ ∀ j, j < i → NumOK (F j) 1000000000 1000000 ∧ (2 ≤ j → NumOK (F j) 3 2))
      ⟨Keep.of (same_upd hD), (hS.same (same_upd hD)).mono (by omega), [], fun _ => 0, upd_same, .nil, fun j hj => absurd hj (Nat.not_lt_zero _)⟩ ?_ ?_
    · rintro i H2 hi ⟨k2, S2, ys, F, hd, hy, hF⟩
      have push : ∀ H3 v x, Keep [d, c] H2 H3 → StAt H3 d c (bu + 5 * (a - (i + 1)) + b + 4) → NumAt K H3 v x → NumOK x 1000000000 1000000 → (2 ≤ i → NumOK x 3 2) →
          ∃ acc, H3 D = some (.lst acc) ∧ acc.length < sizeLine ∧ Keep [d, c] H (upd H3 D (.lst (acc ++ [v]))) ∧ StAt (upd H3 D (.lst (acc ++ [v]))) d c (bu + 5 * (a - (i + 1)) + b + 4) ∧ ∃ ys F, upd H3 D (.lst (acc ++ [v])) D = some (.lst ys) ∧ Items K (upd H3 D (.lst (acc ++ [v]))) ys (i + 1) F ∧ ∀ j, j < i + 1 → NumOK (F j) 1000000000 1000000 ∧ (2 ≤ j → NumOK (F j) 3 2) := fun H3 v x k3 S3 hv o1 o2 => by
        have hd3 := S2.lst k3 hd nD.2 nD.1
        have tx := S2.text k3
        refine ⟨ys, hd3, ?_, (k2.trans k3).updN2 hD, S3.updL nD.1 nD.2, _, _, upd_same, items_more ((hy.ext tx).ext (TExt.upd hd3)) (hv.ext (TExt.upd hd3)), fun j hj => ?_⟩
        · rw [hy.len]
          exact small1000 (by omega)
        by_cases e : j = i
        · rw [if_pos e]
          exact ⟨o1, fun h => o2 (by omega)⟩
        · rw [if_neg e]
          exact hF j (by omega)
      refine ⟨rfl, lc_yes ?_⟩
      refine ⟨_, rfl, _, _, rfl, rfl, _, rfl, ite2 (fun c1 => ?_) (fun c1 => ?_)⟩
      · have c1' : ((i : Nat) : Int) < 2 := of_decide_eq_true c1
        refine ⟨_, rfl, d, c, bu + 5 * (a - (i + 1)) + b + 4, rfl, S2.mono (by omega), fun H3 v x k3 S3 hv ok => push H3 v x k3 S3 hv ok (fun h => by omega)⟩
      · refine ⟨_, rfl, d, c, bu + 5 * (a - (i + 1)) + b + 4, 7, rfl, S2.mono (by omega), by decide, fun H3 r k3 S3 r0 r1 => ?_⟩
        refine ⟨_, _, rfl, rfl, (by show 2 ≤ sizeLine; decide), fun t ht => ?_⟩
        have s4 := same_upd (o := .tup [.int (r - 3), .int 1]) ht
        exact push _ _ ((r - 3 : Int) : Rat) (k3.trans (Keep.of s4)) (S3.same s4) (num_int (.inl (.inl upd_same))) ((numOK_int (A := 3) _ (by omega)).mono (by decide) (by decide)) (fun _ => (numOK_int (A := 3) _ (by omega)).mono (by decide) (by decide))
    rintro H2 ⟨k2, S2, ys, F, hd, hy, hF⟩
    rw [Nat.sub_self] at S2
    refine ⟨_, rfl, d, c, bu + b + 2, rfl, S2.mono (by omega), fun H3 v x k3 S3 hv ok3 nz3 => ⟨(by show 1 ≤ sizeLine; decide), fun l2 hl2 => ?_⟩⟩
    have hd3 := S2.lst k3 hd nD.2 nD.1
    have tx := S2.text k3
    have s4 := same_upd (o := .lst [v]) hl2
    refine ⟨D, l2, ys, [v], rfl, rfl, s4 _ _ hd3, upd_same, ?_, fun p hp => ?_⟩
    · rw [hy.len]
      exact small1 (by show a + 1 ≤ 1000; omega)
    have s5 := s4.new (o := .lst (ys ++ [v])) hp
    have S5 := S3.same s5
    have nP := (S3.same s4).new hp
    have k5 : Keep [d, c] H _ := k2.trans (k3.trans (Keep.of s5))
    have hI5 : Items K (upd (upd H3 l2 (.lst [v])) p (.lst (ys ++ [v]))) (ys ++ [v]) (a + 1) (fun j => if j = a then x else F j) := items_more ((hy.ext tx).ext s5.text) (hv.ext s5.text)
    have hP5 : upd (upd H3 l2 (.lst [v])) p (.lst (ys ++ [v])) p = some (.lst (ys ++ [v])) := upd_same
    generalize upd (upd H3 l2 (.lst [v])) p (.lst (ys ++ [v])) = H5 at S5 k5 hI5 hP5
    generalize ys ++ [v] = zs at hI5 hP5
    have hF5 : ∀ j, j < a + 1 → NumOK ((fun j => if j = a then x else F j) j) 1000000000 1000000 ∧ (2 ≤ j → NumOK ((fun j => if j = a then x else F j) j) 3 2) := fun j hj => by
      by_cases e : j = a
      · show NumOK (if j = a then x else F j) _ _ ∧ (2 ≤ j → NumOK (if j = a then x else F j) 3 2)
        rw [if_pos e]
        exact ⟨ok3.mono (by decide) (by decide), fun _ => ok3⟩
      · show NumOK (if j = a then x else F j) _ _ ∧ (2 ≤ j → NumOK (if j = a then x else F j) 3 2)
        rw [if_neg e]
        exact hF j (by omega)
    generalize (fun j => if j = a then x else F j) = F5 at hI5 hF5
    -- below
    refine ⟨(by show 2 ≤ sizeLine; decide), fun t1 ht1 => ⟨(by show 1 ≤ sizeLine; decide), fun l6 hl6 => ?_⟩⟩
    have s6 := (same_upd (o := .tup [.int 1, .int 1]) ht1).new (o := .lst [.ref t1]) hl6
    have h1t : NumAt K (upd (upd H5 t1 (.tup [.int 1, .int 1])) l6 (.lst [.ref t1])) (.ref t1) ((1 : Int) : Rat) := num_int ((same_upd hl6).seqT (.inl (.inl upd_same)))
    have S6 := S5.same s6
    have nL6 := (S5.same (same_upd (o := .tup [.int 1, .int 1]) ht1)).new hl6
    have hL6 : upd (upd H5 t1 (.tup [.int 1, .int 1])) l6 (.lst [.ref t1]) l6 = some (.lst [.ref t1]) := upd_same
    generalize upd (upd H5 t1 (.tup [.int 1, .int 1])) l6 (.lst [.ref t1]) = H6 at s6 h1t S6 hL6
    refine ⟨_, rfl, _, _, rfl, rfl, _, rfl, by omega, by omega, fun D7 hD7 => ?_⟩
    rw [show ((b : Int) - 1).toNat = b - 1 by omega]
    have nD7 := S6.new hD7
    refine lc_rng0 (fun i H2 => Keep [d, c] H6 H2 ∧ StAt H2 d c (bu + (b - 1 - i) + 2) ∧ ∃ ys G, H2 D7 = some (.lst ys) ∧ Items K H2 ys i G ∧ ∀ j, j < i → NumOK (G j) 2 1)
      ⟨Keep.of (same_upd hD7), (S6.same (same_upd hD7)).mono (by omega), [], fun _ => 0, upd_same, .nil, fun j hj => absurd hj (Nat.not_lt_zero _)⟩ ?_ ?_
    · rintro i H7 hi ⟨k7, S7, ys, G, hd7, hy7, hG⟩
      refine ⟨rfl, lc_yes ?_⟩
      refine ⟨_, rfl, d, c, bu + (b - 1 - (i + 1)) + 2, 5, rfl, S7.mono (by omega), by decide, fun H8 r k8 S8 r0 r1 => ?_⟩
      refine ⟨_, _, rfl, rfl, (by show 2 ≤ sizeLine; decide), fun t ht => ?_⟩
      have s9 := same_upd (o := .tup [.int (r - 2), .int 1]) ht
      have k9 := k8.trans (Keep.of s9)
      have hd9 := S7.lst k9 hd7 nD7.2 nD7.1
      have tx9 := S7.text k9
      have hv9 : NumAt K (upd H8 t (.tup [.int (r - 2), .int 1])) (.ref t) ((r - 2 : Int) : Rat) := num_int (.inl (.inl upd_same))
      refine ⟨ys, hd9, ?_, (k7.trans k9).updN2 hD7, (S8.same s9).updL nD7.1 nD7.2, _, _, upd_same, items_more ((hy7.ext tx9).ext (TExt.upd hd9)) (hv9.ext (TExt.upd hd9)), fun j hj => ?_⟩
      · rw [hy7.len]
        exact small1000 (by omega)
      by_cases e : j = i
      · rw [if_pos e]
        exact numOK_int _ (by omega)
      · rw [if_neg e]
        exact hG j (by omega)
    rintro H7 ⟨k7, S7, ys7, G, hd7, hy7, hG⟩
    rw [Nat.sub_self] at S7
    have hL7 := S6.lst k7 hL6 nL6.2 nL6.1
    have tx67 := S6.text k7
    refine ⟨l6, D7, [.ref t1], ys7, rfl, rfl, hL7, hd7, ?_, fun p8 hp8 => ?_⟩
    · rw [hy7.len]
      exact small1 (by show 1 + (b - 1) ≤ 1000; omega)
    have s8 := same_upd (o := .lst ([.ref t1] ++ ys7)) hp8
    have S8 := S7.same s8
    have nP8 := S7.new hp8
    have k58 : Keep [d, c] H5 _ := (Keep.of s6).trans (k7.trans (Keep.of s8))
    have hP8 : upd H7 p8 (.lst ([.ref t1] ++ ys7)) p8 = some (.lst ([.ref t1] ++ ys7)) := upd_same
    have hI8 : Items K (upd H7 p8 (.lst ([.ref t1] ++ ys7))) ([.ref t1] ++ ys7) (b - 1 + 1) (fun j => if j = 0 then ((1 : Int) : Rat) else G (j - 1)) := by
      refine ⟨by rw [List.length_append, hy7.len]; simp; omega, fun j hj => ?_⟩
      cases j with
      | zero => exact ⟨.ref t1, rfl, (h1t.ext tx67).ext s8.text⟩
      | succ j =>
        obtain ⟨u, eu, hu⟩ := (hy7.ext s8.text).at_ j (by omega)
        exact ⟨u, eu, hu⟩
    have hP58 := S5.lst k58 hP5 nP.2 nP.1
    have tx58 := S5.text k58
    generalize upd H7 p8 (.lst ([.ref t1] ++ ys7)) = H8 at S8 k58 hP8 hI8 hP58 tx58
    generalize [V.ref t1] ++ ys7 = ws at hP8 hI8
    have k8 := k5.trans k58
    -- trimmed
    have lf : Lt (⟨fun j => if j < a + 1 then F5 j else 0⟩ : Ser) (a + 1) := fun j hj => by
      show (if j < a + 1 then F5 j else 0) = 0
      rw [if_neg (by omega)]
    have num0 : ∀ {A D : Nat}, 1 ≤ D → NumOK (0 : Rat) A D := fun {A D} h => ⟨Nat.zero_le _, h⟩
    have ftop : TopOK (⟨fun j => if j < a + 1 then F5 j else 0⟩ : Ser) a := by
      refine ⟨lf, fun j => ?_, fun j hj => ?_⟩
      · show NumOK (if j < a + 1 then F5 j else 0) _ _
        by_cases e : j < a + 1
        · rw [if_pos e]
          exact (hF5 j e).1
        · rw [if_neg e]
          exact num0 (by decide)
      · show NumOK (if j < a + 1 then F5 j else 0) _ _
        by_cases e : j < a + 1
        · rw [if_pos e]
          exact ((hF5 j e).2 hj).mono (by decide) (by decide)
        · rw [if_neg e]
          exact num0 (by decide)
    refine ⟨_, rfl, _, a + 1, _, rfl, .inl ⟨p, zs, rfl, SqL.of hP58, (hI5.ext tx58).congr fun j hj => ?_⟩, by omega, lf, fun H9 v9 s9 h9 => ?_⟩
    · show F5 j = if j < a + 1 then F5 j else 0
      rw [if_pos hj]
    have S9 := S8.same s9
    refine ⟨_, rfl, _, rfl, d, c, bu, rfl, S9.mono (by omega), fun H10 v10 x10 k10 S10 hv10 ok10 nz10 => ⟨(by show 1 ≤ sizeLine; decide), fun l11 hl11 => ?_⟩⟩
    have hP10 := S9.lst k10 (s9 _ _ hP8) nP8.2 nP8.1
    have tx10 := S9.text k10
    have s11 := same_upd (o := .lst [v10]) hl11
    obtain ⟨cnt, ecnt, hc0, hc1⟩ : ∃ cnt : Nat, (if decide (((b : Nat) : Int) > 0) = true then (1 : Int) else 0) = ((cnt : Nat) : Int) ∧ (b = 0 → cnt = 0) ∧ (b ≠ 0 → cnt = 1) := by
      by_cases e : b = 0
      · exact ⟨0, by rw [decide_eq_false (by omega)]; rfl, fun _ => rfl, fun z => absurd e z⟩
      · exact ⟨1, by rw [decide_eq_true (by omega)]; rfl, fun z => absurd z e, fun _ => rfl⟩
    have hcle : cnt ≤ 1 := by
      by_cases e : b = 0
      · rw [hc0 e]; decide
      · rw [hc1 e]; decide
    refine ⟨_, rfl, _, _, rfl, rfl, .inr ⟨_, rfl, ?_⟩⟩
    refine (show rRep (.ref l11) (.int (if decide (((b : Nat) : Int) > 0) = true then (1 : Int) else 0)) _ _ from ?_)
    rw [ecnt]
    refine ⟨l11, _, [v10], rfl, rfl, upd_same, by omega, by omega, ?_, fun p12 hp12 => ?_⟩
    · rw [Int.toNat_natCast]
      exact small1 (by rw [List.length_singleton]; omega)
    rw [Int.toNat_natCast, rep_flat]
    have s12 := s11.new (o := .lst (List.replicate cnt v10)) hp12
    refine ⟨p8, p12, ws, _, rfl, rfl, s12 _ _ hP10, upd_same, ?_, fun p13 hp13 => ?_⟩
    · rw [hI8.len, List.length_replicate]
      exact small1 (by omega)
    have s13 := s12.new (o := .lst (ws ++ List.replicate cnt v10)) hp13
    refine ⟨p13, _, rfl, .inl ⟨SqL.of upd_same, fun t14 ht14 => ⟨(by show 2 ≤ sizeLine; decide), fun t15 ht15 => ?_⟩⟩⟩
    have s14 := s13.new (o := .tup (ws ++ List.replicate cnt v10)) ht14
    have s15 := s14.new (o := .tup [v9, .ref t14]) ht15
    have t14e : upd (upd (upd (upd (upd H10 l11 (.lst [v10])) p12 (.lst (List.replicate cnt v10))) p13 (.lst (ws ++ List.replicate cnt v10))) t14 (.tup (ws ++ List.replicate cnt v10))) t15 (.tup [v9, .ref t14]) t14 = some (.tup (ws ++ List.replicate cnt v10)) := same_upd ht15 _ _ upd_same
    have k15 : Keep [d, c] H _ := k8.trans ((Keep.of s9).trans (k10.trans (Keep.of s15)))
    have tx915 := tx10.trans s15.text
    -- the below
    have hI15 : Items K _ ws (b - 1 + 1) (fun j => if j = 0 then ((1 : Int) : Rat) else G (j - 1)) := (hI8.ext s9.text).ext tx915
    have S15 := S10.same s15
    have hv15 := hv10.ext s15.text
    have h15 : upd (upd (upd (upd (upd H10 l11 (.lst [v10])) p12 (.lst (List.replicate cnt v10))) p13 (.lst (ws ++ List.replicate cnt v10))) t14 (.tup (ws ++ List.replicate cnt v10))) t15 (.tup [v9, .ref t14]) t15 = some (.tup [v9, .ref t14]) := upd_same
    generalize upd (upd (upd (upd (upd H10 l11 (.lst [v10])) p12 (.lst (List.replicate cnt v10))) p13 (.lst (ws ++ List.replicate cnt v10))) t14 (.tup (ws ++ List.replicate cnt v10))) t15 (.tup [v9, .ref t14]) = HF at k15 t14e hI15 tx915 S15 h15 hv15
    by_cases hb : b = 0
    · rw [hc0 hb, show List.replicate 0 v10 = [] from rfl, List.append_nil] at t14e
      subst hb
      refine q _ _ v9 (.ref t14) _ (1 : Ser) k15 S15 ⟨t15, rfl, .inl (.inl h15)⟩ (h9.ext tx915) ⟨1, ⟨t14, ws, rfl, .inl (.inl t14e), hI15.congr fun j hj => ?_⟩, FQ.IsLen.one⟩ ftop ⟨FQ.IsLen.one, rfl, fun k => ?_, fun k hk => by omega⟩
      · have : j = 0 := by omega
        subst this
        rfl
      · show NumOK (if k = 0 then 1 else 0) 3 2
        by_cases e : k = 0
        · rw [if_pos e]
          exact ⟨by decide, by decide⟩
        · rw [if_neg e]
          exact num0 (by decide)
    · rw [hc1 hb, show List.replicate 1 v10 = [v10] from rfl] at t14e
      have hI16 := items_more hI15 hv15
      have lg : IsLen (⟨fun j => if j = b then x10 else if j = 0 then 1 else if j < b then G (j - 1) else 0⟩ : Ser) (b + 1) := by
        refine ⟨fun j hj => ?_, .inr ?_⟩
        · show (if j = b then x10 else if j = 0 then 1 else if j < b then G (j - 1) else 0) = 0
          rw [if_neg (by omega), if_neg (by omega), if_neg (by omega)]
        · show (if b + 1 - 1 = b then x10 else if b + 1 - 1 = 0 then 1 else if b + 1 - 1 < b then G (b + 1 - 1 - 1) else 0) ≠ 0
          rw [if_pos (by omega)]
          exact nz10
      refine q _ _ v9 (.ref t14) _ (⟨fun j => if j = b then x10 else if j = 0 then 1 else if j < b then G (j - 1) else 0⟩ : Ser) k15 S15 ⟨t15, rfl, .inl (.inl h15)⟩ (h9.ext tx915) ⟨b + 1, ⟨t14, ws ++ [v10], rfl, .inl (.inl t14e), ?_⟩, lg⟩ ftop ⟨lg, ?_, fun k => ?_, fun k hk => ?_⟩
      · rw [show b - 1 + 1 = b by omega] at hI16
        refine hI16.congr fun j hj => ?_
        show (if j = b then x10 else (if j = 0 then ((1 : Int) : Rat) else G (j - 1))) = (if j = b then x10 else if j = 0 then 1 else if j < b then G (j - 1) else 0)
        by_cases e : j = b
        · rw [if_pos e, if_pos e]
        · rw [if_neg e, if_neg e]
          by_cases e0 : j = 0
          · rw [if_pos e0, if_pos e0]
            rfl
          · rw [if_neg e0, if_neg e0, if_pos (by omega)]
      · show (if 0 = b then x10 else if 0 = 0 then 1 else if 0 < b then G (0 - 1) else 0) = 1
        rw [if_neg (by omega), if_pos rfl]
      · show NumOK (if k = b then x10 else if k = 0 then 1 else if k < b then G (k - 1) else 0) 3 2
        by_cases e : k = b
        · rw [if_pos e]
          exact ok10
        · rw [if_neg e]
          by_cases e0 : k = 0
          · rw [if_pos e0]
            exact ⟨by decide, by decide⟩
          · rw [if_neg e0]
            by_cases e1 : k < b
            · rw [if_pos e1]
              exact (hG _ (by omega)).mono (by decide) (by decide)
            · rw [if_neg e1]
              exact num0 (by decide)
      · show (if k = b then x10 else if k = 0 then 1 else if k < b then G (k - 1) else 0).den = 1
        rw [if_neg (by omega)]
        by_cases e0 : k = 0
        · rw [if_pos e0]
          rfl
        · rw [if_neg e0, if_pos hk]
          have h1 := (hG (k - 1) (by omega)).d
          have h2 := (G (k - 1)).den_pos
          omega
end
end L2.FW
end
section
set_option Elab.async false
set_option linter.all false
set_option maxRecDepth 100000
set_option pp.maxSteps 300
namespace L2.FW
open PySem PySem.Spec PyProof.Rows
open FQ (Fit BB BB_eq FitP Ser IsLen Lt rowB)
/-! ### row -/
abbrev sRow : Stmt := topS 80
abbrev nRow : List Str := ["_law_state", "_law_many", "_law_way", "_law_ahead", "_law_row_here", "_law_turn", "_law_top", "_law_below", "_law_spot", "_law_k", "_law_part_here"]
theorem scRow : FnScope nRow ["_law_state", "_law_many"] (defScope sRow) := ⟨rfl, rfl, rfl, by decide +kernel, rfl, by decide +kernel, by decide +kernel⟩
inductive RowCls (many : Nat) (r : Nat → Rat) : Prop
  | any (h : ∀ i, i < many → NumOK (r i) (anyA many) (anyD many))
  | few (h : ∀ i, i < many → NumOK (r i) 3 2)
  | ser (f g : Ser) (a b : Nat) (s : Nat → Rat) (hf : TopOK f a) (hi : 6 < many → ∀ k, NumOK (f k) 4 1) (hg : BelOK g b) (ha : a ≤ many / 2) (hb : b ≤ many / 3) (hs : LserOK f g b many s) (h : ∀ i, i < many → ∃ e, NumOK e 3 2 ∧ r i = s i + e)
def spRow (K : PySem.W.Frag) : Sp := fun vs H Q _ => ∃ d c b many, vs = [.ref d, .int ((many : Nat) : Int)] ∧ StAt H d c (b + 400) ∧ 1 ≤ many ∧ many ≤ 18 ∧ ∀ H' v r, Keep [d, c] H H' → StAt H' d c b → LsAt K H' v many r → RowCls many r → Q v H'
theorem fit_ok {x : Rat} {A D : Nat} (h : NumOK x A D) (hA : A < 2 ^ 64) (hD : D < 2 ^ 64) : Fit x := by
  have e : (2 : Nat) ^ 64 ≤ 2 ^ BB := Nat.pow_le_pow_right (by decide) (by rw [BB_eq]; decide)
  exact ⟨Nat.lt_of_lt_of_le (Nat.lt_of_le_of_lt h.n hA) e, Nat.lt_of_lt_of_le (Nat.lt_of_le_of_lt h.d hD) e⟩
section
variable {P : Program} {w : World} {K : PySem.W.Frag} {mg : Str → Option Value} {base : Heap} {k : Nat}
theorem gd_row (LS : ∀ (f g : Ser) (a b many : Nat), many ≤ 18 → TopOK f a → BelOK g b → a ≤ many → b ≤ many → ∃ s, LserOK f g b many s) (B : Bi mg) (a : At K mg "_law_row" sRow) (GT : Gd P w K mg base "_law_take" k ["_law_state", "_law_many"] (spTake K))
    (GA : Gd P w K mg base "_law_any" k ["_law_state", "_law_many"] (spAny K)) (GS : Gd P w K mg base "_law_small" k ["_law_state"] (spSmall K)) (G2 : Gd P w K mg base "_law_two_polys" k ["_law_state", "_law_a", "_law_b"] (spTwo K))
    (GL : Gd P w K mg base "_law_trimmed" k ["_law_numbers"] (spLTrim K)) (GR : Gd P w K mg base "_law_series" k ["_law_top", "_law_below", "_law_many"] (spSeries K)) (GP : Gd P w K mg base "_law_plus" k ["_law_one", "_law_other"] (spL2 K fun x y => x + y)) :
    Gd P w K mg base "_law_row" (k + 1) ["_law_state", "_law_many"] (spRow K) := by
  obtain ⟨f, fd, F, g⟩ := a.ex
  refine ⟨f, fd, ?_, g, F.kp, F.binds fun _ _ _ _ _ _ us hl => match us, hl with | [_, _], _ => rfl⟩
  refine F.ok scRow (fun vs H Q E h => ?_) (fun cdv A outer s H vs Q E hr h => ?_)
  · obtain ⟨d, c, b, many, rfl, _⟩ := h
    rfl
  · obtain ⟨d, c, b, many, rfl, hS, m1, m18, q⟩ := h
    refine ⟨_, pss_cons (ps_set (i := 2) scRow.nd rfl (.inl rfl) (pe_gd GT hr (by rfl) (pa_cons (pv 0) (pa_cons pe_int pa_nil))))
      (pss_cons (ps_if (pt_cmpR op_lt (pv 2) pe_int (nomark _)) (pss_one (ps_ret (pe_lc (own := [("_law_k", 9)]) (g := gName 9) (tt := tYes)
          (te := tCall (spAny K) [] E0 (tCons (tVar 0) (tCons (tVar 1) tNil)))
          rfl scRow.nd (pi_range1 (by rfl) B.range (pa_cons (pv 1) pa_nil)) (blkOk_by (N := nRow) (sc := defScope sRow) (by decide +kernel))
          (fun _ _ _ _ _ => pg_name (i := 9) scRow.nd rfl (.inl rfl)) (fun _ _ _ _ _ => pts_nil)
          (fun _ _ _ _ _ => pe_gd GA hr (by rfl) (pa_cons (pv 0) (pa_cons (pv 1) pa_nil)))))) pss_nil)
      (pss_cons (ps_if (pt_cmpR op_eq (pv 2) pe_int (nomark _)) (pss_cons (ps_set (i := 3) scRow.nd rfl (.inl rfl) (pe_gd GT hr (by rfl) (pa_cons (pv 0) (pa_cons (pe_op op_add (pv 1) pe_int) pa_nil))))
          (pss_one (ps_ret (pe_op op_cat (pe_op op_rep (pe_lst (pa_cons (pe_tup (pa_cons pe_int (pa_cons pe_int pa_nil))) pa_nil)) (pv 3)) (pe_lc (own := [("_law_k", 9)]) (g := gName 9) (tt := tYes)
          (te := tCall (spAny K) [] E0 (tCons (tVar 0) (tCons (tVar 1) tNil)))
          rfl scRow.nd (pi_range1 (by rfl) B.range (pa_cons (pe_op op_sub (pv 1) (pv 3)) pa_nil)) (blkOk_by (N := nRow) (sc := defScope sRow) (by decide +kernel))
          (fun _ _ _ _ _ => pg_name (i := 9) scRow.nd rfl (.inl rfl)) (fun _ _ _ _ _ => pts_nil)
          (fun _ _ _ _ _ => pe_gd GA hr (by rfl) (pa_cons (pv 0) (pa_cons (pv 1) pa_nil)))))))) pss_nil)
      (pss_cons (ps_if (pt_cmpR op_eq (pv 2) pe_int (nomark _)) (pss_cons (ps_set (i := 4) scRow.nd rfl (.inl rfl) (pe_op op_rep (pe_lst (pa_cons (pe_tup (pa_cons pe_int (pa_cons pe_int pa_nil))) pa_nil)) (pv 1)))
          (pss_cons (ps_for PassesOwn.never rfl (pi_range1 (by rfl) B.range (pa_cons (pe_gd GT hr (by rfl) (pa_cons (pv 0) (pa_cons pe_int pa_nil))) pa_nil)) (pg_name (i := 5) scRow.nd rfl (.inl rfl))
            (pss_one (ps_asg (pe_gd GS hr (by rfl) (pa_cons (pv 0) pa_nil)) (pg_sub (pv 4) (pe_gd GT hr (by rfl) (pa_cons (pv 0) (pa_cons (pv 1) pa_nil))) set_list))))
          (pss_one (ps_ret (pv 4))))) pss_nil)
      (pss_cons (ps_asg (pe_gd G2 hr (by rfl) (pa_cons (pv 0) (pa_cons (pe_gd GT hr (by rfl) (pa_cons (pv 0) (pa_cons (pe_op op_add pe_int (pe_op op_fdiv (pv 1) pe_int)) pa_nil))) (pa_cons (pe_gd GT hr (by rfl) (pa_cons (pv 0) (pa_cons (pe_op op_add pe_int (pe_op op_fdiv (pv 1) pe_int)) pa_nil))) pa_nil))))
          (pg_tup rfl (pgs_cons (pg_name (i := 6) scRow.nd rfl (.inl rfl)) (pgs_cons (pg_name (i := 7) scRow.nd rfl (.inl rfl)) pgs_nil))))
      (pss_cons (ps_if (pt_cmpR op_gt (pv 1) pe_int (nomark _)) (pss_one (ps_set (i := 6) scRow.nd rfl (.inl rfl) (pe_gd GL hr (by rfl) (pa_cons (pe_lc (own := [("_law_part_here", 10)]) (g := gName 10) (tt := tYes)
          (te := tTup (tCons (tOp (rI0 fun i j => .int (i - j)) (tOp (rI (fun _ j => 0 < j) fun i j => .int (i % j)) (tOp (rIxT K) (tVar 10) (tC (.int 0))) (tC (.int 9))) (tC (.int 4))) (tCons (tC (.int 1)) tNil)))
          rfl scRow.nd (pi_tup (pv 6)) (blkOk_by (N := nRow) (sc := defScope sRow) (by decide +kernel))
          (fun _ _ _ _ _ => pg_name (i := 10) scRow.nd rfl (.inl rfl)) (fun _ _ _ _ _ => pts_nil)
          (fun _ _ _ _ _ => pe_tup (pa_cons (pe_op op_sub (pe_op op_mod (pe_ix ix_tup (pv 10) pe_int (fun _ _ => rfl)) pe_int) pe_int) (pa_cons pe_int pa_nil)))) pa_nil)))) pss_nil)
      (pss_cons (ps_set (i := 4) scRow.nd rfl (.inl rfl) (pe_gd GR hr (by rfl) (pa_cons (pv 6) (pa_cons (pv 7) (pa_cons (pv 1) pa_nil)))))
      (pss_cons (ps_if (pt_cmpR op_gt (pv 2) pe_int (nomark _)) (pss_cons (ps_set (i := 8) scRow.nd rfl (.inl rfl) (pe_gd GT hr (by rfl) (pa_cons (pv 0) (pa_cons (pv 1) pa_nil))))
          (pss_one (ps_asg (pe_gd GP hr (by rfl) (pa_cons (pe_ix ix_list (pv 4) (pv 8) (fun _ _ => rfl)) (pa_cons (pe_gd GS hr (by rfl) (pa_cons (pv 0) pa_nil)) pa_nil))) (pg_sub (pv 4) (pv 8) set_list)))) pss_nil)
      (pss_one (ps_ret (pv 4)))))))))), ?_⟩
    refine ⟨_, rfl, d, c, b + 399, 8, rfl, hS, by decide, fun H1 way k1 S1 w0 w1 => ?_⟩
    refine ⟨_, rfl, _, _, rfl, rfl, _, rfl, ite2 (fun _ => ?_) (fun _ => ?_)⟩
    · -- any, all places
      refine ⟨_, rfl, _, rfl, by omega, by omega, fun D hD => ?_⟩
      rw [Int.toNat_natCast]
      have nD := S1.new hD
      refine lc_rng0 (fun i H2 => Keep [d, c] H1 H2 ∧ StAt H2 d c (b + 5 * (many - i)) ∧ ∃ ys F, H2 D = some (.lst ys) ∧ Items K H2 ys i F ∧ ∀ j, j < i → NumOK (F j) (anyA many) (anyD many))
        ⟨Keep.of (same_upd hD), (S1.same (same_upd hD)).mono (by omega), [], fun _ => 0, upd_same, .nil, fun j hj => absurd hj (Nat.not_lt_zero _)⟩ ?_ ?_
      · rintro i H2 hi ⟨k2, S2, ys, F, hd, hy, hF⟩
        refine ⟨rfl, lc_yes ?_⟩
        refine ⟨_, rfl, _, rfl, d, c, b + 5 * (many - (i + 1)), many, rfl, S2.mono (by omega), fun H3 v x k3 S3 hv ok => ?_⟩
        have hd3 := S2.lst k3 hd nD.2 nD.1
        have tx := S2.text k3
        refine ⟨ys, hd3, ?_, (k2.trans k3).updN2 hD, S3.updL nD.1 nD.2, _, _, upd_same, items_more ((hy.ext tx).ext (TExt.upd hd3)) (hv.ext (TExt.upd hd3)), fun j hj => ?_⟩
        · rw [hy.len]
          exact small1000 (by omega)
        by_cases e : j = i
        · rw [if_pos e]
          exact ok
        · rw [if_neg e]
          exact hF j (by omega)
      · rintro H2 ⟨k2, S2, ys, F, hd, hy, hF⟩
        exact q _ _ F (k1.trans k2) (S2.mono (by omega)) ⟨D, ys, rfl, SqL.of hd, hy⟩ (.any hF)
    refine ⟨_, rfl, rfl, _, rfl, ite2 (fun _ => ?_) (fun _ => ?_)⟩
    · -- noughts, then any
      refine ⟨_, rfl, _, rfl, _, _, rfl, rfl, d, c, b + 398, _, rfl, S1, ?_, fun H2 ah k2 S2 a0 a1 => ?_⟩
      · show (0 : Int) < (many : Int) + 1
        omega
      replace a1 : ah < (many : Int) + 1 := a1
      obtain ⟨na, rfl⟩ : ∃ na : Nat, ah = ((na : Nat) : Int) := ⟨ah.toNat, by omega⟩
      refine ⟨(by show 2 ≤ sizeLine; decide), fun t3 ht3 => ⟨(by show 1 ≤ sizeLine; decide), fun l3 hl3 => ?_⟩⟩
      have s3 := (same_upd (o := .tup [.int 0, .int 1]) ht3).new (o := .lst [.ref t3]) hl3
      have hz3 : NumAt K (upd (upd H2 t3 (.tup [.int 0, .int 1])) l3 (.lst [.ref t3])) (.ref t3) ((0 : Int) : Rat) := num_int ((same_upd hl3).seqT (.inl (.inl upd_same)))
      refine ⟨_, rfl, l3, _, [.ref t3], rfl, rfl, upd_same, by omega, by omega, ?_, fun p4 hp4 => ?_⟩
      · rw [Int.toNat_natCast]
        exact small1 (by rw [List.length_singleton]; omega)
      rw [Int.toNat_natCast, rep_flat]
      have s4 := s3.new (o := .lst (List.replicate na (.ref t3))) hp4
      have hz4 := hz3.mono (same_upd (o := .lst (List.replicate na (.ref t3))) hp4)
      have S4 := S2.same s4
      have nP := (S2.same s3).new hp4
      have hP4 : upd (upd (upd H2 t3 (.tup [.int 0, .int 1])) l3 (.lst [.ref t3])) p4 (.lst (List.replicate na (.ref t3))) p4 = some (.lst (List.replicate na (.ref t3))) := upd_same
      have k4 := k1.trans (k2.trans (Keep.of s4))
      generalize upd (upd (upd H2 t3 (.tup [.int 0, .int 1])) l3 (.lst [.ref t3])) p4 (.lst (List.replicate na (.ref t3))) = H4 at hz4 S4 hP4 k4
      refine ⟨_, rfl, _, rfl, _, _, rfl, rfl, _, rfl, by omega, by omega, fun D hD => ?_⟩
      rw [show (((many : Nat) : Int) - ((na : Nat) : Int)).toNat = many - na by omega]
      have nD := S4.new hD
      refine lc_rng0 (fun i H2 => Keep [d, c] H4 H2 ∧ StAt H2 d c (b + 5 * (many - i)) ∧ ∃ ys F, H2 D = some (.lst ys) ∧ Items K H2 ys i F ∧ ∀ j, j < i → NumOK (F j) (anyA many) (anyD many))
        ⟨Keep.of (same_upd hD), (S4.same (same_upd hD)).mono (by omega), [], fun _ => 0, upd_same, .nil, fun j hj => absurd hj (Nat.not_lt_zero _)⟩ ?_ ?_
      · rintro i H2 hi ⟨k2, S2, ys, F, hd, hy, hF⟩
        refine ⟨rfl, lc_yes ?_⟩
        refine ⟨_, rfl, _, rfl, d, c, b + 5 * (many - (i + 1)), many, rfl, S2.mono (by omega), fun H3 v x k3 S3 hv ok => ?_⟩
        have hd3 := S2.lst k3 hd nD.2 nD.1
        have tx := S2.text k3
        refine ⟨ys, hd3, ?_, (k2.trans k3).updN2 hD, S3.updL nD.1 nD.2, _, _, upd_same, items_more ((hy.ext tx).ext (TExt.upd hd3)) (hv.ext (TExt.upd hd3)), fun j hj => ?_⟩
        · rw [hy.len]
          exact small1000 (by omega)
        by_cases e : j = i
        · rw [if_pos e]
          exact ok
        · rw [if_neg e]
          exact hF j (by omega)
      · rintro H5 ⟨k5, S5, ys, F, hd, hy, hF⟩
        have hP5 := S4.lst k5 hP4 nP.2 nP.1
        have tx := S4.text k5
        refine ⟨p4, D, _, ys, rfl, rfl, hP5, hd, ?_, fun p6 hp6 => ?_⟩
        · rw [List.length_replicate, hy.len]
          exact small1 (by omega)
        have s6 := same_upd (o := .lst (List.replicate na (.ref t3) ++ ys)) hp6
        refine q _ _ (fun j => if j < na then 0 else F (j - na)) (k4.trans (k5.trans (Keep.of s6))) ((S5.same s6).mono (by omega)) ⟨p6, _, rfl, SqL.of upd_same, ⟨?_, fun j hj => ?_⟩⟩ (.any fun j hj => ?_)
        · rw [List.length_append, List.length_replicate, hy.len]
          omega
        · by_cases e : j < na
          · refine ⟨.ref t3, ?_, ?_⟩
            · rw [List.getElem?_append_left (by rw [List.length_replicate]; exact e), List.getElem?_replicate, if_pos e]
            · rw [if_pos e]
              exact (hz4.ext tx).ext s6.text
          · obtain ⟨u, eu, hu⟩ := (hy.ext s6.text).at_ (j - na) (by omega)
            refine ⟨u, ?_, ?_⟩
            · rw [List.getElem?_append_right (by rw [List.length_replicate]; omega), List.length_replicate]
              exact eu
            · rw [if_neg e]
              exact hu
        · show NumOK (if j < na then 0 else F (j - na)) _ _
          by_cases e : j < na
          · rw [if_pos e]
            refine ⟨Nat.zero_le _, ?_⟩
            unfold anyD
            split <;> decide
          · rw [if_neg e]
            exact hF _ (by omega)
    refine ⟨_, rfl, rfl, _, rfl, ite2 (fun _ => ?_) (fun _ => ?_)⟩
    · -- few
      refine ⟨(by show 2 ≤ sizeLine; decide), fun t3 ht3 => ⟨(by show 1 ≤ sizeLine; decide), fun l3 hl3 => ?_⟩⟩
      have s3 := (same_upd (o := .tup [.int 0, .int 1]) ht3).new (o := .lst [.ref t3]) hl3
      have hz3 : NumAt K (upd (upd H1 t3 (.tup [.int 0, .int 1])) l3 (.lst [.ref t3])) (.ref t3) ((0 : Int) : Rat) := num_int ((same_upd hl3).seqT (.inl (.inl upd_same)))
      refine ⟨_, rfl, l3, _, [.ref t3], rfl, rfl, upd_same, by omega, by omega, ?_, fun p4 hp4 => ?_⟩
      · rw [Int.toNat_natCast]
        exact small1 (by rw [List.length_singleton]; omega)
      rw [Int.toNat_natCast, rep_flat]
      have s4 := s3.new (o := .lst (List.replicate many (.ref t3))) hp4
      have hz4 := hz3.mono (same_upd (o := .lst (List.replicate many (.ref t3))) hp4)
      have S4 := S1.same s4
      have nP := (S1.same s3).new hp4
      have hP4 : upd (upd (upd H1 t3 (.tup [.int 0, .int 1])) l3 (.lst [.ref t3])) p4 (.lst (List.replicate many (.ref t3))) p4 = some (.lst (List.replicate many (.ref t3))) := upd_same
      have hfr : H p4 = none := by
        have hp1 : H1 p4 = none := s3.free hp4
        exact k1.free hp1 (by simp; exact S1.new hp1)
      have k4 := k1.trans (Keep.of s4)
      generalize upd (upd (upd H1 t3 (.tup [.int 0, .int 1])) l3 (.lst [.ref t3])) p4 (.lst (List.replicate many (.ref t3))) = H4 at hz4 S4 hP4 k4
      refine ⟨_, rfl, d, c, b + 398, 4, rfl, S4.mono (by omega), by decide, fun H5 rn k5 S5 r0 r1 => ?_⟩
      obtain ⟨n5, rfl⟩ : ∃ n5 : Nat, rn = ((n5 : Nat) : Int) := ⟨rn.toNat, by omega⟩
      refine ⟨_, rfl, by omega, by omega, ?_⟩
      rw [Int.toNat_natCast]
      refine for_rng0 (fun i σ H' => ∃ y5, σ = [some (.ref d), some (.int ((many : Nat) : Int)), some (.int way), none, some (.ref p4), y5, none, none, none, none, none] ∧ Keep [d, c] H H' ∧ StAt H' d c (b + 3 * (n5 - i)) ∧ ∃ zs F, H' p4 = some (.lst zs) ∧ Items K H' zs many F ∧ ∀ j, j < many → NumOK (F j) 3 2)
        ⟨none, rfl, k4.trans k5, S5.mono (by omega), _, fun _ => 0, S4.lst k5 hP4 nP.2 nP.1, Items.rep (hz4.ext (S4.text k5)), fun j hj => ⟨Nat.zero_le _, (by show 1 ≤ 2; decide)⟩⟩ ?_ ?_
      · rintro i σ H6 hi ⟨y5, rfl, k6, S6, zs, F, hp6, hI6, hF⟩
        refine ⟨_, rfl, d, c, b + 3 * (n5 - (i + 1)) + 1, rfl, S6.mono (by omega), fun H7 v x k7 S7 hv ok nz => ?_⟩
        refine ⟨_, rfl, _, rfl, _, rfl, d, c, b + 3 * (n5 - (i + 1)), many, rfl, S7, by omega, fun H8 z k8 S8 z0 z1 => ?_⟩
        have tx := (S6.text k7).trans (S7.text k8)
        have hp8 := S6.lst (k7.trans k8) hp6 nP.2 nP.1
        obtain ⟨zn, rfl⟩ : ∃ zn : Nat, z = ((zn : Nat) : Int) := ⟨z.toNat, by omega⟩
        refine ⟨p4, zs, _, zn, rfl, rfl, hp8, ixN_nat rfl (by rw [hI6.len]; omega), ?_⟩
        refine ⟨_, rfl, (k6.trans (k7.trans k8)).updN2 hfr, S8.updL nP.1 nP.2, _, fun j => if j = zn then x else F j, upd_same, Items.set ((hI6.ext tx).ext (TExt.upd hp8)) ?_ (fun j hj e => if_neg e), fun j hj => ?_⟩
        · rw [if_pos rfl]
          exact (hv.ext (S7.text k8)).ext (TExt.upd hp8)
        · show NumOK (if j = zn then x else F j) 3 2
          by_cases e : j = zn
          · rw [if_pos e]; exact ok
          · rw [if_neg e]; exact hF j hj
      · rintro σ H6 ⟨y5, rfl, k6, S6, zs, F, hp6, hI6, hF⟩
        exact ⟨_, rfl, q _ _ F k6 (S6.mono (by omega)) ⟨p4, zs, rfl, SqL.of hp6, hI6⟩ (.few hF)⟩
    refine ⟨_, rfl, _, rfl, _, rfl, _, _, rfl, rfl, ⟨by decide, by decide⟩, _, _, rfl, rfl, d, c, b + 398, _, rfl, S1, ?_, fun H2 aa k2 S2 a0 a1 => ?_⟩
    · show (0 : Int) < 1 + (many : Int) / 2
      omega
    replace a1 : aa < 1 + (many : Int) / 2 := a1
    obtain ⟨an, rfl⟩ : ∃ an : Nat, aa = ((an : Nat) : Int) := ⟨aa.toNat, by omega⟩
    refine ⟨_, rfl, _, rfl, _, _, rfl, rfl, ⟨by decide, by decide⟩, _, _, rfl, rfl, d, c, b + 397, _, rfl, S2, ?_, fun H3 bb k3 S3 b0 b1 => ?_⟩
    · show (0 : Int) < 1 + (many : Int) / 3
      omega
    replace b1 : bb < 1 + (many : Int) / 3 := b1
    obtain ⟨bn, rfl⟩ : ∃ bn : Nat, bb = ((bn : Nat) : Int) := ⟨bb.toNat, by omega⟩
    have ha : an ≤ many / 2 := by omega
    have hb : bn ≤ many / 3 := by omega
    refine ⟨d, c, b + 200, an, bn, rfl, S3.mono (by omega), by omega, by omega, fun H4 v x y f g k4 S4 ⟨pp, e4, hpp⟩ hx hy tf bg => ?_⟩
    subst e4
    refine g_pair hpp ?_
    have k14 := k1.trans (k2.trans (k3.trans k4))
    refine ⟨_, rfl, _, _, rfl, rfl, _, rfl, ite2 (fun c6 => ?_) (fun c6 => ?_)⟩
    · have c6' : ((many : Nat) : Int) > 6 := of_decide_eq_true c6
      obtain ⟨n, ⟨px, us, rfl, hpx, Ix⟩, If⟩ := id hx
      have hn := If.le tf.lt
      refine ⟨_, rfl, px, rfl, ⟨_, hpx⟩, fun D hD => ?_⟩
      refine lc_tup (K := K) (a := px) (xs := us) (fun i H'' => Same H4 H'' ∧ ∃ ys, H'' D = some (.lst ys) ∧ Items K H'' ys i fun j => (((f j).num % 9 - 4 : Int) : Rat)) ⟨same_upd hD, [], upd_same, .nil⟩ (fun i H'' _ hP => hP.1.seqT hpx) ?_ ?_
      · rintro i x H2' ex ⟨s5, ys, hd, hy'⟩
        refine ⟨rfl, lc_yes ?_⟩
        have hx' := (Ix.ext s5.text).get ex
        have hi : i < n := by
          rw [← Ix.len]
          exact (List.getElem?_eq_some_iff.mp ex).1
        obtain ⟨pn, rfl, hpn⟩ := hx'
        refine ⟨_, rfl, pn, _, 0, _, rfl, rfl, hpn, at0, _, _, rfl, rfl, (by show (0 : Int) < 9; decide), _, _, rfl, rfl, (by show 2 ≤ sizeLine; decide), fun t ht => ?_⟩
        have s6 := same_upd (o := .tup [.int ((f i).num % 9 - 4), .int 1]) ht
        have hd6 := s6 _ _ hd
        refine ⟨ys, hd6, ?_, (s5.trans s6).updN hD, ys ++ [.ref t], upd_same, ?_⟩
        · rw [hy'.len]
          exact small1000 (by omega)
        · exact ((hy'.ext s6.text).ext (TExt.upd hd6)).snoc (NumAt.ext (num_int (.inl (.inl upd_same))) (TExt.upd hd6))
      · rintro H2' ⟨s5, ys, hd, hy'⟩
        rw [Ix.len] at hy'
        have lf : Lt (⟨fun j => if j < n then (((f j).num % 9 - 4 : Int) : Rat) else 0⟩ : Ser) n := fun j hj => by
          show (if j < n then (((f j).num % 9 - 4 : Int) : Rat) else 0) = 0
          rw [if_neg (by omega)]
        have cl : ∀ j, NumOK ((⟨fun j => if j < n then (((f j).num % 9 - 4 : Int) : Rat) else 0⟩ : Ser) j) 4 1 := fun j => by
          show NumOK (if j < n then (((f j).num % 9 - 4 : Int) : Rat) else 0) 4 1
          by_cases e : j < n
          · rw [if_pos e]
            refine numOK_int _ ?_
            have := Int.emod_nonneg (f j).num (show (9 : Int) ≠ 0 by decide)
            have := Int.emod_lt_of_pos (f j).num (show (0 : Int) < 9 by decide)
            omega
          · rw [if_neg e]
            exact ⟨Nat.zero_le _, by decide⟩
        refine ⟨_, n, _, rfl, .inl ⟨D, ys, rfl, SqL.of hd, hy'.congr fun j hj => ?_⟩, by omega, lf, fun H5 x5 s6 hx5 => ?_⟩
        · show (((f j).num % 9 - 4 : Int) : Rat) = if j < n then (((f j).num % 9 - 4 : Int) : Rat) else 0
          rw [if_pos hj]
        have tf5 : TopOK (⟨fun j => if j < n then (((f j).num % 9 - 4 : Int) : Rat) else 0⟩ : Ser) an := ⟨fun j hj => lf j (by omega), fun j => (cl j).mono (by decide) (by decide), fun j _ => (cl j).mono (by decide) (by decide)⟩
        have hi5 : 6 < many → ∀ k, NumOK ((⟨fun j => if j < n then (((f j).num % 9 - 4 : Int) : Rat) else 0⟩ : Ser) k) 4 1 := fun _ => cl
        have S5 := S4.same (s5.trans s6)
        have k5 := k14.trans (Keep.of (s5.trans s6))
        have hy5 := hy.ext (s5.trans s6).text
        generalize (⟨fun j => if j < n then (((f j).num % 9 - 4 : Int) : Rat) else 0⟩ : Ser) = f5 at hx5 tf5 hi5
        obtain ⟨ser, ok⟩ := LS f5 g an bn many m18 tf5 bg (by omega) (by omega)
        refine ⟨_, rfl, _, rfl, _, rfl, x5, y, f5, g, bn, many, ser, rfl, hx5, hy5, ok, fun H6 l vs s6 hl0 hl Il => ?_⟩
        have S6 := S5.same s6
        have nL := S5.new hl0
        have hlH : H l = none := k5.free hl0 (by simp; exact nL)
        have k6 := k5.trans (Keep.of s6)
        refine ⟨_, rfl, _, _, rfl, rfl, _, rfl, ite2 (fun _ => ?_) (fun _ => ?_)⟩
        · refine ⟨_, rfl, _, rfl, d, c, b + 10, many, rfl, S6.mono (by omega), by omega, fun H7 z k7 S7 z0 z1 => ?_⟩
          obtain ⟨zn, rfl⟩ : ∃ zn : Nat, z = ((zn : Nat) : Int) := ⟨z.toNat, by omega⟩
          have hl7 := S6.lst k7 hl nL.2 nL.1
          have tx7 := S6.text k7
          obtain ⟨u, eu, hu⟩ := (Il.ext tx7).at_ zn (by omega)
          refine ⟨_, rfl, _, rfl, l, vs, _, u, rfl, rfl, SqL.of hl7, atI_nat eu, _, rfl, d, c, b, rfl, S7.mono (by omega), fun H8 v8 e8 k8 S8 hv8 ok8 nz8 => ?_⟩
          have tx8 := S7.text k8
          refine ⟨_, v8, _, _, rfl, hu.ext tx8, hv8, ok.fr _ (by omega), fit_ok ok8 (by decide) (by decide), fun H9 v9 s9 h9 => ?_⟩
          have hl9 := s9 _ _ (S7.lst k8 hl7 nL.2 nL.1)
          refine ⟨_, rfl, _, rfl, l, vs, _, zn, rfl, rfl, hl9, ixN_nat rfl (by rw [Il.len]; omega), ?_⟩
          refine ⟨_, rfl, q _ _ (fun j => if j = zn then ser j + e8 else ser j) ((k6.trans (k7.trans (k8.trans (Keep.of s9)))).updN2 hlH) ((S8.same s9).updL nL.1 nL.2) ⟨l, _, rfl, SqL.of upd_same, Items.set ((Il.ext (tx7.trans (tx8.trans s9.text))).ext (TExt.upd hl9)) ?_ (fun j hj e => if_neg e)⟩ (.ser f5 g an bn ser tf5 hi5 bg ha hb ok fun j hj => ?_)⟩
          · rw [if_pos rfl]
            exact h9.ext (TExt.upd hl9)
          · show ∃ e, NumOK e 3 2 ∧ (if j = zn then ser j + e8 else ser j) = ser j + e
            by_cases e : j = zn
            · exact ⟨e8, ok8, if_pos e⟩
            · exact ⟨0, ⟨Nat.zero_le _, by decide⟩, by rw [if_neg e]; grind⟩
        · exact ⟨_, rfl, q _ _ ser k6 (S6.mono (by omega)) ⟨l, vs, rfl, SqL.of hl, Il⟩ (.ser f5 g an bn ser tf5 hi5 bg ha hb ok fun j hj => ⟨0, ⟨Nat.zero_le _, by decide⟩, by grind⟩)⟩
    · have c6' : ¬ ((many : Nat) : Int) > 6 := fun z => c6 (decide_eq_true z)
      have tf5 := tf
      have hi5 : 6 < many → ∀ k, NumOK (f k) 4 1 := fun z => by omega
      have S5 := S4
      have k5 := k14
      have hx5 := hx
      have hy5 := hy
      obtain ⟨ser, ok⟩ := LS f g an bn many m18 tf5 bg (by omega) (by omega)
      refine ⟨_, rfl, _, rfl, _, rfl, x, y, f, g, bn, many, ser, rfl, hx5, hy5, ok, fun H6 l vs s6 hl0 hl Il => ?_⟩
      have S6 := S5.same s6
      have nL := S5.new hl0
      have hlH : H l = none := k5.free hl0 (by simp; exact nL)
      have k6 := k5.trans (Keep.of s6)
      refine ⟨_, rfl, _, _, rfl, rfl, _, rfl, ite2 (fun _ => ?_) (fun _ => ?_)⟩
      · refine ⟨_, rfl, _, rfl, d, c, b + 10, many, rfl, S6.mono (by omega), by omega, fun H7 z k7 S7 z0 z1 => ?_⟩
        obtain ⟨zn, rfl⟩ : ∃ zn : Nat, z = ((zn : Nat) : Int) := ⟨z.toNat, by omega⟩
        have hl7 := S6.lst k7 hl nL.2 nL.1
        have tx7 := S6.text k7
        obtain ⟨u, eu, hu⟩ := (Il.ext tx7).at_ zn (by omega)
        refine ⟨_, rfl, _, rfl, l, vs, _, u, rfl, rfl, SqL.of hl7, atI_nat eu, _, rfl, d, c, b, rfl, S7.mono (by omega), fun H8 v8 e8 k8 S8 hv8 ok8 nz8 => ?_⟩
        have tx8 := S7.text k8
        refine ⟨_, v8, _, _, rfl, hu.ext tx8, hv8, ok.fr _ (by omega), fit_ok ok8 (by decide) (by decide), fun H9 v9 s9 h9 => ?_⟩
        have hl9 := s9 _ _ (S7.lst k8 hl7 nL.2 nL.1)
        refine ⟨_, rfl, _, rfl, l, vs, _, zn, rfl, rfl, hl9, ixN_nat rfl (by rw [Il.len]; omega), ?_⟩
        refine ⟨_, rfl, q _ _ (fun j => if j = zn then ser j + e8 else ser j) ((k6.trans (k7.trans (k8.trans (Keep.of s9)))).updN2 hlH) ((S8.same s9).updL nL.1 nL.2) ⟨l, _, rfl, SqL.of upd_same, Items.set ((Il.ext (tx7.trans (tx8.trans s9.text))).ext (TExt.upd hl9)) ?_ (fun j hj e => if_neg e)⟩ (.ser f g an bn ser tf5 hi5 bg ha hb ok fun j hj => ?_)⟩
        · rw [if_pos rfl]
          exact h9.ext (TExt.upd hl9)
        · show ∃ e, NumOK e 3 2 ∧ (if j = zn then ser j + e8 else ser j) = ser j + e
          by_cases e : j = zn
          · exact ⟨e8, ok8, if_pos e⟩
          · exact ⟨0, ⟨Nat.zero_le _, by decide⟩, by rw [if_neg e]; grind⟩
      · exact ⟨_, rfl, q _ _ ser k6 (S6.mono (by omega)) ⟨l, vs, rfl, SqL.of hl, Il⟩ (.ser f g an bn ser tf5 hi5 bg ha hb ok fun j hj => ⟨0, ⟨Nat.zero_le _, by decide⟩, by grind⟩)⟩
end
end L2.FW
end
section
set_option Elab.async false
set_option linter.all false
set_option maxRecDepth 100000
set_option pp.maxSteps 300
namespace L2.FW
open PySem PySem.Spec PyProof.Rows
open FQ (Fit BB BB_eq FitP Ser IsLen Lt rowB)
/-! ### law -/
abbrev sLaw : Stmt := topS 85
abbrev nLaw : List Str := ["_law_script", "_law_state", "_law_many", "_law_first", "_law_last", "_law_row_here", "_law_earlier", "_law_off", "_law_lengths", "_law_here", "_law_there"]
theorem scLaw : FnScope nLaw ["_law_script"] (defScope sLaw) := ⟨rfl, rfl, rfl, by decide +kernel, rfl, by decide +kernel, by decide +kernel⟩
def spLaw (K : PySem.W.Frag) : Sp := fun vs H Q _ => ∃ a xs, vs = [.ref a] ∧ SqL K H a xs ∧ (∀ x ∈ xs, ∃ i, x = V.int i) ∧ ∀ H', Same H H' → Q (.bl true) H'
theorem lens_at {off : Int} {r : Nat → Rat} {n j : Nat} {x : V} (hj : j < n) (h : (lensV off r n)[j]? = some x) : x = .int ((glen off r (j + 1) : Nat) : Int) := by
  unfold lensV at h
  rw [List.getElem?_map, List.getElem?_range hj] at h
  exact (Option.some.inj h).symm
section
variable {P : Program} {w : World} {K : PySem.W.Frag} {mg : Str → Option Value} {base : Heap} {k : Nat}
theorem fn_law {f : Addr} {fd : FuncData} (F : Fun K "law" "law" sLaw f fd) (LW : ∀ (many : Nat) (r : Nat → Rat) (off : Int), 1 ≤ many → many ≤ 18 → RowCls many r → -1 ≤ off → off ≤ 3 → ∃ told, WalkOK off many r told)
    (LM : ∀ (many : Nat) (r : Nat → Rat) (off : Int) (k : Nat), many ≤ 18 → RowCls many r → -1 ≤ off → off ≤ 3 → k ≤ many → glen (off + 1) r k ≤ glen off r k)
    (B : Bi mg) (GB : Gd P w K mg base "_law_begin" k ["_law_script"] (spBegin K)) (GT : Gd P w K mg base "_law_take" k ["_law_state", "_law_many"] (spTake K))
    (GR : Gd P w K mg base "_law_row" k ["_law_state", "_law_many"] (spRow K)) (GW : Gd P w K mg base "_law_walked" k ["_law_row_here", "_law_off"] (spWalked K)) : FnOk P w K mg base CX0 (k + 1) f fd ["_law_script"] (spLaw K) := by
  refine F.ok scLaw (fun vs H Q E h => ?_) (fun cdv A outer s H vs Q E hr h => ?_)
  · obtain ⟨a, xs, rfl, _⟩ := h
    rfl
  · obtain ⟨a, xs, rfl, hL, hI, q⟩ := h
    refine ⟨_, pss_cons (ps_set (i := 1) scLaw.nd rfl (.inl rfl) (pe_gd GB hr (by rfl) (pa_cons (pv 0) pa_nil)))
      (pss_cons (ps_set (i := 2) scLaw.nd rfl (.inl rfl) (pe_op op_add pe_int (pe_gd GT hr (by rfl) (pa_cons (pv 1) (pa_cons pe_int pa_nil)))))
      (pss_cons (ps_asg (pe_tup (pa_cons (pe_un un_neg pe_int) (pa_cons pe_int pa_nil))) (pg_tup rfl (pgs_cons (pg_name (i := 3) scLaw.nd rfl (.inl rfl)) (pgs_cons (pg_name (i := 4) scLaw.nd rfl (.inl rfl)) pgs_nil))))
      (pss_cons (ps_if (pt_cmpR op_eq (pe_gd GT hr (by rfl) (pa_cons (pv 1) (pa_cons pe_int pa_nil))) pe_int (nomark _))
        (pss_cons (ps_set (i := 2) scLaw.nd rfl (.inl rfl) (pe_op op_add pe_int (pe_gd GT hr (by rfl) (pa_cons (pv 1) (pa_cons pe_int pa_nil)))))
        (pss_cons (ps_set (i := 3) scLaw.nd rfl (.inl rfl) (pe_op op_sub (pe_gd GT hr (by rfl) (pa_cons (pv 1) (pa_cons pe_int pa_nil))) pe_int))
        (pss_one (ps_set (i := 4) scLaw.nd rfl (.inl rfl) (pe_op op_add (pv 3) pe_int))))) pss_nil)
      (pss_cons (ps_set (i := 5) scLaw.nd rfl (.inl rfl) (pe_gd GR hr (by rfl) (pa_cons (pv 1) (pa_cons (pv 2) pa_nil))))
      (pss_cons (ps_set (i := 6) scLaw.nd rfl (.inl rfl) pe_non)
      (pss_cons (ps_for PassesOwn.never rfl (pi_range2 (by rfl) B.range (pa_cons (pv 3) (pa_cons (pv 4) pa_nil))) (pg_name (i := 7) scLaw.nd rfl (.inl rfl))
        (pss_cons (ps_set (i := 8) scLaw.nd rfl (.inl rfl) (pe_gd GW hr (by rfl) (pa_cons (pv 5) (pa_cons (pv 7) pa_nil))))
        (pss_cons (ps_if (pt_cmp (pc_isN (pv 8))) pss_never pss_nil)
        (pss_cons (ps_if (PW.pt (pw_and (pt_cmp (pc_notN (pv 6))) (pw_and1 (pt_val (pe_callB (cr_any rfl) (by rfl) B.any b_any (pa_cons (pe_lc (own := [("_law_here", 9), ("_law_there", 10)]) (g := gTup K 2 (gCons (gName 9) (gCons (gName 10) gNil))) (tt := tYes)
            (te := tOp (rI0 fun i j => .bl (decide (i > j))) (tVar 9) (tVar 10))
            rfl scLaw.nd (pi_zip (by rfl) B.zip (pa_cons (pv 8) (pa_cons (pv 6) pa_nil))) (blkOk_by (N := nLaw) (sc := defScope sLaw) (by decide +kernel))
            (fun _ _ _ _ _ => pg_tup rfl (pgs_cons (pg_name (i := 9) scLaw.nd rfl (.inl rfl)) (pgs_cons (pg_name (i := 10) scLaw.nd rfl (.inl rfl)) pgs_nil))) (fun _ _ _ _ _ => pts_nil)
            (fun _ _ _ _ _ => pe_cmpR op_gt (pv 9) (pv 10) (nomark _))) pa_nil)))))) pss_never pss_nil)
        (pss_one (ps_set (i := 6) scLaw.nd rfl (.inl rfl) (pv 8)))))))
      (pss_one (ps_ret pe_bl)))))))), ?_⟩
    refine ⟨_, rfl, a, xs, rfl, hL, hI, fun H1 d c s1 hdH hcH S1 => ?_⟩
    refine ⟨_, rfl, d, c, 998999, 10, rfl, S1, by decide, fun H2 m2 k2 S2 a0 a1 => ?_⟩
    refine ⟨_, _, rfl, rfl, ?_⟩
    obtain ⟨many, em, hm1, hm18⟩ : ∃ many : Nat, 1 + m2 = ((many : Nat) : Int) ∧ 1 ≤ many ∧ many ≤ 18 := ⟨(1 + m2).toNat, by omega, by omega, by omega⟩
    refine ⟨1, rfl, (by show 2 ≤ sizeLine; decide), fun t3 ht3 => g_pair (.inl (.inl upd_same)) ?_⟩
    have s3 := same_upd (o := .tup [.int (-1), .int 4]) ht3
    refine ⟨_, rfl, d, c, 998998, 8, rfl, S2.same s3, by decide, fun H4 u4 k4 S4 b0 b1 => ⟨rfl, _, rfl, ite2 (fun _ => ?_) (fun _ => ?_)⟩⟩
    · have s14 : Same H H4 := same_keep (H := H1) s1 (k2.trans ((Keep.of s3).trans k4)) (by simp; exact ⟨hdH, hcH⟩)
      clear em hm1 hm18
      refine ⟨_, rfl, d, c, 998997, 4, rfl, S4, by decide, fun H4a m4 k4a S4a c0 c1 => ⟨_, _, rfl, rfl, ?_⟩⟩
      refine ⟨_, rfl, d, c, 998996, 4, rfl, S4a, by decide, fun H5 f5 k5 S5 d0 d1 => ⟨_, _, rfl, rfl, ?_⟩⟩
      refine ⟨_, rfl, _, _, rfl, rfl, ?_⟩
      have s5 : Same H H5 := same_keep (H := H4) s14 (k4a.trans k5) (by simp; exact ⟨hdH, hcH⟩)
      obtain ⟨many, em, hm1, hm18⟩ : ∃ many : Nat, 15 + m4 = ((many : Nat) : Int) ∧ 1 ≤ many ∧ many ≤ 18 := ⟨(15 + m4).toNat, by omega, by omega, by omega⟩
      refine ⟨_, rfl, _, rfl, d, c, 0, many, by rw [← em]; rfl, S5.mono (by omega), hm1, hm18, fun H6 rv r k6 S6 hR cls => ?_⟩
      have sm6 : Same H H6 := same_keep (H := H5) s5 k6 (by simp; exact ⟨hdH, hcH⟩)
      refine ⟨_, rfl, _, rfl, f5 - 1, f5 - 1 + 2, rfl, by omega, ?_⟩
      refine for_range (fun i σ H' => ∃ y7 y8 ev, σ = [some (.ref a), some (.ref d), some (.int (15 + m4)), some (.int (f5 - 1)), some (.int (f5 - 1 + 2)), some rv, some ev, y7, y8, none, none] ∧ Same H6 H' ∧ ((i = 0 ∧ ev = .non) ∨ (1 ≤ i ∧ ∃ l, ev = .ref l ∧ H' l = some (.lst (lensV (f5 - 1 + (i : Int) - 1) r many)))))
        ⟨none, none, _, rfl, Same.refl _, .inl ⟨rfl, rfl⟩⟩ ?_ ?_
      · rintro i σ H' hin ⟨y7, y8, ev, rfl, sm, hev⟩
        obtain ⟨told, ok⟩ := LW many r (f5 - 1 + (i : Int)) hm1 hm18 cls (by omega) (by omega)
        refine ⟨_, rfl, _, rfl, rv, f5 - 1 + (i : Int), many, r, told, rfl, hR.same sm, ok, fun H7 l s7 hl0 hl => ?_⟩
        refine ⟨_, rfl, _, rfl, ite2 (fun c => ?_) (fun _ => ?_)⟩
        · simp at c
        rcases hev with ⟨e0, rfl⟩ | ⟨e1, l0, rfl, hl0'⟩
        · refine ⟨_, rfl, _, rfl, ite2 (fun c => ?_) (fun _ => ite2 (fun c => by cases c) (fun _ => ?_))⟩
          · simp at c
          exact ⟨_, rfl, _, _, _, rfl, sm.trans s7, .inr ⟨Nat.succ_le_succ (Nat.zero_le _), l, rfl, by rw [show f5 - 1 + ((i + 1 : Nat) : Int) - 1 = f5 - 1 + (i : Int) by omega]; exact hl⟩⟩
        · refine ⟨_, rfl, _, rfl, ite2 (fun _ => ?_) (fun c => absurd (by simp) c)⟩
          have hlo := s7 _ _ hl0'
          refine ⟨_, rfl, _, rfl, l, l0, _, _, rfl, SqL.of hl, SqL.of hlo, fun D hD => ?_⟩
          refine lc_zip (K := K) (lensV_len _ _ _) (lensV_len _ _ _) (fun j H'' => Same H7 H'' ∧ H'' D = some (.lst (List.replicate j (V.bl false)))) ⟨same_upd hD, upd_same⟩ (fun j H'' _ hP => ⟨SqL.of (hP.1 _ _ hl), SqL.of (hP.1 _ _ hlo)⟩) ?_ ?_
          · rintro j x y H8 Tz ex ey ⟨s8, hz⟩ hT
            have sT := same_upd (o := .tup [x, y]) hT
            have hj : j < many := by
              have := (List.getElem?_eq_some_iff.mp ex).1
              rw [lensV_len] at this
              exact this
            obtain rfl : x = .int ((glen (f5 - 1 + (i : Int)) r (j + 1) : Nat) : Int) := lens_at hj ex
            obtain rfl : y = .int ((glen (f5 - 1 + (i : Int) - 1) r (j + 1) : Nat) : Int) := lens_at hj ey
            refine g_pair (.inl (.inl upd_same)) ⟨rfl, lc_yes ?_⟩
            refine ⟨_, rfl, _, rfl, _, _, rfl, rfl, _, sT _ _ hz, ?_, ?_, ?_⟩
            · rw [List.length_replicate]
              exact small1000 (by omega)
            · exact (s8.trans sT).updN hD
            · have hm := LM many r (f5 - 1 + (i : Int) - 1) (j + 1) hm18 cls (by omega) (by omega) (by omega)
              rw [show f5 - 1 + (i : Int) - 1 + 1 = f5 - 1 + (i : Int) by omega] at hm
              rw [upd_same, List.replicate_succ']
              refine (show some (HO.lst (List.replicate j (V.bl false) ++ [V.bl (decide (((glen (f5 - 1 + (i : Int)) r (j + 1) : Nat) : Int) > ((glen (f5 - 1 + (i : Int) - 1) r (j + 1) : Nat) : Int)))])) = _ from ?_)
              rw [decide_eq_false (by omega)]
          · rintro H8 ⟨s8, hz⟩
            refine ⟨D, List.replicate many false, rfl, SqL.of (by rw [hz, List.map_replicate]), _, rfl, ite2 (fun c => ?_) (fun _ => ?_)⟩
            · simp at c
            exact ⟨_, rfl, _, _, _, rfl, sm.trans (s7.trans s8), .inr ⟨Nat.succ_le_succ (Nat.zero_le _), l, rfl, by rw [show f5 - 1 + ((i + 1 : Nat) : Int) - 1 = f5 - 1 + (i : Int) by omega]; exact s8 _ _ hl⟩⟩
      · rintro σ H' ⟨y7, y8, ev, rfl, sm, _⟩
        exact q _ (sm6.trans sm)
    · have s5 : Same H H4 := same_keep (H := H1) s1 (k2.trans ((Keep.of s3).trans k4)) (by simp; exact ⟨hdH, hcH⟩)
      have S5 := S4
      refine ⟨_, rfl, _, rfl, d, c, 0, many, by rw [← em]; rfl, S5.mono (by omega), hm1, hm18, fun H6 rv r k6 S6 hR cls => ?_⟩
      have sm6 : Same H H6 := same_keep (H := H4) s5 k6 (by simp; exact ⟨hdH, hcH⟩)
      refine ⟨_, rfl, _, rfl, -1, 4, rfl, by omega, ?_⟩
      refine for_range (fun i σ H' => ∃ y7 y8 ev, σ = [some (.ref a), some (.ref d), some (.int (1 + m2)), some (.int (-1)), some (.int (4)), some rv, some ev, y7, y8, none, none] ∧ Same H6 H' ∧ ((i = 0 ∧ ev = .non) ∨ (1 ≤ i ∧ ∃ l, ev = .ref l ∧ H' l = some (.lst (lensV (-1 + (i : Int) - 1) r many)))))
        ⟨none, none, _, rfl, Same.refl _, .inl ⟨rfl, rfl⟩⟩ ?_ ?_
      · rintro i σ H' hin ⟨y7, y8, ev, rfl, sm, hev⟩
        obtain ⟨told, ok⟩ := LW many r (-1 + (i : Int)) hm1 hm18 cls (by omega) (by omega)
        refine ⟨_, rfl, _, rfl, rv, -1 + (i : Int), many, r, told, rfl, hR.same sm, ok, fun H7 l s7 hl0 hl => ?_⟩
        refine ⟨_, rfl, _, rfl, ite2 (fun c => ?_) (fun _ => ?_)⟩
        · simp at c
        rcases hev with ⟨e0, rfl⟩ | ⟨e1, l0, rfl, hl0'⟩
        · refine ⟨_, rfl, _, rfl, ite2 (fun c => ?_) (fun _ => ite2 (fun c => by cases c) (fun _ => ?_))⟩
          · simp at c
          exact ⟨_, rfl, _, _, _, rfl, sm.trans s7, .inr ⟨Nat.succ_le_succ (Nat.zero_le _), l, rfl, by rw [show -1 + ((i + 1 : Nat) : Int) - 1 = -1 + (i : Int) by omega]; exact hl⟩⟩
        · refine ⟨_, rfl, _, rfl, ite2 (fun _ => ?_) (fun c => absurd (by simp) c)⟩
          have hlo := s7 _ _ hl0'
          refine ⟨_, rfl, _, rfl, l, l0, _, _, rfl, SqL.of hl, SqL.of hlo, fun D hD => ?_⟩
          refine lc_zip (K := K) (lensV_len _ _ _) (lensV_len _ _ _) (fun j H'' => Same H7 H'' ∧ H'' D = some (.lst (List.replicate j (V.bl false)))) ⟨same_upd hD, upd_same⟩ (fun j H'' _ hP => ⟨SqL.of (hP.1 _ _ hl), SqL.of (hP.1 _ _ hlo)⟩) ?_ ?_
          · rintro j x y H8 Tz ex ey ⟨s8, hz⟩ hT
            have sT := same_upd (o := .tup [x, y]) hT
            have hj : j < many := by
              have := (List.getElem?_eq_some_iff.mp ex).1
              rw [lensV_len] at this
              exact this
            obtain rfl : x = .int ((glen (-1 + (i : Int)) r (j + 1) : Nat) : Int) := lens_at hj ex
            obtain rfl : y = .int ((glen (-1 + (i : Int) - 1) r (j + 1) : Nat) : Int) := lens_at hj ey
            refine g_pair (.inl (.inl upd_same)) ⟨rfl, lc_yes ?_⟩
            refine ⟨_, rfl, _, rfl, _, _, rfl, rfl, _, sT _ _ hz, ?_, ?_, ?_⟩
            · rw [List.length_replicate]
              exact small1000 (by omega)
            · exact (s8.trans sT).updN hD
            · have hm := LM many r (-1 + (i : Int) - 1) (j + 1) hm18 cls (by omega) (by omega) (by omega)
              rw [show -1 + (i : Int) - 1 + 1 = -1 + (i : Int) by omega] at hm
              rw [upd_same, List.replicate_succ']
              refine (show some (HO.lst (List.replicate j (V.bl false) ++ [V.bl (decide (((glen (-1 + (i : Int)) r (j + 1) : Nat) : Int) > ((glen (-1 + (i : Int) - 1) r (j + 1) : Nat) : Int)))])) = _ from ?_)
              rw [decide_eq_false (by omega)]
          · rintro H8 ⟨s8, hz⟩
            refine ⟨D, List.replicate many false, rfl, SqL.of (by rw [hz, List.map_replicate]), _, rfl, ite2 (fun c => ?_) (fun _ => ?_)⟩
            · simp at c
            exact ⟨_, rfl, _, _, _, rfl, sm.trans (s7.trans s8), .inr ⟨Nat.succ_le_succ (Nat.zero_le _), l, rfl, by rw [show -1 + ((i + 1 : Nat) : Int) - 1 = -1 + (i : Int) by omega]; exact s8 _ _ hl⟩⟩
      · rintro σ H' ⟨y7, y8, ev, rfl, sm, _⟩
        exact q _ (sm6.trans sm)
end
end L2.FW
end
section
set_option Elab.async false
set_option linter.all false
set_option maxRecDepth 100000
set_option pp.maxSteps 300
namespace L2.FW
open PySem PySem.Spec PyProof.Rows
open FQ (Fit BB BB_eq FitP Ser IsLen Lt rowB)
/-! ### all together -/
theorem Fld.mono {P : Program} {w : World} {K : PySem.W.Frag} {mg : Str → Option Value} {base : Heap} {C : Addr} {j k : Nat} (X : Fld P w K mg base C j) (h : j ≤ k) : Fld P w K mg base C k :=
  ⟨X.cls, X.nought.mono h, X.one.mono h, X.plus.mono h, X.minus.mono h, X.times.mono h, X.over.mono h, X.isn.mono h⟩
theorem law_ok {fl : Addr} {fdl : FuncData} {P : Program} {w : World} {K : PySem.W.Frag} {mg : Str → Option Value} {base : Heap} {CE CC GC : Addr} (hS : base.NoSeer) (hT : P.given.tree = none)
    (LS : ∀ (f g : Ser) (a b many : Nat), many ≤ 18 → TopOK f a → BelOK g b → a ≤ many → b ≤ many → ∃ s, LserOK f g b many s)
    (LW : ∀ (many : Nat) (r : Nat → Rat) (off : Int), 1 ≤ many → many ≤ 18 → RowCls many r → -1 ≤ off → off ≤ 3 → ∃ told, WalkOK off many r told)
    (LM : ∀ (many : Nat) (r : Nat → Rat) (off : Int) (k : Nat), many ≤ 18 → RowCls many r → -1 ≤ off → off ≤ 3 → k ≤ many → glen (off + 1) r k ≤ glen off r k)
    (a_greatest_both : At K mg "greatest_both" sGcd)
    (a_number : At K mg "number" sNumber)
    (a_plus : At K mg "plus" sPlus)
    (a_minus : At K mg "minus" sMinus)
    (a_times : At K mg "times" sTimes)
    (a_over : At K mg "over" sOver)
    (a_trimmed : At K mg "trimmed" sTrim)
    (a_less_by : At K mg "less_by" sLess)
    (a_product_by : At K mg "product_by" sProd)
    (a_parted_by : At K mg "parted_by" sPart)
    (a_common_by : At K mg "common_by" sComm)
    (a_over_all : At K mg "over_all" sOvAll)
    (a_quotient_in : At K mg "quotient_in" sQuoIn)
    (a_weighed_at : At K mg "weighed_at" sWei)
    (a_row_in : At K mg "row_in" sRowIn)
    (a_agrees_in : At K mg "agrees_in" sAgIn)
    (a_quotient_grown : At K mg "quotient_grown" sQG)
    (a_poly : At K mg "poly" sPoly)
    (a_degree : At K mg "degree" sDeg)
    (a_poly_less : At K mg "poly_less" sPLess)
    (a_poly_product : At K mg "poly_product" sPProd)
    (a_parted : At K mg "parted" sPParted)
    (a_quotient_of : At K mg "quotient_of" sQuoOf)
    (a_heights : At K mg "heights" sHts)
    (a_agrees : At K mg "agrees" sAg)
    (a_number_before : At K mg "number_before" sNBef)
    (a_cleared : At K mg "cleared" sClr)
    (a_first_column : At K mg "first_column" sFst)
    (a_pivots_of : At K mg "pivots_of" sPivs)
    (a_null_numbers : At K mg "null_numbers" sNull)
    (a_product_at : At K mg "product_at" sPAt)
    (a_form_in : At K mg "form_in" sForm)
    (a_furthest : At K mg "furthest" sFurth)
    (a_power_of_x : At K mg "power_of_x" sPow)
    (a_first_steps : At K mg "first_steps" sFirst)
    (a_next_step : At K mg "next_step" sNext)
    (a_by_parting : At K mg "by_parting" sByP)
    (a_side_of : At K mg "side_of" sSide)
    (a_block_of : At K mg "block_of" sBlock)
    (a__law_begin : At K mg "_law_begin" sBegin)
    (a__law_take : At K mg "_law_take" sTake)
    (a__law_same : At K mg "_law_same" sSame)
    (a__law_part : At K mg "_law_part" sLPart)
    (a__law_plus : At K mg "_law_plus" sLPlus)
    (a__law_minus : At K mg "_law_minus" sLMinus)
    (a__law_times : At K mg "_law_times" sLTimes)
    (a__law_number : At K mg "_law_number" sNumR)
    (a__law_small : At K mg "_law_small" sSmall)
    (a__law_trimmed : At K mg "_law_trimmed" sLTrim)
    (a__law_series : At K mg "_law_series" sSeries)
    (a__law_two_polys : At K mg "_law_two_polys" sTwo)
    (a__law_any : At K mg "_law_any" sAny)
    (a__law_row : At K mg "_law_row" sRow)
    (a__law_agreed : At K mg "_law_agreed" sAgreed)
    (a__law_told_right : At K mg "_law_told_right" sTR)
    (a__law_rise_right : At K mg "_law_rise_right" sRR)
    (a__law_walked : At K mg "_law_walked" sWalked)
    (a_number_at_fields : At2 K mg "number_at_fields" "number_at" sNatF) (a_number_at_rows : At2 K mg "number_at_rows" "number_at" sNatR)
    (e_plus_numbers : mg "plus_numbers" = mg "plus")
    (e_minus_numbers : mg "minus_numbers" = mg "minus")
    (e_times_numbers : mg "times_numbers" = mg "times")
    (e_over_numbers : mg "over_numbers" = mg "over")
    (B : Bi mg) (ME : MkE K CE) (mE : mg "Exact" = some (.ref CE)) (mC : mg "Chain" = some (.ref CC)) (mG : mg "Grower" = some (.ref GC)) (cE : Cls K CE)
    (x_nought : AtM K CE "nought" "Exact.nought" (sEx 0))
    (x_one : AtM K CE "one" "Exact.one" (sEx 1))
    (x_plus : AtM K CE "plus" "Exact.plus" (sEx 2))
    (x_minus : AtM K CE "minus" "Exact.minus" (sEx 3))
    (x_times : AtM K CE "times" "Exact.times" (sEx 4))
    (x_over : AtM K CE "over" "Exact.over" (sEx 5))
    (x_is_nought : AtM K CE "is_nought" "Exact.is_nought" (sEx 6))
    {fC : Addr} (MC : Mk K CC fC) (TC : ChT K CC) {fG : Addr} (MG : Mk K GC fG) (TG : GrT K GC)
    (c___init__ : AtM K CC "__init__" "Chain.__init__" (sCh 0))
    (c_gap_with : AtM K CC "gap_with" "Chain.gap_with" (sCh 1))
    (c_mended : AtM K CC "mended" "Chain.mended" (sCh 2))
    (c_put_on : AtM K CC "put_on" "Chain.put_on" (sCh 3))
    (g___init__ : AtM K GC "__init__" "Grower.__init__" (sGr 0))
    (g_put : AtM K GC "put" "Grower.put" (sGr 1))
    (g_length : AtM K GC "length" "Grower.length" (sGr 3))
    (g_told : AtM K GC "told" "Grower.told" (sGr 4))
    (c0 : CoAt K mg "NOUGHT" 0) (c1 : CoAt K mg "ONE" 1)
    (F : Fun K "law" "law" sLaw fl fdl) : FnOk P w K mg base CX0 47 fl fdl ["_law_script"] (spLaw K) := by
  have gcd := (gd_gcd (P := P) (w := w) (base := base) (k := 32) a_greatest_both B.abs)
  have num := (gd_number (P := P) (w := w) (k := 33) hS hT (by decide) a_number gcd)
  have pl := (gd_plus (k := 34) a_plus num)
  have mi := (gd_minus (k := 34) a_minus num)
  have ti := (gd_times (k := 34) a_times num)
  have ov := (gd_over (k := 34) a_over num)
  have X : Fld P w K mg base CE 36 := ⟨cE, md_nought (k := 35) x_nought, md_one (k := 35) x_one, md_plus (k := 35) x_plus (pl.alias e_plus_numbers), md_minus (k := 35) x_minus (mi.alias e_minus_numbers), md_times (k := 35) x_times (ti.alias e_times_numbers), md_over (k := 35) x_over (ov.alias e_over_numbers), md_isn (k := 35) x_is_nought⟩
  have X37 : Fld P w K mg base CE 37 := X.mono (by decide)
  have X38 : Fld P w K mg base CE 38 := X.mono (by decide)
  have X39 : Fld P w K mg base CE 39 := X.mono (by decide)
  have trim := (gd_trim (k := 36) B X a_trimmed)
  have natF := (gd_natF (k := 36) B X a_number_at_fields)
  have natR := (gd_natR (k := 36) B X a_number_at_rows)
  have ova := (gd_ovAll (k := 36) B X a_over_all)
  have less := (gd_less (k := 37) B X37 a_less_by trim natF)
  have prod := (gd_prod (k := 37) B X37 a_product_by trim)
  have part := (gd_part (k := 37) B X37 a_parted_by trim)
  have comm := (gd_comm (k := 38) B X38 a_common_by (trim.mono (by decide)) part)
  have quo := (gd_quoIn (k := 39) B X39 a_quotient_in (trim.mono (by decide)) (part.mono (by decide)) comm (ova.mono (by decide)))
  have wei := (gd_wei (k := 37) B X37 a_weighed_at natR)
  have rowi := (gd_rowIn (k := 38) B X38 a_row_in (natR.mono (by decide)) wei)
  have agi := (gd_agIn (k := 39) B a_agrees_in rowi)
  have ag := (gd_ag (k := 40) ME mE a_agrees agi)
  have sid := (gd_side (k := 41) B a_side_of ag)
  have chi := (md_chI (k := 36) TC X c___init__)
  have gap := (md_gap (k := 36) B TC X c_gap_with)
  have men := (md_mend (k := 36) B TC X c_mended)
  have put := (md_put (k := 37) B TC X37 c_put_on gap men)
  have qg := (gd_QG (k := 40) B TC a_quotient_grown (trim.mono (by decide)) (prod.mono (by decide)) quo)
  have grL := (md_grL (P := P) (w := w) (mg := mg) (base := base) (CE := CE) (CC := CC) (k := 43) TC TG g_length)
  have grT := (md_grT (k := 41) B ME mE TC TG g_told qg)
  have grI := (md_grI (k := 37) ME mE mC MC TC TG chi g___init__)
  have grP := (md_grP (k := 38) B TC TG g_put put)
  have poly := (gd_poly (k := 37) ME mE a_poly trim)
  have deg := (gd_deg (P := P) (w := w) (base := base) (k := 36) B a_degree)
  have ples := (gd_pless (k := 38) ME mE a_poly_less less)
  have ppro := (gd_pprod (k := 38) ME mE a_poly_product prod)
  have ppar := (gd_pparted (k := 38) ME mE a_parted part)
  have quof := (gd_quoOf (k := 40) ME mE a_quotient_of quo)
  have hts := (gd_hts (k := 37) a_heights deg)
  have nbef := (gd_nbef (k := 36) X a_number_before)
  have fst := (gd_fst (k := 36) B X a_first_column)
  have pat := (gd_pat (k := 37) B X37 a_product_at nbef)
  have clr := (gd_clr (k := 36) B X a_cleared)
  have pivs := (gd_pivs (k := 37) B a_pivots_of clr fst)
  have nul := (gd_null (k := 38) B X38 a_null_numbers pivs)
  have form := (gd_form (k := 40) B a_form_in (nbef.mono (by decide)) (nul.mono (by decide)) (pat.mono (by decide)) (trim.mono (by decide)) quo)
  have fur := (gd_furth (k := 41) B ME mE a_furthest form)
  have pow := (gd_pow (P := P) (w := w) (base := base) (k := 37) B c0 c1 a_power_of_x)
  have first := (gd_first (k := 38) B c1 a_first_steps pow poly)
  have next := (gd_next (k := 39) a_next_step ppar ples ppro)
  have byp := (gd_byP (k := 41) B a_by_parting (first.mono (by decide)) (deg.mono (by decide)) (next.mono (by decide)) quof)
  have blo := (gd_block (k := 42) a_block_of fur (hts.mono (by decide)) sid)
  have beg := (gd_begin (P := P) (w := w) (base := base) (k := 33) B a__law_begin)
  have tak := (gd_take (P := P) (w := w) (k := 33) hS hT (by decide) B a__law_take)
  have lpa := (gd_lpart (P := P) (w := w) (k := 33) hS hT (by decide) B a__law_part)
  have lpl := (gd_lplus (k := 34) a__law_plus lpa)
  have lmi := (gd_lminus (k := 34) a__law_minus lpa)
  have lti := (gd_ltimes (k := 34) a__law_times lpa)
  have sam := (gd_same (P := P) (w := w) (base := base) (k := 33) B a__law_same 3)
  have nur := (gd_numR (k := 34) a__law_number tak lpa)
  have sma := (gd_small (k := 34) a__law_small tak lpa)
  have ltr := (gd_ltrim (P := P) (w := w) (base := base) (k := 33) B a__law_trimmed)
  have ser := (gd_series (k := 35) B a__law_series lmi lti)
  have agr := (gd_agreed (k := 36) B a__law_agreed ser)
  have tri := (gd_tr (k := 43) B a__law_told_right (sam.mono (by decide)) (fur.mono (by decide)) (byp.mono (by decide)) blo)
  have rri := (gd_rr (k := 42) B a__law_rise_right (agr.mono (by decide)) fur)
  have wal := (gd_walked (k := 44) B TG MG mG (grI.mono (by decide)) (grP.mono (by decide)) grL (grT.mono (by decide)) a__law_walked (rri.mono (by decide)) tri)
  have any := (gd_any (k := 35) a__law_any (tak.mono (by decide)) nur)
  have two := (gd_two (k := 35) B a__law_two_polys (tak.mono (by decide)) nur sma (ltr.mono (by decide)))
  have row := (gd_row (k := 36) LS B a__law_row (tak.mono (by decide)) any (sma.mono (by decide)) two (ltr.mono (by decide)) ser (lpl.mono (by decide)))
  exact fn_law (k := 46) F LW LM B (beg.mono (by decide)) (tak.mono (by decide)) (row.mono (by decide)) wal
end L2.FW
end
section
set_option Elab.async false
set_option linter.all false
set_option maxRecDepth 100000
set_option pp.maxSteps 300
namespace L2.FW
open PySem PySem.Spec PyProof.Rows
/-! ### the end: the library's law_call and walk_of, with NoSeer handed on -/
theorem law_callN {P : Program} {w : World} {K : PySem.W.Frag} {mg mb : Str → Option Value} {CX : CXT} {k : Nat} {fa a : Addr} {fd : FuncData} {x : Str} {sp : Sp} {s₁ : Shared} {vs : List Value} {ns : List Int}
    (KX : K.In s₁.heap) (hns : s₁.heap.Ns mainGlobals mg) (hb : s₁.heap.Ns builtinsNs mb) (hbb : ∀ x : Str, x ≠ "__name__" → mb x = bootBuiltins x) (hlim : s₁.heap.NoLimit) (hg : s₁.gens = #[])
    (ha : s₁.heap.get? a = some { cls := .type "list", data := .seq vs.toArray }) (hi : IntsAre vs ns) (hl : ns.length ≤ sizeLine) (hr : Room k callerA)
    (sr : s₁.heap.NoSeer) (F : ∀ base : Heap, K.In base → base.Ns mainGlobals mg → base.NoSeer → FnOk P w K mg base CX k fa fd [x] sp) (hbind : ∀ (s : Shared) (u : Value), BindsTo s fd ⟨[u], []⟩ [(x, u)])
    (hsp : ∀ H : Hp, Only H → SqL K H a (ns.map V.int) → sp [.ref a] H (fun v _ => v = .bl true) fun _ _ _ => False)
    (hCX : ∀ H e s', CX [] H s₁ (fun _ _ _ => False) e s' → False) :
    codeAny (model P w) callerA (.call (.ref fa) ⟨[.ref a], []⟩) (fun r s' => r = .ok (.ret (.bool true)) ∧ OldK s₁.heap s'.heap ∧ s'.os = s₁.os ∧ AllBare s'.gens) s₁ := by
  have rv := vals_ints hi
  have lenV := hi.length
  -- from an abstract heap in which nothing but the script may be tracked
  have core : ∀ H : Hp, Only H → SqL K H a (ns.map V.int) → HOk P w H s₁.heap → (∀ b, H b ≠ none → b = a) → (H a ≠ none → K.lookup a = none) →
      codeAny (model P w) callerA (.call (.ref fa) ⟨[.ref a], []⟩) (fun r s' => r = .ok (.ret (.bool true)) ∧ OldK s₁.heap s'.heap ∧ s'.os = s₁.os ∧ AllBare s'.gens) s₁ := by
    intro H hO hS hok hA hK
    have base_of : ∀ {b : Addr} {o : Obj}, s₁.heap.get? b = some o → H b = none → (hidT s₁.heap H).get? b = some o := fun e n => hidT_get e n
    have noA : ∀ {b : Addr} {o : Obj} {es : Array DictEntry} {ep : Nat}, s₁.heap.get? b = some o → o.data = .dict es ep → H b = none := fun {b o es ep} e d => by
      cases q : H b with
      | none => rfl
      | some u =>
        have e' : b = a := hA b (by rw [q]; simp)
        subst e'
        rw [ha] at e; cases e
        have d' : Data.seq vs.toArray _ = Data.dict es ep := d
        cases d'
    have nsK : ∀ {b : Addr} {m : Str → Option Value}, s₁.heap.Ns b m → (hidT s₁.heap H).Ns b m := fun {b m} ⟨o, es, ep, e, d, r⟩ => ⟨o, es, ep, base_of e (noA e d), d, r⟩
    have hKb : K.In (hidT s₁.heap H) := fun b o e => base_of (KX b o e) (by
      cases q : H b with
      | none => rfl
      | some u =>
        have e' : b = a := hA b (by rw [q]; simp)
        subst e'
        rw [hK (by rw [q]; simp)] at e; cases e)
    have hM : Mod K mg (hidT s₁.heap H) := ⟨hKb, nsK hns, ⟨mb, nsK hb, hbb⟩, let ⟨mc, h1, h2⟩ := hlim; ⟨mc, nsK h1, h2⟩⟩
    have hsr : (hidT s₁.heap H).NoSeer := by
      refine ⟨let ⟨mc, x, y⟩ := sr.statics; ⟨mc, nsK x, y⟩, let ⟨mc, x, y⟩ := sr.mods; ⟨mc, nsK x, y⟩, let ⟨mc, x, y⟩ := sr.imp; ⟨mc, nsK x, y⟩, ?_⟩
      obtain ⟨mg', bm, ob, h1, h2, h3, h4, h5⟩ := sr.main
      refine ⟨mg', bm, ob, nsK h1, h2, base_of h3 ?_, h4, h5⟩
      cases q : H bm with
      | none => rfl
      | some u =>
        have e' : bm = a := hA bm (by rw [q]; simp)
        subst e'
        rw [ha] at h3
        cases h3
        exact absurd (show Value.type "list" = Value.type "module" from h4) (by decide)
    have e0 : Env0 P w K mg (hidT s₁.heap H) callerA [] s₁ H := ⟨rfl, hM, fun b o e => of_hidT e, Nat.le_of_eq (hidT_size _ _), trivial, fun b hb => absurd (show b ∈ ([] : List Addr) from hb) (by simp), hok, .of_eq hg⟩
    refine codeAny_mono ((F _ hKb (nsK hns) hsr).run callerA [] s₁ H ⟨[.ref a], []⟩ [.ref a] [.ref a] _ _ hr e0 (hbind s₁ (.ref a)) (.cons rfl .nil) (hsp H hO hS)) fun r s' h => ?_
    cases r with
    | error e => exact (hCX H e s' h).elim
    | ok fl =>
      cases fl with
      | next => exact False.elim h
      | brk => exact False.elim h
      | cont => exact False.elim h
      | ret u =>
        obtain ⟨v, H', os, bare, un, hok', r', q⟩ := h
        have q' : v = .bl true := q
        subst q'
        obtain rfl : u = Value.bool true := r'
        refine ⟨rfl, OldK.of_keep fun b o e => ?_, os, bare⟩
        cases q : H b with
        | none => exact un.keep b o e q (by intro z; exact absurd (show b ∈ ([] : List Addr) from z) (by simp)) (by simp)
        | some u =>
          rcases hO b with z | ⟨ob, xs, z⟩
          · rw [q] at z; cases z
          · have z2 := un.frzs b ob _ z
            obtain ⟨e1, _⟩ := hok b _ z
            obtain ⟨e2, _⟩ := hok' b _ z2
            rw [e] at e1; cases e1
            exact e2
  cases hk : K.lookup a with
  | some o =>
    -- the script is one of the module's own objects
    have e := KX a o hk
    rw [ha] at e
    cases e
    refine core (fun _ => none) (fun _ => .inl rfl) (.inr ⟨_, vs.toArray, _, hk, rfl, rfl, rfl, by rw [List.size_toArray, lenV]; exact hl, by simpa using rv⟩) (fun b u z => by have z' : (none : Option HO) = some u := z; cases z') (fun b z => absurd rfl z) fun z => absurd rfl z
  | none =>
    refine core (fun b => if b = a then some (.frz { cls := .type "list", data := .seq vs.toArray } (.lst (ns.map V.int))) else none) (fun b => ?_) (.inl (.inr ⟨{ cls := .type "list", data := .seq vs.toArray }, if_pos rfl⟩)) (fun b u z => ?_) (fun b z => ?_) fun _ => hk
    · by_cases hb : b = a
      · exact .inr ⟨_, _, if_pos hb⟩
      · exact .inl (if_neg hb)
    · by_cases hb : b = a
      · have z' := (if_pos hb).symm.trans z
        cases z'
        subst hb
        exact ⟨ha, by rw [List.length_map]; exact hl, vs, _, rv, ha⟩
      · have z' := (if_neg hb).symm.trans z
        cases z'
    · by_cases hb : b = a
      · exact hb
      · exact absurd (if_neg hb) z

theorem walk_ofN {l : PySem.W.OpenLaw} {n k : Nat} {q : Program} {loose : List Str} {XP : (Str → Option Value) → Heap → Prop} {YP : World → Heap → Prop} {d : DefRec} {K : Params → PySem.W.Frag} {CX : World → CXT} {sp : World → Sp} {x : Str}
    (hn : l.most = some n) (hn2 : n ≤ sizeLine) (hi : importsNone q = true) (hdf : d.params.defaults = []) (hr : Room k callerA)
    (hY : ∀ (w : World) (h : Heap), YP w h → (K w.params).In h)
    (F : ∀ (w : World) (mg : Str → Option Value) (fa : Addr) (h : Heap), (K w.params).In h → h.Ns mainGlobals mg → mg d.name = some (.ref fa) →
      ∃ fd : FuncData, (∀ (s : Shared) (u : Value), BindsTo s fd ⟨[u], []⟩ [(x, u)]) ∧
        ∀ base : Heap, (K w.params).In base → base.Ns mainGlobals mg → base.NoSeer → FnOk l.prog w (K w.params) mg base (CX w) k fa fd [x] (sp w))
    (hsp : ∀ (w : World) (H : Hp) (a : Addr) (ns : List Int), ns.length ≤ n → Only H → SqL (K w.params) H a (ns.map V.int) → sp w [.ref a] H (fun v _ => v = .bl true) fun _ _ _ => False)
    (hCX : ∀ (w : World) (H : Hp) (s : Shared) (e : Value) (s' : Shared), CX w [] H s (fun _ _ _ => False) e s' → False) :
    PySem.W.WalkO q loose XP YP l.row.toRowW d [] (fun f vs => PySem.call f vs) := by
  refine Att.attach_call hn hdf fun w s₀ s₁ mg mb fa o pm cd doc a vs ns G Y ho hd hcd hmg hobj hints hlen hg => ?_
  have KX := hY w _ Y
  obtain ⟨fd, hb, hF⟩ := F w mg fa _ KX G.T.g hmg
  exact law_callN KX G.T.g G.T.b G.T.builtins G.T.nolimit hg hobj hints (Nat.le_trans hlen hn2) hr (G.T.seer hi) hF hb (fun H hO hS => hsp w H a ns hlen hO hS) fun H e s' => hCX w H s₁ e s'

theorem at_mk {K : PySem.W.Frag} {h : Heap} {mg : Str → Option Value} {x : Str} {st : Stmt} (X : K.In h) (G : h.Ns mainGlobals mg) {f : Addr} {od an : Option Addr} {sl : Array (Option Value)} {oc kV dc pm cd ct : Value}
    (a : PySem.W.nsIn K mainGlobals x = some (some (.ref f))) (l : K.lookup f = some ⟨oc, od, .func (PySem.W.fnOf x x (defArgs st) (defBody st) (defScope st) .none kV dc pm an cd ct), sl⟩) (c : PySem.W.codeIn K cd x = true) (k : PySem.W.keepIn K (.ref f) = true) : At K mg x st :=
  ⟨f, _, fun_mk l c k, PySem.W.mg_of X G a⟩
theorem at2_mk {K : PySem.W.Frag} {h : Heap} {mg : Str → Option Value} {y x : Str} {st : Stmt} (X : K.In h) (G : h.Ns mainGlobals mg) {f : Addr} {od an : Option Addr} {sl : Array (Option Value)} {oc kV dc pm cd ct : Value}
    (a : PySem.W.nsIn K mainGlobals y = some (some (.ref f))) (l : K.lookup f = some ⟨oc, od, .func (PySem.W.fnOf x x (defArgs st) (defBody st) (defScope st) .none kV dc pm an cd ct), sl⟩) (c : PySem.W.codeIn K cd x = true) (k : PySem.W.keepIn K (.ref f) = true) : At2 K mg y x st :=
  ⟨f, _, fun_mk l c k, PySem.W.mg_of X G a⟩
theorem ali_mk {K : PySem.W.Frag} {h : Heap} {mg : Str → Option Value} {y x : Str} (X : K.In h) (G : h.Ns mainGlobals mg) {f : Addr} (a : PySem.W.nsIn K mainGlobals x = some (some (.ref f))) (b : PySem.W.nsIn K mainGlobals y = some (some (.ref f))) : mg y = mg x :=
  (PySem.W.mg_of X G b).trans (PySem.W.mg_of X G a).symm
theorem atm_mk {K : PySem.W.Frag} {C : Addr} {m qual : Str} {st : Stmt} {f : Addr} {od an : Option Addr} {sl : Array (Option Value)} {oc kV dc pm cd ct : Value}
    (a : PySem.W.findIn K (.ref C) m = some (some (.ref f))) (i : PySem.W.isFn K (.ref f) = true) (l : K.lookup f = some ⟨oc, od, .func (PySem.W.fnOf m qual (defArgs st) (defBody st) (defScope st) .none kV dc pm an cd ct), sl⟩) (c : PySem.W.codeIn K cd qual = true) (k : PySem.W.keepIn K (.ref f) = true) : AtM K C m qual st :=
  ⟨f, _, fun_mk l c k, ⟨a, i, k⟩⟩
theorem co_mk {K : PySem.W.Frag} {h : Heap} {mg : Str → Option Value} {x : Str} {q : Rat} (X : K.In h) (G : h.Ns mainGlobals mg) {f : Addr} {od : Option Addr} {sl : Array (Option Value)} {u v : Value} {n : Nat}
    (a : PySem.W.nsIn K mainGlobals x = some (some (.ref f))) (l : K.lookup f = some ⟨.type "tuple", od, .seq #[u, v] n, sl⟩) (hu : RelV (.int q.num) u) (hv : RelV (.int (q.den : Int)) v) : CoAt K mg x q :=
  ⟨f, PySem.W.mg_of X G a, fun H => ⟨f, rfl, .inr ⟨_, _, _, l, rfl, rfl, by show 2 ≤ sizeLine; decide, .cons hu (.cons hv .nil)⟩⟩⟩
theorem walk {l : PySem.W.OpenLaw} {q : Program} {loose : List Str} {XP : (Str → Option Value) → Heap → Prop} {YP : World → Heap → Prop} {d : DefRec} {K : Params → PySem.W.Frag} (hn : l.most = some 63) (hi : importsNone q = true) (hdf : d.params.defaults = [])
    (hY : ∀ (w : World) (h : Heap), YP w h → (K w.params).In h)
    (F : ∀ (w : World) (mg : Str → Option Value) (fa : Addr) (h : Heap), (K w.params).In h → h.Ns mainGlobals mg → mg d.name = some (.ref fa) → ∃ fd, Fun (K w.params) "law" "law" sLaw fa fd ∧
      ∀ base : Heap, (K w.params).In base → base.Ns mainGlobals mg → base.NoSeer → FnOk l.prog w (K w.params) mg base CX0 47 fa fd ["_law_script"] (spLaw (K w.params))) :
    PySem.W.WalkO q loose XP YP l.row.toRowW d [] (fun f vs => PySem.call f vs) := by
  refine walk_ofN (n := 63) (k := 47) (x := "_law_script") (CX := fun _ => CX0) (sp := fun w => spLaw (K w.params)) hn (by decide) hi hdf ⟨rfl, by decide, by decide⟩ hY (fun w mg fa h X G hmg => ?_) (fun w H a ns hl _ hS => ⟨a, _, rfl, hS, fun x hx => ?_, fun _ _ => rfl⟩) fun _ _ _ _ _ z => z
  · obtain ⟨fd, fn, g⟩ := F w mg fa h X G hmg
    obtain ⟨oc, od, kV, doc, pm, an, cdv, ct, osl, rfl, lk, hcd⟩ := id fn.ex
    exact ⟨PySem.W.fnOf "law" "law" (defArgs sLaw) (defBody sLaw) (defScope sLaw) .none kV doc pm an cdv ct, fun s v => .of_eq rfl, g⟩
  · obtain ⟨i, _, e⟩ := List.mem_map.mp hx
    exact ⟨i, e.symm⟩
theorem fin_mk {P : Program} {w : World} {K : PySem.W.Frag} {mg : Str → Option Value} {fa : Addr} {CE CC GC : Addr} (hT : P.given.tree = none)
    (LS : ∀ (f g : FQ.Ser) (a b many : Nat), many ≤ 18 → TopOK f a → BelOK g b → a ≤ many → b ≤ many → ∃ s, LserOK f g b many s)
    (LW : ∀ (many : Nat) (r : Nat → Rat) (off : Int), 1 ≤ many → many ≤ 18 → RowCls many r → -1 ≤ off → off ≤ 3 → ∃ told, WalkOK off many r told)
    (LM : ∀ (many : Nat) (r : Nat → Rat) (off : Int) (k : Nat), many ≤ 18 → RowCls many r → -1 ≤ off → off ≤ 3 → k ≤ many → glen (off + 1) r k ≤ glen off r k)
    (hl : mg "law" = some (.ref fa)) (al : At K mg "law" sLaw)
    (a_greatest_both : At K mg "greatest_both" sGcd)
    (a_number : At K mg "number" sNumber)
    (a_plus : At K mg "plus" sPlus)
    (a_minus : At K mg "minus" sMinus)
    (a_times : At K mg "times" sTimes)
    (a_over : At K mg "over" sOver)
    (a_trimmed : At K mg "trimmed" sTrim)
    (a_less_by : At K mg "less_by" sLess)
    (a_product_by : At K mg "product_by" sProd)
    (a_parted_by : At K mg "parted_by" sPart)
    (a_common_by : At K mg "common_by" sComm)
    (a_over_all : At K mg "over_all" sOvAll)
    (a_quotient_in : At K mg "quotient_in" sQuoIn)
    (a_weighed_at : At K mg "weighed_at" sWei)
    (a_row_in : At K mg "row_in" sRowIn)
    (a_agrees_in : At K mg "agrees_in" sAgIn)
    (a_quotient_grown : At K mg "quotient_grown" sQG)
    (a_poly : At K mg "poly" sPoly)
    (a_degree : At K mg "degree" sDeg)
    (a_poly_less : At K mg "poly_less" sPLess)
    (a_poly_product : At K mg "poly_product" sPProd)
    (a_parted : At K mg "parted" sPParted)
    (a_quotient_of : At K mg "quotient_of" sQuoOf)
    (a_heights : At K mg "heights" sHts)
    (a_agrees : At K mg "agrees" sAg)
    (a_number_before : At K mg "number_before" sNBef)
    (a_cleared : At K mg "cleared" sClr)
    (a_first_column : At K mg "first_column" sFst)
    (a_pivots_of : At K mg "pivots_of" sPivs)
    (a_null_numbers : At K mg "null_numbers" sNull)
    (a_product_at : At K mg "product_at" sPAt)
    (a_form_in : At K mg "form_in" sForm)
    (a_furthest : At K mg "furthest" sFurth)
    (a_power_of_x : At K mg "power_of_x" sPow)
    (a_first_steps : At K mg "first_steps" sFirst)
    (a_next_step : At K mg "next_step" sNext)
    (a_by_parting : At K mg "by_parting" sByP)
    (a_side_of : At K mg "side_of" sSide)
    (a_block_of : At K mg "block_of" sBlock)
    (a__law_begin : At K mg "_law_begin" sBegin)
    (a__law_take : At K mg "_law_take" sTake)
    (a__law_same : At K mg "_law_same" sSame)
    (a__law_part : At K mg "_law_part" sLPart)
    (a__law_plus : At K mg "_law_plus" sLPlus)
    (a__law_minus : At K mg "_law_minus" sLMinus)
    (a__law_times : At K mg "_law_times" sLTimes)
    (a__law_number : At K mg "_law_number" sNumR)
    (a__law_small : At K mg "_law_small" sSmall)
    (a__law_trimmed : At K mg "_law_trimmed" sLTrim)
    (a__law_series : At K mg "_law_series" sSeries)
    (a__law_two_polys : At K mg "_law_two_polys" sTwo)
    (a__law_any : At K mg "_law_any" sAny)
    (a__law_row : At K mg "_law_row" sRow)
    (a__law_agreed : At K mg "_law_agreed" sAgreed)
    (a__law_told_right : At K mg "_law_told_right" sTR)
    (a__law_rise_right : At K mg "_law_rise_right" sRR)
    (a__law_walked : At K mg "_law_walked" sWalked)
    (a_number_at_fields : At2 K mg "number_at_fields" "number_at" sNatF) (a_number_at_rows : At2 K mg "number_at_rows" "number_at" sNatR)
    (e_plus_numbers : mg "plus_numbers" = mg "plus")
    (e_minus_numbers : mg "minus_numbers" = mg "minus")
    (e_times_numbers : mg "times_numbers" = mg "times")
    (e_over_numbers : mg "over_numbers" = mg "over")
    (B : Bi mg) (ME : MkE K CE) (mE : mg "Exact" = some (.ref CE)) (mC : mg "Chain" = some (.ref CC)) (mG : mg "Grower" = some (.ref GC)) (cE : Cls K CE)
    (x_nought : AtM K CE "nought" "Exact.nought" (sEx 0))
    (x_one : AtM K CE "one" "Exact.one" (sEx 1))
    (x_plus : AtM K CE "plus" "Exact.plus" (sEx 2))
    (x_minus : AtM K CE "minus" "Exact.minus" (sEx 3))
    (x_times : AtM K CE "times" "Exact.times" (sEx 4))
    (x_over : AtM K CE "over" "Exact.over" (sEx 5))
    (x_is_nought : AtM K CE "is_nought" "Exact.is_nought" (sEx 6))
    {fC : Addr} (MC : Mk K CC fC) (TC : ChT K CC) {fG : Addr} (MG : Mk K GC fG) (TG : GrT K GC)
    (c___init__ : AtM K CC "__init__" "Chain.__init__" (sCh 0))
    (c_gap_with : AtM K CC "gap_with" "Chain.gap_with" (sCh 1))
    (c_mended : AtM K CC "mended" "Chain.mended" (sCh 2))
    (c_put_on : AtM K CC "put_on" "Chain.put_on" (sCh 3))
    (g___init__ : AtM K GC "__init__" "Grower.__init__" (sGr 0))
    (g_put : AtM K GC "put" "Grower.put" (sGr 1))
    (g_length : AtM K GC "length" "Grower.length" (sGr 3))
    (g_told : AtM K GC "told" "Grower.told" (sGr 4))
    (c0 : CoAt K mg "NOUGHT" 0) (c1 : CoAt K mg "ONE" 1) :
    ∃ fd, Fun K "law" "law" sLaw fa fd ∧ ∀ base : Heap, K.In base → base.Ns mainGlobals mg → base.NoSeer → FnOk P w K mg base CX0 47 fa fd ["_law_script"] (spLaw K) := by
  obtain ⟨f, fd, F, e⟩ := al.ex
  have e2 := hl.symm.trans e
  cases e2
  exact ⟨fd, F, fun base _ _ S => law_ok S hT LS LW LM a_greatest_both a_number a_plus a_minus a_times a_over a_trimmed a_less_by a_product_by a_parted_by a_common_by a_over_all a_quotient_in a_weighed_at a_row_in a_agrees_in a_quotient_grown a_poly a_degree a_poly_less a_poly_product a_parted a_quotient_of a_heights a_agrees a_number_before a_cleared a_first_column a_pivots_of a_null_numbers a_product_at a_form_in a_furthest a_power_of_x a_first_steps a_next_step a_by_parting a_side_of a_block_of a__law_begin a__law_take a__law_same a__law_part a__law_plus a__law_minus a__law_times a__law_number a__law_small a__law_trimmed a__law_series a__law_two_polys a__law_any a__law_row a__law_agreed a__law_told_right a__law_rise_right a__law_walked a_number_at_fields a_number_at_rows e_plus_numbers e_minus_numbers e_times_numbers e_over_numbers B ME mE mC mG cE x_nought x_one x_plus x_minus x_times x_over x_is_nought MC TC MG TG c___init__ c_gap_with c_mended c_put_on g___init__ g_put g_length g_told c0 c1 F⟩
end L2.FW
end
section
set_option Elab.async false
set_option linter.all false
set_option maxRecDepth 100000
set_option pp.maxSteps 300
namespace L2.FW
open FQ (Ser)
theorem gst_eq (off : Int) (r : Nat → Rat) : ∀ k, gst off r k = FQ.gs off r k
  | 0 => rfl
  | k + 1 => by
    show (gst off r k).put (r k) = (FQ.gs off r k).put (r k)
    rw [gst_eq off r k]
theorem LMx (many : Nat) (r : Nat → Rat) (off : Int) (k : Nat) (h : many ≤ 18) (h1 : RowCls many r) (h2 : -1 ≤ off) (h3 : off ≤ 3) (h4 : k ≤ many) : glen (off + 1) r k ≤ glen off r k := by
  unfold glen
  rw [gst_eq, gst_eq]
  exact FQ.gs_less h2 r k
end L2.FW
end
section
set_option Elab.async false
set_option linter.all false
set_option maxRecDepth 100000
set_option pp.maxSteps 300
namespace L2.FW
open FQ (Ser SV Sz BB BB_eq Fit FitP IsLen)
/-! ### LSx: the law's own rows -/
theorem num_scale {x : Rat} {D : Nat} (h : x.den ∣ D) : x * ((D : Int) : Rat) = ((x.num * ((D / x.den : Nat) : Int) : Int) : Rat) := by
  obtain ⟨k, rfl⟩ := h
  have hp := x.den_pos
  rw [Nat.mul_div_cancel_left _ hp]
  have e := Rat.num_divInt_den x
  rw [Rat.divInt_eq_div] at e
  have hd : ((x.den : Int) : Rat) ≠ 0 := FQ.icast_ne (by omega)
  push_cast
  have e2 : x * ((x.den : Nat) : Rat) = (x.num : Rat) := by
    have e3 : x * ((x.den : Int) : Rat) = (x.num : Rat) := by
      conv => lhs; rw [← e]
      grind
    exact_mod_cast e3
  grind
theorem div2 {d : Nat} (h : 0 < d) (h2 : d ≤ 2) : d ∣ 2 := by
  have : d = 1 ∨ d = 2 := by omega
  rcases this with e | e <;> subst e <;> decide
theorem sv_of {f : Ser} {D a p H : Nat} (hD : 0 < D) (hd : D < 2 ^ p) (hp : p ≤ H) (h : ∀ k, (f k).den ∣ D ∧ (f k).num.natAbs < 2 ^ a) (hH : a + p ≤ H) : SV 1 f H := by
  refine ⟨fun k => (f k).num * ((D / (f k).den : Nat) : Int), (D : Int), by omega, fun k => ?_, fun k => ?_, FQ.abs_mono (by rw [Int.natAbs_natCast]; exact hd) hp⟩
  · rw [num_scale (h k).1]
    grind
  · refine FQ.abs_mono (FQ.abs_mul (h k).2 ?_) hH
    rw [Int.natAbs_natCast]
    exact Nat.lt_of_le_of_lt (Nat.div_le_self _ _) hd
theorem top_sv {f : Ser} {a : Nat} (h : TopOK f a) : SV 1 f 80 := by
  have d0 := (h.n 0).d
  have d1 := (h.n 1).d
  have p0 := (f 0).den_pos
  have p1 := (f 1).den_pos
  refine sv_of (D := (f 0).den * (f 1).den * 2) (a := 30) (p := 42) (Nat.mul_pos (Nat.mul_pos p0 p1) (by decide)) ?_ (by decide) (fun k => ⟨?_, ?_⟩) (by decide)
  · have := Nat.mul_le_mul d0 d1
    have e : (2 : Nat) ^ 42 = 4398046511104 := by decide
    rw [e]
    omega
  · match k with
    | 0 => exact Nat.dvd_trans (Nat.dvd_mul_right _ _) (Nat.dvd_mul_right _ _)
    | 1 => exact Nat.dvd_trans (Nat.dvd_mul_left _ _) (Nat.dvd_mul_right _ _)
    | k + 2 => exact Nat.dvd_trans (div2 (f (k + 2)).den_pos (h.t (k + 2) (by omega)).d) (Nat.dvd_mul_left _ _)
  · exact Nat.lt_of_le_of_lt (h.n k).n (by decide)
theorem bel_sv {g : Ser} {b : Nat} (h : BelOK g b) : SV 1 g 80 :=
  sv_of (D := 2) (a := 2) (p := 2) (by decide) (by decide) (by decide) (fun k => ⟨div2 (g k).den_pos (h.n k).d, Nat.lt_of_le_of_lt (h.n k).n (by decide)⟩) (by decide)
theorem lser_of {f g : Ser} {nb many H : Nat} (sf : SV 1 f H) (sg : SV 1 g H) (lb : IsLen g (nb + 1)) (hm : many ≤ 31) (hb : 40 * (H + 7) ≤ BB) : LserOK f g nb many (FQ.own f g) := by
  have bnd : ∀ i, i < many → (i + 2) * (H + 7) ≤ BB := fun i hi => Nat.le_trans (Nat.mul_le_mul_right _ (by omega)) hb
  have one : Sz 1 1 := ⟨1, 1, by decide, by grind, by decide, by decide⟩
  refine ⟨lb, by omega, fun i hi => (FQ.own_ok sf sg i (by omega)).1.fit (bnd i hi), sg.fitP one (by omega), fun i j hi => ((FQ.own_ok sf sg i (by omega)).2.2 j).fit (bnd i hi), fun i m hi h2 => ?_, fun i hi => ?_⟩
  · exact ((FQ.own_ok sf sg i (by omega)).2.1 m (by omega)).fit (bnd i hi)
  · exact FQ.own_min lb.1 i
theorem LSx (f g : Ser) (a b many : Nat) (h : many ≤ 18) (h1 : TopOK f a) (h2 : BelOK g b) (h3 : a ≤ many) (h4 : b ≤ many) : ∃ s, LserOK f g b many s :=
  ⟨_, lser_of (top_sv h1) (bel_sv h2) h2.len (by omega) (by rw [BB_eq]; decide)⟩
end L2.FW
end
section
set_option Elab.async false
set_option linter.all false
set_option maxRecDepth 100000
set_option pp.maxSteps 300
namespace L2.FW
open FQ (Ser SV Sz BB BB_eq Fit FitP IsLen isum)
/-! ### how small a row's numbers are -/
theorem rat_scale {x : Rat} {D : Nat} {A B : Nat} (h : NumOK x A B) (hd : x.den ∣ D) : ∃ z : Int, x * ((D : Int) : Rat) = (z : Rat) ∧ z.natAbs ≤ A * D := by
  refine ⟨_, num_scale hd, ?_⟩
  rw [Int.natAbs_mul, Int.natAbs_natCast]
  exact Nat.mul_le_mul h.n (Nat.div_le_self _ _)
theorem half_int {x : Rat} (h : NumOK x 3 2) : ∃ z : Int, x * ((2 : Int) : Rat) = (z : Rat) ∧ z.natAbs ≤ 6 := rat_scale (D := 2) h (div2 x.den_pos h.d)
theorem int_int {x : Rat} {A : Nat} (h : NumOK x A 1) : ∃ z : Int, x = (z : Rat) ∧ z.natAbs ≤ A := by
  have h1 := h.d
  have h2 := x.den_pos
  have : x.den ∣ 1 := by
    have : x.den = 1 := by omega
    rw [this]
    exact Nat.dvd_refl 1
  obtain ⟨z, h3, h4⟩ := rat_scale (D := 1) h this
  refine ⟨z, ?_, by omega⟩
  rw [← h3]
  push_cast
  grind
def dprod (r : Nat → Rat) : Nat → Nat
  | 0 => 1
  | n + 1 => dprod r n * (r n).den
theorem dprod_pos (r : Nat → Rat) : ∀ n, 0 < dprod r n
  | 0 => Nat.one_pos
  | n + 1 => Nat.mul_pos (dprod_pos r n) (r n).den_pos
theorem dprod_dvd (r : Nat → Rat) : ∀ n i, i < n → (r i).den ∣ dprod r n
  | 0, i, h => absurd h (Nat.not_lt_zero _)
  | n + 1, i, h => by
    by_cases e : i = n
    · rw [e]
      exact Nat.dvd_mul_left _ _
    · exact Nat.dvd_trans (dprod_dvd r n i (by omega)) (Nat.dvd_mul_right _ _)
theorem dprod_lt (r : Nat → Rat) : ∀ n, (∀ i, i < n → (r i).den ≤ 1000000) → dprod r n < 2 ^ (20 * n + 1)
  | 0, _ => by show 1 < 2 ^ (20 * 0 + 1); decide
  | n + 1, h => by
    have a := dprod_lt r n fun i hi => h i (by omega)
    have b := h n (by omega)
    have c : (r n).den < 2 ^ 20 := Nat.lt_of_le_of_lt b (by decide)
    have := FQ.lt_mul a c
    rw [show 20 * (n + 1) + 1 = 20 * n + 1 + 20 by omega]
    exact this
theorem own_of {f g : Ser} {nb many : Nat} {s : Nat → Rat} (h : LserOK f g nb many s) : ∀ i, i < many → s i = FQ.own f g i := by
  intro i
  induction i using Nat.strongRecOn with
  | ind i ih =>
    intro hi
    rw [h.eq i hi, FQ.own_min h.lb.1 i]
    unfold lsum FQ.opart
    congr 1
    exact FQ.sumTo_congr fun j hj => by rw [ih (i - 1 - j) (by omega) (by omega)]
/-- sums of falling shares -/
theorem conv_bound (n : Nat) (f : Nat → Int) (h : ∀ j, j < n → (f j).natAbs ≤ 24 * (2 ^ j * 8 ^ (n - 1 - j))) : ∀ m, m ≤ n → (isum m f).natAbs + 4 * (2 ^ m * 8 ^ (n - m)) ≤ 4 * 8 ^ n
  | 0, _ => by
    show (0 : Int).natAbs + 4 * (2 ^ 0 * 8 ^ (n - 0)) ≤ _
    rw [Nat.pow_zero, Nat.sub_zero]
    simp
  | m + 1, hm => by
    have ih := conv_bound n f h m (by omega)
    have b := h m (by omega)
    have c := Int.natAbs_add_le (isum m f) (f m)
    have e1 : 8 ^ (n - m) = 8 ^ (n - 1 - m) * 8 := by
      rw [← Nat.pow_succ]
      congr 1
      omega
    have e2 : 8 ^ (n - (m + 1)) = 8 ^ (n - 1 - m) := by
      congr 1
      omega
    show (isum m f + f m).natAbs + _ ≤ _
    rw [e2, Nat.pow_succ]
    rw [e1] at ih
    generalize hP : 2 ^ m * 8 ^ (n - 1 - m) = P at *
    have e3 : 2 ^ m * (8 ^ (n - 1 - m) * 8) = P * 8 := by rw [← hP, Nat.mul_assoc]
    have e4 : 2 ^ m * 2 * 8 ^ (n - 1 - m) = P * 2 := by rw [← hP, Nat.mul_right_comm]
    rw [e3] at ih
    rw [e4]
    omega
theorem own_great {f g : Ser} (hf : ∀ k, NumOK (f k) 4 1) (hg : ∀ k, NumOK (g k) 3 2) : ∀ i, ∃ w : Int, FQ.own f g i * ((2 ^ i : Int) : Rat) = (w : Rat) ∧ w.natAbs ≤ 4 * 8 ^ i := by
  have cf : ∃ φ : Nat → Int, ∀ i, f i = (φ i : Rat) ∧ (φ i).natAbs ≤ 4 := ⟨fun i => (int_int (hf i)).choose, fun i => (int_int (hf i)).choose_spec⟩
  have cg : ∃ γ : Nat → Int, ∀ i, g i * ((2 : Int) : Rat) = (γ i : Rat) ∧ (γ i).natAbs ≤ 6 := ⟨fun i => (half_int (hg i)).choose, fun i => (half_int (hg i)).choose_spec⟩
  obtain ⟨φ, hφ⟩ := cf
  obtain ⟨γ, hγ⟩ := cg
  intro i
  induction i using Nat.strongRecOn with
  | ind i ih =>
    have ch : ∀ l, ∃ w : Int, l < i → FQ.own f g l * ((2 ^ l : Int) : Rat) = (w : Rat) ∧ w.natAbs ≤ 4 * 8 ^ l := fun l => by
      by_cases hl : l < i
      · obtain ⟨w, h⟩ := ih l hl
        exact ⟨w, fun _ => h⟩
      · exact ⟨0, fun z => absurd z hl⟩
    have ch2 : ∃ w : Nat → Int, ∀ l, l < i → FQ.own f g l * ((2 ^ l : Int) : Rat) = (w l : Rat) ∧ (w l).natAbs ≤ 4 * 8 ^ l := ⟨fun l => (ch l).choose, fun l => (ch l).choose_spec⟩
    obtain ⟨w, hw⟩ := ch2
    have hsum := FQ.sumTo_int (f := fun j => g (j + 1) * FQ.own f g (i - 1 - j)) (D := ((2 ^ i : Int) : Rat)) (z := fun j => γ (j + 1) * 2 ^ j * w (i - 1 - j)) i fun j hj => by
      have e1 := (hw (i - 1 - j) (by omega)).1
      have e2 := (hγ (j + 1)).1
      have e3 : (2 : Int) ^ i = 2 * 2 ^ j * 2 ^ (i - 1 - j) := by
        rw [Int.mul_assoc, ← Int.pow_add, ← Int.pow_succ']
        congr 1
        omega
      rw [e3]
      push_cast
      push_cast at e1 e2
      have : g (j + 1) * FQ.own f g (i - 1 - j) * ((2 : Rat) * 2 ^ j * 2 ^ (i - 1 - j)) = (g (j + 1) * 2) * 2 ^ j * (FQ.own f g (i - 1 - j) * 2 ^ (i - 1 - j)) := by grind
      rw [this, e1, e2]
    have cb := conv_bound i (fun j => γ (j + 1) * 2 ^ j * w (i - 1 - j)) (fun j hj => by
      have a := (hγ (j + 1)).2
      have b := (hw (i - 1 - j) (by omega)).2
      rw [Int.natAbs_mul, Int.natAbs_mul, Int.natAbs_pow]
      have h1 : (γ (j + 1)).natAbs * (2 : Int).natAbs ^ j * (w (i - 1 - j)).natAbs ≤ 6 * 2 ^ j * (4 * 8 ^ (i - 1 - j)) := Nat.mul_le_mul (Nat.mul_le_mul a (Nat.le_refl _)) b
      have h2 : 6 * 2 ^ j * (4 * 8 ^ (i - 1 - j)) = 24 * (2 ^ j * 8 ^ (i - 1 - j)) := by
        generalize 2 ^ j = x
        generalize 8 ^ (i - 1 - j) = y
        rw [Nat.mul_mul_mul_comm]
      omega) i (Nat.le_refl _)
    refine ⟨φ i * 2 ^ i - isum i (fun j => γ (j + 1) * 2 ^ j * w (i - 1 - j)), ?_, ?_⟩
    · rw [FQ.own_eq]
      have e := (hφ i).1
      rw [e]
      push_cast
      push_cast at hsum
      rw [← hsum]
      grind
    · have a := (hφ i).2
      rw [Nat.sub_self, Nat.pow_zero, Nat.mul_one] at cb
      have h1 : (φ i * 2 ^ i).natAbs ≤ 4 * 2 ^ i := by
        rw [Int.natAbs_mul, Int.natAbs_pow]
        exact Nat.mul_le_mul a (Nat.le_refl _)
      have h2 := Int.natAbs_add_le (φ i * 2 ^ i) (- isum i (fun j => γ (j + 1) * 2 ^ j * w (i - 1 - j)))
      rw [Int.natAbs_neg] at h2
      rw [Int.sub_eq_add_neg]
      omega
/-- a row over one whole number -/
def RowSz (many : Nat) (r : Nat → Rat) (A : Nat) (D : Int) (ρ : Nat → Int) : Prop := D ≠ 0 ∧ D.natAbs < 2 ^ A ∧ ∀ i, i < many → r i * (D : Rat) = (ρ i : Rat) ∧ (ρ i).natAbs < 2 ^ A
theorem rowsz_of {many : Nat} {r : Nat → Rat} {A : Nat} {D : Int} (hD : D ≠ 0) (hd : D.natAbs < 2 ^ A) (h : ∀ i, i < many → ∃ z : Int, r i * (D : Rat) = (z : Rat) ∧ z.natAbs < 2 ^ A) : ∃ ρ, RowSz many r A D ρ := by
  have ch : ∀ i, ∃ z : Int, i < many → r i * (D : Rat) = (z : Rat) ∧ z.natAbs < 2 ^ A := fun i => by
    by_cases hi : i < many
    · obtain ⟨z, q⟩ := h i hi
      exact ⟨z, fun _ => q⟩
    · exact ⟨0, fun z => absurd z hi⟩
  exact ⟨fun i => (ch i).choose, hD, hd, fun i => (ch i).choose_spec⟩
theorem row_sz {many : Nat} {r : Nat → Rat} (hm : many ≤ 18) (c : RowCls many r) : ∃ (A : Nat) (D : Int) (ρ : Nat → Int), ((A = 600 ∧ many ≤ 6) ∨ A = 64) ∧ RowSz many r A D ρ := by
  cases c with
  | any h =>
    unfold anyA anyD at h
    by_cases h6 : 6 < many
    · simp only [if_pos h6] at h
      obtain ⟨ρ, q⟩ := rowsz_of (many := many) (r := r) (A := 64) (D := 1) (by decide) (by decide) fun i hi => by
        obtain ⟨z, e, b⟩ := int_int (h i hi)
        exact ⟨z, by rw [e]; push_cast; grind, Nat.lt_of_le_of_lt b (by decide)⟩
      exact ⟨64, 1, ρ, .inr rfl, q⟩
    · simp only [if_neg h6] at h
      have dl := dprod_lt r many fun i hi => (h i hi).d
      have dl2 : dprod r many < 2 ^ 121 := Nat.lt_of_lt_of_le dl (FQ.pow_mono (by omega))
      obtain ⟨ρ, q⟩ := rowsz_of (many := many) (r := r) (A := 600) (D := (dprod r many : Int)) (by have := dprod_pos r many; omega) (by rw [Int.natAbs_natCast]; exact Nat.lt_of_lt_of_le dl2 (FQ.pow_mono (by decide))) fun i hi => by
        obtain ⟨z, e, b⟩ := rat_scale (h i hi) (dprod_dvd r many i hi)
        refine ⟨z, e, Nat.lt_of_le_of_lt b ?_⟩
        have : 1000000000 * dprod r many < 2 ^ (30 + 121) := FQ.lt_mul (by decide) dl2
        exact Nat.lt_of_lt_of_le this (FQ.pow_mono (by decide))
      exact ⟨600, _, ρ, .inl ⟨rfl, by omega⟩, q⟩
  | few h =>
    obtain ⟨ρ, q⟩ := rowsz_of (many := many) (r := r) (A := 64) (D := 2) (by decide) (by decide) fun i hi => by
      obtain ⟨z, e, b⟩ := half_int (h i hi)
      exact ⟨z, e, Nat.lt_of_le_of_lt b (by decide)⟩
    exact ⟨64, 2, ρ, .inr rfl, q⟩
  | ser f g a b s hf hi hg ha hb hs h =>
    by_cases h6 : 6 < many
    · obtain ⟨ρ, q⟩ := rowsz_of (many := many) (r := r) (A := 64) (D := 2 ^ 18) (by decide) (by decide) fun i hi' => by
        obtain ⟨w, e, bw⟩ := own_great (hi h6) hg.n i
        obtain ⟨x, hx, er⟩ := h i hi'
        obtain ⟨z, ez, bz⟩ := half_int hx
        have es := own_of hs i hi'
        refine ⟨w * 2 ^ (18 - i) + z * 2 ^ 17, ?_, ?_⟩
        · rw [er, es]
          have e3 : (2 : Int) ^ 18 = 2 ^ i * 2 ^ (18 - i) := by
            rw [← Int.pow_add]
            congr 1
            omega
          have e4 : (2 : Int) ^ 18 = 2 * 2 ^ 17 := by decide
          have e5 : FQ.own f g i * ((2 ^ 18 : Int) : Rat) = ((w * 2 ^ (18 - i) : Int) : Rat) := by
            rw [e3]
            push_cast
            push_cast at e
            rw [← e]
            grind
          have e6 : x * ((2 ^ 18 : Int) : Rat) = ((z * 2 ^ 17 : Int) : Rat) := by
            rw [e4]
            push_cast
            push_cast at ez
            rw [← ez]
            grind
          have : (FQ.own f g i + x) * ((2 ^ 18 : Int) : Rat) = FQ.own f g i * ((2 ^ 18 : Int) : Rat) + x * ((2 ^ 18 : Int) : Rat) := by grind
          rw [this, e5, e6]
          push_cast
          rfl
        · have p1 : (w * 2 ^ (18 - i)).natAbs ≤ 4 * 8 ^ i * 2 ^ (18 - i) := by
            rw [Int.natAbs_mul, Int.natAbs_pow]
            exact Nat.mul_le_mul bw (Nat.le_refl _)
          have p2 : (z * 2 ^ 17).natAbs ≤ 6 * 2 ^ 17 := by
            rw [Int.natAbs_mul, Int.natAbs_pow]
            exact Nat.mul_le_mul bz (Nat.le_refl _)
          have p3 : 4 * 8 ^ i * 2 ^ (18 - i) ≤ 2 ^ 60 := by
            have : ∀ i, i < 18 → 4 * 8 ^ i * 2 ^ (18 - i) ≤ 2 ^ 60 := by decide
            exact this i (by omega)
          have p4 := Int.natAbs_add_le (w * 2 ^ (18 - i)) (z * 2 ^ 17)
          have p5 : (2 : Nat) ^ 60 + 6 * 2 ^ 17 < 2 ^ 64 := by decide
          omega
      exact ⟨64, _, ρ, .inr rfl, q⟩
    · obtain ⟨σ, τ, γ, z, hσ, hτ, bσ, bτ, eg, bg, hz⟩ := FQ.own_sz (top_sv hf) (bel_sv hg)
      have bτ5 := FQ.abs_pow bτ hτ 5
      have bD : (σ * τ ^ 5).natAbs < 2 ^ 481 := FQ.abs_mul bσ bτ5
      obtain ⟨ρ, q⟩ := rowsz_of (many := many) (r := r) (A := 600) (D := 2 * (σ * τ ^ 5)) (Int.mul_ne_zero (by decide) (Int.mul_ne_zero hσ (Int.pow_ne_zero hτ))) (FQ.abs_mono (FQ.abs_mul (p := 2) (by decide) bD) (by decide)) fun i hi' => by
        obtain ⟨⟨e, bz⟩, _⟩ := hz i (by omega)
        obtain ⟨x, hx, er⟩ := h i hi'
        obtain ⟨y, ey, bY⟩ := half_int hx
        have es := own_of hs i hi'
        refine ⟨2 * (z i * τ ^ (5 - i)) + y * (σ * τ ^ 5), ?_, ?_⟩
        · rw [er, es]
          have e3 : τ ^ 5 = τ ^ i * τ ^ (5 - i) := by
            rw [← Int.pow_add]
            congr 1
            omega
          have e5 : FQ.own f g i * ((σ * τ ^ 5 : Int) : Rat) = ((z i * τ ^ (5 - i) : Int) : Rat) := by
            rw [e3]
            push_cast
            push_cast at e
            rw [← e]
            grind
          have : (FQ.own f g i + x) * ((2 * (σ * τ ^ 5) : Int) : Rat) = 2 * (FQ.own f g i * ((σ * τ ^ 5 : Int) : Rat)) + x * ((2 : Int) : Rat) * ((σ * τ ^ 5 : Int) : Rat) := by
            rw [Rat.intCast_mul]
            have : ((2 : Int) : Rat) = 2 := rfl
            rw [this]
            grind
          rw [this, e5, ey]
          push_cast
          rfl
        · have p1 : (2 * (z i * τ ^ (5 - i))).natAbs < 2 ^ 540 := by
            refine FQ.abs_mono (FQ.abs_mul (p := 2) (by decide) (FQ.abs_mul bz (FQ.abs_pow bτ hτ (5 - i)))) ?_
            omega
          have p2 : (y * (σ * τ ^ 5)).natAbs < 2 ^ 540 := FQ.abs_mono (FQ.abs_mul (p := 3) (Nat.lt_of_le_of_lt bY (by decide)) bD) (by decide)
          exact FQ.abs_mono (FQ.abs_add p1 p2) (by decide)
      exact ⟨600, _, ρ, .inl ⟨rfl, by omega⟩, q⟩
end L2.FW
end
section
set_option Elab.async false
set_option linter.all false
set_option maxRecDepth 100000
set_option pp.maxSteps 300
namespace L2.FW
open FQ (Ser SV Sz BB BB_eq Fit FitP IsLen Lt isum Quo tTop sumTo)
/-! ### LWx: every row's walk -/
theorem nAt_back (r : Nat → Rat) (i j : Nat) : nAt i r ((i : Int) - ((j : Int) + 1)) = if j < i then r (i - 1 - j) else 0 := by
  unfold nAt
  by_cases h : j < i
  · rw [if_pos h, if_pos (by omega), show ((i : Int) - ((j : Int) + 1)).toNat = i - 1 - j by omega]
  · rw [if_neg h, if_neg (by omega)]
theorem own_row {a b : Ser} {r : Nat → Rat} {n A H ng : Nat} {D : Int} {ρ : Nat → Int} (b0 : b 0 = 1) (sa : SV 1 a H) (sb : SV 1 b H) (la : Lt a 400) (lb : IsLen b (ng + 1)) (hng : ng ≤ 32) (hn : n ≤ 400) (ag : FQ.Mod n (b * (⟨r⟩ : Ser)) a)
    (hD : D ≠ 0) (hd : D.natAbs < 2 ^ A) (hρ : ∀ i, i < n → r i * (D : Rat) = (ρ i : Rat) ∧ (ρ i).natAbs < 2 ^ A) (hb : H + A + 20 ≤ BB) : OwnRow a b n r := by
  have fb := sb.fitP FQ.one_sz (by omega)
  have fa := sa.fitP FQ.one_sz (by omega)
  obtain ⟨β, σ, hσ, eb, bb, bσ⟩ := sb.ex
  have nz : σ * D ≠ 0 := Int.mul_ne_zero hσ hD
  have bd : (σ * D).natAbs < 2 ^ (H + A) := FQ.abs_mul bσ hd
  have rowz : ∀ i, i < n → ∀ z, ∃ y : Int, nAt i r z * (D : Rat) = (y : Rat) ∧ y.natAbs < 2 ^ A := fun i hi z => by
    unfold nAt
    by_cases h : 0 ≤ z ∧ z < (i : Int)
    · rw [if_pos h]
      exact ⟨_, hρ z.toNat (by omega)⟩
    · rw [if_neg h]
      exact ⟨0, by push_cast; grind, FQ.abs_zero⟩
  have prz : ∀ i, i < n → ∀ j z, ∃ y : Int, b j * nAt i r z * ((σ * D : Int) : Rat) = (y : Rat) ∧ y.natAbs < 2 ^ (H + A) := fun i hi j z => by
    obtain ⟨y, e, q⟩ := rowz i hi z
    refine ⟨β j * y, ?_, FQ.abs_mul (bb j) q⟩
    have e2 := eb j
    push_cast
    have : b j * nAt i r z * ((σ : Rat) * (D : Rat)) = (b j * (σ : Rat)) * (nAt i r z * (D : Rat)) := by grind
    rw [this, e, e2]
    grind
  have wz : ∀ i, i < n → ∀ j, j ≤ ng → Fit (wsum b i r i j) := fun i hi j hj => by
    have ch : ∃ zf : Nat → Int, ∀ k : Nat, b (k + 1) * nAt i r ((i : Int) - ((k : Int) + 1)) * ((σ * D : Int) : Rat) = (zf k : Rat) ∧ (zf k).natAbs < 2 ^ (H + A) := ⟨fun k => (prz i hi (k + 1) _).choose, fun k => (prz i hi (k + 1) _).choose_spec⟩
    obtain ⟨zf, hz⟩ := ch
    have hsum := FQ.sumTo_int (f := fun k => b (k + 1) * nAt i r ((i : Int) - ((k : Int) + 1))) (D := ((σ * D : Int) : Rat)) (z := zf) j fun k _ => (hz k).1
    exact Sz.fit ⟨_, _, nz, hsum, FQ.isum_bits (by omega) fun k _ => (hz k).2, FQ.abs_mono bd (by omega)⟩ (show H + A + 5 ≤ BB by omega)
  refine ⟨⟨ng, ⟨lb, fa, fun i hi => ⟨fb, fun z => ?_, fun j z => ?_, fun j hj => wz i hi j hj⟩, fun i hi => wz i hi ng (Nat.le_refl _), fun i hi => ?_⟩, by omega⟩, la, hn⟩
  · obtain ⟨y, e, q⟩ := rowz i hi z
    exact Sz.fit ⟨y, D, hD, e, q, hd⟩ (by omega)
  · obtain ⟨y, e, q⟩ := prz i hi j z
    exact Sz.fit ⟨y, _, nz, e, q, bd⟩ (by omega)
  · have e := ag i hi
    rw [Ser.mul_co, FQ.sumTo_first, b0, Nat.sub_zero] at e
    have e2 : wsum b i r i ng = sumTo i fun k => b (k + 1) * r (i - (k + 1)) := by
      unfold wsum
      have e3 : sumTo ng (fun k => b (k + 1) * nAt i r ((i : Int) - ((k : Int) + 1))) = sumTo ng fun k => b (k + 1) * (if k < i then r (i - 1 - k) else 0) := FQ.sumTo_congr fun k _ => by rw [nAt_back]
      rw [e3]
      by_cases h : ng ≤ i
      · rw [← FQ.sumTo_ext h fun k h1 h2 => by rw [lb.1 (k + 1) (by omega)]; grind]
        exact FQ.sumTo_congr fun k hk => by rw [if_pos hk, show i - 1 - k = i - (k + 1) by omega]
      · rw [FQ.sumTo_ext (n := i) (by omega) fun k h1 h2 => by rw [if_neg (by omega)]; grind]
        exact FQ.sumTo_congr fun k hk => by rw [if_pos hk, show i - 1 - k = i - (k + 1) by omega]
    rw [e2]
    have e4 : (1 : Rat) * r i + sumTo i (fun k => b (k + 1) * r (i - (k + 1))) = a i := e
    grind
theorem room_of {many A : Nat} (h1 : many ≤ 18) (hA : (A = 600 ∧ many ≤ 6) ∨ A = 64) : FQ.Room A many := by
  rcases hA with ⟨e, h6⟩ | e
  · rw [e]; exact FQ.room_600 h6
  · rw [e]; exact FQ.room_64 h1
theorem small_40 {H : Nat} (h : H ≤ 10000) : 40 * (H + 7) ≤ BB := by
  have := BB_eq
  omega
section
variable {off : Int} {r : Nat → Rat} {m A many : Nat} {D : Int} {ρ : Nat → Int}
theorem agr_told (R : FQ.Room A many) (hm : off + 1 = (m : Int)) (hD : D ≠ 0) (hd : D.natAbs < 2 ^ A) (hρ : ∀ i, i < many → r i * (D : Rat) = (ρ i : Rat) ∧ (ρ i).natAbs < 2 ^ A) {k : Nat} (hk : k < many) (h2 : 2 * (FQ.gs off r k).ch.L + m ≤ k)
    (rise : (FQ.gs off r k).ch.L < (FQ.gs off r (k + 1)).ch.L) : AgrOK (tTop off r m k) (FQ.gs off r k).ch.C (k + 1) r k := by
  have n18 := R.n18
  obtain ⟨Q, tm, lt1, lt2⟩ := FQ.told_facts (r := r) hm h2
  obtain ⟨na, nb, H, la, lb, hna, hnb, sa, sb, hH⟩ := FQ.told_sv R hm hD hd hρ (by omega) h2
  obtain ⟨_, _, miss⟩ := FQ.gs_rise hm rise
  refine ⟨⟨nb, FQ.own (tTop off r m k) (FQ.gs off r k).ch.C, lser_of sa sb lb (by omega) (small_40 hH), fun i hi => FQ.own_agree Q.b0 tm i hi, fun _ => FQ.own_miss (R := ⟨r⟩) Q.b0 tm ?_⟩, by omega⟩
  rw [lt1 k (by omega)]
  exact miss
theorem less_told (R : FQ.Room A many) (hm : off + 1 = (m : Int)) (h3 : -1 ≤ off) (hD : D ≠ 0) (hd : D.natAbs < 2 ^ A) (hρ : ∀ i, i < many → r i * (D : Rat) = (ρ i : Rat) ∧ (ρ i).natAbs < 2 ^ A) {k : Nat} (hk : k ≤ many) (h1 : 1 ≤ (FQ.gs off r k).ch.L)
    (a0 : 0 ≤ ((FQ.gs off r k).ch.L : Int) + off - 1) (a1 : 2 * ((FQ.gs off r k).ch.L : Int) + off - 1 ≤ (k : Int)) :
    ∃ (m j kk : Nat) (a b : Ser), ((FQ.gs off r k).ch.L : Int) + off - 1 = (m : Int) ∧ (FQ.gs off r k).ch.L = j + 1 ∧ m + j + 1 ≤ k ∧ FQ.FormOK r m j a b ∧ AgrOK a b k r kk ∧ kk < k := by
  have n18 := R.n18
  obtain ⟨j, hj⟩ : ∃ j, (FQ.gs off r k).ch.L = j + 1 := ⟨(FQ.gs off r k).ch.L - 1, by omega⟩
  obtain ⟨mm, hmm⟩ : ∃ mm : Nat, ((FQ.gs off r k).ch.L : Int) + off - 1 = (mm : Int) := ⟨(((FQ.gs off r k).ch.L : Int) + off - 1).toNat, by omega⟩
  obtain ⟨a, b, p, q, Q, la, lb, _, _, ok, nb, H, lenb, hnb, sa, sb, hH⟩ := FQ.form_at (r := r) R hD hd hρ (m := mm) (n := j) (by omega) (by omega)
  obtain ⟨kk, c1, c2, c3⟩ := FQ.first_miss (P := fun i => r i = FQ.own a b i) k fun all => FQ.less_at (r := r) hm (k := k) (j := j) Q (la.mono (by omega)) lb (by omega) all
  exact ⟨mm, j, kk, a, b, hmm, hj, by omega, ok, ⟨⟨nb, FQ.own a b, lser_of sa sb lenb (by omega) (small_40 hH), c2, fun _ => c3⟩, by omega⟩, c1⟩
end
theorem LWx (many : Nat) (r : Nat → Rat) (off : Int) (h : 1 ≤ many) (h1 : many ≤ 18) (h2 : RowCls many r) (h3 : -1 ≤ off) (h4 : off ≤ 3) : ∃ told, WalkOK off many r told := by
  obtain ⟨A, D, ρ, hA, hD, hd, hρ⟩ := row_sz h1 h2
  have R := room_of h1 hA
  obtain ⟨m, hm⟩ : ∃ m : Nat, off + 1 = (m : Int) := ⟨(off + 1).toNat, by omega⟩
  have hg : ∀ k, glen off r k = (FQ.gs off r k).ch.L := fun k => by
    unfold glen
    rw [gst_eq]
  have sz := FQ.gs_sz (many := many) hm hD hd hρ (by omega) R.ch
  refine ⟨fun k => if (k : Int) < 2 * ((FQ.gs off r k).ch.L : Int) + off + 1 then none else some (tTop off r m k, (FQ.gs off r k).ch.C), ?_⟩
  have tk : ∀ {k : Nat} {a b : Ser}, (if (k : Int) < 2 * ((FQ.gs off r k).ch.L : Int) + off + 1 then none else some (tTop off r m k, (FQ.gs off r k).ch.C)) = some (a, b) → 2 * (FQ.gs off r k).ch.L + m ≤ k ∧ a = tTop off r m k ∧ b = (FQ.gs off r k).ch.C := fun {k a b} e => by
    by_cases c : (k : Int) < 2 * ((FQ.gs off r k).ch.L : Int) + off + 1
    · rw [if_pos c] at e
      cases e
    · rw [if_neg c] at e
      have e2 := Option.some.inj e
      have ea : tTop off r m k = a := congrArg Prod.fst e2
      have eb : (FQ.gs off r k).ch.C = b := congrArg Prod.snd e2
      exact ⟨by omega, ea.symm, eb.symm⟩
  refine ⟨by omega, fun k => ?_, fun k => ?_, fun k hk hp => ?_, fun k hk hp => ?_, fun k hk hp => ?_, fun k => ?_, fun k hk => ?_, fun k hk hl => ?_, fun k a b hk e h0 _ => ?_⟩
  · rw [gst_eq]; exact FQ.gs_n off r k
  · rw [gst_eq]; exact FQ.gs_off off r k
  · rw [gst_eq]; exact (sz k (by omega)).2 hk hp
  · rw [hg] at hp
    exact if_pos hp
  · rw [hg] at hp
    have hL : 2 * (FQ.gs off r k).ch.L + m ≤ k := by omega
    have g := FQ.grown_at R hm hD hd hρ hk hL
    refine ⟨by omega, _, _, if_neg hp, ?_⟩
    rw [hg, gst_eq, show (((FQ.gs off r k).ch.L : Int) + off + 1).toNat = (FQ.gs off r k).ch.L + m by omega]
    exact g
  · rw [gst_eq]
    have := (FQ.gs_bm (r := r) hm k).1
    exact ⟨this.n1, this.n2⟩
  · rw [hg, hg]; exact FQ.gs_mono off r k
  · rw [hg, hg] at hl
    rw [hg, hg]
    obtain ⟨c1, c2, c3⟩ := FQ.gs_rise hm hl
    refine ⟨by omega, by omega, fun a b e => ?_, fun a0 a1 => ?_⟩
    · obtain ⟨d1, rfl, rfl⟩ := tk e
      rw [Nat.add_sub_cancel]
      exact agr_told R hm hD hd hρ hk d1 hl
    · exact less_told R hm h3 hD hd hρ (k := k + 1) (by omega) (by omega) a0 a1
  · obtain ⟨d1, rfl, rfl⟩ := tk e
    rw [hg] at h0 ⊢
    obtain ⟨mm, hmm⟩ : ∃ mm : Nat, ((FQ.gs off r (k + 1)).ch.L : Int) + off = (mm : Int) := ⟨(((FQ.gs off r (k + 1)).ch.L : Int) + off).toNat, by omega⟩
    obtain ⟨ok1, ok2⟩ := FQ.right_at (r := r) R hm hD hd hρ (k := k + 1) (by omega) d1 (mm := mm) (by omega)
    obtain ⟨Q, tm, lt1, lt2⟩ := FQ.told_facts (r := r) hm d1
    obtain ⟨na, nb, H, la, lb, hna, hnb, sa, sb, hH⟩ := FQ.told_sv (r := r) R hm hD hd hρ (k := k + 1) (by omega) d1
    have hA2 : A ≤ 600 := by omega
    have := BB_eq
    exact ⟨mm, na, nb + 1, hmm, by omega, ok1, ok2, la, lb, by omega, by omega, fun _ => own_row Q.b0 sa sb (lt1.mono (by omega)) lb (by omega) (by omega) tm hD hd (fun i hi => hρ i (by omega)) (by omega)⟩
end L2.FW
end
set_option Elab.async false
set_option linter.all false
set_option maxRecDepth 100000
set_option pp.maxSteps 60
open PySem PySem.W PyProof.Rows
open PySem.Spec
set_option maxRecDepth 100000 in
set_option maxHeartbeats 0 in
theorem PySem.Challenge.cw_farquotient_k95_whole_grown_place_by_pla_holds : PySem.Challenge.rw_farquotient_k95_whole_grown_place_by_pla.Holds := by
  w_on; o_law; k_head; (case hw => w_witness2)
  k_fill
  refine L2.FW.walk (l := PySem.Challenge.rw_farquotient_k95_whole_grown_place_by_pla) rfl (by decide +kernel) rfl (fun w h Y => PySem.W.kIn_of Y) ?F
  case F =>
    intro w mg fa h KX G hmg
    refine' L2.FW.fin_mk rfl L2.FW.LSx L2.FW.LWx L2.FW.LMx hmg ?al ?a_greatest_both ?a_number ?a_plus ?a_minus ?a_times ?a_over ?a_trimmed ?a_less_by ?a_product_by ?a_parted_by ?a_common_by ?a_over_all ?a_quotient_in ?a_weighed_at ?a_row_in ?a_agrees_in ?a_quotient_grown ?a_poly ?a_degree ?a_poly_less ?a_poly_product ?a_parted ?a_quotient_of ?a_heights ?a_agrees ?a_number_before ?a_cleared ?a_first_column ?a_pivots_of ?a_null_numbers ?a_product_at ?a_form_in ?a_furthest ?a_power_of_x ?a_first_steps ?a_next_step ?a_by_parting ?a_side_of ?a_block_of ?a__law_begin ?a__law_take ?a__law_same ?a__law_part ?a__law_plus ?a__law_minus ?a__law_times ?a__law_number ?a__law_small ?a__law_trimmed ?a__law_series ?a__law_two_polys ?a__law_any ?a__law_row ?a__law_agreed ?a__law_told_right ?a__law_rise_right ?a__law_walked ?a_number_at_fields ?a_number_at_rows ?e_plus_numbers ?e_minus_numbers ?e_times_numbers ?e_over_numbers ?B ?ME ?mE ?mC ?mG ?cE ?x_nought ?x_one ?x_plus ?x_minus ?x_times ?x_over ?x_is_nought ?MC ?TC ?MG ?TG ?c___init__ ?c_gap_with ?c_mended ?c_put_on ?g___init__ ?g_put ?g_length ?g_told ?c0 ?c1
    (case mE => (refine' PySem.W.mg_of KX G ?a; (case a => k_is)))
    (case mC => (refine' PySem.W.mg_of KX G ?a; (case a => k_is)))
    (case mG => (refine' PySem.W.mg_of KX G ?a; (case a => k_is)))
    (case a_greatest_both => (refine' L2.FW.at_mk KX G ?a ?l ?c ?k; (case a => k_is); (case l => k_is); (case c => k_is); (case k => k_is)))
    (case a_number => (refine' L2.FW.at_mk KX G ?a ?l ?c ?k; (case a => k_is); (case l => k_is); (case c => k_is); (case k => k_is)))
    (case a_plus => (refine' L2.FW.at_mk KX G ?a ?l ?c ?k; (case a => k_is); (case l => k_is); (case c => k_is); (case k => k_is)))
    (case a_minus => (refine' L2.FW.at_mk KX G ?a ?l ?c ?k; (case a => k_is); (case l => k_is); (case c => k_is); (case k => k_is)))
    (case a_times => (refine' L2.FW.at_mk KX G ?a ?l ?c ?k; (case a => k_is); (case l => k_is); (case c => k_is); (case k => k_is)))
    (case a_over => (refine' L2.FW.at_mk KX G ?a ?l ?c ?k; (case a => k_is); (case l => k_is); (case c => k_is); (case k => k_is)))
    (case a_trimmed => (refine' L2.FW.at_mk KX G ?a ?l ?c ?k; (case a => k_is); (case l => k_is); (case c => k_is); (case k => k_is)))
    (case a_less_by => (refine' L2.FW.at_mk KX G ?a ?l ?c ?k; (case a => k_is); (case l => k_is); (case c => k_is); (case k => k_is)))
    (case a_product_by => (refine' L2.FW.at_mk KX G ?a ?l ?c ?k; (case a => k_is); (case l => k_is); (case c => k_is); (case k => k_is)))
    (case a_parted_by => (refine' L2.FW.at_mk KX G ?a ?l ?c ?k; (case a => k_is); (case l => k_is); (case c => k_is); (case k => k_is)))
    (case a_common_by => (refine' L2.FW.at_mk KX G ?a ?l ?c ?k; (case a => k_is); (case l => k_is); (case c => k_is); (case k => k_is)))
    (case a_over_all => (refine' L2.FW.at_mk KX G ?a ?l ?c ?k; (case a => k_is); (case l => k_is); (case c => k_is); (case k => k_is)))
    (case a_quotient_in => (refine' L2.FW.at_mk KX G ?a ?l ?c ?k; (case a => k_is); (case l => k_is); (case c => k_is); (case k => k_is)))
    (case a_weighed_at => (refine' L2.FW.at_mk KX G ?a ?l ?c ?k; (case a => k_is); (case l => k_is); (case c => k_is); (case k => k_is)))
    (case a_row_in => (refine' L2.FW.at_mk KX G ?a ?l ?c ?k; (case a => k_is); (case l => k_is); (case c => k_is); (case k => k_is)))
    (case a_agrees_in => (refine' L2.FW.at_mk KX G ?a ?l ?c ?k; (case a => k_is); (case l => k_is); (case c => k_is); (case k => k_is)))
    (case a_quotient_grown => (refine' L2.FW.at_mk KX G ?a ?l ?c ?k; (case a => k_is); (case l => k_is); (case c => k_is); (case k => k_is)))
    (case a_poly => (refine' L2.FW.at_mk KX G ?a ?l ?c ?k; (case a => k_is); (case l => k_is); (case c => k_is); (case k => k_is)))
    (case a_degree => (refine' L2.FW.at_mk KX G ?a ?l ?c ?k; (case a => k_is); (case l => k_is); (case c => k_is); (case k => k_is)))
    (case a_poly_less => (refine' L2.FW.at_mk KX G ?a ?l ?c ?k; (case a => k_is); (case l => k_is); (case c => k_is); (case k => k_is)))
    (case a_poly_product => (refine' L2.FW.at_mk KX G ?a ?l ?c ?k; (case a => k_is); (case l => k_is); (case c => k_is); (case k => k_is)))
    (case a_parted => (refine' L2.FW.at_mk KX G ?a ?l ?c ?k; (case a => k_is); (case l => k_is); (case c => k_is); (case k => k_is)))
    (case a_quotient_of => (refine' L2.FW.at_mk KX G ?a ?l ?c ?k; (case a => k_is); (case l => k_is); (case c => k_is); (case k => k_is)))
    (case a_heights => (refine' L2.FW.at_mk KX G ?a ?l ?c ?k; (case a => k_is); (case l => k_is); (case c => k_is); (case k => k_is)))
    (case a_agrees => (refine' L2.FW.at_mk KX G ?a ?l ?c ?k; (case a => k_is); (case l => k_is); (case c => k_is); (case k => k_is)))
    (case a_number_before => (refine' L2.FW.at_mk KX G ?a ?l ?c ?k; (case a => k_is); (case l => k_is); (case c => k_is); (case k => k_is)))
    (case a_cleared => (refine' L2.FW.at_mk KX G ?a ?l ?c ?k; (case a => k_is); (case l => k_is); (case c => k_is); (case k => k_is)))
    (case a_first_column => (refine' L2.FW.at_mk KX G ?a ?l ?c ?k; (case a => k_is); (case l => k_is); (case c => k_is); (case k => k_is)))
    (case a_pivots_of => (refine' L2.FW.at_mk KX G ?a ?l ?c ?k; (case a => k_is); (case l => k_is); (case c => k_is); (case k => k_is)))
    (case a_null_numbers => (refine' L2.FW.at_mk KX G ?a ?l ?c ?k; (case a => k_is); (case l => k_is); (case c => k_is); (case k => k_is)))
    (case a_product_at => (refine' L2.FW.at_mk KX G ?a ?l ?c ?k; (case a => k_is); (case l => k_is); (case c => k_is); (case k => k_is)))
    (case a_form_in => (refine' L2.FW.at_mk KX G ?a ?l ?c ?k; (case a => k_is); (case l => k_is); (case c => k_is); (case k => k_is)))
    (case a_furthest => (refine' L2.FW.at_mk KX G ?a ?l ?c ?k; (case a => k_is); (case l => k_is); (case c => k_is); (case k => k_is)))
    (case a_power_of_x => (refine' L2.FW.at_mk KX G ?a ?l ?c ?k; (case a => k_is); (case l => k_is); (case c => k_is); (case k => k_is)))
    (case a_first_steps => (refine' L2.FW.at_mk KX G ?a ?l ?c ?k; (case a => k_is); (case l => k_is); (case c => k_is); (case k => k_is)))
    (case a_next_step => (refine' L2.FW.at_mk KX G ?a ?l ?c ?k; (case a => k_is); (case l => k_is); (case c => k_is); (case k => k_is)))
    (case a_by_parting => (refine' L2.FW.at_mk KX G ?a ?l ?c ?k; (case a => k_is); (case l => k_is); (case c => k_is); (case k => k_is)))
    (case a_side_of => (refine' L2.FW.at_mk KX G ?a ?l ?c ?k; (case a => k_is); (case l => k_is); (case c => k_is); (case k => k_is)))
    (case a_block_of => (refine' L2.FW.at_mk KX G ?a ?l ?c ?k; (case a => k_is); (case l => k_is); (case c => k_is); (case k => k_is)))
    (case a__law_begin => (refine' L2.FW.at_mk KX G ?a ?l ?c ?k; (case a => k_is); (case l => k_is); (case c => k_is); (case k => k_is)))
    (case a__law_take => (refine' L2.FW.at_mk KX G ?a ?l ?c ?k; (case a => k_is); (case l => k_is); (case c => k_is); (case k => k_is)))
    (case a__law_same => (refine' L2.FW.at_mk KX G ?a ?l ?c ?k; (case a => k_is); (case l => k_is); (case c => k_is); (case k => k_is)))
    (case a__law_part => (refine' L2.FW.at_mk KX G ?a ?l ?c ?k; (case a => k_is); (case l => k_is); (case c => k_is); (case k => k_is)))
    (case a__law_plus => (refine' L2.FW.at_mk KX G ?a ?l ?c ?k; (case a => k_is); (case l => k_is); (case c => k_is); (case k => k_is)))
    (case a__law_minus => (refine' L2.FW.at_mk KX G ?a ?l ?c ?k; (case a => k_is); (case l => k_is); (case c => k_is); (case k => k_is)))
    (case a__law_times => (refine' L2.FW.at_mk KX G ?a ?l ?c ?k; (case a => k_is); (case l => k_is); (case c => k_is); (case k => k_is)))
    (case a__law_number => (refine' L2.FW.at_mk KX G ?a ?l ?c ?k; (case a => k_is); (case l => k_is); (case c => k_is); (case k => k_is)))
    (case a__law_small => (refine' L2.FW.at_mk KX G ?a ?l ?c ?k; (case a => k_is); (case l => k_is); (case c => k_is); (case k => k_is)))
    (case a__law_trimmed => (refine' L2.FW.at_mk KX G ?a ?l ?c ?k; (case a => k_is); (case l => k_is); (case c => k_is); (case k => k_is)))
    (case a__law_series => (refine' L2.FW.at_mk KX G ?a ?l ?c ?k; (case a => k_is); (case l => k_is); (case c => k_is); (case k => k_is)))
    (case a__law_two_polys => (refine' L2.FW.at_mk KX G ?a ?l ?c ?k; (case a => k_is); (case l => k_is); (case c => k_is); (case k => k_is)))
    (case a__law_any => (refine' L2.FW.at_mk KX G ?a ?l ?c ?k; (case a => k_is); (case l => k_is); (case c => k_is); (case k => k_is)))
    (case a__law_row => (refine' L2.FW.at_mk KX G ?a ?l ?c ?k; (case a => k_is); (case l => k_is); (case c => k_is); (case k => k_is)))
    (case a__law_agreed => (refine' L2.FW.at_mk KX G ?a ?l ?c ?k; (case a => k_is); (case l => k_is); (case c => k_is); (case k => k_is)))
    (case a__law_told_right => (refine' L2.FW.at_mk KX G ?a ?l ?c ?k; (case a => k_is); (case l => k_is); (case c => k_is); (case k => k_is)))
    (case a__law_rise_right => (refine' L2.FW.at_mk KX G ?a ?l ?c ?k; (case a => k_is); (case l => k_is); (case c => k_is); (case k => k_is)))
    (case a__law_walked => (refine' L2.FW.at_mk KX G ?a ?l ?c ?k; (case a => k_is); (case l => k_is); (case c => k_is); (case k => k_is)))
    (case al => (refine' L2.FW.at_mk KX G ?a ?l ?c ?k; (case a => k_is); (case l => k_is); (case c => k_is); (case k => k_is)))
    (case a_number_at_fields => (refine' L2.FW.at2_mk KX G ?a ?l ?c ?k; (case a => k_is); (case l => k_is); (case c => k_is); (case k => k_is)))
    (case a_number_at_rows => (refine' L2.FW.at2_mk KX G ?a ?l ?c ?k; (case a => k_is); (case l => k_is); (case c => k_is); (case k => k_is)))
    (case e_plus_numbers => (refine' L2.FW.ali_mk KX G ?a ?b; (case a => k_is); (case b => k_is)))
    (case e_minus_numbers => (refine' L2.FW.ali_mk KX G ?a ?b; (case a => k_is); (case b => k_is)))
    (case e_times_numbers => (refine' L2.FW.ali_mk KX G ?a ?b; (case a => k_is); (case b => k_is)))
    (case e_over_numbers => (refine' L2.FW.ali_mk KX G ?a ?b; (case a => k_is); (case b => k_is)))
    (case B => (refine' ⟨PySem.W.mg_none_of KX G ?b0, PySem.W.mg_none_of KX G ?b1, PySem.W.mg_none_of KX G ?b2, PySem.W.mg_none_of KX G ?b3, PySem.W.mg_none_of KX G ?b4, PySem.W.mg_none_of KX G ?b5, PySem.W.mg_none_of KX G ?b6, PySem.W.mg_none_of KX G ?b7, PySem.W.mg_none_of KX G ?b8, PySem.W.mg_none_of KX G ?b9, PySem.W.mg_none_of KX G ?b10, PySem.W.mg_none_of KX G ?b11, PySem.W.mg_none_of KX G ?b12, PySem.W.mg_none_of KX G ?b13, PySem.W.mg_none_of KX G ?b14, PySem.W.mg_none_of KX G ?b15⟩; (case b0 => k_is); (case b1 => k_is); (case b2 => k_is); (case b3 => k_is); (case b4 => k_is); (case b5 => k_is); (case b6 => k_is); (case b7 => k_is); (case b8 => k_is); (case b9 => k_is); (case b10 => k_is); (case b11 => k_is); (case b12 => k_is); (case b13 => k_is); (case b14 => k_is); (case b15 => k_is)))
    (case ME => (refine' ⟨?m, ?i, ?k⟩; (case m => k_is); (case i => k_is); (case k => k_is)))
    (case cE => (refine' ⟨?pg, ?hd, ?po, ?sa⟩; (case pg => k_is); (case hd => k_is); (case po => k_is); (case sa => k_is)))
    (case x_nought => (refine' L2.FW.atm_mk ?a ?i ?l ?c ?k; (case a => k_is); (case i => k_is); (case l => k_is); (case c => k_is); (case k => k_is)))
    (case x_one => (refine' L2.FW.atm_mk ?a ?i ?l ?c ?k; (case a => k_is); (case i => k_is); (case l => k_is); (case c => k_is); (case k => k_is)))
    (case x_plus => (refine' L2.FW.atm_mk ?a ?i ?l ?c ?k; (case a => k_is); (case i => k_is); (case l => k_is); (case c => k_is); (case k => k_is)))
    (case x_minus => (refine' L2.FW.atm_mk ?a ?i ?l ?c ?k; (case a => k_is); (case i => k_is); (case l => k_is); (case c => k_is); (case k => k_is)))
    (case x_times => (refine' L2.FW.atm_mk ?a ?i ?l ?c ?k; (case a => k_is); (case i => k_is); (case l => k_is); (case c => k_is); (case k => k_is)))
    (case x_over => (refine' L2.FW.atm_mk ?a ?i ?l ?c ?k; (case a => k_is); (case i => k_is); (case l => k_is); (case c => k_is); (case k => k_is)))
    (case x_is_nought => (refine' L2.FW.atm_mk ?a ?i ?l ?c ?k; (case a => k_is); (case i => k_is); (case l => k_is); (case c => k_is); (case k => k_is)))
    (case MC => (refine' ⟨?m, ?i, ?f, ?k⟩; (case m => k_is); (case i => k_is); (case f => k_is); (case k => k_is)))
    (case TC => (refine' ⟨⟨?pg, ?hd, ?po, ?sa⟩, ?n0, ?n1, ?n2, ?n3, ?n4, ?n5, ?n6⟩; (case pg => k_is); (case hd => k_is); (case po => k_is); (case sa => k_is); (case n0 => (unfold L2.NoAttr; k_is)); (case n1 => (unfold L2.NoAttr; k_is)); (case n2 => (unfold L2.NoAttr; k_is)); (case n3 => (unfold L2.NoAttr; k_is)); (case n4 => (unfold L2.NoAttr; k_is)); (case n5 => (unfold L2.NoAttr; k_is)); (case n6 => (unfold L2.NoAttr; k_is))))
    (case MG => (refine' ⟨?m, ?i, ?f, ?k⟩; (case m => k_is); (case i => k_is); (case f => k_is); (case k => k_is)))
    (case TG => (refine' ⟨⟨?pg, ?hd, ?po, ?sa⟩, ?n0, ?n1, ?n2, ?n3⟩; (case pg => k_is); (case hd => k_is); (case po => k_is); (case sa => k_is); (case n0 => (unfold L2.NoAttr; k_is)); (case n1 => (unfold L2.NoAttr; k_is)); (case n2 => (unfold L2.NoAttr; k_is)); (case n3 => (unfold L2.NoAttr; k_is))))
    (case c___init__ => (refine' L2.FW.atm_mk ?a ?i ?l ?c ?k; (case a => k_is); (case i => k_is); (case l => k_is); (case c => k_is); (case k => k_is)))
    (case c_gap_with => (refine' L2.FW.atm_mk ?a ?i ?l ?c ?k; (case a => k_is); (case i => k_is); (case l => k_is); (case c => k_is); (case k => k_is)))
    (case c_mended => (refine' L2.FW.atm_mk ?a ?i ?l ?c ?k; (case a => k_is); (case i => k_is); (case l => k_is); (case c => k_is); (case k => k_is)))
    (case c_put_on => (refine' L2.FW.atm_mk ?a ?i ?l ?c ?k; (case a => k_is); (case i => k_is); (case l => k_is); (case c => k_is); (case k => k_is)))
    (case g___init__ => (refine' L2.FW.atm_mk ?a ?i ?l ?c ?k; (case a => k_is); (case i => k_is); (case l => k_is); (case c => k_is); (case k => k_is)))
    (case g_put => (refine' L2.FW.atm_mk ?a ?i ?l ?c ?k; (case a => k_is); (case i => k_is); (case l => k_is); (case c => k_is); (case k => k_is)))
    (case g_length => (refine' L2.FW.atm_mk ?a ?i ?l ?c ?k; (case a => k_is); (case i => k_is); (case l => k_is); (case c => k_is); (case k => k_is)))
    (case g_told => (refine' L2.FW.atm_mk ?a ?i ?l ?c ?k; (case a => k_is); (case i => k_is); (case l => k_is); (case c => k_is); (case k => k_is)))
    (case c0 => (refine' L2.FW.co_mk KX G ?a ?l ?u ?v; (case a => k_is); (case l => k_is); (case u => exact ⟨_, rfl⟩); (case v => exact ⟨_, rfl⟩)))
    (case c1 => (refine' L2.FW.co_mk KX G ?a ?l ?u ?v; (case a => k_is); (case l => k_is); (case u => exact ⟨_, rfl⟩); (case v => exact ⟨_, rfl⟩)))
