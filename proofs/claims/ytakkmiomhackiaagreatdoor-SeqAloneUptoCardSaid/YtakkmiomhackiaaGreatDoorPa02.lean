/-
  The program, one part of its walk: Lim, Dec0, Dc0, Fl0. Conditions: none.
-/
import Derived.RowKit
import Derived.Lib.TrimByte
import Derived.WalkLawsBesides
import Derived.Test.YtakkmiomhackiaaGreatDoorPa00
set_option linter.all false
set_option maxRecDepth 100000
set_option maxHeartbeats 16000000
open Go.Proofs.Tryz
namespace Go.Proofs.YtakkmiomhackiaaGreatDoor.Lim
def val : List Nat → Nat
 | [] => 0
 | x :: xs => x + 18446744073709551616 * val xs
def limbs (n : Nat) : List Nat := if h : n = 0 then [] else n % 18446744073709551616 :: limbs (n / 18446744073709551616)
termination_by n
decreasing_by omega
theorem limbs_zero : limbs 0 = [] := by rw [limbs]; simp
theorem limbs_pos {n : Nat} (h : n ≠ 0) : limbs n = n % 18446744073709551616 :: limbs (n / 18446744073709551616) := by rw [limbs]; simp [h]
theorem val_limbs (n : Nat) : val (limbs n) = n := by
 induction n using Nat.strongRecOn with
 | ind n ih =>
  by_cases h : n = 0
  ·subst h; rw [limbs_zero]; rfl
  ·rw [limbs_pos h]; simp only [val]; rw [ih (n / 18446744073709551616) (by omega)]; omega
def Small (l : List Nat) : Prop := ∀ x ∈ l, x < 18446744073709551616
theorem small_limbs (n : Nat) : Small (limbs n) := by
 induction n using Nat.strongRecOn with
 | ind n ih =>
  by_cases h : n = 0
  ·subst h; rw [limbs_zero]; intro x hx; cases hx
  ·rw [limbs_pos h]; intro x hx;rcases List.mem_cons.1 hx with rfl | hx
   ·exact Nat.mod_lt _ (by decide)
   ·exact ih (n / 18446744073709551616) (by omega) x hx
theorem small_cons {x : Nat} {l : List Nat} : Small (x :: l) ↔ x < 18446744073709551616 ∧ Small l := by
 unfold Small; simp
theorem small_append {a b : List Nat} : Small (a ++ b) ↔ Small a ∧ Small b := by
 unfold Small; simp only [List.mem_append];exact ⟨fun h => ⟨fun x hx => h x (.inl hx), fun x hx => h x (.inr hx)⟩, fun h x hx => hx.elim (h.1 x) (h.2 x)⟩
theorem small_take {l : List Nat} (h : Small l) (n : Nat) : Small (l.take n) := fun x hx => h x (List.mem_of_mem_take hx)
theorem val_append (a b : List Nat) : val (a ++ b) = val a + 18446744073709551616 ^ a.length * val b := by
 induction a with
 | nil => simp [val]
 | cons x a ih => simp only [List.cons_append, val, ih, List.length_cons, Nat.pow_succ]; rw [Nat.mul_add, ← Nat.mul_assoc, Nat.mul_comm 18446744073709551616 (18446744073709551616 ^ a.length)]; omega
theorem val_lt {l : List Nat} (h : Small l) : val l < 18446744073709551616 ^ l.length := by
 induction l with
 | nil => simp [val]
 | cons x l ih =>
  obtain ⟨hx, hl⟩ := small_cons.1 h;have := ih hl;simp only [val, List.length_cons, Nat.pow_succ]
  have h2 : 18446744073709551616 * val l + 18446744073709551616 ≤ 18446744073709551616 ^ l.length * 18446744073709551616 := by
   rw [Nat.mul_comm (18446744073709551616 ^ l.length)]; calc 18446744073709551616 * val l + 18446744073709551616 = 18446744073709551616 * (val l + 1) := by rw [Nat.mul_add, Nat.mul_one]
    _ ≤ 18446744073709551616 * 18446744073709551616 ^ l.length := Nat.mul_le_mul_left _ this
  omega
theorem limbs_val {l : List Nat} (h : Small l) (hn : l.getLast? ≠ some 0) : limbs (val l) = l := by
 induction l with
 | nil => exact limbs_zero
 | cons x l ih =>
  obtain ⟨hx, hl⟩ := small_cons.1 h;have hB : (x + 18446744073709551616 * val l) / 18446744073709551616 = val l := by omega
  have hm : (x + 18446744073709551616 * val l) % 18446744073709551616 = x := by omega
  have h0 : x + 18446744073709551616 * val l ≠ 0 := by
   intro h0;have hx0 : x = 0 := by omega
   have hv0 : val l = 0 := by omega
   cases l with
   | nil => subst hx0; exact hn rfl
   | cons y l' =>
    have hh := ih hl (by simpa [List.getLast?_cons_cons] using hn);rw [hv0, limbs_zero] at hh; cases hh
  simp only [val];rw [limbs_pos h0, hB, hm];cases l with
  | nil => simp [val, limbs_zero]
  | cons y l' => rw [ih hl (by simpa [List.getLast?_cons_cons] using hn)]
theorem limbs_take {l : List Nat} (h : Small l) {k : Nat} (hk : k ≤ l.length) (hz : ∀ i, k ≤ i → l.getD i 0 = 0) (hl : k = 0 ∨ l.getD (k - 1) 0 ≠ 0) :
 limbs (val l) = l.take k := by
 have hv : val l = val (l.take k) := by
  have e := val_append (l.take k) (l.drop k);rw [List.take_append_drop] at e
  have h0 : val (l.drop k) = 0 := by
   have : ∀ m : List Nat, (∀ i, m.getD i 0 = 0) → val m = 0 := by
    intro m; induction m with
    | nil => intro _; rfl
    | cons y m ih => intro hm; simp only [val]; rw [ih (fun i => by simpa using hm (i + 1))]; have := hm 0; simp at this; omega
   refine this _ (fun i => ?_);have := hz (k + i) (by omega)
   simpa [List.getD, List.getElem?_drop] using this
  rw [h0] at e; simpa using e
 rw [hv];refine limbs_val (small_take h k) ?_;rcases hl with rfl | hl
 ·simp
 ·intro hc;rcases Nat.eq_zero_or_pos k with rfl | hp
  ·simp at hc
  ·rw [List.getLast?_eq_getElem?, List.length_take, Nat.min_eq_left hk, List.getElem?_take, if_pos (by omega)] at hc;exact hl (by simp [List.getD, hc])
theorem limbs_length_le {n k : Nat} (h : n < 18446744073709551616 ^ k) : (limbs n).length ≤ k := by
 induction k generalizing n with
 | zero => have : n = 0 := by simpa using h
           subst this; simp [limbs_zero]
 | succ k ih =>
  by_cases h0 : n = 0
  ·subst h0; simp [limbs_zero]
  ·rw [limbs_pos h0]; simp only [List.length_cons];have := ih (n := n / 18446744073709551616) (by rw [Nat.pow_succ] at h; exact Nat.div_lt_of_lt_mul (by rw [Nat.mul_comm]; exact h));omega
theorem lt_of_limbs_length {n k : Nat} (h : (limbs n).length ≤ k) : n < 18446744073709551616 ^ k := by
 have := val_lt (small_limbs n); rw [val_limbs] at this;exact Nat.lt_of_lt_of_le this (Nat.pow_le_pow_right (by decide) h)
theorem limbs_getD (n i : Nat) : (limbs n).getD i 0 = n / 18446744073709551616 ^ i % 18446744073709551616 := by
 induction i generalizing n with
 | zero =>
  by_cases h : n = 0
  ·subst h; simp [limbs_zero]
  ·rw [limbs_pos h]; simp
 | succ i ih =>
  by_cases h : n = 0
  ·subst h; simp [limbs_zero]
  ·rw [limbs_pos h];have : (n % 18446744073709551616 :: limbs (n / 18446744073709551616)).getD (i + 1) 0 = (limbs (n / 18446744073709551616)).getD i 0 := by simp [List.getD]
   rw [this, ih, Nat.div_div_eq_div_mul, Nat.pow_succ, Nat.mul_comm 18446744073709551616]
def bitlen (n : Nat) : Nat := if n = 0 then 0 else n.log2 + 1
theorem bitlen_le {n k : Nat} : bitlen n ≤ k ↔ n < 2 ^ k := by
 unfold bitlen;split
 ·rename_i h; subst h; simp [Nat.two_pow_pos]
 ·rename_i h; exact Nat.log2_lt h
theorem lt_bitlen {n : Nat} : n < 2 ^ bitlen n := bitlen_le.1 (Nat.le_refl _)
theorem bitlen_gt {n k : Nat} : k < bitlen n ↔ 2 ^ k ≤ n := by
 have := bitlen_le (n := n) (k := k); omega
theorem weq : 18446744073709551616 = 2 ^ 64 := by decide
theorem wpow (k : Nat) : 18446744073709551616 ^ k = 2 ^ (64 * k) := by rw [weq, ← Nat.pow_mul]
theorem bitlen_limbs {n : Nat} (h : n ≠ 0) : bitlen n = 64 * ((limbs n).length - 1) + bitlen ((limbs n).getD ((limbs n).length - 1) 0) ∧ 0 < (limbs n).length := by
 have hlen : 0 < (limbs n).length := by rw [limbs_pos h]; simp
 refine ⟨?_, hlen⟩;obtain ⟨m, hm⟩ : ∃ m, (limbs n).length = m + 1 := ⟨(limbs n).length - 1, by omega⟩;rw [hm, Nat.add_sub_cancel];have hlt : n < 18446744073709551616 ^ (m + 1) := lt_of_limbs_length (by omega)
 have hge : 18446744073709551616 ^ m ≤ n := by
  rcases Nat.lt_or_ge n (18446744073709551616 ^ m) with hc | hc
  ·have := limbs_length_le hc; omega
  ·exact hc
 have hq : n / 18446744073709551616 ^ m < 18446744073709551616 := Nat.div_lt_of_lt_mul (by rw [← Nat.pow_succ]; exact hlt);rw [limbs_getD, Nat.mod_eq_of_lt hq];have hp : 0 < 18446744073709551616 ^ m := Nat.pow_pos (by decide);have hq1 : 1 ≤ n / 18446744073709551616 ^ m := (Nat.one_le_div_iff hp).2 hge;generalize hqq : n / 18446744073709551616 ^ m = q at *;refine Nat.le_antisymm ?_ ?_
 ·rw [bitlen_le, Nat.pow_add, ← wpow, Nat.mul_comm];rw [← Nat.div_lt_iff_lt_mul hp, hqq]; exact lt_bitlen
 ·have hb : 0 < bitlen q := by rcases Nat.eq_zero_or_pos (bitlen q) with h0 | h0
                               ·have := bitlen_le.1 (Nat.le_of_eq h0); simp at this; omega
                               ·exact h0
  have h3 : 64 * m + (bitlen q - 1) < bitlen n := by
   rw [bitlen_gt, Nat.pow_add, ← wpow, Nat.mul_comm];have : 2 ^ (bitlen q - 1) ≤ q := bitlen_gt.1 (by omega)
   calc 2 ^ (bitlen q - 1) * 18446744073709551616 ^ m ≤ q * 18446744073709551616 ^ m := Nat.mul_le_mul_right _ this
    _ ≤ n := by rw [← hqq]; exact Nat.div_mul_le_self _ _
  omega
theorem short {n k : Nat} (h : bitlen n ≤ 64 * k) : (limbs n).length ≤ k := limbs_length_le (by rw [wpow]; exact bitlen_le.1 h)
theorem bitlen_mono {a b : Nat} (h : a ≤ b) : bitlen a ≤ bitlen b := bitlen_le.2 (Nat.lt_of_le_of_lt h lt_bitlen)
end Go.Proofs.YtakkmiomhackiaaGreatDoor.Lim
namespace Go.Proofs.YtakkmiomhackiaaGreatDoor
open Go.RowKit
def dval (l : List UInt8) : Nat := l.foldl (fun a b => 10 * a + (b.toNat - 48)) 0
theorem dval_from (l : List UInt8) (a : Nat) : l.foldl (fun a b => 10 * a + (b.toNat - 48)) a = a * 10 ^ l.length + dval l := by
 unfold dval
 induction l generalizing a with
 | nil => simp
 | cons x l ih =>
  rw [List.foldl_cons, List.foldl_cons, ih, ih (10 * 0 + (x.toNat - 48)), List.length_cons, Nat.pow_succ, Nat.add_mul, Nat.add_mul, Nat.mul_zero, Nat.zero_mul, Nat.zero_add, Nat.mul_comm (10 ^ l.length) 10, ← Nat.mul_assoc, Nat.mul_comm a 10, Nat.add_assoc]
theorem dval_append (l r : List UInt8) : dval (l ++ r) = dval l * 10 ^ r.length + dval r := by
 rw [dval, List.foldl_append, dval_from]; rfl
theorem dval_snoc (l : List UInt8) (x : UInt8) : dval (l ++ [x]) = 10 * dval l + (x.toNat - 48) := by
 rw [dval, List.foldl_append]; rfl
theorem dval_zeros (q : Nat) (l : List UInt8) : dval (List.replicate q 48 ++ l) = dval l := by
 induction q with
 | zero => rfl
 | succ q ih => rw [List.replicate_succ, List.cons_append, dval, List.foldl_cons, ← ih]; rfl
theorem dval_lt {l : List UInt8} (h : ∀ x ∈ l, x.toNat ≤ 57) : dval l < 10 ^ l.length := by
 induction l with
 | nil => simp [dval]
 | cons x l ih =>
  have h1 := h x (by simp);have h2 := ih (fun y hy => h y (by simp [hy]))
  have e : dval (x :: l) = (x.toNat - 48) * 10 ^ l.length + dval l := by
   have := dval_append [x] l
   simpa [dval] using this
  rw [e, List.length_cons, Nat.pow_succ];have : (x.toNat - 48) * 10 ^ l.length ≤ 9 * 10 ^ l.length := Nat.mul_le_mul_right _ (by omega);omega
def isD (c : UInt8) : Bool := decide (48 ≤ c.toNat) && decide (c.toNat ≤ 57)
structure Lit where
 neg : Bool
 whole : List UInt8
 behind : List UInt8
 under : Bool
 exp : List UInt8
def readSign (t : List UInt8) : Bool × List UInt8 := match t with
 | c :: t' => if c = 43 ∨ c = 45 then (c == 45, t') else (false, c :: t')
 | [] => (false, [])
def readTen (neg : Bool) (whole behind r : List UInt8) : Option Lit := match r with
 | [] => some ⟨neg, whole, behind, false, []⟩
 | e :: t => if e = 101 ∨ e = 69 then
  (if (readSign t).2.takeWhile isD = [] ∨ (readSign t).2.dropWhile isD ≠ [] then none else some ⟨neg, whole, behind, (readSign t).1, (readSign t).2.takeWhile isD⟩)
  else none
def readPoint (neg : Bool) (whole r : List UInt8) : Option Lit := match r with
 | [] => readTen neg whole [] []
 | c :: t => if c = 46 then (if t.takeWhile isD = [] then none else readTen neg whole (t.takeWhile isD) (t.dropWhile isD)) else readTen neg whole [] (c :: t)
def readWhole (neg : Bool) (r : List UInt8) : Option Lit := match r with
 | [] => none
 | c :: t => if isD c then (if c = 48 then readPoint neg [48] t else readPoint neg ((c :: t).takeWhile isD) ((c :: t).dropWhile isD)) else none
def readOf (s : List UInt8) : Option Lit := match s with
 | [] => none
 | c :: t => if c = 45 then readWhole true t else readWhole false (c :: t)
structure Dml where
 neg : Bool
 digits : List UInt8
 exp : Int
def expStep (a : Nat) (c : UInt8) : Nat := if a < 35184372088832 then 10 * a + (c.toNat - 48) else a
def expOf (l : List UInt8) : Nat := l.foldl expStep 0
def stripOf (neg : Bool) (ds : List UInt8) (e : Int) : Dml :=
 if Lib.trimRightB (Lib.trimLeftB ds 48) 48 = [] then ⟨false, [], 0⟩
 else ⟨neg, Lib.trimRightB (Lib.trimLeftB ds 48) 48, e + (Lib.trimLeftB ds 48).length - (Lib.trimRightB (Lib.trimLeftB ds 48) 48).length⟩
def bareOf (l : Lit) : Dml := stripOf l.neg (l.whole ++ l.behind) ((if l.under then -(expOf l.exp : Int) else expOf l.exp) - l.behind.length)
structure Cut where
 bits : Nat
 half : Int
 exact : Bool
def most : Nat := 9218868437227405311
def upOf (num den : Nat) : Int := 66 - ((Lim.bitlen num : Int) - Lim.bitlen den)
def cutOf (q left : Nat) (up : Int) : Cut :=
 let k : Int := max ((Lim.bitlen q : Int) - 53 - up) (-1074)
 let j := (k + up).toNat
 let bits := (k + 1074).toNat * 4503599627370496 + q / 2 ^ j
 if most < bits then ⟨most, 1, false⟩
 else ⟨bits, if q / 2 ^ (j - 1) % 2 = 1 then (if q % 2 ^ (j - 1) ≠ 0 ∨ left ≠ 0 then 1 else 0) else -1, !(decide (q % 2 ^ j ≠ 0) || decide (left ≠ 0))⟩
def ratioOf (num den : Nat) : Cut :=
 let n := num * 2 ^ (upOf num den).toNat
 let d := den * 2 ^ (- upOf num den).toNat
 cutOf (n / d) (n % d) (upOf num den)
def cutDigits (ds : List UInt8) : List UInt8 := if 800 < ds.length then ds.take 800 ++ [49] else ds
def cutExp (ds : List UInt8) (e : Int) : Int := if 800 < ds.length then e + (ds.length - 801) else e
def floorOf (d : Dml) : Cut :=
 if d.digits = [] then ⟨0, 0, true⟩
 else if 310 < (d.digits.length : Int) + d.exp then ⟨most, 1, false⟩
 else if (d.digits.length : Int) + d.exp < -330 then ⟨0, -1, false⟩
 else if 0 ≤ cutExp d.digits d.exp then ratioOf (dval (cutDigits d.digits) * 10 ^ (cutExp d.digits d.exp).toNat) 1
 else ratioOf (dval (cutDigits d.digits)) (10 ^ (- cutExp d.digits d.exp).toNat)
def evenBits (c : Cut) : Nat := if c.half = 0 ∧ c.bits % 2 = 0 then c.bits else if 0 ≤ c.half ∧ c.exact = false then c.bits + 1 else c.bits
def roundedOf (d : Dml) : Option Nat :=
 if most < evenBits (floorOf d) then none else some (if d.neg = true ∧ 0 < evenBits (floorOf d) then evenBits (floorOf d) + 9223372036854775808 else evenBits (floorOf d))
def bitsOf (s : List UInt8) : Option Nat := (readOf s).bind fun l => roundedOf (bareOf l)
example : bitsOf [49] = some 4607182418800017408 := by decide
example : bitsOf [55] = some 4619567317775286272 := by decide
example : bitsOf [49, 46, 53, 101, 45, 51] = some 4564560351926583034 := by decide
def Finite (b : Nat) : Prop := b ≤ most ∨ (9223372036854775808 ≤ b ∧ b ≤ 9223372036854775808 + most)
theorem read_finite {b : Nat} (h : b % 9223372036854775808 ≤ most) : ∃ m i : Nat, m < 9007199254740992 ∧ i ≤ 2045 ∧ (m = 0 ↔ b % 9223372036854775808 = 0) ∧ Ieee.double.read b = .number (b / 9223372036854775808 % 2 == 1) m (-1074 + i) := by
 have e1 : Ieee.double.signWeight = 9223372036854775808 := by decide
 have e2 : Ieee.double.binade = 4503599627370496 := by decide
 have e3 : Ieee.double.infRung = 9218868437227405312 := by decide
 have e4 : Ieee.double.leastPlace = -1074 := by decide
 unfold most at h;unfold Ieee.Format.read;simp only [e1, e2, e3, e4];generalize b % 9223372036854775808 = r at *
 by_cases hs : r < 4503599627370496
 ·rw [if_pos hs];exact ⟨r, 0, by omega, by omega, Iff.rfl, by simp⟩
 ·rw [if_neg hs, if_pos (by omega)];exact ⟨4503599627370496 + r % 4503599627370496, r / 4503599627370496 - 1, by omega, by omega, by omega, rfl⟩
theorem order_self {b : Nat} (h : b % 9223372036854775808 ≤ most) : FloatKind.f64.format.order b b = some .eq := by
 obtain ⟨m, i, _, _, _, hr⟩ := read_finite h
 show Ieee.Datum.order (Ieee.double.read b) (Ieee.double.read b) = _
 rw [hr];simp [Ieee.Datum.order]
theorem order_most {b : Nat} (h : b ≤ most) : FloatKind.f64.format.order b most ≠ some .gt := by
 have hb : b % 9223372036854775808 = b := Nat.mod_eq_of_lt (Nat.lt_of_le_of_lt h (by decide));obtain ⟨m, i, hm, hi, _, hr⟩ := read_finite (b := b) (by rw [hb]; exact h)
 have hs : (b / 9223372036854775808 % 2 == 1) = false := by
  have : b / 9223372036854775808 = 0 := Nat.div_eq_of_lt (Nat.lt_of_le_of_lt h (by decide));rw [this]; rfl
 rw [hs] at hr;have hmost : Ieee.double.read most = .number false 9007199254740991 (-1074 + 2045) := by decide
 show Ieee.Datum.order (Ieee.double.read b) (Ieee.double.read most) ≠ _
 rw [hr, hmost];have hmin : min (-1074 + (i : Int)) (-1074 + 2045) = -1074 + (i : Int) := by omega
 simp only [Ieee.Datum.order, hmin];have e1 : ((-1074 + (i : Int)) - (-1074 + (i : Int))).toNat = 0 := by omega
 have e2 : ((-1074 + 2045 : Int) - (-1074 + (i : Int))).toNat = 2045 - i := by omega
 rw [e1, e2]
 have hle : Ieee.signed false m 0 ≤ Ieee.signed false 9007199254740991 (2045 - i) := by
  simp only [Ieee.signed, Nat.shiftLeft_eq];have : 1 ≤ 2 ^ (2045 - i) := Nat.one_le_two_pow;have h3 : 9007199254740991 * 1 ≤ 9007199254740991 * 2 ^ (2045 - i) := Nat.mul_le_mul_left _ this;have h4 : m * 2 ^ 0 ≤ 9007199254740991 * 2 ^ (2045 - i) := by simp; omega
  rw [if_neg (by decide), if_neg (by decide)]
  exact_mod_cast h4
 intro hc;have := Option.some.inj hc;rw [Int.compare_eq_gt] at this;omega
theorem order_zero {b : Nat} (h : b % 9223372036854775808 ≤ most) : (FloatKind.f64.format.order b 0 == some .eq) = decide (b % 9223372036854775808 = 0) := by
 obtain ⟨m, i, hm, hi, hz, hr⟩ := read_finite h;have h0 : Ieee.double.read 0 = .number false 0 (-1074) := by decide
 show (Ieee.Datum.order (Ieee.double.read b) (Ieee.double.read 0) == some .eq) = _
 rw [hr, h0];have hmin : min (-1074 + (i : Int)) (-1074) = -1074 := by omega
 simp only [Ieee.Datum.order, hmin];have e1 : ((-1074 + (i : Int)) - (-1074)).toNat = i := by omega
 have e2 : ((-1074 : Int) - (-1074)).toNat = 0 := by omega
 rw [e1, e2];have h1 : Ieee.signed false 0 0 = 0 := by decide
 rw [h1];have hp : 0 < 2 ^ i := Nat.two_pow_pos i
 have h2 : Ieee.signed (b / 9223372036854775808 % 2 == 1) m i = 0 ↔ m = 0 := by
  simp only [Ieee.signed, Nat.shiftLeft_eq];constructor
  ·intro h
   have h3 : ((m * 2 ^ i : Nat) : Int) = 0 := by
    split at h
    ·omega
    ·exact h
   have h4 : m * 2 ^ i = 0 := by exact_mod_cast h3
   rcases Nat.mul_eq_zero.1 h4 with h5 | h5
   ·exact h5
   ·omega
  ·intro h;subst h;simp
 by_cases hm0 : m = 0
 ·have hd : b % 9223372036854775808 = 0 := hz.1 hm0;rw [h2.2 hm0, hd];decide
 ·have hd : ¬ b % 9223372036854775808 = 0 := fun e => hm0 (hz.2 e)
  have hne : Ieee.signed (b / 9223372036854775808 % 2 == 1) m i ≠ 0 := fun e => hm0 (h2.1 e)
  have hc : compare (Ieee.signed (b / 9223372036854775808 % 2 == 1) m i) 0 ≠ .eq := fun e => hne (Int.compare_eq_eq.1 e)
  rw [decide_eq_false hd];cases hcc : compare (Ieee.signed (b / 9223372036854775808 % 2 == 1) m i) 0 with
  | eq => exact absurd hcc hc
  | lt => decide
  | gt => decide
theorem bitsOf_finite {l : List UInt8} {b : Nat} (h : bitsOf l = some b) : Finite b := by
 unfold bitsOf at h;cases hr : readOf l with
 | none => rw [hr] at h; cases h
 | some t =>
  rw [hr] at h;simp only [Option.bind_some] at h;unfold roundedOf at h;split at h
  ·cases h
  ·rename_i hle;simp only [Option.some.injEq] at h;subst h;unfold Finite;split
   ·right; omega
   ·left; omega
end Go.Proofs.YtakkmiomhackiaaGreatDoor
