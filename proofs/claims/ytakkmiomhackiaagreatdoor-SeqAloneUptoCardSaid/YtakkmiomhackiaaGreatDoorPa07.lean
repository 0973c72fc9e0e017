/-
  Package dec, second part: ten, ratio.
-/
import Derived.Test.YtakkmiomhackiaaGreatDoorPa06
import Derived.Test.YtakkmiomhackiaaGreatDoorPa02
import Derived.Test.YtakkmiomhackiaaGreatDoorPa00
set_option linter.all false
set_option maxRecDepth 100000
set_option maxHeartbeats 16000000
open Go.Proofs.Tryz
namespace Go.Proofs.YtakkmiomhackiaaGreatDoor
open Go.RowKit
theorem ten_lt (n : Nat) : 10 ^ n < 2 ^ (4 * n + 1) := by
 have h : 10 ^ n ≤ 16 ^ n := Nat.pow_le_pow_left (by decide) n;have e : 16 ^ n = 2 ^ (4 * n) := by rw [Nat.pow_mul]
 rw [Nat.pow_succ];have := Nat.two_pow_pos (4 * n);omega
theorem bitlen_ten (n : Nat) : Lim.bitlen (10 ^ n) ≤ 4 * n + 1 := Lim.bitlen_le.2 (ten_lt n)
theorem ten_any (n : Nat) (w : World) (hn : n ≤ 1300) : Calls prog 233 #[.int .i64 n] w fun e w' => RetNat w (10 ^ n) e w' := by
 have hfit : Lim.bitlen (10 ^ n) ≤ 8192 := Nat.le_trans (bitlen_ten n) (by omega);have HC := hZ (power_any 10 n);have HF := hZ hfit;clear hfit;go_enter func233, ntmps233;go_wp2_with fail;refine (HC.out _ (by decide) (by decide) (by omega) HF.out).mono ?_;rintro e w1 ⟨a, k, c, rfl, hw, hb⟩;obtain ⟨hB, hbw, hsz⟩ := after1 hb;have hB2 : (w1.alloc (.cells #[.slice a k c] 381)).heap[w.heap.size]? = some (.cells #[.slice none 0 0] 381 (0, 0)) := (Below.heap_alloc _ _ _ (lt_of_block hB)).trans hB;have hc2 := cell_of_one hB2;have hf2 := free_of_one hB2;have HB := hZ hB;have HB2 := hZ hB2;have HW := hZ hw;clear hw hB hB2;go_wp2;exact bodyPost_ret (v := .agg #[.slice a k c]) (by simp [results, results233, go_sem, hc2]) rfl ⟨a, k, c, rfl, (HW.out.alloc _).set HB2.out (by decide) _ _, (hbw.alloc (by omega) _).setCell (by simp) _⟩
theorem new2' (w : World) (o1 o2 : Obj) : ((w.alloc o1).alloc o2).heap[w.heap.size]? = some o1 ∧ ((w.alloc o1).alloc o2).heap[w.heap.size + 1]? = some o2 ∧ Below w.heap.size w ((w.alloc o1).alloc o2) := by
 refine ⟨(Below.heap_alloc _ _ _ (by simp)).trans (heap_alloc_new w _), ?_, ((Below.refl _ _).alloc (Nat.le_refl _) _).alloc (by simp) _⟩;have := heap_alloc_new (w.alloc o1) o2
 simpa using this
theorem wr {z : Int} (h1 : -9223372036854775808 ≤ z) (h2 : z ≤ 9223372036854775807) : IntKind.i64.wrap z = z := by rw [IntKind.wrap_i64]; omega
theorem len_is (a : Option Addr) (k c n b : Nat) (w : World) (h : Wds w (.slice a k c) (Lim.limbs n)) (hb : Lim.bitlen n = b) (hl : b ≤ 100000) : Calls prog 252 #[.agg #[.slice a k c]] w fun e w' =>
 e = .returned (.int .i64 (b : Nat)) ∧ Below w.heap.size w w' := by
 subst hb;exact len_any a k c n w h (Nat.le_trans (Lim.short (k := 100000) (by omega)) (by decide))
theorem bitlen_pos {n : Nat} (h : n ≠ 0) : 0 < Lim.bitlen n := by
 rcases Nat.eq_zero_or_pos (Lim.bitlen n) with h0 | h0
 ·have := Lim.bitlen_le.1 (Nat.le_of_eq h0); simp at this; omega
 ·exact h0
theorem pow_le_bitlen {n : Nat} (h : n ≠ 0) : 2 ^ (Lim.bitlen n - 1) ≤ n := Lim.bitlen_gt.1 (by have := bitlen_pos h; omega)
theorem bitlen_shl {n : Nat} (h : n ≠ 0) (k : Nat) : Lim.bitlen (n * 2 ^ k) = Lim.bitlen n + k := by
 have hp := bitlen_pos h;refine Nat.le_antisymm ?_ ?_
 ·rw [Lim.bitlen_le, Nat.pow_add];exact Nat.mul_lt_mul_of_pos_right Lim.lt_bitlen (Nat.two_pow_pos k)
 ·have : Lim.bitlen n + k - 1 < Lim.bitlen (n * 2 ^ k) := by
   rw [Lim.bitlen_gt, show Lim.bitlen n + k - 1 = (Lim.bitlen n - 1) + k by omega, Nat.pow_add];exact Nat.mul_le_mul_right _ (pow_le_bitlen h)
  omega
theorem quo_bits {N D : Nat} (hD : D ≠ 0) (h : Lim.bitlen N = Lim.bitlen D + 66) : 66 ≤ Lim.bitlen (N / D) ∧ Lim.bitlen (N / D) ≤ 67 := by
 have hN : N ≠ 0 := by intro h0; subst h0; have : Lim.bitlen 0 = 0 := rfl; omega
 have hd := bitlen_pos hD;have h1 := pow_le_bitlen hN;have h2 := pow_le_bitlen hD;constructor
 ·have : 65 < Lim.bitlen (N / D) := by
   rw [Lim.bitlen_gt, Nat.le_div_iff_mul_le (by omega)];have h3 : 2 ^ 65 * D ≤ 2 ^ 65 * 2 ^ Lim.bitlen D := Nat.mul_le_mul_left _ (Nat.le_of_lt Lim.lt_bitlen);rw [← Nat.pow_add] at h3;rw [show Lim.bitlen N - 1 = 65 + Lim.bitlen D by omega] at h1;exact Nat.le_trans h3 h1
  omega
 ·rw [Lim.bitlen_le];refine Nat.div_lt_of_lt_mul ?_;refine Nat.lt_of_lt_of_le Lim.lt_bitlen ?_;rw [h, show Lim.bitlen D + 66 = (Lim.bitlen D - 1) + 67 by omega, Nat.pow_add];exact Nat.mul_le_mul_right _ h2
theorem top_lt {q b j : Nat} (hb : Lim.bitlen q = b) (h : b ≤ 53 + j) : q / 2 ^ j < 9007199254740992 := by
 refine Nat.div_lt_of_lt_mul ?_;have h1 : q < 2 ^ b := hb ▸ Lim.lt_bitlen;refine Nat.lt_of_lt_of_le h1 ?_;rw [show 9007199254740992 = 2 ^ 53 from rfl, Nat.mul_comm, ← Nat.pow_add];exact Nat.pow_le_pow_right (by decide) (by omega)
theorem len_pos (r : Nat) : decide ((0 : Int) < (Lim.bitlen r : Int)) = decide (r ≠ 0) := by
 by_cases h : r = 0
 ·subst h; rfl
 ·have := bitlen_pos h;simp [h, this]
theorem len_posN (r : Nat) : decide (0 < Lim.bitlen r) = !decide (r = 0) := by
 by_cases h : r = 0
 ·subst h; rfl
 ·have := bitlen_pos h;simp [h, this]
theorem wrap_bits {x q j B : Nat} (hB : x * 4503599627370496 + q / 2 ^ j = B) (hx : x ≤ 3000) (hm : q / 2 ^ j < 9007199254740992) : IntKind.u64.wrap ((x : Int) * 4503599627370496 + (q : Int) / 2 ^ j) = (B : Int) := by
 have e : (q : Int) / 2 ^ j = ((q / 2 ^ j : Nat) : Int) := by simp
 rw [IntKind.wrap_u64, e];omega
theorem cells3 {w : World} {b : Nat} {v0 v1 v2 : Value} {T : TypeId} (h : w.heap[b]? = some (.cells #[v0, v1, v2] T (0, 0))) : w.cell? ⟨b, 0, none⟩ = some v0 ∧ w.cell? ⟨b, 1, none⟩ = some v1 ∧ w.cell? ⟨b, 2, none⟩ = some v2 ∧ ∀ o, w.frozen? ⟨b, o, none⟩ = false :=
 ⟨cell_at h, cell_at h, cell_at h, free_at h⟩
theorem bit_none {q j : Nat} (hj : 1 ≤ j) (h : q % 2 ^ j = 0) : q.testBit (j - 1) = false := by
 obtain ⟨c, hc⟩ := Nat.dvd_of_mod_eq_zero h;rw [hc, Nat.testBit_two_pow_mul];simp; omega
def halfOf (q r j : Nat) : Int := if q / 2 ^ (j - 1) % 2 = 1 then (if q % 2 ^ (j - 1) ≠ 0 ∨ r ≠ 0 then 1 else 0) else -1
theorem half_none {q r j : Nat} (h : q.testBit (j - 1) = false) : halfOf q r j = -1 := by
 unfold halfOf;rw [if_neg];intro hc;rw [Nat.testBit_eq_decide_div_mod_eq] at h;simp [hc] at h
theorem half_zero {q r j : Nat} (h : q.testBit (j - 1) = true) (hq : q % 2 ^ (j - 1) = 0) (hr : r = 0) : halfOf q r j = 0 := by
 rw [Nat.testBit_eq_decide_div_mod_eq] at h;unfold halfOf;rw [if_pos (by simpa using h), if_neg (by simp [hq, hr])]
theorem half_one {q r j : Nat} (h : q.testBit (j - 1) = true) (hq : q % 2 ^ (j - 1) ≠ 0 ∨ r ≠ 0) : halfOf q r j = 1 := by
 rw [Nat.testBit_eq_decide_div_mod_eq] at h;unfold halfOf;rw [if_pos (by simpa using h), if_pos hq]
def lostOf (q r j : Nat) : Bool := decide (q % 2 ^ j ≠ 0) || decide (r ≠ 0)
theorem cut_is {q r : Nat} {up kk : Int} {j x : Nat} (hk : max ((Lim.bitlen q : Int) - 53 - up) (-1074) = kk) (hj : kk + up = (j : Int)) (hx : kk + 1074 = (x : Int)) :
 cutOf q r up = if most < x * 4503599627370496 + q / 2 ^ j then ⟨most, 1, false⟩ else ⟨x * 4503599627370496 + q / 2 ^ j, halfOf q r j, !lostOf q r j⟩ := by
 unfold cutOf halfOf lostOf;simp only [hk, hj, hx, Int.toNat_natCast]
def cutV (c : Cut) : Value := .agg #[.int .u64 (c.bits : Int), .int .i64 c.half, .bool c.exact]
theorem ratio_pos (a a' : Option Addr) (k k' c c' num den : Nat) (w : World) (h : Wds w (.slice a k c) (Lim.limbs num)) (h' : Wds w (.slice a' k' c') (Lim.limbs den)) (hn0 : num ≠ 0) (hd0 : den ≠ 0)
 (hbn : Lim.bitlen num ≤ 4000) (hbd : Lim.bitlen den ≤ 5000) (hbb : Lim.bitlen num ≤ Lim.bitlen den + 1500) (hcase : Lim.bitlen num ≤ Lim.bitlen den + 66) :
 Calls prog 234 #[.agg #[.slice a k c], .agg #[.slice a' k' c']] w fun e w' => e = .returned (cutV (ratioOf num den)) ∧ Below w.heap.size w w' := by
 have hln : (Lim.limbs num).length ≤ 128 := Lim.short (by omega);have hld : (Lim.limbs den).length ≤ 128 := Lim.short (by omega);have HW : Hid (∀ wx, Below w.heap.size w wx → Wds wx (.slice a k c) (Lim.limbs num) ∧ Wds wx (.slice a' k' c') (Lim.limbs den)) := fun wx hx => ⟨h.below hx, h'.below hx⟩
 clear h h';obtain ⟨bn, hbne⟩ : ∃ x, Lim.bitlen num = x := ⟨_, rfl⟩;obtain ⟨bd, hbde⟩ : ∃ x, Lim.bitlen den = x := ⟨_, rfl⟩;rw [hbne] at hbn hbb hcase;rw [hbde] at hbd hbb hcase;have HBN := hZ hbne;have HBD := hZ hbde;clear hbne hbde;have hb3 : Below w.heap.size w (((w.alloc (.cells #[.slice a k c] 381)).alloc (.cells #[.slice a' k' c'] 381)).alloc (.cells #[.int .u64 0, .int .i64 0, .bool false] 359)) := (((Below.refl _ _).alloc (Nat.le_refl _) _).alloc (by simp) _).alloc (by simp; omega) _;obtain ⟨g1, g2, g3, _, _⟩ := after3 (Below.refl (((w.alloc (.cells #[.slice a k c] 381)).alloc (.cells #[.slice a' k' c'] 381)).alloc (.cells #[.int .u64 0, .int .i64 0, .bool false] 359)).heap.size _);go_enter func234, ntmps234;go_wp2_with fail;generalize ((w.alloc (.cells #[.slice a k c] 381)).alloc (.cells #[.slice a' k' c'] 381)).alloc (.cells #[.int .u64 0, .int .i64 0, .bool false] 359) = w3 at *;have hc1 := cell_of_one g1;have hc2 := cell_of_one g2;have hl3 := lt_of_block g3;have hl1 : w.heap.size < w3.heap.size := by omega
 have hl2 : w.heap.size + 1 < w3.heap.size := by omega
 have G1 := hZ g1;have G2 := hZ g2;have G3 := hZ g3;clear g1 g2 g3
 go_region_held3 (fun w' => w'.cell? ⟨w.heap.size, 0, none⟩ = some (.slice a k c) ∧ w'.cell? ⟨w.heap.size + 1, 0, none⟩ = some (.slice a' k' c')) (first | exact ⟨hx1, hx2⟩ | exact ⟨hy1, hy2⟩ | go_keep)
  (first | (go_at_call 252; (with_reducible refine (len_is a k c num _ _ (HW.out _ hb3.drew).1 HBN.out (by omega)).mono ?_); rintro e wx ⟨rfl, hbx⟩; have hx1 := (hbx.cell (p := ⟨w.heap.size, 0, none⟩) (by simpa using hl1)).trans hc1; have hx2 := (hbx.cell (p := ⟨w.heap.size + 1, 0, none⟩) (by simpa using hl2)).trans hc2) | (go_at_call 252; (with_reducible refine (len_is a' k' c' den _ _ (HW.out _ (chain hb3.drew hbx)).2 HBD.out (by omega)).mono ?_); rintro e wy ⟨rfl, hby⟩; have hy1 := (hby.cell (p := ⟨w.heap.size, 0, none⟩) (by simpa using Nat.lt_of_lt_of_le hl1 hbx.size)).trans hx1; have hy2 := (hby.cell (p := ⟨w.heap.size + 1, 0, none⟩) (by simpa using Nat.lt_of_lt_of_le hl2 hbx.size)).trans hx2))
 have HBF := hZ (chain (chain hb3.drew hbx) hby);have g1 := keep (keep (w1 := w3.drew) G1.out hbx) hby;have g2 := keep (keep (w1 := w3.drew) G2.out hbx) hby;have g3 := keep (keep (w1 := w3.drew) G3.out hbx) hby;clear hbx hby hx1 hx2 hy1 hy2 hc1 hc2 hb3 G1 G2 G3 hl1 hl2 hl3;have hr1 : IntKind.i64.wrap ((bn : Int) - (bd : Int)) = (bn : Int) - (bd : Int) := wr (by omega) (by omega);have hc1 := cell_of_one g1;have hc2 := cell_of_one g2;have hf1 := free_of_one g1;have hf2 := free_of_one g2;have G1 := hZ g1;have G2 := hZ g2;have G3 := hZ g3;clear g1 g2 g3;obtain ⟨u, hu⟩ : ∃ u : Nat, (66 : Int) - ((bn : Int) - (bd : Int)) = (u : Int) := ⟨(66 - ((bn : Int) - (bd : Int))).toNat, by omega⟩;have hr2 : IntKind.i64.wrap (u : Int) = (u : Int) := wr (by omega) (by omega);have hup0 : (0 : Int) ≤ (u : Int) := by omega
 have hu2 : u ≤ 5066 := by omega
 have HU : Hid (upOf num den = (u : Int)) := hZ (by unfold upOf; rw [HBN.out, HBD.out, hu]);have hfit : Lim.bitlen num + u ≤ 8192 := by rw [HBN.out]; omega
 have hRA : ratioOf num den = cutOf (num * 2 ^ u / den) (num * 2 ^ u % den) (u : Int) := by unfold ratioOf; rw [HU.out]; simp
 have HFIT := hZ hfit;have HRA0 := hZ hRA;clear hfit hRA;go_wp2_with fail;refine (shl_any a k c num u _ (HW.out _ HBF.out).1 HFIT.out).mono ?_;rintro e w4 ⟨an, kn, cn, rfl, hwn, hb4⟩;have hwd := (HW.out _ (chain HBF.out hb4)).2;have hc1 := cell_of_one (keep G1.out hb4);have hf1 := free_of_one (keep G1.out hb4);have hc2 := cell_of_one (keep G2.out hb4);have hF1 := hZ (set_at (o := 0) (keep G1.out hb4) (.slice an kn cn));have hF2 := hZ ((set_else (w := w4) (o := 0) (k := w.heap.size + 1) (b := w.heap.size) (.slice an kn cn) (by omega)).trans (keep G2.out hb4));have hF3 := hZ ((set_else (w := w4) (o := 0) (k := w.heap.size + 2) (b := w.heap.size) (.slice an kn cn) (by omega)).trans (keep G3.out hb4));have hF4 := hZ ((chain HBF.out hb4).setCell (p := ⟨w.heap.size, 0, none⟩) (Nat.le_refl _) (.slice an kn cn));have hF5 := hZ (hwn.set (keep G1.out hb4) (by decide) 0 (.slice an kn cn));have hF6 := hZ (hwd.set (keep G1.out hb4) (by decide) 0 (.slice an kn cn));clear hwn hwd hb4;go_wp2_with fail;have hs5 := lt_of_block hF3.out;generalize w4.setCell ⟨w.heap.size, 0, none⟩ (Value.slice an kn cn) = w5 at *;obtain ⟨N, hN⟩ : ∃ N, num * 2 ^ u = N := ⟨_, rfl⟩;obtain ⟨D, rfl⟩ : ∃ D, D = den := ⟨_, rfl⟩;have hND : Lim.bitlen N = Lim.bitlen D + 66 := by rw [← hN, bitlen_shl hn0, HBN.out, HBD.out]; omega
 have hNN : Lim.bitlen N ≤ 8192 := by rw [← hN, bitlen_shl hn0, HBN.out]; omega
 have hDD : Lim.bitlen D ≤ 8192 := by rw [HBD.out]; omega
 have hD0 := hd0;have hRA := HRA0.out;rw [hN] at hF5 hRA;clear hN hu HFIT HRA0;have hN1 : (Lim.limbs N).length ≤ 1048576 := Nat.le_trans (Lim.short (k := 256) (by omega)) (by decide);have hD1 : (Lim.limbs D).length ≤ 1048576 := Nat.le_trans (Lim.short (k := 256) (by omega)) (by decide);obtain ⟨hq1, hq2⟩ := quo_bits hD0 hND;refine (div_any _ _ _ _ _ _ N D w5 hF5.out hF6.out hN1 hD1 hD0).mono ?_;rintro e w6 ⟨aq, kq, cq, al, kl, cl, rfl, hwq, hwl, hb6⟩;have hbf := chain hF4.out hb6;have g3 := keep hF3.out hb6;clear hF1 hF2 hF3 hF4 hF5 hF6 hN1 hD1;obtain ⟨va, vc, hve⟩ := Row.shape hwq;injection hve with e1 e2 e3
 subst e1 e2 e3;obtain ⟨va, vc, hve⟩ := Row.shape hwl;injection hve with e1 e2 e3
 subst e1 e2 e3;obtain ⟨q, hq⟩ : ∃ q, N / D = q := ⟨_, rfl⟩;obtain ⟨r, hr⟩ : ∃ r, N % D = r := ⟨_, rfl⟩;rw [hq] at hwq hq1 hq2 hRA;rw [hr] at hwl hRA;simp only [hq, hr];have hND2 := hDD;have hrlt : N % D < D := Nat.mod_lt _ (by omega);rw [hr] at hrlt;clear hq hr hND;obtain ⟨bq, hbq⟩ : ∃ b, Lim.bitlen q = b := ⟨_, rfl⟩;rw [hbq] at hq1 hq2;have HBQ := hZ hbq;clear hbq;obtain ⟨br, hbr⟩ : ∃ b, Lim.bitlen r = b := ⟨_, rfl⟩;have HBR := hZ hbr
 have hbr2 : br ≤ 9000 := by
  have hmo := Lim.bitlen_mono (Nat.le_of_lt hrlt);omega
 have hbrL : decide ((0 : Int) < (br : Int)) = decide (r ≠ 0) := by rw [← hbr]; exact len_pos r
 have hbrN : decide (0 < br) = !decide (r = 0) := by rw [← hbr]; exact len_posN r
 clear hbr hrlt;obtain ⟨kk, hkk⟩ : ∃ z, max ((bq : Int) - 53 - (u : Int)) (-1074) = z := ⟨_, rfl⟩;obtain ⟨j, hj⟩ : ∃ j : Nat, kk + (u : Int) = (j : Int) := ⟨(kk + (u : Int)).toNat, by omega⟩;obtain ⟨x, hx⟩ : ∃ x : Nat, kk + 1074 = (x : Int) := ⟨(kk + 1074).toNat, by omega⟩;have hj1 : 13 ≤ j := by omega
 have hj2 : j ≤ 6000 := by omega
 have hx2 : x ≤ 3000 := by omega
 have hjb : bq ≤ 53 + j := by omega
 have hwe : wordE (q / 2 ^ j) = .returned (.tuple #[.int .u64 ((q / 2 ^ j : Nat) : Int), .bool true]) := if_pos (by have := top_lt HBQ.out hjb; omega);have HWE := hZ hwe;clear hwe;obtain ⟨B, hB⟩ : ∃ B : Nat, x * 4503599627370496 + q / 2 ^ j = B := ⟨_, rfl⟩;have hB64 : IntKind.u64.wrap ((x : Int) * 4503599627370496 + (q : Int) / 2 ^ j) = (B : Int) := wrap_bits hB hx2 (top_lt HBQ.out hjb);have hjt : ((j : Int) - 1).toNat = j - 1 := by omega
 have hRA2 := hRA.trans (cut_is (q := q) (r := r) (by rw [HBQ.out]; exact hkk) hj hx);rw [hB] at hRA2;have HRA := hZ hRA2;clear hB hRA2;obtain ⟨n1, n2, n3⟩ := new2' w6 (.cells #[.slice aq (Lim.limbs q).length cq] 381) (.cells #[.slice al (Lim.limbs r).length cl] 381);have hwq := hwq.below n3;have hwl := hwl.below n3;have g3 := keep g3 n3;have hs6 : w.heap.size + 3 ≤ w6.heap.size := by have := hb6.size; omega
 have hbf := chain hbf n3;clear n3;have HKK := hZ hkk;have HN1 := hZ n1;have HN2 := hZ n2;have HG3 := hZ g3;have HBF2 := hZ hbf;clear hRA g3 hbf n1 n2;have hv1 : IntKind.i64.wrap ((bq : Int) - 53) = (bq : Int) - 53 := wr (by omega) (by omega);have hv2 : IntKind.i64.wrap ((bq : Int) - 53 - (u : Int)) = (bq : Int) - 53 - (u : Int) := wr (by omega) (by omega);have hv3 : IntKind.i64.wrap (j : Int) = (j : Int) := wr (by omega) (by omega);have hv4 : IntKind.i64.wrap ((j : Int) - 1) = (j : Int) - 1 := wr (by omega) (by omega);have hv5 : IntKind.i64.wrap (x : Int) = (x : Int) := wr (by omega) (by omega);have hwQ := hZ hwq;have hwL := hZ hwl;clear hwq hwl;go_wp2_with fail;refine (len_is aq _ cq q bq _ hwQ.out HBQ.out (by omega)).mono ?_;rintro e w7 ⟨rfl, hb7⟩;have HN1 := hZ (keep HN1.out hb7);have HN2 := hZ (keep HN2.out hb7);have HG3 := hZ (keep HG3.out hb7);have HBF2 := hZ (chain HBF2.out hb7);have hwQ := hZ (hwQ.out.below hb7);have hwL := hZ (hwL.out.below hb7);clear hb7;have hd1 := cell_of_one HN1.out;go_wp2_with fail;refine (shr_any aq _ cq q j _ hwQ.out (Nat.le_trans (Lim.short (k := 2) (by rw [HBQ.out]; omega)) (by decide)) (by omega)).mono ?_;rintro e w8 ⟨am, km, cm, rfl, hwm, hb8⟩;have HN1 := hZ (keep HN1.out hb8);have HN2 := hZ (keep HN2.out hb8);have HG3 := hZ (keep HG3.out hb8);have HBF2 := hZ (chain HBF2.out hb8);have hwQ := hZ (hwQ.out.below hb8);have hwL := hZ (hwL.out.below hb8);have hwM := hZ hwm;have hml : (Lim.limbs (q / 2 ^ j)).length ≤ 4294967296 := Nat.le_trans (Lim.limbs_length_le (k := 1) (by have := top_lt HBQ.out hjb; omega)) (by decide);have HML := hZ hml;clear hb8 hwm hd1 hml;have b9 : Below w8.heap.size w8 (w8.alloc (.cells #[.slice am km cm] 381)) := (Below.refl _ _).alloc (Nat.le_refl _) _;have HM9 := hZ (heap_alloc_new w8 (.cells #[.slice am km cm] 381));have HN1 := hZ (keep HN1.out b9);have HN2 := hZ (keep HN2.out b9);have HG3 := hZ (keep HG3.out b9);have HBF2 := hZ (chain HBF2.out b9);have hwQ := hZ (hwQ.out.below b9);have hwL := hZ (hwL.out.below b9);have hwM := hZ (hwM.out.below b9);have hd2 := cell_of_one HN2.out;have hd3 := cell_of_one HM9.out;clear b9
 by_cases hqj : q % 2 ^ j = 0
 ·have hbb : (q % 2 ^ j != 0) = false := by simp [hqj]
  have htb : q.testBit (j - 1) = false := bit_none (by omega) hqj;have hL1 : lostOf q r j = decide (r ≠ 0) := by unfold lostOf; simp [hqj]
  have hH1 : halfOf q r j = -1 := half_none htb;rw [hbb];go_wp2_with fail;refine (len_is al _ cl r br _ hwL.out HBR.out (by omega)).mono ?_;rintro e w10 ⟨rfl, hb10⟩;have HN1 := hZ (keep HN1.out hb10);have HN2 := hZ (keep HN2.out hb10);have HG3 := hZ (keep HG3.out hb10);have HBF2 := hZ (chain HBF2.out hb10);have hwQ := hZ (hwQ.out.below hb10);have hwL := hZ (hwL.out.below hb10);have hwM := hZ (hwM.out.below hb10);have HM9 := hZ (keep HM9.out hb10);clear hb10 hd2 hd3 hqj;have hd3 := cell_of_one HM9.out;go_wp2_with fail;refine (word1_any am km cm (q / 2 ^ j) _ hwM.out HML.out).mono ?_;rintro e w11 ⟨he, hb11⟩;subst he;rw [HWE.out];have HN1 := hZ (keep HN1.out hb11);have HN2 := hZ (keep HN2.out hb11);have HG3 := hZ (keep HG3.out hb11);have HBF2 := hZ (chain HBF2.out hb11);have hwQ := hZ (hwQ.out.below hb11);have hwL := hZ (hwL.out.below hb11);have hs11 := lt_of_block HN2.out;clear hb11;have hal : ∀ o, Below w11.heap.size w11 (w11.alloc o) := fun o => (Below.refl _ _).alloc (Nat.le_refl _) _
  have hd1 : ∀ o, (w11.alloc o).cell? ⟨w6.heap.size, 0, none⟩ = some (.slice aq (Lim.limbs q).length cq) := fun o => cell_of_one (keep HN1.out (hal o))
  have HAL := hZ hal;clear hal;go_wp2_with fail;refine (bit_any aq cq q ((j : Int) - 1) _ (hwQ.out.below (HAL.out _)) (by omega) (by omega)).mono ?_;rintro e w13 ⟨rfl, hb13⟩;have H14 := hZ (keep (heap_alloc_new w11 _) hb13);have hb13 := (HAL.out _).trans (hb13.mono (by simp));have HN1 := hZ (keep HN1.out hb13);have HN2 := hZ (keep HN2.out hb13);have HG3 := hZ (keep HG3.out hb13);have HBF2 := hZ (chain HBF2.out hb13);have hwQ := hZ (hwQ.out.below hb13);have hwL := hZ (hwL.out.below hb13);clear hb13 hd1;obtain ⟨r0, r1, r2, rf⟩ := cells3 HG3.out;obtain ⟨q0, q1, q2, qf⟩ := cells3 H14.out;rw [hjt];rw [htb]
  by_cases hmo : most < B
  ·have hmo2 : (9218868437227405311 : Int) < (B : Int) := by unfold most at hmo; omega
   have hfin : ratioOf num D = ⟨most, 1, false⟩ := by rw [HRA.out]; exact if_pos hmo
   have HFIN := hZ hfin;clear hfin hmo;go_wp2_with fail;exact bodyPost_ret (v := cutV ⟨most, 1, false⟩) (by simp [results, results234, go_sem, r0, r1, r2, cutV, most]) rfl ⟨by rw [HFIN.out], (((HBF2.out).setCell (Nat.le_add_right _ 2) _).setCell (Nat.le_add_right _ 2) _).setCell (Nat.le_add_right _ 2) _⟩
  ·have hmo2 : ¬ (9218868437227405311 : Int) < (B : Int) := by unfold most at hmo; omega
   have hfin : ratioOf num D = ⟨B, halfOf q r j, !lostOf q r j⟩ := by rw [HRA.out]; exact if_neg hmo
   rw [hH1, hL1] at hfin;have HFIN := hZ hfin;clear hfin hmo;go_wp2_with fail;exact bodyPost_ret (v := cutV ⟨B, -1, !decide (r ≠ 0)⟩) (by simp [results, results234, go_sem, r0, r1, r2, q0, q1, q2, cutV, hbrN]) rfl ⟨by rw [HFIN.out], (((HBF2.out).setCell (Nat.le_add_right _ 2) _).setCell (Nat.le_add_right _ 2) _).setCell (Nat.le_add_right _ 2) _⟩
 ·have hbb : (q % 2 ^ j != 0) = true := by simp [hqj]
  have hL1 : lostOf q r j = true := by unfold lostOf; simp [hqj]
  rw [hbb];clear hqj;go_wp2_with fail;refine (word1_any am km cm (q / 2 ^ j) _ hwM.out HML.out).mono ?_;rintro e w11 ⟨he, hb11⟩;subst he;rw [HWE.out];have HN1 := hZ (keep HN1.out hb11);have HN2 := hZ (keep HN2.out hb11);have HG3 := hZ (keep HG3.out hb11);have HBF2 := hZ (chain HBF2.out hb11);have hwQ := hZ (hwQ.out.below hb11);have hwL := hZ (hwL.out.below hb11);have hs11 := lt_of_block HN2.out;clear hb11;have hal : ∀ o, Below w11.heap.size w11 (w11.alloc o) := fun o => (Below.refl _ _).alloc (Nat.le_refl _) _
  have hd1 : ∀ o, (w11.alloc o).cell? ⟨w6.heap.size, 0, none⟩ = some (.slice aq (Lim.limbs q).length cq) := fun o => cell_of_one (keep HN1.out (hal o))
  have HAL := hZ hal;clear hal;go_wp2_with fail;refine (bit_any aq cq q ((j : Int) - 1) _ (hwQ.out.below (HAL.out _)) (by omega) (by omega)).mono ?_;rintro e w13 ⟨rfl, hb13⟩;have H14 := hZ (keep (heap_alloc_new w11 _) hb13);have hb13 := (HAL.out _).trans (hb13.mono (by simp));have HN1 := hZ (keep HN1.out hb13);have HN2 := hZ (keep HN2.out hb13);have HG3 := hZ (keep HG3.out hb13);have HBF2 := hZ (chain HBF2.out hb13);have hwQ := hZ (hwQ.out.below hb13);have hwL := hZ (hwL.out.below hb13);clear hb13 hd1;obtain ⟨r0, r1, r2, rf⟩ := cells3 HG3.out;obtain ⟨q0, q1, q2, qf⟩ := cells3 H14.out;rw [hjt]
  by_cases htb : q.testBit (j - 1) = true
  ·have HTB := hZ htb;rw [htb];clear htb;have HNE1 : Hid (w6.heap.size ≠ w11.heap.size) := hZ (by omega);have HNE2 : Hid (w6.heap.size + 1 ≠ w11.heap.size) := hZ (by omega);have HNE3 : Hid (w.heap.size + 2 ≠ w11.heap.size) := hZ (by omega);have HNE4 : Hid (w.heap.size ≤ w11.heap.size) := hZ (by omega);have hd1 : (w13.setCell ⟨w11.heap.size, 1, none⟩ (.int .i64 0)).cell? ⟨w6.heap.size, 0, none⟩ = some (.slice aq (Lim.limbs q).length cq) := cell_of_one ((set_else (o := 1) (.int .i64 0) HNE1.out).trans HN1.out);go_wp2_with fail;have HN1 := hZ ((set_else (o := 1) (.int .i64 0) HNE1.out).trans HN1.out);have HN2 := hZ ((set_else (o := 1) (.int .i64 0) HNE2.out).trans HN2.out);have HG3 := hZ ((set_else (o := 1) (.int .i64 0) HNE3.out).trans HG3.out);have HBF2 := hZ (HBF2.out.setCell (p := ⟨w11.heap.size, 1, none⟩) HNE4.out (.int .i64 0));have hwQ := hZ (hwQ.out.set H14.out (by decide) 1 (.int .i64 0));have hwL := hZ (hwL.out.set H14.out (by decide) 1 (.int .i64 0));have H14 := hZ (set_at (o := 1) H14.out (.int .i64 0));clear hd1 r0 r1 r2 rf q0 q1 q2 qf;have hj1e : ((j : Int) - 1) = ((j - 1 : Nat) : Int) := by omega
   have hv6 : IntKind.i64.wrap ((j - 1 : Nat) : Int) = ((j - 1 : Nat) : Int) := wr (by omega) (by omega);rw [hj1e];clear hj1e;refine (shr_any aq _ cq q (j - 1) _ hwQ.out (Nat.le_trans (Lim.short (k := 2) (by rw [HBQ.out]; omega)) (by decide)) (by omega)).mono ?_;rintro e w15 ⟨am2, km2, cm2, rfl, _, hb15⟩;have HN1 := hZ (keep HN1.out hb15);have HN2 := hZ (keep HN2.out hb15);have HG3 := hZ (keep HG3.out hb15);have HBF2 := hZ (chain HBF2.out hb15);have hwQ := hZ (hwQ.out.below hb15);have hwL := hZ (hwL.out.below hb15);have H14 := hZ (keep H14.out hb15);clear hb15;have hal : ∀ o, Below w15.heap.size w15 (w15.alloc o) := fun o => (Below.refl _ _).alloc (Nat.le_refl _) _
   have HAL := hZ hal;clear hal
   by_cases hqj : q % 2 ^ (j - 1) = 0
   ·have hbb : (q % 2 ^ (j - 1) != 0) = false := by simp [hqj]
    have hd2 : ∀ o, (w15.alloc o).cell? ⟨w6.heap.size + 1, 0, none⟩ = some (.slice al (Lim.limbs r).length cl) := fun o => cell_of_one (keep HN2.out (HAL.out o))
    have HQJ := hZ hqj;rw [hbb];clear hqj;go_wp2_with fail;refine (len_is al _ cl r br _ (hwL.out.below (HAL.out _)) HBR.out (by omega)).mono ?_;rintro e w16 ⟨rfl, hb16⟩;have hb16 := (HAL.out _).trans (hb16.mono (by simp));have HN1 := hZ (keep HN1.out hb16);have HN2 := hZ (keep HN2.out hb16);have HG3 := hZ (keep HG3.out hb16);have HBF2 := hZ (chain HBF2.out hb16);have hwQ := hZ (hwQ.out.below hb16);have hwL := hZ (hwL.out.below hb16);have H14 := hZ (keep H14.out hb16);clear hb16 hd2;obtain ⟨r0, r1, r2, rf⟩ := cells3 HG3.out;obtain ⟨q0, q1, q2, qf⟩ := cells3 H14.out
    by_cases hr0 : r = 0
    ·have hH1 : halfOf q r j = 0 := half_zero HTB.out HQJ.out hr0;have hrd : decide (r = 0) = true := by simp [hr0]
     clear hr0
     by_cases hmo : most < B
     ·have hmo2 : (9218868437227405311 : Int) < (B : Int) := by unfold most at hmo; omega
      have hfin : ratioOf num D = ⟨most, 1, false⟩ := by rw [HRA.out]; exact if_pos hmo
      have HFIN := hZ hfin;clear hfin hmo;go_wp2_with fail;exact bodyPost_ret (v := cutV ⟨most, 1, false⟩) (by simp [results, results234, go_sem, r0, r1, r2, cutV, most]) rfl ⟨by rw [HFIN.out], (((HBF2.out).setCell (Nat.le_add_right _ 2) _).setCell (Nat.le_add_right _ 2) _).setCell (Nat.le_add_right _ 2) _⟩
     ·have hmo2 : ¬ (9218868437227405311 : Int) < (B : Int) := by unfold most at hmo; omega
      have hfin : ratioOf num D = ⟨B, halfOf q r j, !lostOf q r j⟩ := by rw [HRA.out]; exact if_neg hmo
      rw [hH1, hL1] at hfin;have HFIN := hZ hfin;clear hfin hmo;go_wp2_with fail;exact bodyPost_ret (v := cutV ⟨B, 0, !true⟩) (by simp [results, results234, go_sem, r0, r1, r2, q0, q1, q2, cutV]) rfl ⟨by rw [HFIN.out], (((HBF2.out).setCell (Nat.le_add_right _ 2) _).setCell (Nat.le_add_right _ 2) _).setCell (Nat.le_add_right _ 2) _⟩
    ·have hH1 : halfOf q r j = 1 := half_one HTB.out (.inr hr0);have hrd : decide (r = 0) = false := by simp [hr0]
     clear hr0
     by_cases hmo : most < B
     ·have hmo2 : (9218868437227405311 : Int) < (B : Int) := by unfold most at hmo; omega
      have hfin : ratioOf num D = ⟨most, 1, false⟩ := by rw [HRA.out]; exact if_pos hmo
      have HFIN := hZ hfin;clear hfin hmo;go_wp2_with fail;exact bodyPost_ret (v := cutV ⟨most, 1, false⟩) (by simp [results, results234, go_sem, r0, r1, r2, cutV, most]) rfl ⟨by rw [HFIN.out], (((HBF2.out.setCell (p := ⟨w11.heap.size, 1, none⟩) HNE4.out (.int .i64 1)).setCell (Nat.le_add_right _ 2) _).setCell (Nat.le_add_right _ 2) _).setCell (Nat.le_add_right _ 2) _⟩
     ·have hmo2 : ¬ (9218868437227405311 : Int) < (B : Int) := by unfold most at hmo; omega
      have hfin : ratioOf num D = ⟨B, halfOf q r j, !lostOf q r j⟩ := by rw [HRA.out]; exact if_neg hmo
      rw [hH1, hL1] at hfin;have HFIN := hZ hfin;clear hfin hmo;go_wp2_with fail;exact bodyPost_ret (v := cutV ⟨B, 1, !true⟩) (by simp [results, results234, go_sem, r0, r1, r2, q0, q1, q2, cutV]) rfl ⟨by rw [HFIN.out], (((HBF2.out.setCell (p := ⟨w11.heap.size, 1, none⟩) HNE4.out (.int .i64 1)).setCell (Nat.le_add_right _ 2) _).setCell (Nat.le_add_right _ 2) _).setCell (Nat.le_add_right _ 2) _⟩
   ·have hbb : (q % 2 ^ (j - 1) != 0) = true := by simp [hqj]
    have hH1 : halfOf q r j = 1 := half_one HTB.out (.inl hqj);rw [hbb];clear hqj;have hb16 := HAL.out (.cells #[.slice am2 km2 cm2] 381);have HN1 := hZ (keep HN1.out hb16);have HN2 := hZ (keep HN2.out hb16);have HG3 := hZ (keep HG3.out hb16);have HBF2 := hZ (chain HBF2.out hb16);have hwQ := hZ (hwQ.out.below hb16);have hwL := hZ (hwL.out.below hb16);have H14 := hZ (keep H14.out hb16);clear hb16;obtain ⟨r0, r1, r2, rf⟩ := cells3 HG3.out;obtain ⟨q0, q1, q2, qf⟩ := cells3 H14.out
    by_cases hmo : most < B
    ·have hmo2 : (9218868437227405311 : Int) < (B : Int) := by unfold most at hmo; omega
     have hfin : ratioOf num D = ⟨most, 1, false⟩ := by rw [HRA.out]; exact if_pos hmo
     have HFIN := hZ hfin;clear hfin hmo;go_wp2_with fail;exact bodyPost_ret (v := cutV ⟨most, 1, false⟩) (by simp [results, results234, go_sem, r0, r1, r2, cutV, most]) rfl ⟨by rw [HFIN.out], (((HBF2.out.setCell (p := ⟨w11.heap.size, 1, none⟩) HNE4.out (.int .i64 1)).setCell (Nat.le_add_right _ 2) _).setCell (Nat.le_add_right _ 2) _).setCell (Nat.le_add_right _ 2) _⟩
    ·have hmo2 : ¬ (9218868437227405311 : Int) < (B : Int) := by unfold most at hmo; omega
     have hfin : ratioOf num D = ⟨B, halfOf q r j, !lostOf q r j⟩ := by rw [HRA.out]; exact if_neg hmo
     rw [hH1, hL1] at hfin;have HFIN := hZ hfin;clear hfin hmo;go_wp2_with fail;exact bodyPost_ret (v := cutV ⟨B, 1, !true⟩) (by simp [results, results234, go_sem, r0, r1, r2, q0, q1, q2, cutV]) rfl ⟨by rw [HFIN.out], (((HBF2.out.setCell (p := ⟨w11.heap.size, 1, none⟩) HNE4.out (.int .i64 1)).setCell (Nat.le_add_right _ 2) _).setCell (Nat.le_add_right _ 2) _).setCell (Nat.le_add_right _ 2) _⟩
  ·have htb : q.testBit (j - 1) = false := by simpa using htb
   have hH1 : halfOf q r j = -1 := half_none htb;rw [htb]
   by_cases hmo : most < B
   ·have hmo2 : (9218868437227405311 : Int) < (B : Int) := by unfold most at hmo; omega
    have hfin : ratioOf num D = ⟨most, 1, false⟩ := by rw [HRA.out]; exact if_pos hmo
    have HFIN := hZ hfin;clear hfin hmo;go_wp2_with fail;exact bodyPost_ret (v := cutV ⟨most, 1, false⟩) (by simp [results, results234, go_sem, r0, r1, r2, cutV, most]) rfl ⟨by rw [HFIN.out], (((HBF2.out).setCell (Nat.le_add_right _ 2) _).setCell (Nat.le_add_right _ 2) _).setCell (Nat.le_add_right _ 2) _⟩
   ·have hmo2 : ¬ (9218868437227405311 : Int) < (B : Int) := by unfold most at hmo; omega
    have hfin : ratioOf num D = ⟨B, halfOf q r j, !lostOf q r j⟩ := by rw [HRA.out]; exact if_neg hmo
    rw [hH1, hL1] at hfin;have HFIN := hZ hfin;clear hfin hmo;go_wp2_with fail;exact bodyPost_ret (v := cutV ⟨B, -1, !true⟩) (by simp [results, results234, go_sem, r0, r1, r2, q0, q1, q2, cutV, hbrN]) rfl ⟨by rw [HFIN.out], (((HBF2.out).setCell (Nat.le_add_right _ 2) _).setCell (Nat.le_add_right _ 2) _).setCell (Nat.le_add_right _ 2) _⟩
end Go.Proofs.YtakkmiomhackiaaGreatDoor
