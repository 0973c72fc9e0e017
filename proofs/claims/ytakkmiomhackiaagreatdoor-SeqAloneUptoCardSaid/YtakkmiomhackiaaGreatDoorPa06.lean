/-
  The program, one part of its walk: Wd7, Wd8, Wd9, Wd10. Conditions: none.
-/
import Derived.Test.YtakkmiomhackiaaGreatDoorPa05
import Derived.Deep.RegionWith
import Derived.Test.YtakkmiomhackiaaGreatDoorPa00
set_option linter.all false
set_option maxRecDepth 100000
set_option maxHeartbeats 16000000
open Go.Proofs.Tryz
namespace Go.Proofs.YtakkmiomhackiaaGreatDoor
open Go.RowKit
def goneBy (q s j : Nat) : Nat := if j ≤ q then 18446744073709551616 ^ j else 18446744073709551616 ^ q * 2 ^ s
theorem gone_lt {n q s j : Nat} (h : j < q) : (n % goneBy q s (j + 1) != 0) = ((n % goneBy q s j != 0) || (n / 18446744073709551616 ^ j % 18446744073709551616 != 0)) := by
 unfold goneBy;rw [if_pos (by omega), if_pos (by omega), mod_succ, Bool.eq_iff_iff];simp only [bne_iff_ne, Bool.or_eq_true, ne_eq, Nat.add_eq_zero_iff, Nat.mul_eq_zero];have : ¬ 18446744073709551616 ^ j = 0 := Nat.ne_of_gt (Nat.pow_pos (by decide))
 by_cases h1 : n % 18446744073709551616 ^ j = 0 <;> simp [h1, this]
theorem gone_eq {n q s : Nat} (hs : s < 64) : (n % goneBy q s (q + 1) != 0) = ((n % goneBy q s q != 0) || (n / 18446744073709551616 ^ q % 18446744073709551616 % 2 ^ s != 0)) := by
 unfold goneBy;rw [if_neg (by omega), if_pos (by omega), Nat.mod_mul, Nat.mod_mod_of_dvd _ ⟨2 ^ (64 - s), by rw [Nat.mul_comm]; exact pow64 hs⟩, Bool.eq_iff_iff];simp only [bne_iff_ne, Bool.or_eq_true, ne_eq, Nat.add_eq_zero_iff, Nat.mul_eq_zero];have : ¬ 18446744073709551616 ^ q = 0 := Nat.ne_of_gt (Nat.pow_pos (by decide))
 by_cases h1 : n % 18446744073709551616 ^ q = 0 <;> simp [h1, this]
theorem gone_gt {n q s j : Nat} (h : q < j) : (n % goneBy q s (j + 1) != 0) = (n % goneBy q s j != 0) := by
 unfold goneBy;rw [if_neg (by omega), if_neg (by omega)]
theorem shr_word {n q s j k : Nat} (hs : s < 64) (hk : k = 64 * q + s) (hj : q ≤ j) :
 (n / 18446744073709551616 ^ (j + 1) % 18446744073709551616 * 18446744073709551616 + n / 18446744073709551616 ^ j % 18446744073709551616) / 2 ^ s % 18446744073709551616 = n / 2 ^ k / 18446744073709551616 ^ (j - q) % 18446744073709551616 := by
 have e1 : n / 2 ^ k / 18446744073709551616 ^ (j - q) = n / 18446744073709551616 ^ j / 2 ^ s := by
  rw [Nat.div_div_eq_div_mul, Nat.div_div_eq_div_mul, Lim.wpow, Lim.wpow, ← Nat.pow_add, ← Nat.pow_add];congr 2; omega
 rw [e1, Nat.pow_succ, ← Nat.div_div_eq_div_mul];generalize n / 18446744073709551616 ^ j = m;have hp := Nat.two_pow_pos s
 have e2 : m / 18446744073709551616 % 18446744073709551616 * 18446744073709551616 + m % 18446744073709551616 = m % (18446744073709551616 * 18446744073709551616) := by
  rw [Nat.mod_mul, Nat.mul_comm, Nat.add_comm]
 rw [e2];have e3 := Nat.div_add_mod m (18446744073709551616 * 18446744073709551616);generalize m % (18446744073709551616 * 18446744073709551616) = r at *;generalize m / (18446744073709551616 * 18446744073709551616) = t at *;rw [← e3]
 have e4 : 18446744073709551616 * 18446744073709551616 * t + r = r + 2 ^ s * (18446744073709551616 * (2 ^ (64 - s) * t)) := by
  have : 18446744073709551616 * 18446744073709551616 * t = 2 ^ s * (18446744073709551616 * (2 ^ (64 - s) * t)) := by
   have h64 := pow64 hs;generalize 18446744073709551616 = b at *;rw [h64]; simp only [Nat.mul_assoc, Nat.mul_left_comm, Nat.mul_comm]
  omega
 rw [e4, Nat.add_mul_div_left _ _ hp, Nat.add_mul_mod_self_left]
theorem and_mask {x s : Nat} (hx : x < 18446744073709551616) (hs : s < 64) : bits BinOp.and IntKind.u64 (x : Int) ((2 ^ s - 1 : Nat) : Int) = ((x % 2 ^ s : Nat) : Int) := by
 have h64 : 2 ^ s ≤ 2 ^ 63 := Nat.pow_le_pow_right (by decide) (by omega);rw [bits_and_u64_nat _ _ hx (by omega), Nat.and_two_pow_sub_one_eq_mod]
theorem mask_one {s : Nat} (hs : s < 64) : IntKind.u64.wrap (IntKind.u64.wrap (2 ^ s) - 1) = ((2 ^ s - 1 : Nat) : Int) := by
 have h64 : 2 ^ s ≤ 2 ^ 63 := Nat.pow_le_pow_right (by decide) (by omega);have hp := Nat.two_pow_pos s;have h0 : (2 : Int) ^ s = ((2 ^ s : Nat) : Int) := by simp
 rw [h0];generalize 2 ^ s = y at *;have e1 : IntKind.u64.wrap (y : Int) = (y : Int) := by rw [IntKind.wrap_u64]; omega
 rw [e1, IntKind.wrap_u64]; omega
theorem shr_all {n q s k L : Nat} (hk : k = 64 * q + s) (hL : n < 18446744073709551616 ^ L) : n / 2 ^ k % 18446744073709551616 ^ (L - q) = n / 2 ^ k ∧ (n % goneBy q s L != 0) = (n % 2 ^ k != 0) := by
 have e : 2 ^ k = 18446744073709551616 ^ q * 2 ^ s := by rw [hk, Nat.pow_add, Lim.wpow]
 have hq : 18446744073709551616 ^ q ≤ 2 ^ k := by rw [e]; exact Nat.le_mul_of_pos_right _ (Nat.two_pow_pos s)
 refine ⟨Nat.mod_eq_of_lt (Nat.div_lt_of_lt_mul (Nat.lt_of_lt_of_le hL ?_)), ?_⟩
 ·refine Nat.le_trans ?_ (Nat.mul_le_mul_right _ hq);rw [← Nat.pow_add]; exact Nat.pow_le_pow_right (by decide) (by omega)
 ·unfold goneBy;split
  ·rename_i h;have : 18446744073709551616 ^ L ≤ 2 ^ k := Nat.le_trans (Nat.pow_le_pow_right (by decide) h) hq;rw [Nat.mod_eq_of_lt hL, Nat.mod_eq_of_lt (Nat.lt_of_lt_of_le hL this)]
  ·rw [e]
def RetNatB (w : World) (n : Nat) (b : Bool) (e : Ending) (w' : World) : Prop := ∃ a k c, e = .returned (.tuple #[.agg #[.slice a k c], .bool b]) ∧ Wds w' (.slice a k c) (Lim.limbs n) ∧ Below w.heap.size w w'
theorem field422 (a b : Int) (w : World) : (Instr.field 422 (.agg #[.int .u64 a, .int .u64 b]) 1).run prog w = .ok (.int .u64 b) w := by kernel_rfl
theorem shr_any (a : Option Addr) (kk c n k : Nat) (w : World) (h : Wds w (.slice a kk c) (Lim.limbs n)) (hl : (Lim.limbs n).length ≤ 4294967295) (hk8 : k ≤ 4294967295) :
 Calls prog 255 #[.agg #[.slice a kk c], .int .i64 k] w fun e w' => RetNatB w (n / 2 ^ k) (n % 2 ^ k != 0) e w' := by
 have hmax : max (k : Int) 0 = k := by omega
 have hb0 : Below w.heap.size w ((w.alloc (.cells #[.slice a kk c] 381)).alloc (.cells #[.slice none 0 0] 381)) := ((Below.refl _ _).alloc (Nat.le_refl _) _).alloc (by simp) _;obtain ⟨va, vc, he⟩ := Row.shape h;injection he with h1 h2 h3
 subst h1 h2 h3;have HCS := hZ h.cases;have hnB := Lim.lt_of_limbs_length (n := n) (Nat.le_refl _);have HNB := hZ hnB;have hget : ∀ i, (Lim.limbs n).getD i 0 = n / 18446744073709551616 ^ i % 18446744073709551616 := Lim.limbs_getD n;have HGET := hZ hget;have hsm := Lim.small_limbs n;have HW : Hid (∀ wx, Below w.heap.size w wx → Wds wx (.slice a (Lim.limbs n).length c) (Lim.limbs n)) := fun wx hx => h.below hx
 clear h hnB hget;obtain ⟨q, s, hqs, hs64⟩ : ∃ q s, k = 64 * q + s ∧ s < 64 := ⟨k / 64, k % 64, by omega, by omega⟩;have hfld := field422;have hkq : (k : Int) / 64 = q := by omega
 have hks : (k : Int) % 64 = s := by omega
 have HQS := hZ hqs;clear hqs;generalize hL : (Lim.limbs n).length = L at *;have HL := hZ hL;clear hL;have hb1 : w.heap.size + 2 = ((w.alloc (.cells #[.slice a L c] 381)).alloc (.cells #[.slice none 0 0] 381)).heap.size := by simp
 have HB1 := hZ hb1;clear hb1;go_enter func255, ntmps255;go_wp2_with fail
 go_loopw [15, 6, 7, 8, 9] (fun i b o _ _ wr => ∃ (j : Nat) (r : List Nat), j ≤ L ∧ i = .int .i64 j ∧ b = .bool (n % goneBy q s j != 0) ∧ Row (w.heap.size + 2) 30 encW wr o r ∧ r.length = j - q ∧ Lim.Small r ∧ Lim.val r = n / 2 ^ k % 18446744073709551616 ^ (j - q) ∧
  Below w.heap.size w wr ∧ wr.heap[w.heap.size]? = some (.cells #[.slice a L c] 381 (0, 0)) ∧ wr.heap[w.heap.size + 1]? = some (.cells #[.slice none 0 0] 381 (0, 0))) (fun i _ _ _ _ _ => L - (intOf i).toNat)
 case atStart => exact ⟨0, [], Nat.zero_le _, rfl, by simp [goneBy, Nat.mod_one], Row.nil _ _ _ _, by simp, (fun x hx => by cases hx), by simp [Lim.val, Nat.mod_one], hb0, (Below.heap_alloc _ _ _ (by simp)).trans (heap_alloc_new w _), by simpa using heap_alloc_new (w.alloc (.cells #[.slice a L c] 381)) (.cells #[.slice none 0 0] 381)⟩
 case round =>
  obtain ⟨j, r, hj, rfl, rfl, hrow, hr, hsr, hval, hbel, g1, g2⟩ := hrel;have hc1 := cell_of_one g1;have hc2 := cell_of_one g2;have hszr : w.heap.size + 2 ≤ wr.heap.size := lt_of_block g2;have G1 := hZ g1;have G2 := hZ g2;have HV := hZ hval;have HR := hZ hr;clear g1 g2 hval hr
  by_cases hlt : j < L
  ·rcases HCS.out with ⟨_, hn⟩ | ⟨g, cap, he, hg, _, _, hcell⟩
   ·have := HL.out; rw [hn] at this; simp at this; omega
   ·injection he with h1 h2 h3
    have hcl : wr.cell? ⟨g, j, none⟩ = some (.int .u64 ((Lim.limbs n).getD j 0 : Nat)) := (hbel.cell (by simpa using hg)).trans (hcell j hlt);subst h1;rw [HGET.out] at hcl;have hxl : n / 18446744073709551616 ^ j % 18446744073709551616 < 18446744073709551616 := Nat.mod_lt _ (by decide);clear hcell h2 h3;generalize hX : n / 18446744073709551616 ^ j % 18446744073709551616 = x at *;have HX := hZ hX;clear hX;obtain ⟨b0, hb0e⟩ : ∃ b0, (n % goneBy q s j != 0) = b0 := ⟨_, rfl⟩;have HB0 := hZ hb0e;rw [hb0e];clear hb0e;rcases Nat.lt_trichotomy j q with hjq | hjq | hjq
    ·have hg1 := gone_lt (n := n) (s := s) hjq;rw [HB0.out, HX.out] at hg1;have hjq2 : j + 1 - q = j - q := by omega
     have hne : ((x : Int) != 0) = (x != 0) := by rw [Bool.eq_iff_iff]; simp
     have HG := hZ hg1;have HJ := hZ hjq2;have HN := hZ hne;clear hg1 hjq2 hne;cases b0
     all_goals
      go_wp2
      go_roundw
      case rel =>
       refine ⟨j + 1, r, by omega, by go_num, ?_, hrow, by rw [HJ.out]; exact HR.out, hsr, by rw [HJ.out]; exact HV.out, hbel, G1.out, G2.out⟩;rw [HG.out]
       first | rfl | (rw [HN.out]; rfl)
      case measure => simp [intOf]; omega
    ·obtain rfl : j = q := hjq;obtain ⟨y, hy⟩ : ∃ y, n / 18446744073709551616 ^ (j + 1) % 18446744073709551616 = y := ⟨_, rfl⟩;have hyl : y < 18446744073709551616 := hy ▸ Nat.mod_lt _ (by decide);have hwd := word_is (some ⟨g, 0, none⟩) L c n y (j + 1) wr (HW.out wr hbel) (by omega) hy;rw [show ((j + 1 : Nat) : Int) = (j : Int) + 1 from by omega] at hwd;have HWD := hZ hwd;have hzv := shr_word (n := n) hs64 HQS.out (Nat.le_refl _);rw [hy, HX.out] at hzv;obtain ⟨z, hz⟩ : ∃ z, (y * 18446744073709551616 + x) / 2 ^ s % 18446744073709551616 = z := ⟨_, rfl⟩;have hzl : z < 18446744073709551616 := hz ▸ Nat.mod_lt _ (by decide);rw [hz] at hzv;have HZ := hZ hz;have HZV := hZ hzv;have hg1 := gone_eq (n := n) (q := j) hs64;rw [HX.out, HB0.out] at hg1;obtain ⟨m, hm⟩ : ∃ m, x % 2 ^ s = m := ⟨_, rfl⟩;have hmask : bits BinOp.and IntKind.u64 (x : Int) (IntKind.u64.wrap (IntKind.u64.wrap (2 ^ s) - 1)) = (m : Int) := by rw [mask_one hs64, and_mask hxl hs64, hm]
     rw [hm] at hg1;have hne : ((m : Int) != 0) = (m != 0) := by rw [Bool.eq_iff_iff]; simp
     have HG := hZ hg1;have HN := hZ hne;clear hg1 hne hy hz hzv hm hwd;cases b0
     all_goals
      go_wp2_with fail;refine (HWD.out).mono ?_;rintro e wx ⟨rfl, hbx⟩;go_wp2_with fail
      try simp only [hks]
      refine (pshr_any y x s _ hyl hxl hs64).mono ?_;rintro e wy ⟨⟨h', rfl⟩, hby⟩;have hbxy := hbx.trans (hby.mono hbx.size);have hrowx := (hrow.below hbxy).alloc (.cells #[.int .u64 ((y * 18446744073709551616 + x) / 2 ^ s % 18446744073709551616 : Nat)] 30);have hbely := chain hbel hbxy;have gy1 := keep G1.out hbxy;have gy2 := keep G2.out hbxy;have hszy : w.heap.size + 2 ≤ wy.heap.size := lt_of_block gy2;have GY1 := hZ gy1;have GY2 := hZ gy2;have hrlt := (hrow.below hbxy).lt;rw [HZ.out] at hrowx ⊢;clear hrow hbel hbx hby hbxy gy1 gy2 hcl hc1 hc2
      go_wp2_with (at_builtin; refine append_one elemW rfl _ _ rfl rfl hrowx ⟨wy.heap.size, 0, none⟩ 1 z rfl ?_ rfl ?_ ?_ ?_ ?_)
      ·simp
      ·have := HR.out; omega
      ·have := HR.out; unfold maxLen; omega
      ·simp; omega
      intro b cap w3 hrow2 hgrow2;have hb3 : Below (w.heap.size + 2) wy w3 := ((Below.refl _ _).alloc (by omega) _).grown hgrow2 (by simp; omega) (fun k hk => (hrlt k hk).1);have HR2 := hZ hrow2;have HG1 := hZ ((hb3.block _ (by omega)).trans GY1.out);have HG2 := hZ ((hb3.block _ (by omega)).trans GY2.out);have hbf : Below w.heap.size w w3 := hbely.trans (hb3.mono (by omega));clear hrow2 hgrow2 hrowx hrlt hb3 hbely;go_wp2
      go_roundw
      case rel =>
       refine ⟨j + 1, r ++ [z], by omega, by go_num, ?_, HR2.out, by first | (simp [HR.out]; done) | (simp [HR.out]; omega), Lim.small_append.2 ⟨hsr, fun y hy => by simp at hy; omega⟩, ?_, hbf, HG1.out, HG2.out⟩
       ·rw [HG.out]
        first | rfl | (rw [HN.out]; rfl)
       ·have e : j + 1 - j = (j - j) + 1 := by omega
        rw [e, mod_succ, Lim.val_append, HR.out, HV.out, HZV.out];simp [Lim.val]
      case measure => simp [intOf]; omega
    ·obtain ⟨y, hy⟩ : ∃ y, n / 18446744073709551616 ^ (j + 1) % 18446744073709551616 = y := ⟨_, rfl⟩;have hyl : y < 18446744073709551616 := hy ▸ Nat.mod_lt _ (by decide);have hwd := word_is (some ⟨g, 0, none⟩) L c n y (j + 1) wr (HW.out wr hbel) (by omega) hy;rw [show ((j + 1 : Nat) : Int) = (j : Int) + 1 from by omega] at hwd;have HWD := hZ hwd;have hzv := shr_word (n := n) hs64 HQS.out (Nat.le_of_lt hjq);rw [hy, HX.out] at hzv;obtain ⟨z, hz⟩ : ∃ z, (y * 18446744073709551616 + x) / 2 ^ s % 18446744073709551616 = z := ⟨_, rfl⟩;have hzl : z < 18446744073709551616 := hz ▸ Nat.mod_lt _ (by decide);rw [hz] at hzv;have HZ := hZ hz;have HZV := hZ hzv;have hg1 := gone_gt (n := n) (s := s) hjq;rw [HB0.out] at hg1;have hjq2 : ((j : Int) == (q : Int)) = false := by rw [beq_eq_false_iff_ne]; omega
     have HG := hZ hg1;clear hg1 hy hz hzv hwd;cases b0
     all_goals
      go_wp2_with fail;refine (HWD.out).mono ?_;rintro e wx ⟨rfl, hbx⟩;go_wp2_with fail
      try simp only [hks]
      refine (pshr_any y x s _ hyl hxl hs64).mono ?_;rintro e wy ⟨⟨h', rfl⟩, hby⟩;have hbxy := hbx.trans (hby.mono hbx.size);have hrowx := (hrow.below hbxy).alloc (.cells #[.int .u64 ((y * 18446744073709551616 + x) / 2 ^ s % 18446744073709551616 : Nat)] 30);have hbely := chain hbel hbxy;have gy1 := keep G1.out hbxy;have gy2 := keep G2.out hbxy;have hszy : w.heap.size + 2 ≤ wy.heap.size := lt_of_block gy2;have GY1 := hZ gy1;have GY2 := hZ gy2;have hrlt := (hrow.below hbxy).lt;rw [HZ.out] at hrowx ⊢;clear hrow hbel hbx hby hbxy gy1 gy2 hcl hc1 hc2
      go_wp2_with (at_builtin; refine append_one elemW rfl _ _ rfl rfl hrowx ⟨wy.heap.size, 0, none⟩ 1 z rfl ?_ rfl ?_ ?_ ?_ ?_)
      ·simp
      ·have := HR.out; omega
      ·have := HR.out; unfold maxLen; omega
      ·simp; omega
      intro b cap w3 hrow2 hgrow2;have hb3 : Below (w.heap.size + 2) wy w3 := ((Below.refl _ _).alloc (by omega) _).grown hgrow2 (by simp; omega) (fun k hk => (hrlt k hk).1);have HR2 := hZ hrow2;have HG1 := hZ ((hb3.block _ (by omega)).trans GY1.out);have HG2 := hZ ((hb3.block _ (by omega)).trans GY2.out);have hbf : Below w.heap.size w w3 := hbely.trans (hb3.mono (by omega));clear hrow2 hgrow2 hrowx hrlt hb3 hbely;go_wp2
      go_roundw
      case rel =>
       refine ⟨j + 1, r ++ [z], by omega, by go_num, ?_, HR2.out, by first | (simp [HR.out]; done) | (simp [HR.out]; omega), Lim.small_append.2 ⟨hsr, fun y hy => by simp at hy; omega⟩, ?_, hbf, HG1.out, HG2.out⟩
       ·rw [HG.out]
       ·have e : j + 1 - q = (j - q) + 1 := by omega
        rw [e, mod_succ, Lim.val_append, HR.out, HV.out, HZV.out];simp [Lim.val]
      case measure => simp [intOf]; omega
  ·have hjL : j = L := by omega
   subst hjL;have hall := shr_all (n := n) HQS.out HNB.out;have hv : Lim.val r = n / 2 ^ k := by rw [HV.out]; exact hall.1
   have HF := hZ hv;have HB := hZ hall.2;clear hall hv;go_wp2_with fail;refine (made_any _ r _ hsr (hrow.base (Nat.zero_le _))).mono ?_;rintro e w4 ⟨a3, k3, c3, rfl, hm, hb33⟩;rw [HF.out] at hm;have g5 := keep G2.out hb33;have hc5 := cell_of_one g5;have hf5 := free_of_one g5;have hbf := chain hbel hb33;have HM := hZ hm;clear hm hbel hrow hc1 hc2;go_wp2;refine bodyPost_ret (v := .tuple #[.agg #[.slice a3 k3 c3], .bool (n % 2 ^ k != 0)]) ?_ rfl ⟨a3, k3, c3, rfl, HM.out.set g5 (by decide) _ _, hbf.setCell (by simp) _⟩;rw [← HB.out];simp [results, results255, go_sem, hc5]
theorem val_set {l : List Nat} {p : Nat} (hp : p < l.length) (y : Nat) : Lim.val (l.set p y) + 18446744073709551616 ^ p * l.getD p 0 = Lim.val l + 18446744073709551616 ^ p * y := by
 induction l generalizing p with
 | nil => simp at hp
 | cons x l ih =>
  cases p with
  | zero => simp [Lim.val]; omega
  | succ p =>
   have := ih (p := p) (by simpa using hp);simp only [List.set_cons_succ, Lim.val, Nat.pow_succ];have e : (x :: l).getD (p + 1) 0 = l.getD p 0 := by simp [List.getD]
   rw [e];have h1 : 18446744073709551616 ^ p * 18446744073709551616 * l.getD p 0 = 18446744073709551616 * (18446744073709551616 ^ p * l.getD p 0) := by rw [Nat.mul_comm (18446744073709551616 ^ p), Nat.mul_assoc]
   have h2 : 18446744073709551616 ^ p * 18446744073709551616 * y = 18446744073709551616 * (18446744073709551616 ^ p * y) := by rw [Nat.mul_comm (18446744073709551616 ^ p), Nat.mul_assoc]
   rw [h1, h2]; omega
theorem small_set {l : List Nat} (h : Lim.Small l) (p : Nat) {y : Nat} (hy : y < 18446744073709551616) : Lim.Small (l.set p y) := fun x hx => by
 rcases List.mem_or_eq_of_mem_set hx with h1 | h1
 ·exact h x h1
 ·subst h1; exact hy
theorem mul_word {x y o mo lo hi s1 c1 s2 c2 : Nat} (hx : x < 18446744073709551616) (hy : y < 18446744073709551616) (ho : o < 18446744073709551616) (hmo : mo < 18446744073709551616) (h1 : lo + 18446744073709551616 * hi = x * y) (h2 : s1 + 18446744073709551616 * c1 = lo + o) (h3 : s2 + 18446744073709551616 * c2 = s1 + mo) :
 s2 + 18446744073709551616 * (hi + c1 + c2) = x * y + o + mo ∧ hi + c1 + c2 < 18446744073709551616 := by
 have h4 : x * y ≤ 18446744073709551615 * 18446744073709551615 := Nat.mul_le_mul (by omega) (by omega);omega
theorem mul_step {v v' P mo R x o s2 mo' y : Nat} (hset : v' + P * o = v + P * s2) (h : v + P * mo = R) (hs : s2 + 18446744073709551616 * mo' = x * y + o + mo) : v' + P * 18446744073709551616 * mo' = R + P * (x * y) := by
 have e : P * s2 + P * (18446744073709551616 * mo') = P * (x * y) + P * o + P * mo := by rw [← Nat.mul_add, hs, Nat.mul_add, Nat.mul_add]
 rw [Nat.mul_assoc P]; omega
theorem mul_tail (j k x q y : Nat) : 18446744073709551616 ^ j * (x * (q + 18446744073709551616 ^ k * y)) = 18446744073709551616 ^ j * (x * q) + 18446744073709551616 ^ (j + k) * (x * y) := by
 rw [Nat.mul_add, Nat.mul_add, Nat.pow_add, Nat.mul_left_comm x, Nat.mul_assoc]
theorem getD_lt {l : List Nat} (h : Lim.Small l) (i : Nat) : l.getD i 0 < 18446744073709551616 := by
 rw [List.getD];cases hx : l[i]? with
 | none => decide
 | some x => exact h x (List.mem_of_getElem? hx)
theorem getElem?_getD {l : List Nat} {i : Nat} (h : i < l.length) : l[i]? = some (l.getD i 0) := by rw [List.getD, List.getElem?_eq_getElem h]; rfl
theorem mul_any (a a' : Option Addr) (k k' c c' n m : Nat) (w : World) (h : Wds w (.slice a k c) (Lim.limbs n)) (h' : Wds w (.slice a' k' c') (Lim.limbs m)) (hl : (Lim.limbs n).length ≤ 1048576) (hl' : (Lim.limbs m).length ≤ 1048576) :
 Calls prog 232 #[.agg #[.slice a k c], .agg #[.slice a' k' c']] w fun e w' => RetNatE w (capN (n * m)) (capE (n * m)) e w' := by
 obtain ⟨va, vc, he⟩ := Row.shape h;injection he with h1 h2 h3
 subst h1 h2 h3;obtain ⟨va', vc', he⟩ := Row.shape h';injection he with h1 h2 h3
 subst h1 h2 h3;have HCS := hZ h.cases;have HCS' := hZ h'.cases;clear h h';have hsm := Lim.small_limbs n;have hsm' := Lim.small_limbs m;have hvn := Lim.val_limbs n;have hvm := Lim.val_limbs m;generalize hL : Lim.limbs n = l at *;generalize hL' : Lim.limbs m = l' at *;have HVN := hZ hvn;have HVM := hZ hvm;clear hL hL' hvn hvm;have hb0 : Below w.heap.size w (((w.alloc (.cells #[.slice a l.length c] 381)).alloc (.cells #[.slice a' l'.length c'] 381)).alloc (.cells #[.slice none 0 0] 381)) := (((Below.refl _ _).alloc (Nat.le_refl _) _).alloc (by simp) _).alloc (by simp; omega) _;have hb3 : Below (((w.alloc (.cells #[.slice a l.length c] 381)).alloc (.cells #[.slice a' l'.length c'] 381)).alloc (.cells #[.slice none 0 0] 381)).heap.size (((w.alloc (.cells #[.slice a l.length c] 381)).alloc (.cells #[.slice a' l'.length c'] 381)).alloc (.cells #[.slice none 0 0] 381)) (((w.alloc (.cells #[.slice a l.length c] 381)).alloc (.cells #[.slice a' l'.length c'] 381)).alloc (.cells #[.slice none 0 0] 381)) := Below.refl _ _;obtain ⟨g1, g2, g3, _, _⟩ := after3 hb3;have G1 := hZ g1;have G2 := hZ g2;have G3 := hZ g3;clear g1 g2 g3 hb3;obtain ⟨N, hN⟩ : ∃ N, l.length + l'.length + 1 = N := ⟨_, rfl⟩;have hNc : ((l.length : Int) + (l'.length : Int) + 1) = (N : Int) := by omega
 go_enter func232, ntmps232
 go_wp2_with (at_make; refine make_row (B := w.heap.size + 3) (enc := encW) 0 elemZW rfl _ _ rfl _ _ _ _ N N rfl rfl ?_ ?_ ?_ ?_ ?_ ?_ ?_)
 ·first | rfl | omega
 ·first | rfl | omega
 ·omega
 ·omega
 ·unfold maxLen; omega
 ·simp
 intro w1 hrow0 hbm;have hsz1 : w.heap.size + 3 ≤ w1.heap.size := by have := hbm.size; simp at this; omega
 have hbw : Below w.heap.size w w1 := hb0.trans (hbm.mono (by omega));have G1' := hZ ((hbm.block _ (by omega)).trans G1.out);have G2' := hZ ((hbm.block _ (by omega)).trans G2.out);have G3' := hZ ((hbm.block _ (by omega)).trans G3.out);have HN := hZ hN;have HR0 := hZ hrow0;have hc1 := cell_of_one G1'.out;clear hb0 hbm hrow0 hN;obtain ⟨A, hA⟩ : ∃ A, w.heap.size + 1 + 1 + 1 = A := ⟨_, rfl⟩;have hA3 : w.heap.size + 3 ≤ A := by omega
 simp only [hA] at HR0 ⊢;clear hA;go_wp2_with fail
 go_loopw [27] (fun i wr => ∃ (j : Nat) (lst : List Nat), j ≤ l.length ∧ i = .int .i64 j ∧ Row (w.heap.size + 3) 30 encW wr (.slice (some ⟨A, 0, none⟩) N N) lst ∧ lst.length = N ∧ Lim.Small lst ∧ Lim.val lst = Lim.val (l.take j) * m ∧
  (∀ p, j + l'.length ≤ p → lst.getD p 0 = 0) ∧ Below (w.heap.size + 3) w1 wr) (fun i _ => l.length - (intOf i).toNat)
 case atStart => exact ⟨0, List.replicate N 0, Nat.zero_le _, rfl, HR0.out.base hA3, by simp, small_zeros N, by have := val_zeros N []; simp [Lim.val] at this; simp [Lim.val, this], (fun p _ => by simp [List.getD, List.getElem?_replicate]; split <;> rfl), Below.refl _ _⟩
 case round =>
  obtain ⟨j, lst, hj, rfl, hrow, hlen, hss, hval, hz, hbel⟩ := hrel;obtain ⟨wo, rfl⟩ : ∃ wo : World, wo = wr := ⟨_, rfl⟩;have HV := hZ hval;have HZ := hZ hz;have HLEN := hZ hlen;clear hval hz hlen;have hszo : w.heap.size + 3 ≤ wo.heap.size := Nat.le_trans hsz1 hbel.size;have hc2 := cell_of_one ((hbel.block _ (by omega)).trans G2'.out)
  by_cases hlt : j < l.length
  ·rcases HCS.out with ⟨_, hn⟩ | ⟨g, cap, he, hg, _, _, hcell⟩
   ·subst hn; simp at hlt
   ·injection he with h1 h2 h3
    have hx := getD_lt hsm j;have hcl : wo.cell? ⟨g, j, none⟩ = some (.int .u64 (l.getD j 0 : Nat)) := (hbel.cell (by simp; omega)).trans ((hbw.cell hg).trans (hcell j hlt));subst h1;clear hcell h2 h3;have ht := val_take_succ hlt;generalize hX : l.getD j 0 = x at *;have HT := hZ ht;clear ht hX;go_wp2_with fail
    go_loopw [35, 9] (fun i mo wr => ∃ (k m0 : Nat) (ls : List Nat), k ≤ l'.length ∧ i = .int .i64 k ∧ mo = .int .u64 m0 ∧ m0 < 18446744073709551616 ∧ Row (w.heap.size + 3) 30 encW wr (.slice (some ⟨A, 0, none⟩) N N) ls ∧ ls.length = N ∧ Lim.Small ls ∧
     Lim.val ls + 18446744073709551616 ^ (j + k) * m0 = Lim.val (l.take j) * m + 18446744073709551616 ^ j * (x * Lim.val (l'.take k)) ∧ (∀ p, j + l'.length ≤ p → ls.getD p 0 = 0) ∧ Below (w.heap.size + 3) w1 wr) (fun i _ _ => l'.length - (intOf i).toNat)
    case atStart => exact ⟨0, 0, lst, Nat.zero_le _, rfl, rfl, by decide, hrow, HLEN.out, hss, by simp [Lim.val, HV.out], HZ.out, hbel⟩
    case round =>
     obtain ⟨k, m0, ls, hk, rfl, rfl, hm0, hrow2, hlen2, hss2, hval2, hz2, hbel2⟩ := hrel;have HV2 := hZ hval2;have HZ2 := hZ hz2;have HLEN2 := hZ hlen2;clear hval2 hz2 hrow hbel hc2 hcl;have hszr : w.heap.size + 3 ≤ wr.heap.size := Nat.le_trans hsz1 hbel2.size
     by_cases hkt : k < l'.length
     ·rcases HCS'.out with ⟨_, hn⟩ | ⟨g', cap', he', hg', _, _, hcell'⟩
      ·subst hn; simp at hkt
      ·injection he' with h1 h2 h3
       have hy := getD_lt hsm' k;have hcl' : wr.cell? ⟨g', k, none⟩ = some (.int .u64 (l'.getD k 0 : Nat)) := (hbel2.cell (by simp; omega)).trans ((hbw.cell hg').trans (hcell' k hkt));subst h1;clear hcell' h2 h3;have ht' := val_take_succ hkt;have ho := getD_lt hss2 (j + k);have hpl : j + k < ls.length := by have := HN.out; omega
       have hco : wr.cell? ⟨A, j + k, none⟩ = some (.int .u64 (ls.getD (j + k) 0 : Nat)) := hrow2.cell (getElem?_getD hpl);have hset := fun y => val_set (l := ls) hpl y
       generalize hY : l'.getD k 0 = y at *;generalize hO : ls.getD (j + k) 0 = o at *;have HT' := hZ ht';have HSET := hZ hset;have hNb : j + k < N := by have := HN.out; omega
       have hfree := hrow2.free (j + k);clear ht' hset hY hO hpl hlen2;go_wp2_with fail;refine (bits_Mul64_ex x y hx hy _).mono ?_;rintro e w' ⟨hi, lo, rfl, rfl, hmul, hlo, hhi⟩;obtain ⟨s1, c1, hadd1, hs1, hcy1, hrun1⟩ := bits_Add64_0 lo o hlo ho;obtain ⟨s2, c2, hadd2, hs2, hcy2, hrun2⟩ := bits_Add64_0 s1 m0 hs1 hm0;obtain ⟨hw1, hw2⟩ := mul_word hx hy ho hm0 hmul hadd1 hadd2;have HW1 := hZ hw1;clear hmul hadd1 hadd2 hw1;go_wp2_with fail
       go_roundw
       case rel =>
        have hst := hrow2.stored (i := j + k) (by rw [HLEN2.out]; omega) s2;refine ⟨k + 1, hi + c1 + c2, ls.set (j + k) s2, by omega, by go_num, by go_num, hw2, hst, by simp [HLEN2.out], small_set hss2 _ hs2, ?_, ?_, hbel2.setCell (by simpa using hA3) _⟩
        ·rw [HT'.out, mul_tail, show j + (k + 1) = j + k + 1 from rfl, Nat.pow_succ, ← Nat.add_assoc];exact mul_step (HSET.out s2) HV2.out HW1.out
        ·intro p hp;rw [List.getD, List.getElem?_set_ne (by omega)]; exact HZ2.out p hp
       case measure => simp [intOf]; omega
     ·have hkl : k = l'.length := by omega
      have hpl : j + l'.length < ls.length := by have := HN.out; omega
      have hNb : j + l'.length < N := by have := HN.out; omega
      have hset := val_set (l := ls) hpl m0;rw [HZ2.out _ (Nat.le_refl _), Nat.mul_zero, Nat.add_zero] at hset
      have hfin : Lim.val (ls.set (j + l'.length) m0) = Lim.val (l.take (j + 1)) * m := by
       have h1 := HV2.out;rw [hkl, List.take_length, HVM.out] at h1;rw [hset, h1, HT.out, Nat.add_mul, Nat.mul_assoc]
      have HF := hZ hfin;have hc2 := cell_of_one ((hbel2.block _ (by omega)).trans G2'.out);have hfree := hrow2.free (j + l'.length);have hco : wr.cell? ⟨A, j + l'.length, none⟩ = some (.int .u64 (ls.getD (j + l'.length) 0 : Nat)) := hrow2.cell (getElem?_getD hpl);have hst := hrow2.stored (i := j + l'.length) hpl m0;have hss3 := small_set hss2 (j + l'.length) hm0
      have hz3 : ∀ p, j + 1 + l'.length ≤ p → (ls.set (j + l'.length) m0).getD p 0 = 0 := fun p hp => by
       rw [List.getD, List.getElem?_set_ne (by omega)]; exact HZ2.out p (by omega)
      have HST := hZ hst;have HZ3 := hZ hz3;generalize ls.getD (j + l'.length) 0 = o at *;clear hset hfin hkl hpl hst hz3 hlen2;go_wp2_with fail
      go_roundw
      case rel => exact ⟨j + 1, ls.set (j + l'.length) m0, by omega, by go_num, HST.out, by simp [HLEN2.out], hss3, HF.out, HZ3.out, hbel2.setCell (by simpa using hA3) _⟩
      case measure => simp [intOf]; omega
  ·have hjl : j = l.length := by omega
   have hfin : Lim.val lst = n * m := by rw [HV.out, hjl, List.take_length, HVN.out]
   have HF := hZ hfin
   have hshort : (Lim.limbs (n * m)).length ≤ 4294967296 := by
    have h5 := Lim.val_lt hss;rw [hfin] at h5;have := Lim.limbs_length_le h5;have := HLEN.out;have := HN.out;omega
   have hbww : Below w.heap.size w wo := hbw.trans (hbel.mono (by omega));have g4 := (hbel.block _ (by omega)).trans G3'.out;clear hfin hjl;go_wp2_with fail;refine (made_any _ lst _ hss (hrow.base (Nat.zero_le _))).mono ?_;rintro e w3 ⟨a3, k3, c3, rfl, hm, hb33⟩;rw [HF.out] at hm;go_wp2_with fail;refine (bounded_any a3 k3 c3 (n * m) _ hm hshort).mono ?_;rintro e w4 ⟨a4, k4, c4, rfl, hm4, hb4⟩;have g5 := keep (keep g4 hb33) hb4;have hc5 := cell_of_one g5;have hf5 := free_of_one g5;have hbf := chain (chain hbww hb33) hb4;have HM := hZ hm4;clear hm hm4 g4 hbel hrow hc2;go_wp2;exact bodyPost_ret (v := .tuple #[.agg #[.slice a4 k4 c4], capE (n * m)]) (by simp [results, results232, go_sem, hc5]) rfl ⟨a4, k4, c4, rfl, HM.out.set g5 (by decide) _ _, hbf.setCell (by simp; omega) _⟩
theorem div_bit (n i : Nat) : n / 2 ^ i = 2 * (n / 2 ^ (i + 1)) + (n.testBit i).toNat := by
 rw [Nat.pow_succ, ← Nat.div_div_eq_div_mul, Nat.testBit_eq_decide_div_mod_eq];generalize n / 2 ^ i = N
 by_cases h : N % 2 = 1 <;> simp [h] <;> omega
theorem two_shift (q j : Nat) : q * 2 ^ (j + 1) = 2 * q * 2 ^ j := by rw [Nat.pow_succ, Nat.mul_comm (2 ^ j) 2, ← Nat.mul_assoc, Nat.mul_comm q 2]
theorem div_low {N R m b : Nat} (hm : 0 < m) (hR : N % m = R) (h : 2 * R + b < m) : (2 * N + b) % m = 2 * R + b ∧ (2 * N + b) / m = 2 * (N / m) := by
 have e := Nat.div_add_mod N m;have e2 : 2 * N + b = m * (2 * (N / m)) + (2 * R + b) := by rw [← hR]; rw [← hR] at h; have : m * (2 * (N / m)) = 2 * (m * (N / m)) := Nat.mul_left_comm _ _ _; omega
 rw [e2];exact ⟨by rw [Nat.mul_add_mod, Nat.mod_eq_of_lt h], by rw [Nat.mul_add_div hm, Nat.div_eq_of_lt h, Nat.add_zero]⟩
theorem div_high {N R m b : Nat} (hm : 0 < m) (hR : N % m = R) (hb : b ≤ 1) (h : m ≤ 2 * R + b) : (2 * N + b) % m = 2 * R + b - m ∧ (2 * N + b) / m = 2 * (N / m) + 1 := by
 have e := Nat.div_add_mod N m;have hRm : R < m := hR ▸ Nat.mod_lt N hm;have e2 : 2 * N + b = m * (2 * (N / m) + 1) + (2 * R + b - m) := by rw [Nat.mul_add, Nat.mul_one]; have : m * (2 * (N / m)) = 2 * (m * (N / m)) := Nat.mul_left_comm _ _ _; omega
 have hlt : 2 * R + b - m < m := by omega
 rw [e2];exact ⟨by rw [Nat.mul_add_mod, Nat.mod_eq_of_lt hlt], by rw [Nat.mul_add_div hm, Nat.div_eq_of_lt hlt, Nat.add_zero]⟩
theorem val_word {l : List Nat} (h : Lim.Small l) (i : Nat) : l.getD i 0 = Lim.val l / 18446744073709551616 ^ i % 18446744073709551616 := by
 induction l generalizing i with
 | nil => simp [Lim.val]
 | cons x l ih =>
  obtain ⟨hx, hl⟩ := Lim.small_cons.1 h;cases i with
  | zero => simp [Lim.val]; omega
  | succ i =>
   have e : (x :: l).getD (i + 1) 0 = l.getD i 0 := by simp [List.getD]
   rw [e, ih hl, Lim.val, Nat.pow_succ, Nat.mul_comm (18446744073709551616 ^ i), ← Nat.div_div_eq_div_mul];congr 2; omega
theorem set_bit {l : List Nat} {q r i Q : Nat} (h : Lim.Small l) (hi : i = 64 * q + r) (hr : r < 64) (hq : q < l.length) (hv : Lim.val l = Q * 2 ^ (i + 1)) :
 ∃ y : Nat, bits BinOp.or IntKind.u64 (l.getD q 0 : Nat) ((2 ^ r : Nat) : Int) = (y : Int) ∧ y < 18446744073709551616 ∧ Lim.val (l.set q y) = (2 * Q + 1) * 2 ^ i := by
 have hp : 2 ^ r < 18446744073709551616 := by have := Nat.pow_le_pow_right (n := 2) (by decide) (by omega : r ≤ 63); omega
 have hw := val_word h q
 have e1 : Lim.val l / 18446744073709551616 ^ q = Q * 2 ^ (r + 1) := by
  rw [hv, Lim.wpow, hi, show 64 * q + r + 1 = 64 * q + (r + 1) from rfl, Nat.pow_add, Nat.mul_left_comm, Nat.mul_div_cancel_left _ (Nat.two_pow_pos _)]
 have e2 : l.getD q 0 = 2 ^ (r + 1) * (Q % 2 ^ (64 - (r + 1))) := by
  rw [hw, e1, show (18446744073709551616 : Nat) = 2 ^ (r + 1) * 2 ^ (64 - (r + 1)) by rw [← Nat.pow_add, show r + 1 + (64 - (r + 1)) = 64 by omega], Nat.mul_comm Q, Nat.mul_mod_mul_left]
 have hor : l.getD q 0 ||| 2 ^ r = l.getD q 0 + 2 ^ r := by
  rw [e2]; exact (Nat.two_pow_add_eq_or_of_lt (Nat.pow_lt_pow_right (by decide) (by omega)) _).symm
 have hwl := getD_lt h q
 have hlt : l.getD q 0 + 2 ^ r < 18446744073709551616 := by
  rw [← hor]; exact Nat.or_lt_two_pow (n := 64) hwl hp
 refine ⟨l.getD q 0 + 2 ^ r, ?_, hlt, ?_⟩
 ·rw [bits_or_u64_nat _ _ hwl hp, hor]
 ·have hs := val_set hq (l.getD q 0 + 2 ^ r);rw [Nat.mul_add] at hs;have e3 : 18446744073709551616 ^ q * 2 ^ r = 2 ^ i := by rw [Lim.wpow, ← Nat.pow_add, hi]
  rw [e3] at hs;have : Lim.val (l.set q (l.getD q 0 + 2 ^ r)) = Lim.val l + 2 ^ i := by omega
  rw [this, hv, Nat.pow_succ, Nat.add_mul, Nat.one_mul, Nat.mul_comm (2 ^ i) 2, ← Nat.mul_assoc, Nat.mul_comm Q 2]
theorem wrap_pow {r : Nat} (h : r < 64) : IntKind.u64.wrap (2 ^ r) = ((2 ^ r : Nat) : Int) := by
 have hp := Nat.pow_le_pow_right (n := 2) (by decide) (by omega : r ≤ 63);rw [show ((2 : Int) ^ r) = ((2 ^ r : Nat) : Int) by simp];generalize 2 ^ r = x at *
 show IntKind.wrap .u64 (x : Int) = x
 rw [IntKind.wrap_u64]; omega
theorem Row.set_low {α : Type} {B e : Nat} {enc : α → Value} {w : World} {v : Value} {l : List α} (h : Row B e enc w v l) {b : Nat} (hb : b < B) (o : Nat) (u : Value) : Row B e enc (w.setCell ⟨b, o, none⟩ u) v l :=
 ownsRow_setCell_other h (fun hc => by have := (Row.lt h _ hc).1; simp at this; omega) u
def RetNat2 (w : World) (n m : Nat) (e : Ending) (w' : World) : Prop := ∃ a k c a' k' c', e = .returned (.tuple #[.agg #[.slice a k c], .agg #[.slice a' k' c'], .nilIface]) ∧ Wds w' (.slice a k c) (Lim.limbs n) ∧ Wds w' (.slice a' k' c') (Lim.limbs m) ∧ Below w.heap.size w w'
theorem div_any (a a' : Option Addr) (k k' c c' n m : Nat) (w : World) (h : Wds w (.slice a k c) (Lim.limbs n)) (h' : Wds w (.slice a' k' c') (Lim.limbs m)) (hl : (Lim.limbs n).length ≤ 1048576) (hl' : (Lim.limbs m).length ≤ 1048576) (hm0 : m ≠ 0) :
 Calls prog 254 #[.agg #[.slice a k c], .agg #[.slice a' k' c']] w fun e w' => RetNat2 w (n / m) (n % m) e w' := by
 obtain ⟨va, vc, he⟩ := Row.shape h;injection he with h1 h2 h3
 subst h1 h2 h3;obtain ⟨va', vc', he⟩ := Row.shape h';injection he with h1 h2 h3
 subst h1 h2 h3
 have hlen0 : ((Lim.limbs m).length : Int) ≠ 0 := by
  have := (Lim.bitlen_limbs hm0).2; omega
 have hne : (((Lim.limbs m).length : Int) == 0) = false := by rw [beq_eq_false_iff_ne]; exact hlen0
 have hbl : Lim.bitlen n ≤ 64 * (Lim.limbs n).length := Lim.bitlen_le.2 (by rw [← Lim.wpow]; exact Lim.lt_of_limbs_length (Nat.le_refl _));have HLEN : Hid (∀ wx, Below w.heap.size w wx → Calls prog 252 #[.agg #[.slice a (Lim.limbs n).length c]] wx fun e w' => e = .returned (.int .i64 (Lim.bitlen n)) ∧ Below wx.heap.size wx w') := fun wx hx => len_any a _ c n wx (h.below hx) (by omega)
 have HW : Hid (∀ wx, Below w.heap.size w wx → Wds wx (.slice a (Lim.limbs n).length c) (Lim.limbs n) ∧ Wds wx (.slice a' (Lim.limbs m).length c') (Lim.limbs m)) := fun wx hx => ⟨h.below hx, h'.below hx⟩
 have HBIT : Hid (∀ (wx : World) (j : Nat), Below w.heap.size w wx → (j : Int) ≤ 4294967296 → Calls prog 257 #[.agg #[.slice a (Lim.limbs n).length c], .int .i64 j] wx fun e w' => e = .returned (.bool (n.testBit j)) ∧ Below wx.heap.size wx w') := fun wx j hx hj => bit_any a c n j wx (h.below hx) (by omega) hj
 clear h h' hlen0;have hnb := Lim.lt_bitlen (n := n);have HNB := hZ hnb;clear hnb;generalize hM : (Lim.limbs m).length = M at *;generalize hN : (Lim.limbs n).length = N at *;have HM := hZ hM;have HN := hZ hN;clear hM hN;generalize hB : Lim.bitlen n = bl at *;clear hB;have hb0 : Below w.heap.size w ((((w.alloc (.cells #[.slice a N c] 381)).alloc (.cells #[.slice a' M c'] 381)).alloc (.cells #[.slice none 0 0] 381)).alloc (.cells #[.slice none 0 0] 381)) := ((((Below.refl _ _).alloc (Nat.le_refl _) _).alloc (by simp) _).alloc (by simp; omega) _).alloc (by simp; omega) _;obtain ⟨w0, hw0⟩ : ∃ w0, w0 = ((((w.alloc (.cells #[.slice a N c] 381)).alloc (.cells #[.slice a' M c'] 381)).alloc (.cells #[.slice none 0 0] 381)).alloc (.cells #[.slice none 0 0] 381)) := ⟨_, rfl⟩;have hs0 : w0.heap.size = w.heap.size + 4 := by rw [hw0]; simp
 have hbr : Below w0.heap.size w0 w0 := Below.refl _ _;have hg4 : w0.heap[w.heap.size + 3]? = some (.cells #[.slice none 0 0] 381 (0, 0)) := by rw [hw0]; simpa using heap_alloc_new (((w.alloc (.cells #[.slice a N c] 381)).alloc (.cells #[.slice a' M c'] 381)).alloc (.cells #[.slice none 0 0] 381)) (.cells #[.slice none 0 0] 381)
 have h3 : Below (((w.alloc (.cells #[.slice a N c] 381)).alloc (.cells #[.slice a' M c'] 381)).alloc (.cells #[.slice none 0 0] 381)).heap.size (((w.alloc (.cells #[.slice a N c] 381)).alloc (.cells #[.slice a' M c'] 381)).alloc (.cells #[.slice none 0 0] 381)) w0 := by
  rw [hw0]; exact (Below.refl _ _).alloc (Nat.le_refl _) _
 obtain ⟨g1, g2, g3, hbw0, _⟩ := after3 h3;have G1 := hZ g1;have G2 := hZ g2;have G3 := hZ g3;have G4 := hZ hg4;have HW0 := hZ hw0;clear g1 g2 g3 hg4 hb0 hbr h3 hw0;go_enter func254, ntmps254;go_wp2_with fail
 go_step3
 go_wp2_with (at_make; refine make_row (B := w.heap.size + 4) (enc := encW) 0 elemZW rfl _ _ rfl _ _ _ _ N N rfl rfl ?_ ?_ ?_ ?_ ?_ ?_ ?_)
 ·first | rfl | omega
 ·first | rfl | omega
 ·omega
 ·omega
 ·unfold maxLen; omega
 ·simp
 rw [show ((((w.alloc (.cells #[.slice a N c] 381)).alloc (.cells #[.slice a' M c'] 381)).alloc (.cells #[.slice none 0 0] 381)).alloc (.cells #[.slice none 0 0] 381)) = w0 from HW0.out.symm];intro w1 hrow0 hbm;have hbm4 : Below (w.heap.size + 4) w0 w1 := hbm.mono (by omega);have hsz1 : w.heap.size + 4 ≤ w1.heap.size := by have := hbm.size; omega
 have hbw : Below w.heap.size w w1 := hbw0.trans (hbm4.mono (by omega));have G1' := hZ ((hbm4.block _ (by omega)).trans G1.out);have G2' := hZ ((hbm4.block _ (by omega)).trans G2.out);have G3' := hZ ((hbm4.block _ (by omega)).trans G3.out);have G4' := hZ ((hbm4.block _ (by omega)).trans G4.out);have hlt1 : w.heap.size + 1 + 1 + 1 + 1 < w1.heap.size := (hrow0.lt _ rfl).2;obtain ⟨A, hA⟩ : ∃ A, w.heap.size + 1 + 1 + 1 + 1 = A := ⟨_, rfl⟩;have hA4 : w.heap.size + 4 ≤ A := by omega
 rw [hA] at hrow0 hlt1 ⊢;have hc1 := cell_of_one G1'.out;have HR0 := hZ hrow0;have hbwl : Below w.heap.size w (w1.alloc (.cells #[.slice none 0 0] 381)) := hbw.alloc (by omega) _;have hbl4 : Below (w.heap.size + 4) w1 (w1.alloc (.cells #[.slice none 0 0] 381)) := (Below.refl _ _).alloc (by omega) _;have hcl1 : (w1.alloc (.cells #[.slice none 0 0] 381)).cell? ⟨w.heap.size, 0, none⟩ = some (.slice a N c) := by rw [World.cell?_alloc_lt _ _ ⟨w.heap.size, 0, none⟩ (by simp; omega)]; exact hc1
 clear hbm hbm4 hs0 hA hrow0 hc1 hbw0;go_wp2_with fail
 go_step3
 go_wp2_with fail;refine (HLEN.out _ hbwl).mono ?_;rintro e w2 ⟨rfl, hb2⟩;obtain ⟨gL, hb12, hszL⟩ := after1 hb2;have hbw2 := chain hbw hb12;have K1 := hZ (keep G1'.out hb12);have K2 := hZ (keep G2'.out hb12);have K3 := hZ (keep G3'.out hb12);have K4 := hZ (keep G4'.out hb12);have HR2 := hZ (HR0.out.below hb12);obtain ⟨Lb, hLb⟩ : ∃ Lb, w1.heap.size = Lb := ⟨_, rfl⟩;rw [hLb] at gL hlt1 hszL ⊢;have hAL : ¬ A = Lb := by omega
 have hL4 : w.heap.size + 4 < Lb := by omega
 have KL := hZ gL;clear gL hb2 hb12 hbw hLb hsz1;have hbl2 : w.heap.size + 4 ≤ w2.heap.size := by omega
 go_wp2_with fail
 go_loopw [9] (fun i wr => ∃ (t : Nat) (ql : List Nat) (aL : Option Addr) (kL cL : Nat), t ≤ bl ∧ i = .int .i64 ((t : Int) - 1) ∧ Row (w.heap.size + 4) 30 encW wr (.slice (some ⟨A, 0, none⟩) N N) ql ∧ ql.length = N ∧ Lim.Small ql ∧ Lim.val ql = n / 2 ^ t / m * 2 ^ t ∧
  wr.heap[Lb]? = some (.cells #[.slice aL kL cL] 381 (0, 0)) ∧ Wds wr (.slice aL kL cL) (Lim.limbs (n / 2 ^ t % m)) ∧ Below (w.heap.size + 4) w2 wr) (fun i _ => (intOf i + 1).toNat)
 case atStart => exact ⟨bl, List.replicate N 0, none, 0, 0, Nat.le_refl _, rfl, HR2.out.base hA4, by simp, small_zeros N, by rw [Nat.div_eq_of_lt HNB.out]; have := val_zeros N []; simp [Lim.val] at this; simp [this], KL.out, by rw [Nat.div_eq_of_lt HNB.out, Nat.zero_mod, Lim.limbs_zero]; exact Wds.nil _, Below.refl _ _⟩
 case round =>
  obtain ⟨t, ql, aL, kL, cL, ht, rfl, hrow, hqlen, hqs, hqv, hgL, hwL, hbel⟩ := hrel;have HQV := hZ hqv;have HQL := hZ hqlen;have GL := hZ hgL;have WL := hZ hwL;have hszr : w.heap.size + 4 ≤ wr.heap.size := Nat.le_trans hbl2 hbel.size;have hltL : Lb < wr.heap.size := lt_of_block hgL;have hbwr : Below w.heap.size w wr := hbw2.trans (hbel.mono (by omega));have J1 := hZ ((hbel.block _ (by omega)).trans K1.out);have J2 := hZ ((hbel.block _ (by omega)).trans K2.out);have J3 := hZ ((hbel.block _ (by omega)).trans K3.out);have J4 := hZ ((hbel.block _ (by omega)).trans K4.out);clear hqv hqlen hgL hwL;rcases Nat.eq_zero_or_pos t with rfl | htp
  ·have hcL := cell_of_one GL.out;go_wp2_with fail
   go_region_with (first | (go_at_call 249; refine (made_any _ ql _ hqs ((hrow.drew).base (Nat.zero_le _))).mono ?_; rintro e wy ⟨a5, k5, c5, rfl, hw5, hby⟩; have hy2 := (hby.cell (p := ⟨Lb, 0, none⟩) (by simp; omega)).trans hcL; have hy3 := cell_of_one ((hby.block _ (by simp; omega)).trans J3.out); have hy4 := cell_of_one ((hby.block _ (by simp; omega)).trans J4.out); have hf3 := free_of_one ((hby.block _ (by simp; omega)).trans J3.out); have hf4 := free_of_one ((hby.block _ (by simp; omega)).trans J4.out)))
   all_goals
    have g3 := (hby.block _ (by simp; omega)).trans J3.out;have g4 := (hby.block _ (by simp; omega)).trans J4.out;have hw6 := (WL.out.drew).below hby;rw [HQV.out, Nat.pow_zero, Nat.div_one, Nat.mul_one] at hw5;rw [Nat.pow_zero, Nat.div_one] at hw6;go_wp2_with fail;have s3 := set_at (o := 0) g3 (.slice a5 k5 c5);have g4' := (set_else (o := 0) (.slice a5 k5 c5) (by omega : w.heap.size + 3 ≠ w.heap.size + 2)).trans g4;have s4 := set_at (o := 0) g4' (.slice aL kL cL);have s3' := (set_else (o := 0) (.slice aL kL cL) (by omega : w.heap.size + 2 ≠ w.heap.size + 3)).trans s3;have hr3 := cell_of_one s3';have hr4 := cell_of_one s4;have hbf : Below w.heap.size w ((wy.setCell ⟨w.heap.size + 2, 0, none⟩ (.slice a5 k5 c5)).setCell ⟨w.heap.size + 3, 0, none⟩ (.slice aL kL cL)) := (((hbwr.drew).trans (hby.mono (by simp; omega))).setCell (p := ⟨w.heap.size + 2, 0, none⟩) (by simp) _).setCell (p := ⟨w.heap.size + 3, 0, none⟩) (by simp) _;have hf5 := (hw5.set g3 (by decide) 0 (.slice a5 k5 c5)).set g4' (by decide) 0 (.slice aL kL cL);have hf6 := (hw6.set g3 (by decide) 0 (.slice a5 k5 c5)).set g4' (by decide) 0 (.slice aL kL cL);rw [Exit.noGoto_ret];exact bodyPost_ret (v := .tuple #[.agg #[.slice a5 k5 c5], .agg #[.slice aL kL cL], .nilIface]) (by simp [results, results254, go_sem, hr3, hr4]) rfl ⟨a5, k5, c5, aL, kL, cL, rfl, hf5, hf6, hbf⟩
  ·obtain ⟨j, rfl⟩ : ∃ j, t = j + 1 := ⟨t - 1, by omega⟩;have e1 : ((j + 1 : Nat) : Int) - 1 = (j : Int) := by omega
   rw [e1];clear e1;have hj64 : (j : Int) ≤ 4294967296 := by omega
   have hc1 := cell_of_one J1.out;have hc2 := cell_of_one J2.out;have hcL := cell_of_one GL.out;have hfL := free_of_one GL.out;obtain ⟨b, hb⟩ : ∃ b, n.testBit j = b := ⟨_, rfl⟩;have hbit := HBIT.out wr.drew j hbwr.drew hj64;rw [hb] at hbit;have HBT := hZ hbit;have HBB := hZ hb;clear hbit hb;have hRm : n / 2 ^ (j + 1) % m < m := Nat.mod_lt _ (Nat.pos_of_ne_zero hm0);have hmb : m < 2 ^ (64 * M) := by rw [← Lim.wpow, ← HM.out]; exact Lim.lt_of_limbs_length (Nat.le_refl _)
   have hshort : (Lim.limbs (n / 2 ^ (j + 1) % m)).length ≤ 4294967295 := Nat.le_trans (Lim.short (k := M) (Lim.bitlen_le.2 (by omega))) (by omega)
   have hr2b : Lim.bitlen (2 * (n / 2 ^ (j + 1) % m) + b.toNat) ≤ 64 * (M + 1) := Lim.bitlen_le.2 (by
    have hb1 : b.toNat ≤ 1 := by cases b <;> decide
    have : 2 ^ (64 * M + 1) ≤ 2 ^ (64 * (M + 1)) := Nat.pow_le_pow_right (by decide) (by omega);rw [Nat.pow_succ] at this;omega)
   have hnb2 := div_bit n j;rw [HBB.out] at hnb2;have HNB2 := hZ hnb2;have HR2B := hZ hr2b;clear hr2b hmb hRm hnb2;go_wp2_with fail
   go_region_with (first | (go_at_call 257; refine (HBT.out).mono ?_; rintro e wx ⟨rfl, hbx⟩; have hx2 := (hbx.cell (p := ⟨Lb, 0, none⟩) (by simp; omega)).trans hcL) | (go_at_call 275; refine (twice_any aL kL cL (n / 2 ^ (j + 1) % m) b _ ((WL.out.drew).below hbx) hshort).mono ?_; rintro e wy ⟨a5, k5, c5, rfl, hw5, hby⟩; have hy2 := (hby.cell (p := ⟨Lb, 0, none⟩) (by have := hbx.size; simp at this; simp; omega)).trans hx2; have hyf := (hby.frozen (p := ⟨Lb, 0, none⟩) (by have := hbx.size; simp at this; simp; omega)).trans ((hbx.frozen (p := ⟨Lb, 0, none⟩) (by simp; omega)).trans hfL)))
   all_goals
    have hbz := hbx.trans (hby.mono hbx.size);have hbez : Below (w.heap.size + 4) w2 wy := hbel.drew.trans (hbz.mono hszr);have hbwz : Below w.heap.size w wy := hbw2.trans (hbez.mono (by omega));have hrowz : Row (w.heap.size + 4) 30 encW wy (.slice (some ⟨A, 0, none⟩) N N) ql := Row.below (w := wr.drew) hrow.drew hbz;have gL0 := keep (w1 := wr.drew) GL.out hbz;have j1 := keep (w1 := wr.drew) J1.out hbz;have j2 := keep (w1 := wr.drew) J2.out hbz;have hW5 : Wds (wy.setCell ⟨Lb, 0, none⟩ (.slice a5 k5 c5)) (.slice a5 k5 c5) (Lim.limbs (2 * (n / 2 ^ (j + 1) % m) + b.toNat)) := Wds.set hw5 gL0 (by decide) _ _;have hbe5 : Below (w.heap.size + 4) w2 (wy.setCell ⟨Lb, 0, none⟩ (.slice a5 k5 c5)) := hbez.setCell (by simp; omega) _;have hbw5 : Below w.heap.size w (wy.setCell ⟨Lb, 0, none⟩ (.slice a5 k5 c5)) := hbwz.setCell (by simp; omega) _;have hrow5 : Row (w.heap.size + 4) 30 encW (wy.setCell ⟨Lb, 0, none⟩ (.slice a5 k5 c5)) (.slice (some ⟨A, 0, none⟩) N N) ql := Row.set hrowz gL0 (by decide) _ _;have gL5 := set_at (o := 0) gL0 (.slice a5 k5 c5);have j15 := (set_else (o := 0) (.slice a5 k5 c5) (by omega : w.heap.size ≠ Lb)).trans j1;have j25 := (set_else (o := 0) (.slice a5 k5 c5) (by omega : w.heap.size + 1 ≠ Lb)).trans j2;obtain ⟨w5, hw5e⟩ : ∃ w5, wy.setCell ⟨Lb, 0, none⟩ (.slice a5 k5 c5) = w5 := ⟨_, rfl⟩;rw [hw5e] at hW5 hbe5 hbw5 hrow5 gL5 j15 j25 ⊢;clear hw5e hbz hbez hbwz hrowz gL0 j1 j2 hw5 hby hbx hx2 hy2 hyf hcL hfL hc1 hc2 hrow hbel;have hcL5 := cell_of_one gL5;have hc25 := cell_of_one j25;have GL5 := hZ gL5;have J15 := hZ j15;have J25 := hZ j25;have HR5 := hZ hrow5;have W5 := hZ hW5;clear gL5 j15 j25 hrow5 hW5;have hL2 : Lim.bitlen (2 * (n / 2 ^ (j + 1) % m) + b.toNat) ≤ 64 * (M + 1) := HR2B.out;have hsh2 : (Lim.limbs (2 * (n / 2 ^ (j + 1) % m) + b.toNat)).length ≤ 4294967295 := Nat.le_trans (Lim.short hL2) (by omega);have hcmp := cmp_any a5 a' k5 M c5 c' (2 * (n / 2 ^ (j + 1) % m) + b.toNat) m w5 W5.out (HW.out w5 hbw5).2 hsh2 (by rw [HM.out]; omega);have HCMP := hZ hcmp;clear hcmp hL2
    by_cases hlow : 2 * (n / 2 ^ (j + 1) % m) + b.toNat < m
    ·have hz : cmpI (2 * (n / 2 ^ (j + 1) % m) + b.toNat) m = -1 := if_pos hlow;have hdl := div_low (N := n / 2 ^ (j + 1)) (Nat.pos_of_ne_zero hm0) rfl hlow;rw [hz] at HCMP;rw [← HNB2.out] at hdl;have HDL := hZ hdl;clear hz hdl;go_wp2_with fail;refine (HCMP.out).mono ?_;rintro e w6 ⟨rfl, hb6⟩;have hbe6 := hbe5.trans (hb6.mono (by have := hbe5.size; omega));have gL6 := keep GL5.out hb6;have W6 := hZ (W5.out.below hb6);have HR6 := hZ (HR5.out.below hb6);have GL6 := hZ gL6;clear gL6 hb6 hbe5 hcL5 hc25;go_wp2_with fail
     go_roundw
     case rel =>
      refine ⟨j, ql, a5, k5, c5, by omega, rfl, HR6.out, HQL.out, hqs, ?_, GL6.out, ?_, hbe6⟩
      ·rw [HQV.out, HDL.out.2, two_shift]
      ·rw [HDL.out.1]; exact W6.out
     case measure => simp [intOf]
    ·have hb1 : b.toNat ≤ 1 := by cases b <;> decide
     obtain ⟨z, hz, hz0⟩ : ∃ z, cmpI (2 * (n / 2 ^ (j + 1) % m) + b.toNat) m = z ∧ 0 ≤ z := ⟨_, rfl, by unfold cmpI; rw [if_neg hlow]; split <;> decide⟩;have hdh := div_high (N := n / 2 ^ (j + 1)) (Nat.pos_of_ne_zero hm0) rfl hb1 (by omega);rw [hz] at HCMP;rw [← HNB2.out] at hdh;have HDH := hZ hdh;have hsub := fun w6 (hb6 : Below w5.heap.size w5 w6) => sub_any a5 a' k5 M c5 c' (2 * (n / 2 ^ (j + 1) % m) + b.toNat) m w6 (W5.out.below hb6) ((HW.out w5 hbw5).2.below hb6) hsh2 (by rw [HM.out]; omega) (by omega)
     rw [← HDH.out.1] at hsub;have HSUB := hZ hsub;clear hz hdh hsub;have hsz5 : w.heap.size + 4 ≤ w5.heap.size := Nat.le_trans hbl2 hbe5.size;have hltL5 : Lb < w5.heap.size := lt_of_block GL5.out;go_wp2_with fail;refine (HCMP.out).mono ?_;rintro e w6 ⟨rfl, hb6⟩;have hcL6 := (hb6.cell (p := ⟨Lb, 0, none⟩) hltL5).trans hcL5;have hc26 := (hb6.cell (p := ⟨w.heap.size + 1, 0, none⟩) (by simp; omega)).trans hc25;clear hcL5 hc25;go_wp2_with fail;refine (HSUB.out _ hb6).mono ?_;rintro e w7 ⟨a8, k8, c8, rfl, hw8, hb7⟩;have hb57 := hb6.trans (hb7.mono hb6.size);have gL7 := keep GL5.out hb57;have HR7 := HR5.out.below hb57;have hbe7 := hbe5.trans (hb57.mono hsz5);have hw9 := hw8.set gL7 (by decide) 0 (.slice a8 k8 c8);have gL9 := set_at (o := 0) gL7 (.slice a8 k8 c8);have hrow9 : Row (w.heap.size + 4) 30 encW (w7.setCell ⟨Lb, 0, none⟩ (.slice a8 k8 c8)) (.slice (some ⟨A, 0, none⟩) N N) ql := Row.set HR7 gL7 (by decide) _ _;have hbe9 : Below (w.heap.size + 4) w2 (w7.setCell ⟨Lb, 0, none⟩ (.slice a8 k8 c8)) := hbe7.setCell (by simp; omega) _;have hcL7 := cell_of_one gL7;have hfL7 := free_of_one gL7;have W9 := hZ hw9;have GL9 := hZ gL9;have HR9 := hZ hrow9;have HB9 := hZ hbe9;have hA6 : A < w6.heap.size := by have := hb6.size; omega
     clear hcL6 hc26 hb6 hb7 hb57 gL7 HR7 hbe7 hw8 hw9 gL9 hrow9 hbe9 hbe5;obtain ⟨q, r, hqr, hr64⟩ : ∃ q r, j = 64 * q + r ∧ r < 64 := ⟨j / 64, j % 64, by omega, by omega⟩;have hjq : (j : Int) / 64 = q := by omega
     have hjr : (j : Int) % 64 = r := by omega
     have hqN : q < N := by omega
     have hql : q < ql.length := by rw [HQL.out]; exact hqN
     obtain ⟨y, hy, hylt, hyv⟩ := set_bit hqs hqr hr64 hql HQV.out;have hcq : (w7.setCell ⟨Lb, 0, none⟩ (.slice a8 k8 c8)).cell? ⟨A, q, none⟩ = some (.int .u64 (ql.getD q 0 : Nat)) := HR9.out.cell (getElem?_getD hql);have hfq := HR9.out.free q;have hst := HR9.out.stored (i := q) hql y;have hpw := wrap_pow hr64;have hy2 : bits BinOp.or IntKind.u64 (ql.getD q 0 : Nat) (2 ^ r) = (y : Int) := by rw [← hy]; simp
     have HST := hZ hst;have HYV := hZ hyv;clear hst hyv hqr;generalize ql.getD q 0 = o at *;go_wp2_with fail;go_region;go_wp2_with fail
     go_roundw
     case rel =>
      refine ⟨j, ql.set q y, a8, k8, c8, by omega, rfl, HST.out, by simp [HQL.out], small_set hqs _ hylt, ?_, ?_, ?_, (HB9.out.setCell (p := ⟨A, q, none⟩) (by simp; omega) _).drew⟩
      ·rw [HYV.out, HDH.out.2]
      ·exact (set_else _ (by omega)).trans GL9.out
      ·exact ((W9.out.set_low hA6 _ _).base (Nat.zero_le _)).drew
     case measure => simp [intOf]
def wordE (n : Nat) : Ending := if n < 18446744073709551616 then .returned (.tuple #[.int .u64 (n : Int), .bool true]) else .returned (.tuple #[.int .u64 0, .bool false])
theorem word1_any (a : Option Addr) (k c n : Nat) (w : World) (h : Wds w (.slice a k c) (Lim.limbs n)) (hl : (Lim.limbs n).length ≤ 4294967296) :
 Calls prog 256 #[.agg #[.slice a k c]] w fun e w' => e = wordE n ∧ Below w.heap.size w w' := by
 obtain ⟨va, vc, he⟩ := Row.shape h;injection he with h1 h2 h3
 subst h1 h2 h3;have hb0 : Below w.heap.size w (w.alloc (.cells #[.slice a (Lim.limbs n).length c] 381)) := (Below.refl _ _).alloc (Nat.le_refl _) _;have hget := Lim.limbs_getD n 0
 by_cases hn : n < 18446744073709551616
 ·have hlen : (Lim.limbs n).length ≤ 1 := Lim.limbs_length_le (by simpa using hn);have hgt : ¬ (1 < ((Lim.limbs n).length : Int)) := by omega
  have hw : wordE n = .returned (.tuple #[.int .u64 (n : Int), .bool true]) := if_pos hn;rw [hw];have HC := hZ (word_any a _ c (Lim.limbs n) 0 _ (h.below hb0) (by omega) (by omega));clear hw h;go_enter func256, ntmps256;go_wp2_with fail;refine (HC.out).mono ?_;rintro e w1 ⟨rfl, hb⟩;obtain ⟨_, hbw, _⟩ := after1 hb;have hg : (Lim.limbs n).getD (Int.toNat 0) 0 = n := by rw [show Int.toNat 0 = 0 from rfl, hget, Nat.pow_zero, Nat.div_one, Nat.mod_eq_of_lt hn]
  rw [hg];go_wp2;exact bodyPost_ret (v := .tuple #[.int .u64 (n : Int), .bool true]) (by simp [results, results256, go_sem]) rfl ⟨rfl, hbw⟩
 ·have hlen : ¬ (Lim.limbs n).length ≤ 1 := fun hle => hn (by have := Lim.lt_of_limbs_length hle; simpa using this)
  have hgt : 1 < ((Lim.limbs n).length : Int) := by omega
  have hw : wordE n = .returned (.tuple #[.int .u64 0, .bool false]) := if_neg hn;rw [hw];clear hw h;go_enter func256, ntmps256;go_wp2;exact bodyPost_ret (v := .tuple #[.int .u64 0, .bool false]) (by simp [results, results256, go_sem]) rfl ⟨rfl, hb0⟩
end Go.Proofs.YtakkmiomhackiaaGreatDoor
