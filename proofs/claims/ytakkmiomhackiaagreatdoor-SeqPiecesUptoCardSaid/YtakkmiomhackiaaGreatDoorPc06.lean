/-
  The program, one part of its walk: Wd7, Wd8. Conditions: none.
-/
import Derived.Test.YtakkmiomhackiaaGreatDoorPc05
set_option linter.all false
set_option maxRecDepth 100000
set_option maxHeartbeats 16000000
namespace Go.Proofs.YtakkmiomhackiaaGreatDoor
open Go.RowKit
def goneBy (q s j : Nat) : Nat := if j ≤ q then 18446744073709551616 ^ j else 18446744073709551616 ^ q * 2 ^ s
theorem gone_lt {n q s j : Nat} (h : j < q) : (n % goneBy q s (j + 1) != 0) = ((n % goneBy q s j != 0) || (n / 18446744073709551616 ^ j % 18446744073709551616 != 0)) := by
 unfold goneBy;rw [if_pos (by omega), if_pos (by omega), mod_succ, Bool.eq_iff_iff];simp only [bne_iff_ne, Bool.or_eq_true, ne_eq, Nat.add_eq_zero_iff, Nat.mul_eq_zero];have : ¬ 18446744073709551616 ^ j = 0 := Nat.ne_of_gt (Nat.pow_pos (by decide))
 by_cases h1 : n % 18446744073709551616 ^ j = 0 <;> simp [h1, this]
theorem gone_eq {n q s : Nat} (hs : s < 64) : (n % goneBy q s (q + 1) != 0) = ((n % goneBy q s q != 0) || (n / 18446744073709551616 ^ q % 18446744073709551616 % 2 ^ s != 0)) := by
 unfold goneBy;rw [if_neg (by omega), if_pos (by omega), Nat.mod_mul, Nat.mod_mod_of_dvd _ ⟨2 ^ (64 - s), by rw [Nat.mul_comm]; exact pow64 hs⟩, Bool.eq_iff_iff];simp only [bne_iff_ne, Bool.or_eq_true, ne_eq, Nat.add_eq_zero_iff, Nat.mul_eq_zero];have : ¬ 18446744073709551616 ^ q = 0 := Nat.ne_of_gt (Nat.pow_pos (by decide))
 by_cases h1 : n % 18446744073709551616 ^ q = 0 <;> simp [h1, this]
theorem gone_gt {n q s j : Nat} (h : q < j) : (n % goneBy q s (j + 1) != 0) = (n % goneBy q s j != 0) := by
 unfold goneBy;rw [if_neg (by omega), if_neg (by omega)]
theorem shr_word {n q s j k : Nat} (hs : s < 64) (hk : k = 64 * q + s) (hj : q ≤ j) :
 (n / 18446744073709551616 ^ (j + 1) % 18446744073709551616 * 18446744073709551616 + n / 18446744073709551616 ^ j % 18446744073709551616) / 2 ^ s % 18446744073709551616 = n / 2 ^ k / 18446744073709551616 ^ (j - q) % 18446744073709551616 := by
 have e1 : n / 2 ^ k / 18446744073709551616 ^ (j - q) = n / 18446744073709551616 ^ j / 2 ^ s := by
  rw [Nat.div_div_eq_div_mul, Nat.div_div_eq_div_mul, Lim.wpow, Lim.wpow, ← Nat.pow_add, ← Nat.pow_add];congr 2; omega
 rw [e1, Nat.pow_succ, ← Nat.div_div_eq_div_mul];generalize n / 18446744073709551616 ^ j = m;have hp := Nat.two_pow_pos s
 have e2 : m / 18446744073709551616 % 18446744073709551616 * 18446744073709551616 + m % 18446744073709551616 = m % (18446744073709551616 * 18446744073709551616) := by
  rw [Nat.mod_mul, Nat.mul_comm, Nat.add_comm]
 rw [e2];have e3 := Nat.div_add_mod m (18446744073709551616 * 18446744073709551616);generalize m % (18446744073709551616 * 18446744073709551616) = r at *;generalize m / (18446744073709551616 * 18446744073709551616) = t at *;rw [← e3]
 have e4 : 18446744073709551616 * 18446744073709551616 * t + r = r + 2 ^ s * (18446744073709551616 * (2 ^ (64 - s) * t)) := by
  have : 18446744073709551616 * 18446744073709551616 * t = 2 ^ s * (18446744073709551616 * (2 ^ (64 - s) * t)) := by
   have h64 := pow64 hs;generalize 18446744073709551616 = b at *;rw [h64]; simp only [Nat.mul_assoc, Nat.mul_left_comm, Nat.mul_comm]
  omega
 rw [e4, Nat.add_mul_div_left _ _ hp, Nat.add_mul_mod_self_left]
theorem and_mask {x s : Nat} (hx : x < 18446744073709551616) (hs : s < 64) : bits BinOp.and IntKind.u64 (x : Int) ((2 ^ s - 1 : Nat) : Int) = ((x % 2 ^ s : Nat) : Int) := by
 have h64 : 2 ^ s ≤ 2 ^ 63 := Nat.pow_le_pow_right (by decide) (by omega);rw [bits_and_u64_nat _ _ hx (by omega), Nat.and_two_pow_sub_one_eq_mod]
theorem mask_one {s : Nat} (hs : s < 64) : IntKind.u64.wrap (IntKind.u64.wrap (2 ^ s) - 1) = ((2 ^ s - 1 : Nat) : Int) := by
 have h64 : 2 ^ s ≤ 2 ^ 63 := Nat.pow_le_pow_right (by decide) (by omega);have hp := Nat.two_pow_pos s;have h0 : (2 : Int) ^ s = ((2 ^ s : Nat) : Int) := by simp
 rw [h0];generalize 2 ^ s = y at *;have e1 : IntKind.u64.wrap (y : Int) = (y : Int) := by rw [IntKind.wrap_u64]; omega
 rw [e1, IntKind.wrap_u64]; omega
theorem shr_all {n q s k L : Nat} (hk : k = 64 * q + s) (hL : n < 18446744073709551616 ^ L) : n / 2 ^ k % 18446744073709551616 ^ (L - q) = n / 2 ^ k ∧ (n % goneBy q s L != 0) = (n % 2 ^ k != 0) := by
 have e : 2 ^ k = 18446744073709551616 ^ q * 2 ^ s := by rw [hk, Nat.pow_add, Lim.wpow]
 have hq : 18446744073709551616 ^ q ≤ 2 ^ k := by rw [e]; exact Nat.le_mul_of_pos_right _ (Nat.two_pow_pos s)
 refine ⟨Nat.mod_eq_of_lt (Nat.div_lt_of_lt_mul (Nat.lt_of_lt_of_le hL ?_)), ?_⟩
 ·refine Nat.le_trans ?_ (Nat.mul_le_mul_right _ hq);rw [← Nat.pow_add]; exact Nat.pow_le_pow_right (by decide) (by omega)
 ·unfold goneBy;split
  ·rename_i h;have : 18446744073709551616 ^ L ≤ 2 ^ k := Nat.le_trans (Nat.pow_le_pow_right (by decide) h) hq;rw [Nat.mod_eq_of_lt hL, Nat.mod_eq_of_lt (Nat.lt_of_lt_of_le hL this)]
  ·rw [e]
def RetNatB (w : World) (n : Nat) (b : Bool) (e : Ending) (w' : World) : Prop := ∃ a k c, e = .returned (.tuple #[.agg #[.slice a k c], .bool b]) ∧ Wds w' (.slice a k c) (Lim.limbs n) ∧ Below w.heap.size w w'
theorem field422 (a b : Int) (w : World) : (Instr.field 422 (.agg #[.int .u64 a, .int .u64 b]) 1).run Tryz.prog w = .ok (.int .u64 b) w := by kernel_rfl
theorem shr_any (a : Option Addr) (kk c n k : Nat) (w : World) (h : Wds w (.slice a kk c) (Lim.limbs n)) (hl : (Lim.limbs n).length ≤ 4294967295) (hk8 : k ≤ 4294967295) :
 Calls Tryz.prog 255 #[.agg #[.slice a kk c], .int .i64 k] w fun e w' => RetNatB w (n / 2 ^ k) (n % 2 ^ k != 0) e w' := by
 have hmax : max (k : Int) 0 = k := by omega
 have hb0 : Below w.heap.size w ((w.alloc (.cells #[.slice a kk c] 381)).alloc (.cells #[.slice none 0 0] 381)) := ((Below.refl _ _).alloc (Nat.le_refl _) _).alloc (by simp) _;obtain ⟨va, vc, he⟩ := Row.shape h;injection he with h1 h2 h3
 subst h1 h2 h3;have HCS := Lib.hid h.cases;have hnB := Lim.lt_of_limbs_length (n := n) (Nat.le_refl _);have HNB := Lib.hid hnB;have hget : ∀ i, (Lim.limbs n).getD i 0 = n / 18446744073709551616 ^ i % 18446744073709551616 := Lim.limbs_getD n;have HGET := Lib.hid hget;have hsm := Lim.small_limbs n;have HW : Hid (∀ wx, Below w.heap.size w wx → Wds wx (.slice a (Lim.limbs n).length c) (Lim.limbs n)) := fun wx hx => h.below hx
 clear h hnB hget;obtain ⟨q, s, hqs, hs64⟩ : ∃ q s, k = 64 * q + s ∧ s < 64 := ⟨k / 64, k % 64, by omega, by omega⟩;have hfld := field422;have hkq : (k : Int) / 64 = q := by omega
 have hks : (k : Int) % 64 = s := by omega
 have HQS := Lib.hid hqs;clear hqs;generalize hL : (Lim.limbs n).length = L at *;have HL := Lib.hid hL;clear hL;have hb1 : w.heap.size + 2 = ((w.alloc (.cells #[.slice a L c] 381)).alloc (.cells #[.slice none 0 0] 381)).heap.size := by simp
 have HB1 := Lib.hid hb1;clear hb1;go_enter Tryz.func255, Tryz.ntmps255;go_wp2_with fail
 go_loopw [15, 6, 7, 8, 9] (fun i b o _ _ wr => ∃ (j : Nat) (r : List Nat), j ≤ L ∧ i = .int .i64 j ∧ b = .bool (n % goneBy q s j != 0) ∧ Row (w.heap.size + 2) 30 encW wr o r ∧ r.length = j - q ∧ Lim.Small r ∧ Lim.val r = n / 2 ^ k % 18446744073709551616 ^ (j - q) ∧
  Below w.heap.size w wr ∧ wr.heap[w.heap.size]? = some (.cells #[.slice a L c] 381 (0, 0)) ∧ wr.heap[w.heap.size + 1]? = some (.cells #[.slice none 0 0] 381 (0, 0))) (fun i _ _ _ _ _ => L - (intOf i).toNat)
 case atStart => exact ⟨0, [], Nat.zero_le _, rfl, by simp [goneBy, Nat.mod_one], Row.nil _ _ _ _, by simp, (fun x hx => by cases hx), by simp [Lim.val, Nat.mod_one], hb0, (Below.heap_alloc _ _ _ (by simp)).trans (heap_alloc_new w _), by simpa using heap_alloc_new (w.alloc (.cells #[.slice a L c] 381)) (.cells #[.slice none 0 0] 381)⟩
 case round =>
  obtain ⟨j, r, hj, rfl, rfl, hrow, hr, hsr, hval, hbel, g1, g2⟩ := hrel;have hc1 := cell_of_one g1;have hc2 := cell_of_one g2;have hszr : w.heap.size + 2 ≤ wr.heap.size := lt_of_block g2;have G1 := Lib.hid g1;have G2 := Lib.hid g2;have HV := Lib.hid hval;have HR := Lib.hid hr;clear g1 g2 hval hr
  by_cases hlt : j < L
  ·rcases HCS.out with ⟨_, hn⟩ | ⟨g, cap, he, hg, _, _, hcell⟩
   ·have := HL.out; rw [hn] at this; simp at this; omega
   ·injection he with h1 h2 h3
    have hcl : wr.cell? ⟨g, j, none⟩ = some (.int .u64 ((Lim.limbs n).getD j 0 : Nat)) := (hbel.cell (by simpa using hg)).trans (hcell j hlt);subst h1;rw [HGET.out] at hcl;have hxl : n / 18446744073709551616 ^ j % 18446744073709551616 < 18446744073709551616 := Nat.mod_lt _ (by decide);clear hcell h2 h3;generalize hX : n / 18446744073709551616 ^ j % 18446744073709551616 = x at *;have HX := Lib.hid hX;clear hX;obtain ⟨b0, hb0e⟩ : ∃ b0, (n % goneBy q s j != 0) = b0 := ⟨_, rfl⟩;have HB0 := Lib.hid hb0e;rw [hb0e];clear hb0e;rcases Nat.lt_trichotomy j q with hjq | hjq | hjq
    ·have hg1 := gone_lt (n := n) (s := s) hjq;rw [HB0.out, HX.out] at hg1;have hjq2 : j + 1 - q = j - q := by omega
     have hne : ((x : Int) != 0) = (x != 0) := by rw [Bool.eq_iff_iff]; simp
     have HG := Lib.hid hg1;have HJ := Lib.hid hjq2;have HN := Lib.hid hne;clear hg1 hjq2 hne;cases b0
     all_goals
      go_wp2
      go_roundw
      case rel =>
       refine ⟨j + 1, r, by omega, by go_num, ?_, hrow, by rw [HJ.out]; exact HR.out, hsr, by rw [HJ.out]; exact HV.out, hbel, G1.out, G2.out⟩;rw [HG.out]
       first | rfl | (rw [HN.out]; rfl)
      case measure => simp [intOf]; omega
    ·obtain rfl : j = q := hjq;obtain ⟨y, hy⟩ : ∃ y, n / 18446744073709551616 ^ (j + 1) % 18446744073709551616 = y := ⟨_, rfl⟩;have hyl : y < 18446744073709551616 := hy ▸ Nat.mod_lt _ (by decide);have hwd := word_is (some ⟨g, 0, none⟩) L c n y (j + 1) wr (HW.out wr hbel) (by omega) hy;rw [show ((j + 1 : Nat) : Int) = (j : Int) + 1 from by omega] at hwd;have HWD := Lib.hid hwd;have hzv := shr_word (n := n) hs64 HQS.out (Nat.le_refl _);rw [hy, HX.out] at hzv;obtain ⟨z, hz⟩ : ∃ z, (y * 18446744073709551616 + x) / 2 ^ s % 18446744073709551616 = z := ⟨_, rfl⟩;have hzl : z < 18446744073709551616 := hz ▸ Nat.mod_lt _ (by decide);rw [hz] at hzv;have HZ := Lib.hid hz;have HZV := Lib.hid hzv;have hg1 := gone_eq (n := n) (q := j) hs64;rw [HX.out, HB0.out] at hg1;obtain ⟨m, hm⟩ : ∃ m, x % 2 ^ s = m := ⟨_, rfl⟩;have hmask : bits BinOp.and IntKind.u64 (x : Int) (IntKind.u64.wrap (IntKind.u64.wrap (2 ^ s) - 1)) = (m : Int) := by rw [mask_one hs64, and_mask hxl hs64, hm]
     rw [hm] at hg1;have hne : ((m : Int) != 0) = (m != 0) := by rw [Bool.eq_iff_iff]; simp
     have HG := Lib.hid hg1;have HN := Lib.hid hne;clear hg1 hne hy hz hzv hm hwd;cases b0
     all_goals
      go_wp2_with fail;refine (HWD.out).mono ?_;rintro e wx ⟨rfl, hbx⟩;go_wp2_with fail
      try simp only [hks]
      refine (pshr_any y x s _ hyl hxl hs64).mono ?_;rintro e wy ⟨⟨h', rfl⟩, hby⟩;have hbxy := hbx.trans (hby.mono hbx.size);have hrowx := (hrow.below hbxy).alloc (.cells #[.int .u64 ((y * 18446744073709551616 + x) / 2 ^ s % 18446744073709551616 : Nat)] 30);have hbely := chain hbel hbxy;have gy1 := keep G1.out hbxy;have gy2 := keep G2.out hbxy;have hszy : w.heap.size + 2 ≤ wy.heap.size := lt_of_block gy2;have GY1 := Lib.hid gy1;have GY2 := Lib.hid gy2;have hrlt := (hrow.below hbxy).lt;rw [HZ.out] at hrowx ⊢;clear hrow hbel hbx hby hbxy gy1 gy2 hcl hc1 hc2
      go_wp2_with (at_builtin; refine append_one elemW rfl _ _ rfl rfl hrowx ⟨wy.heap.size, 0, none⟩ 1 z rfl ?_ rfl ?_ ?_ ?_ ?_)
      ·simp
      ·have := HR.out; omega
      ·have := HR.out; unfold maxLen; omega
      ·simp; omega
      intro b cap w3 hrow2 hgrow2;have hb3 : Below (w.heap.size + 2) wy w3 := ((Below.refl _ _).alloc (by omega) _).grown hgrow2 (by simp; omega) (fun k hk => (hrlt k hk).1);have HR2 := Lib.hid hrow2;have HG1 := Lib.hid ((hb3.block _ (by omega)).trans GY1.out);have HG2 := Lib.hid ((hb3.block _ (by omega)).trans GY2.out);have hbf : Below w.heap.size w w3 := hbely.trans (hb3.mono (by omega));clear hrow2 hgrow2 hrowx hrlt hb3 hbely;go_wp2
      go_roundw
      case rel =>
       refine ⟨j + 1, r ++ [z], by omega, by go_num, ?_, HR2.out, by first | (simp [HR.out]; done) | (simp [HR.out]; omega), Lim.small_append.2 ⟨hsr, fun y hy => by simp at hy; omega⟩, ?_, hbf, HG1.out, HG2.out⟩
       ·rw [HG.out]
        first | rfl | (rw [HN.out]; rfl)
       ·have e : j + 1 - j = (j - j) + 1 := by omega
        rw [e, mod_succ, Lim.val_append, HR.out, HV.out, HZV.out];simp [Lim.val]
      case measure => simp [intOf]; omega
    ·obtain ⟨y, hy⟩ : ∃ y, n / 18446744073709551616 ^ (j + 1) % 18446744073709551616 = y := ⟨_, rfl⟩;have hyl : y < 18446744073709551616 := hy ▸ Nat.mod_lt _ (by decide);have hwd := word_is (some ⟨g, 0, none⟩) L c n y (j + 1) wr (HW.out wr hbel) (by omega) hy;rw [show ((j + 1 : Nat) : Int) = (j : Int) + 1 from by omega] at hwd;have HWD := Lib.hid hwd;have hzv := shr_word (n := n) hs64 HQS.out (Nat.le_of_lt hjq);rw [hy, HX.out] at hzv;obtain ⟨z, hz⟩ : ∃ z, (y * 18446744073709551616 + x) / 2 ^ s % 18446744073709551616 = z := ⟨_, rfl⟩;have hzl : z < 18446744073709551616 := hz ▸ Nat.mod_lt _ (by decide);rw [hz] at hzv;have HZ := Lib.hid hz;have HZV := Lib.hid hzv;have hg1 := gone_gt (n := n) (s := s) hjq;rw [HB0.out] at hg1;have hjq2 : ((j : Int) == (q : Int)) = false := by rw [beq_eq_false_iff_ne]; omega
     have HG := Lib.hid hg1;clear hg1 hy hz hzv hwd;cases b0
     all_goals
      go_wp2_with fail;refine (HWD.out).mono ?_;rintro e wx ⟨rfl, hbx⟩;go_wp2_with fail
      try simp only [hks]
      refine (pshr_any y x s _ hyl hxl hs64).mono ?_;rintro e wy ⟨⟨h', rfl⟩, hby⟩;have hbxy := hbx.trans (hby.mono hbx.size);have hrowx := (hrow.below hbxy).alloc (.cells #[.int .u64 ((y * 18446744073709551616 + x) / 2 ^ s % 18446744073709551616 : Nat)] 30);have hbely := chain hbel hbxy;have gy1 := keep G1.out hbxy;have gy2 := keep G2.out hbxy;have hszy : w.heap.size + 2 ≤ wy.heap.size := lt_of_block gy2;have GY1 := Lib.hid gy1;have GY2 := Lib.hid gy2;have hrlt := (hrow.below hbxy).lt;rw [HZ.out] at hrowx ⊢;clear hrow hbel hbx hby hbxy gy1 gy2 hcl hc1 hc2
      go_wp2_with (at_builtin; refine append_one elemW rfl _ _ rfl rfl hrowx ⟨wy.heap.size, 0, none⟩ 1 z rfl ?_ rfl ?_ ?_ ?_ ?_)
      ·simp
      ·have := HR.out; omega
      ·have := HR.out; unfold maxLen; omega
      ·simp; omega
      intro b cap w3 hrow2 hgrow2;have hb3 : Below (w.heap.size + 2) wy w3 := ((Below.refl _ _).alloc (by omega) _).grown hgrow2 (by simp; omega) (fun k hk => (hrlt k hk).1);have HR2 := Lib.hid hrow2;have HG1 := Lib.hid ((hb3.block _ (by omega)).trans GY1.out);have HG2 := Lib.hid ((hb3.block _ (by omega)).trans GY2.out);have hbf : Below w.heap.size w w3 := hbely.trans (hb3.mono (by omega));clear hrow2 hgrow2 hrowx hrlt hb3 hbely;go_wp2
      go_roundw
      case rel =>
       refine ⟨j + 1, r ++ [z], by omega, by go_num, ?_, HR2.out, by first | (simp [HR.out]; done) | (simp [HR.out]; omega), Lim.small_append.2 ⟨hsr, fun y hy => by simp at hy; omega⟩, ?_, hbf, HG1.out, HG2.out⟩
       ·rw [HG.out]
       ·have e : j + 1 - q = (j - q) + 1 := by omega
        rw [e, mod_succ, Lim.val_append, HR.out, HV.out, HZV.out];simp [Lim.val]
      case measure => simp [intOf]; omega
  ·have hjL : j = L := by omega
   subst hjL;have hall := shr_all (n := n) HQS.out HNB.out;have hv : Lim.val r = n / 2 ^ k := by rw [HV.out]; exact hall.1
   have HF := Lib.hid hv;have HB := Lib.hid hall.2;clear hall hv;go_wp2_with fail;refine (made_any _ r _ hsr (hrow.base (Nat.zero_le _))).mono ?_;rintro e w4 ⟨a3, k3, c3, rfl, hm, hb33⟩;rw [HF.out] at hm;have g5 := keep G2.out hb33;have hc5 := cell_of_one g5;have hf5 := free_of_one g5;have hbf := chain hbel hb33;have HM := Lib.hid hm;clear hm hbel hrow hc1 hc2;go_wp2;refine bodyPost_ret (v := .tuple #[.agg #[.slice a3 k3 c3], .bool (n % 2 ^ k != 0)]) ?_ rfl ⟨a3, k3, c3, rfl, HM.out.set g5 (by decide) _ _, hbf.setCell (by simp) _⟩;rw [← HB.out];simp [results, Tryz.results255, go_sem, hc5]
theorem val_set {l : List Nat} {p : Nat} (hp : p < l.length) (y : Nat) : Lim.val (l.set p y) + 18446744073709551616 ^ p * l.getD p 0 = Lim.val l + 18446744073709551616 ^ p * y := by
 induction l generalizing p with
 | nil => simp at hp
 | cons x l ih =>
  cases p with
  | zero => simp [Lim.val]; omega
  | succ p =>
   have := ih (p := p) (by simpa using hp);simp only [List.set_cons_succ, Lim.val, Nat.pow_succ];have e : (x :: l).getD (p + 1) 0 = l.getD p 0 := by simp [List.getD]
   rw [e];have h1 : 18446744073709551616 ^ p * 18446744073709551616 * l.getD p 0 = 18446744073709551616 * (18446744073709551616 ^ p * l.getD p 0) := by rw [Nat.mul_comm (18446744073709551616 ^ p), Nat.mul_assoc]
   have h2 : 18446744073709551616 ^ p * 18446744073709551616 * y = 18446744073709551616 * (18446744073709551616 ^ p * y) := by rw [Nat.mul_comm (18446744073709551616 ^ p), Nat.mul_assoc]
   rw [h1, h2]; omega
theorem small_set {l : List Nat} (h : Lim.Small l) (p : Nat) {y : Nat} (hy : y < 18446744073709551616) : Lim.Small (l.set p y) := fun x hx => by
 rcases List.mem_or_eq_of_mem_set hx with h1 | h1
 ·exact h x h1
 ·subst h1; exact hy
theorem mul_word {x y o mo lo hi s1 c1 s2 c2 : Nat} (hx : x < 18446744073709551616) (hy : y < 18446744073709551616) (ho : o < 18446744073709551616) (hmo : mo < 18446744073709551616) (h1 : lo + 18446744073709551616 * hi = x * y) (h2 : s1 + 18446744073709551616 * c1 = lo + o) (h3 : s2 + 18446744073709551616 * c2 = s1 + mo) :
 s2 + 18446744073709551616 * (hi + c1 + c2) = x * y + o + mo ∧ hi + c1 + c2 < 18446744073709551616 := by
 have h4 : x * y ≤ 18446744073709551615 * 18446744073709551615 := Nat.mul_le_mul (by omega) (by omega);omega
theorem mul_step {v v' P mo R x o s2 mo' y : Nat} (hset : v' + P * o = v + P * s2) (h : v + P * mo = R) (hs : s2 + 18446744073709551616 * mo' = x * y + o + mo) : v' + P * 18446744073709551616 * mo' = R + P * (x * y) := by
 have e : P * s2 + P * (18446744073709551616 * mo') = P * (x * y) + P * o + P * mo := by rw [← Nat.mul_add, hs, Nat.mul_add, Nat.mul_add]
 rw [Nat.mul_assoc P]; omega
theorem mul_tail (j k x q y : Nat) : 18446744073709551616 ^ j * (x * (q + 18446744073709551616 ^ k * y)) = 18446744073709551616 ^ j * (x * q) + 18446744073709551616 ^ (j + k) * (x * y) := by
 rw [Nat.mul_add, Nat.mul_add, Nat.pow_add, Nat.mul_left_comm x, Nat.mul_assoc]
theorem getD_lt {l : List Nat} (h : Lim.Small l) (i : Nat) : l.getD i 0 < 18446744073709551616 := by
 rw [List.getD];cases hx : l[i]? with
 | none => decide
 | some x => exact h x (List.mem_of_getElem? hx)
theorem getElem?_getD {l : List Nat} {i : Nat} (h : i < l.length) : l[i]? = some (l.getD i 0) := by rw [List.getD, List.getElem?_eq_getElem h]; rfl
theorem mul_any (a a' : Option Addr) (k k' c c' n m : Nat) (w : World) (h : Wds w (.slice a k c) (Lim.limbs n)) (h' : Wds w (.slice a' k' c') (Lim.limbs m)) (hl : (Lim.limbs n).length ≤ 1048576) (hl' : (Lim.limbs m).length ≤ 1048576) :
 Calls Tryz.prog 232 #[.agg #[.slice a k c], .agg #[.slice a' k' c']] w fun e w' => RetNatE w (capN (n * m)) (capE (n * m)) e w' := by
 obtain ⟨va, vc, he⟩ := Row.shape h;injection he with h1 h2 h3
 subst h1 h2 h3;obtain ⟨va', vc', he⟩ := Row.shape h';injection he with h1 h2 h3
 subst h1 h2 h3;have HCS := Lib.hid h.cases;have HCS' := Lib.hid h'.cases;clear h h';have hsm := Lim.small_limbs n;have hsm' := Lim.small_limbs m;have hvn := Lim.val_limbs n;have hvm := Lim.val_limbs m;generalize hL : Lim.limbs n = l at *;generalize hL' : Lim.limbs m = l' at *;have HVN := Lib.hid hvn;have HVM := Lib.hid hvm;clear hL hL' hvn hvm;have hb0 : Below w.heap.size w (((w.alloc (.cells #[.slice a l.length c] 381)).alloc (.cells #[.slice a' l'.length c'] 381)).alloc (.cells #[.slice none 0 0] 381)) := (((Below.refl _ _).alloc (Nat.le_refl _) _).alloc (by simp) _).alloc (by simp; omega) _;have hb3 : Below (((w.alloc (.cells #[.slice a l.length c] 381)).alloc (.cells #[.slice a' l'.length c'] 381)).alloc (.cells #[.slice none 0 0] 381)).heap.size (((w.alloc (.cells #[.slice a l.length c] 381)).alloc (.cells #[.slice a' l'.length c'] 381)).alloc (.cells #[.slice none 0 0] 381)) (((w.alloc (.cells #[.slice a l.length c] 381)).alloc (.cells #[.slice a' l'.length c'] 381)).alloc (.cells #[.slice none 0 0] 381)) := Below.refl _ _;obtain ⟨g1, g2, g3, _, _⟩ := after3 hb3;have G1 := Lib.hid g1;have G2 := Lib.hid g2;have G3 := Lib.hid g3;clear g1 g2 g3 hb3;obtain ⟨N, hN⟩ : ∃ N, l.length + l'.length + 1 = N := ⟨_, rfl⟩;have hNc : ((l.length : Int) + (l'.length : Int) + 1) = (N : Int) := by omega
 go_enter Tryz.func232, Tryz.ntmps232
 go_wp2_with (at_make; refine make_row (B := w.heap.size + 3) (enc := encW) 0 elemZW rfl _ _ rfl _ _ _ _ N N rfl rfl ?_ ?_ ?_ ?_ ?_ ?_ ?_)
 ·first | rfl | omega
 ·first | rfl | omega
 ·omega
 ·omega
 ·unfold maxLen; omega
 ·simp
 intro w1 hrow0 hbm;have hsz1 : w.heap.size + 3 ≤ w1.heap.size := by have := hbm.size; simp at this; omega
 have hbw : Below w.heap.size w w1 := hb0.trans (hbm.mono (by omega));have G1' := Lib.hid ((hbm.block _ (by omega)).trans G1.out);have G2' := Lib.hid ((hbm.block _ (by omega)).trans G2.out);have G3' := Lib.hid ((hbm.block _ (by omega)).trans G3.out);have HN := Lib.hid hN;have HR0 := Lib.hid hrow0;have hc1 := cell_of_one G1'.out;clear hb0 hbm hrow0 hN;obtain ⟨A, hA⟩ : ∃ A, w.heap.size + 1 + 1 + 1 = A := ⟨_, rfl⟩;have hA3 : w.heap.size + 3 ≤ A := by omega
 simp only [hA] at HR0 ⊢;clear hA;go_wp2_with fail
 go_loopw [27] (fun i wr => ∃ (j : Nat) (lst : List Nat), j ≤ l.length ∧ i = .int .i64 j ∧ Row (w.heap.size + 3) 30 encW wr (.slice (some ⟨A, 0, none⟩) N N) lst ∧ lst.length = N ∧ Lim.Small lst ∧ Lim.val lst = Lim.val (l.take j) * m ∧
  (∀ p, j + l'.length ≤ p → lst.getD p 0 = 0) ∧ Below (w.heap.size + 3) w1 wr) (fun i _ => l.length - (intOf i).toNat)
 case atStart => exact ⟨0, List.replicate N 0, Nat.zero_le _, rfl, HR0.out.base hA3, by simp, small_zeros N, by have := val_zeros N []; simp [Lim.val] at this; simp [Lim.val, this], (fun p _ => by simp [List.getD, List.getElem?_replicate]; split <;> rfl), Below.refl _ _⟩
 case round =>
  obtain ⟨j, lst, hj, rfl, hrow, hlen, hss, hval, hz, hbel⟩ := hrel;obtain ⟨wo, rfl⟩ : ∃ wo : World, wo = wr := ⟨_, rfl⟩;have HV := Lib.hid hval;have HZ := Lib.hid hz;have HLEN := Lib.hid hlen;clear hval hz hlen;have hszo : w.heap.size + 3 ≤ wo.heap.size := Nat.le_trans hsz1 hbel.size;have hc2 := cell_of_one ((hbel.block _ (by omega)).trans G2'.out)
  by_cases hlt : j < l.length
  ·rcases HCS.out with ⟨_, hn⟩ | ⟨g, cap, he, hg, _, _, hcell⟩
   ·subst hn; simp at hlt
   ·injection he with h1 h2 h3
    have hx := getD_lt hsm j;have hcl : wo.cell? ⟨g, j, none⟩ = some (.int .u64 (l.getD j 0 : Nat)) := (hbel.cell (by simp; omega)).trans ((hbw.cell hg).trans (hcell j hlt));subst h1;clear hcell h2 h3;have ht := val_take_succ hlt;generalize hX : l.getD j 0 = x at *;have HT := Lib.hid ht;clear ht hX;go_wp2_with fail
    go_loopw [35, 9] (fun i mo wr => ∃ (k m0 : Nat) (ls : List Nat), k ≤ l'.length ∧ i = .int .i64 k ∧ mo = .int .u64 m0 ∧ m0 < 18446744073709551616 ∧ Row (w.heap.size + 3) 30 encW wr (.slice (some ⟨A, 0, none⟩) N N) ls ∧ ls.length = N ∧ Lim.Small ls ∧
     Lim.val ls + 18446744073709551616 ^ (j + k) * m0 = Lim.val (l.take j) * m + 18446744073709551616 ^ j * (x * Lim.val (l'.take k)) ∧ (∀ p, j + l'.length ≤ p → ls.getD p 0 = 0) ∧ Below (w.heap.size + 3) w1 wr) (fun i _ _ => l'.length - (intOf i).toNat)
    case atStart => exact ⟨0, 0, lst, Nat.zero_le _, rfl, rfl, by decide, hrow, HLEN.out, hss, by simp [Lim.val, HV.out], HZ.out, hbel⟩
    case round =>
     obtain ⟨k, m0, ls, hk, rfl, rfl, hm0, hrow2, hlen2, hss2, hval2, hz2, hbel2⟩ := hrel;have HV2 := Lib.hid hval2;have HZ2 := Lib.hid hz2;have HLEN2 := Lib.hid hlen2;clear hval2 hz2 hrow hbel hc2 hcl;have hszr : w.heap.size + 3 ≤ wr.heap.size := Nat.le_trans hsz1 hbel2.size
     by_cases hkt : k < l'.length
     ·rcases HCS'.out with ⟨_, hn⟩ | ⟨g', cap', he', hg', _, _, hcell'⟩
      ·subst hn; simp at hkt
      ·injection he' with h1 h2 h3
       have hy := getD_lt hsm' k;have hcl' : wr.cell? ⟨g', k, none⟩ = some (.int .u64 (l'.getD k 0 : Nat)) := (hbel2.cell (by simp; omega)).trans ((hbw.cell hg').trans (hcell' k hkt));subst h1;clear hcell' h2 h3;have ht' := val_take_succ hkt;have ho := getD_lt hss2 (j + k);have hpl : j + k < ls.length := by have := HN.out; omega
       have hco : wr.cell? ⟨A, j + k, none⟩ = some (.int .u64 (ls.getD (j + k) 0 : Nat)) := hrow2.cell (getElem?_getD hpl);have hset := fun y => val_set (l := ls) hpl y
       generalize hY : l'.getD k 0 = y at *;generalize hO : ls.getD (j + k) 0 = o at *;have HT' := Lib.hid ht';have HSET := Lib.hid hset;have hNb : j + k < N := by have := HN.out; omega
       have hfree := hrow2.free (j + k);clear ht' hset hY hO hpl hlen2;go_wp2_with fail;refine (bits_Mul64_ex x y hx hy _).mono ?_;rintro e w' ⟨hi, lo, rfl, rfl, hmul, hlo, hhi⟩;obtain ⟨s1, c1, hadd1, hs1, hcy1, hrun1⟩ := bits_Add64_0 lo o hlo ho;obtain ⟨s2, c2, hadd2, hs2, hcy2, hrun2⟩ := bits_Add64_0 s1 m0 hs1 hm0;obtain ⟨hw1, hw2⟩ := mul_word hx hy ho hm0 hmul hadd1 hadd2;have HW1 := Lib.hid hw1;clear hmul hadd1 hadd2 hw1;go_wp2_with fail
       go_roundw
       case rel =>
        have hst := hrow2.stored (i := j + k) (by rw [HLEN2.out]; omega) s2;refine ⟨k + 1, hi + c1 + c2, ls.set (j + k) s2, by omega, by go_num, by go_num, hw2, hst, by simp [HLEN2.out], small_set hss2 _ hs2, ?_, ?_, hbel2.setCell (by simpa using hA3) _⟩
        ·rw [HT'.out, mul_tail, show j + (k + 1) = j + k + 1 from rfl, Nat.pow_succ, ← Nat.add_assoc];exact mul_step (HSET.out s2) HV2.out HW1.out
        ·intro p hp;rw [List.getD, List.getElem?_set_ne (by omega)]; exact HZ2.out p hp
       case measure => simp [intOf]; omega
     ·have hkl : k = l'.length := by omega
      have hpl : j + l'.length < ls.length := by have := HN.out; omega
      have hNb : j + l'.length < N := by have := HN.out; omega
      have hset := val_set (l := ls) hpl m0;rw [HZ2.out _ (Nat.le_refl _), Nat.mul_zero, Nat.add_zero] at hset
      have hfin : Lim.val (ls.set (j + l'.length) m0) = Lim.val (l.take (j + 1)) * m := by
       have h1 := HV2.out;rw [hkl, List.take_length, HVM.out] at h1;rw [hset, h1, HT.out, Nat.add_mul, Nat.mul_assoc]
      have HF := Lib.hid hfin;have hc2 := cell_of_one ((hbel2.block _ (by omega)).trans G2'.out);have hfree := hrow2.free (j + l'.length);have hco : wr.cell? ⟨A, j + l'.length, none⟩ = some (.int .u64 (ls.getD (j + l'.length) 0 : Nat)) := hrow2.cell (getElem?_getD hpl);have hst := hrow2.stored (i := j + l'.length) hpl m0;have hss3 := small_set hss2 (j + l'.length) hm0
      have hz3 : ∀ p, j + 1 + l'.length ≤ p → (ls.set (j + l'.length) m0).getD p 0 = 0 := fun p hp => by
       rw [List.getD, List.getElem?_set_ne (by omega)]; exact HZ2.out p (by omega)
      have HST := Lib.hid hst;have HZ3 := Lib.hid hz3;generalize ls.getD (j + l'.length) 0 = o at *;clear hset hfin hkl hpl hst hz3 hlen2;go_wp2_with fail
      go_roundw
      case rel => exact ⟨j + 1, ls.set (j + l'.length) m0, by omega, by go_num, HST.out, by simp [HLEN2.out], hss3, HF.out, HZ3.out, hbel2.setCell (by simpa using hA3) _⟩
      case measure => simp [intOf]; omega
  ·have hjl : j = l.length := by omega
   have hfin : Lim.val lst = n * m := by rw [HV.out, hjl, List.take_length, HVN.out]
   have HF := Lib.hid hfin
   have hshort : (Lim.limbs (n * m)).length ≤ 4294967296 := by
    have h5 := Lim.val_lt hss;rw [hfin] at h5;have := Lim.limbs_length_le h5;have := HLEN.out;have := HN.out;omega
   have hbww : Below w.heap.size w wo := hbw.trans (hbel.mono (by omega));have g4 := (hbel.block _ (by omega)).trans G3'.out;clear hfin hjl;go_wp2_with fail;refine (made_any _ lst _ hss (hrow.base (Nat.zero_le _))).mono ?_;rintro e w3 ⟨a3, k3, c3, rfl, hm, hb33⟩;rw [HF.out] at hm;go_wp2_with fail;refine (bounded_any a3 k3 c3 (n * m) _ hm hshort).mono ?_;rintro e w4 ⟨a4, k4, c4, rfl, hm4, hb4⟩;have g5 := keep (keep g4 hb33) hb4;have hc5 := cell_of_one g5;have hf5 := free_of_one g5;have hbf := chain (chain hbww hb33) hb4;have HM := Lib.hid hm4;clear hm hm4 g4 hbel hrow hc2;go_wp2;exact bodyPost_ret (v := .tuple #[.agg #[.slice a4 k4 c4], capE (n * m)]) (by simp [results, Tryz.results232, go_sem, hc5]) rfl ⟨a4, k4, c4, rfl, HM.out.set g5 (by decide) _ _, hbf.setCell (by simp; omega) _⟩
end Go.Proofs.YtakkmiomhackiaaGreatDoor
