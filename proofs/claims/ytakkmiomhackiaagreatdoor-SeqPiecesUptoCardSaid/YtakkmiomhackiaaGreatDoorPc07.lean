/-
  The program, one part of its walk: Wd9, Wd10. Conditions: none.
-/
import Derived.Test.YtakkmiomhackiaaGreatDoorPc06
import Derived.Deep.RegionWith
set_option linter.all false
set_option maxRecDepth 100000
set_option maxHeartbeats 16000000
namespace Go.Proofs.YtakkmiomhackiaaGreatDoor
open Go.RowKit
theorem div_bit (n i : Nat) : n / 2 ^ i = 2 * (n / 2 ^ (i + 1)) + (n.testBit i).toNat := by
 rw [Nat.pow_succ, ← Nat.div_div_eq_div_mul, Nat.testBit_eq_decide_div_mod_eq];generalize n / 2 ^ i = N
 by_cases h : N % 2 = 1 <;> simp [h] <;> omega
theorem two_shift (q j : Nat) : q * 2 ^ (j + 1) = 2 * q * 2 ^ j := by rw [Nat.pow_succ, Nat.mul_comm (2 ^ j) 2, ← Nat.mul_assoc, Nat.mul_comm q 2]
theorem div_low {N R m b : Nat} (hm : 0 < m) (hR : N % m = R) (h : 2 * R + b < m) : (2 * N + b) % m = 2 * R + b ∧ (2 * N + b) / m = 2 * (N / m) := by
 have e := Nat.div_add_mod N m;have e2 : 2 * N + b = m * (2 * (N / m)) + (2 * R + b) := by rw [← hR]; rw [← hR] at h; have : m * (2 * (N / m)) = 2 * (m * (N / m)) := Nat.mul_left_comm _ _ _; omega
 rw [e2];exact ⟨by rw [Nat.mul_add_mod, Nat.mod_eq_of_lt h], by rw [Nat.mul_add_div hm, Nat.div_eq_of_lt h, Nat.add_zero]⟩
theorem div_high {N R m b : Nat} (hm : 0 < m) (hR : N % m = R) (hb : b ≤ 1) (h : m ≤ 2 * R + b) : (2 * N + b) % m = 2 * R + b - m ∧ (2 * N + b) / m = 2 * (N / m) + 1 := by
 have e := Nat.div_add_mod N m;have hRm : R < m := hR ▸ Nat.mod_lt N hm;have e2 : 2 * N + b = m * (2 * (N / m) + 1) + (2 * R + b - m) := by rw [Nat.mul_add, Nat.mul_one]; have : m * (2 * (N / m)) = 2 * (m * (N / m)) := Nat.mul_left_comm _ _ _; omega
 have hlt : 2 * R + b - m < m := by omega
 rw [e2];exact ⟨by rw [Nat.mul_add_mod, Nat.mod_eq_of_lt hlt], by rw [Nat.mul_add_div hm, Nat.div_eq_of_lt hlt, Nat.add_zero]⟩
theorem val_word {l : List Nat} (h : Lim.Small l) (i : Nat) : l.getD i 0 = Lim.val l / 18446744073709551616 ^ i % 18446744073709551616 := by
 induction l generalizing i with
 | nil => simp [Lim.val]
 | cons x l ih =>
  obtain ⟨hx, hl⟩ := Lim.small_cons.1 h;cases i with
  | zero => simp [Lim.val]; omega
  | succ i =>
   have e : (x :: l).getD (i + 1) 0 = l.getD i 0 := by simp [List.getD]
   rw [e, ih hl, Lim.val, Nat.pow_succ, Nat.mul_comm (18446744073709551616 ^ i), ← Nat.div_div_eq_div_mul];congr 2; omega
theorem set_bit {l : List Nat} {q r i Q : Nat} (h : Lim.Small l) (hi : i = 64 * q + r) (hr : r < 64) (hq : q < l.length) (hv : Lim.val l = Q * 2 ^ (i + 1)) :
 ∃ y : Nat, bits BinOp.or IntKind.u64 (l.getD q 0 : Nat) ((2 ^ r : Nat) : Int) = (y : Int) ∧ y < 18446744073709551616 ∧ Lim.val (l.set q y) = (2 * Q + 1) * 2 ^ i := by
 have hp : 2 ^ r < 18446744073709551616 := by have := Nat.pow_le_pow_right (n := 2) (by decide) (by omega : r ≤ 63); omega
 have hw := val_word h q
 have e1 : Lim.val l / 18446744073709551616 ^ q = Q * 2 ^ (r + 1) := by
  rw [hv, Lim.wpow, hi, show 64 * q + r + 1 = 64 * q + (r + 1) from rfl, Nat.pow_add, Nat.mul_left_comm, Nat.mul_div_cancel_left _ (Nat.two_pow_pos _)]
 have e2 : l.getD q 0 = 2 ^ (r + 1) * (Q % 2 ^ (64 - (r + 1))) := by
  rw [hw, e1, show (18446744073709551616 : Nat) = 2 ^ (r + 1) * 2 ^ (64 - (r + 1)) by rw [← Nat.pow_add, show r + 1 + (64 - (r + 1)) = 64 by omega], Nat.mul_comm Q, Nat.mul_mod_mul_left]
 have hor : l.getD q 0 ||| 2 ^ r = l.getD q 0 + 2 ^ r := by
  rw [e2]; exact (Nat.two_pow_add_eq_or_of_lt (Nat.pow_lt_pow_right (by decide) (by omega)) _).symm
 have hwl := getD_lt h q
 have hlt : l.getD q 0 + 2 ^ r < 18446744073709551616 := by
  rw [← hor]; exact Nat.or_lt_two_pow (n := 64) hwl hp
 refine ⟨l.getD q 0 + 2 ^ r, ?_, hlt, ?_⟩
 ·rw [bits_or_u64_nat _ _ hwl hp, hor]
 ·have hs := val_set hq (l.getD q 0 + 2 ^ r);rw [Nat.mul_add] at hs;have e3 : 18446744073709551616 ^ q * 2 ^ r = 2 ^ i := by rw [Lim.wpow, ← Nat.pow_add, hi]
  rw [e3] at hs;have : Lim.val (l.set q (l.getD q 0 + 2 ^ r)) = Lim.val l + 2 ^ i := by omega
  rw [this, hv, Nat.pow_succ, Nat.add_mul, Nat.one_mul, Nat.mul_comm (2 ^ i) 2, ← Nat.mul_assoc, Nat.mul_comm Q 2]
theorem wrap_pow {r : Nat} (h : r < 64) : IntKind.u64.wrap (2 ^ r) = ((2 ^ r : Nat) : Int) := by
 have hp := Nat.pow_le_pow_right (n := 2) (by decide) (by omega : r ≤ 63);rw [show ((2 : Int) ^ r) = ((2 ^ r : Nat) : Int) by simp];generalize 2 ^ r = x at *
 show IntKind.wrap .u64 (x : Int) = x
 rw [IntKind.wrap_u64]; omega
theorem Row.set_low {α : Type} {B e : Nat} {enc : α → Value} {w : World} {v : Value} {l : List α} (h : Row B e enc w v l) {b : Nat} (hb : b < B) (o : Nat) (u : Value) : Row B e enc (w.setCell ⟨b, o, none⟩ u) v l :=
 ownsRow_setCell_other h (fun hc => by have := (Row.lt h _ hc).1; simp at this; omega) u
def RetNat2 (w : World) (n m : Nat) (e : Ending) (w' : World) : Prop := ∃ a k c a' k' c', e = .returned (.tuple #[.agg #[.slice a k c], .agg #[.slice a' k' c'], .nilIface]) ∧ Wds w' (.slice a k c) (Lim.limbs n) ∧ Wds w' (.slice a' k' c') (Lim.limbs m) ∧ Below w.heap.size w w'
theorem div_any (a a' : Option Addr) (k k' c c' n m : Nat) (w : World) (h : Wds w (.slice a k c) (Lim.limbs n)) (h' : Wds w (.slice a' k' c') (Lim.limbs m)) (hl : (Lim.limbs n).length ≤ 1048576) (hl' : (Lim.limbs m).length ≤ 1048576) (hm0 : m ≠ 0) :
 Calls Tryz.prog 254 #[.agg #[.slice a k c], .agg #[.slice a' k' c']] w fun e w' => RetNat2 w (n / m) (n % m) e w' := by
 obtain ⟨va, vc, he⟩ := Row.shape h;injection he with h1 h2 h3
 subst h1 h2 h3;obtain ⟨va', vc', he⟩ := Row.shape h';injection he with h1 h2 h3
 subst h1 h2 h3
 have hlen0 : ((Lim.limbs m).length : Int) ≠ 0 := by
  have := (Lim.bitlen_limbs hm0).2; omega
 have hne : (((Lim.limbs m).length : Int) == 0) = false := by rw [beq_eq_false_iff_ne]; exact hlen0
 have hbl : Lim.bitlen n ≤ 64 * (Lim.limbs n).length := Lim.bitlen_le.2 (by rw [← Lim.wpow]; exact Lim.lt_of_limbs_length (Nat.le_refl _));have HLEN : Hid (∀ wx, Below w.heap.size w wx → Calls Tryz.prog 252 #[.agg #[.slice a (Lim.limbs n).length c]] wx fun e w' => e = .returned (.int .i64 (Lim.bitlen n)) ∧ Below wx.heap.size wx w') := fun wx hx => len_any a _ c n wx (h.below hx) (by omega)
 have HW : Hid (∀ wx, Below w.heap.size w wx → Wds wx (.slice a (Lim.limbs n).length c) (Lim.limbs n) ∧ Wds wx (.slice a' (Lim.limbs m).length c') (Lim.limbs m)) := fun wx hx => ⟨h.below hx, h'.below hx⟩
 have HBIT : Hid (∀ (wx : World) (j : Nat), Below w.heap.size w wx → (j : Int) ≤ 4294967296 → Calls Tryz.prog 257 #[.agg #[.slice a (Lim.limbs n).length c], .int .i64 j] wx fun e w' => e = .returned (.bool (n.testBit j)) ∧ Below wx.heap.size wx w') := fun wx j hx hj => bit_any a c n j wx (h.below hx) (by omega) hj
 clear h h' hlen0;have hnb := Lim.lt_bitlen (n := n);have HNB := Lib.hid hnb;clear hnb;generalize hM : (Lim.limbs m).length = M at *;generalize hN : (Lim.limbs n).length = N at *;have HM := Lib.hid hM;have HN := Lib.hid hN;clear hM hN;generalize hB : Lim.bitlen n = bl at *;clear hB;have hb0 : Below w.heap.size w ((((w.alloc (.cells #[.slice a N c] 381)).alloc (.cells #[.slice a' M c'] 381)).alloc (.cells #[.slice none 0 0] 381)).alloc (.cells #[.slice none 0 0] 381)) := ((((Below.refl _ _).alloc (Nat.le_refl _) _).alloc (by simp) _).alloc (by simp; omega) _).alloc (by simp; omega) _;obtain ⟨w0, hw0⟩ : ∃ w0, w0 = ((((w.alloc (.cells #[.slice a N c] 381)).alloc (.cells #[.slice a' M c'] 381)).alloc (.cells #[.slice none 0 0] 381)).alloc (.cells #[.slice none 0 0] 381)) := ⟨_, rfl⟩;have hs0 : w0.heap.size = w.heap.size + 4 := by rw [hw0]; simp
 have hbr : Below w0.heap.size w0 w0 := Below.refl _ _;have hg4 : w0.heap[w.heap.size + 3]? = some (.cells #[.slice none 0 0] 381 (0, 0)) := by rw [hw0]; simpa using heap_alloc_new (((w.alloc (.cells #[.slice a N c] 381)).alloc (.cells #[.slice a' M c'] 381)).alloc (.cells #[.slice none 0 0] 381)) (.cells #[.slice none 0 0] 381)
 have h3 : Below (((w.alloc (.cells #[.slice a N c] 381)).alloc (.cells #[.slice a' M c'] 381)).alloc (.cells #[.slice none 0 0] 381)).heap.size (((w.alloc (.cells #[.slice a N c] 381)).alloc (.cells #[.slice a' M c'] 381)).alloc (.cells #[.slice none 0 0] 381)) w0 := by
  rw [hw0]; exact (Below.refl _ _).alloc (Nat.le_refl _) _
 obtain ⟨g1, g2, g3, hbw0, _⟩ := after3 h3;have G1 := Lib.hid g1;have G2 := Lib.hid g2;have G3 := Lib.hid g3;have G4 := Lib.hid hg4;have HW0 := Lib.hid hw0;clear g1 g2 g3 hg4 hb0 hbr h3 hw0;go_enter Tryz.func254, Tryz.ntmps254;go_wp2_with fail
 go_step3
 go_wp2_with (at_make; refine make_row (B := w.heap.size + 4) (enc := encW) 0 elemZW rfl _ _ rfl _ _ _ _ N N rfl rfl ?_ ?_ ?_ ?_ ?_ ?_ ?_)
 ·first | rfl | omega
 ·first | rfl | omega
 ·omega
 ·omega
 ·unfold maxLen; omega
 ·simp
 rw [show ((((w.alloc (.cells #[.slice a N c] 381)).alloc (.cells #[.slice a' M c'] 381)).alloc (.cells #[.slice none 0 0] 381)).alloc (.cells #[.slice none 0 0] 381)) = w0 from HW0.out.symm];intro w1 hrow0 hbm;have hbm4 : Below (w.heap.size + 4) w0 w1 := hbm.mono (by omega);have hsz1 : w.heap.size + 4 ≤ w1.heap.size := by have := hbm.size; omega
 have hbw : Below w.heap.size w w1 := hbw0.trans (hbm4.mono (by omega));have G1' := Lib.hid ((hbm4.block _ (by omega)).trans G1.out);have G2' := Lib.hid ((hbm4.block _ (by omega)).trans G2.out);have G3' := Lib.hid ((hbm4.block _ (by omega)).trans G3.out);have G4' := Lib.hid ((hbm4.block _ (by omega)).trans G4.out);have hlt1 : w.heap.size + 1 + 1 + 1 + 1 < w1.heap.size := (hrow0.lt _ rfl).2;obtain ⟨A, hA⟩ : ∃ A, w.heap.size + 1 + 1 + 1 + 1 = A := ⟨_, rfl⟩;have hA4 : w.heap.size + 4 ≤ A := by omega
 rw [hA] at hrow0 hlt1 ⊢;have hc1 := cell_of_one G1'.out;have HR0 := Lib.hid hrow0;have hbwl : Below w.heap.size w (w1.alloc (.cells #[.slice none 0 0] 381)) := hbw.alloc (by omega) _;have hbl4 : Below (w.heap.size + 4) w1 (w1.alloc (.cells #[.slice none 0 0] 381)) := (Below.refl _ _).alloc (by omega) _;have hcl1 : (w1.alloc (.cells #[.slice none 0 0] 381)).cell? ⟨w.heap.size, 0, none⟩ = some (.slice a N c) := by rw [World.cell?_alloc_lt _ _ ⟨w.heap.size, 0, none⟩ (by simp; omega)]; exact hc1
 clear hbm hbm4 hs0 hA hrow0 hc1 hbw0;go_wp2_with fail
 go_step3
 go_wp2_with fail;refine (HLEN.out _ hbwl).mono ?_;rintro e w2 ⟨rfl, hb2⟩;obtain ⟨gL, hb12, hszL⟩ := after1 hb2;have hbw2 := chain hbw hb12;have K1 := Lib.hid (keep G1'.out hb12);have K2 := Lib.hid (keep G2'.out hb12);have K3 := Lib.hid (keep G3'.out hb12);have K4 := Lib.hid (keep G4'.out hb12);have HR2 := Lib.hid (HR0.out.below hb12);obtain ⟨Lb, hLb⟩ : ∃ Lb, w1.heap.size = Lb := ⟨_, rfl⟩;rw [hLb] at gL hlt1 hszL ⊢;have hAL : ¬ A = Lb := by omega
 have hL4 : w.heap.size + 4 < Lb := by omega
 have KL := Lib.hid gL;clear gL hb2 hb12 hbw hLb hsz1;have hbl2 : w.heap.size + 4 ≤ w2.heap.size := by omega
 go_wp2_with fail
 go_loopw [9] (fun i wr => ∃ (t : Nat) (ql : List Nat) (aL : Option Addr) (kL cL : Nat), t ≤ bl ∧ i = .int .i64 ((t : Int) - 1) ∧ Row (w.heap.size + 4) 30 encW wr (.slice (some ⟨A, 0, none⟩) N N) ql ∧ ql.length = N ∧ Lim.Small ql ∧ Lim.val ql = n / 2 ^ t / m * 2 ^ t ∧
  wr.heap[Lb]? = some (.cells #[.slice aL kL cL] 381 (0, 0)) ∧ Wds wr (.slice aL kL cL) (Lim.limbs (n / 2 ^ t % m)) ∧ Below (w.heap.size + 4) w2 wr) (fun i _ => (intOf i + 1).toNat)
 case atStart => exact ⟨bl, List.replicate N 0, none, 0, 0, Nat.le_refl _, rfl, HR2.out.base hA4, by simp, small_zeros N, by rw [Nat.div_eq_of_lt HNB.out]; have := val_zeros N []; simp [Lim.val] at this; simp [this], KL.out, by rw [Nat.div_eq_of_lt HNB.out, Nat.zero_mod, Lim.limbs_zero]; exact Wds.nil _, Below.refl _ _⟩
 case round =>
  obtain ⟨t, ql, aL, kL, cL, ht, rfl, hrow, hqlen, hqs, hqv, hgL, hwL, hbel⟩ := hrel;have HQV := Lib.hid hqv;have HQL := Lib.hid hqlen;have GL := Lib.hid hgL;have WL := Lib.hid hwL;have hszr : w.heap.size + 4 ≤ wr.heap.size := Nat.le_trans hbl2 hbel.size;have hltL : Lb < wr.heap.size := lt_of_block hgL;have hbwr : Below w.heap.size w wr := hbw2.trans (hbel.mono (by omega));have J1 := Lib.hid ((hbel.block _ (by omega)).trans K1.out);have J2 := Lib.hid ((hbel.block _ (by omega)).trans K2.out);have J3 := Lib.hid ((hbel.block _ (by omega)).trans K3.out);have J4 := Lib.hid ((hbel.block _ (by omega)).trans K4.out);clear hqv hqlen hgL hwL;rcases Nat.eq_zero_or_pos t with rfl | htp
  ·have hcL := cell_of_one GL.out;go_wp2_with fail
   go_region_with (first | (go_at_call 249; refine (made_any _ ql _ hqs ((hrow.drew).base (Nat.zero_le _))).mono ?_; rintro e wy ⟨a5, k5, c5, rfl, hw5, hby⟩; have hy2 := (hby.cell (p := ⟨Lb, 0, none⟩) (by simp; omega)).trans hcL; have hy3 := cell_of_one ((hby.block _ (by simp; omega)).trans J3.out); have hy4 := cell_of_one ((hby.block _ (by simp; omega)).trans J4.out); have hf3 := free_of_one ((hby.block _ (by simp; omega)).trans J3.out); have hf4 := free_of_one ((hby.block _ (by simp; omega)).trans J4.out)))
   all_goals
    have g3 := (hby.block _ (by simp; omega)).trans J3.out;have g4 := (hby.block _ (by simp; omega)).trans J4.out;have hw6 := (WL.out.drew).below hby;rw [HQV.out, Nat.pow_zero, Nat.div_one, Nat.mul_one] at hw5;rw [Nat.pow_zero, Nat.div_one] at hw6;go_wp2_with fail;have s3 := set_at (o := 0) g3 (.slice a5 k5 c5);have g4' := (set_else (o := 0) (.slice a5 k5 c5) (by omega : w.heap.size + 3 ≠ w.heap.size + 2)).trans g4;have s4 := set_at (o := 0) g4' (.slice aL kL cL);have s3' := (set_else (o := 0) (.slice aL kL cL) (by omega : w.heap.size + 2 ≠ w.heap.size + 3)).trans s3;have hr3 := cell_of_one s3';have hr4 := cell_of_one s4;have hbf : Below w.heap.size w ((wy.setCell ⟨w.heap.size + 2, 0, none⟩ (.slice a5 k5 c5)).setCell ⟨w.heap.size + 3, 0, none⟩ (.slice aL kL cL)) := (((hbwr.drew).trans (hby.mono (by simp; omega))).setCell (p := ⟨w.heap.size + 2, 0, none⟩) (by simp) _).setCell (p := ⟨w.heap.size + 3, 0, none⟩) (by simp) _;have hf5 := (hw5.set g3 (by decide) 0 (.slice a5 k5 c5)).set g4' (by decide) 0 (.slice aL kL cL);have hf6 := (hw6.set g3 (by decide) 0 (.slice a5 k5 c5)).set g4' (by decide) 0 (.slice aL kL cL);rw [Exit.noGoto_ret];exact bodyPost_ret (v := .tuple #[.agg #[.slice a5 k5 c5], .agg #[.slice aL kL cL], .nilIface]) (by simp [results, Tryz.results254, go_sem, hr3, hr4]) rfl ⟨a5, k5, c5, aL, kL, cL, rfl, hf5, hf6, hbf⟩
  ·obtain ⟨j, rfl⟩ : ∃ j, t = j + 1 := ⟨t - 1, by omega⟩;have e1 : ((j + 1 : Nat) : Int) - 1 = (j : Int) := by omega
   rw [e1];clear e1;have hj64 : (j : Int) ≤ 4294967296 := by omega
   have hc1 := cell_of_one J1.out;have hc2 := cell_of_one J2.out;have hcL := cell_of_one GL.out;have hfL := free_of_one GL.out;obtain ⟨b, hb⟩ : ∃ b, n.testBit j = b := ⟨_, rfl⟩;have hbit := HBIT.out wr.drew j hbwr.drew hj64;rw [hb] at hbit;have HBT := Lib.hid hbit;have HBB := Lib.hid hb;clear hbit hb;have hRm : n / 2 ^ (j + 1) % m < m := Nat.mod_lt _ (Nat.pos_of_ne_zero hm0);have hmb : m < 2 ^ (64 * M) := by rw [← Lim.wpow, ← HM.out]; exact Lim.lt_of_limbs_length (Nat.le_refl _)
   have hshort : (Lim.limbs (n / 2 ^ (j + 1) % m)).length ≤ 4294967295 := Nat.le_trans (Lim.short (k := M) (Lim.bitlen_le.2 (by omega))) (by omega)
   have hr2b : Lim.bitlen (2 * (n / 2 ^ (j + 1) % m) + b.toNat) ≤ 64 * (M + 1) := Lim.bitlen_le.2 (by
    have hb1 : b.toNat ≤ 1 := by cases b <;> decide
    have : 2 ^ (64 * M + 1) ≤ 2 ^ (64 * (M + 1)) := Nat.pow_le_pow_right (by decide) (by omega);rw [Nat.pow_succ] at this;omega)
   have hnb2 := div_bit n j;rw [HBB.out] at hnb2;have HNB2 := Lib.hid hnb2;have HR2B := Lib.hid hr2b;clear hr2b hmb hRm hnb2;go_wp2_with fail
   go_region_with (first | (go_at_call 257; refine (HBT.out).mono ?_; rintro e wx ⟨rfl, hbx⟩; have hx2 := (hbx.cell (p := ⟨Lb, 0, none⟩) (by simp; omega)).trans hcL) | (go_at_call 275; refine (twice_any aL kL cL (n / 2 ^ (j + 1) % m) b _ ((WL.out.drew).below hbx) hshort).mono ?_; rintro e wy ⟨a5, k5, c5, rfl, hw5, hby⟩; have hy2 := (hby.cell (p := ⟨Lb, 0, none⟩) (by have := hbx.size; simp at this; simp; omega)).trans hx2; have hyf := (hby.frozen (p := ⟨Lb, 0, none⟩) (by have := hbx.size; simp at this; simp; omega)).trans ((hbx.frozen (p := ⟨Lb, 0, none⟩) (by simp; omega)).trans hfL)))
   all_goals
    have hbz := hbx.trans (hby.mono hbx.size);have hbez : Below (w.heap.size + 4) w2 wy := hbel.drew.trans (hbz.mono hszr);have hbwz : Below w.heap.size w wy := hbw2.trans (hbez.mono (by omega));have hrowz : Row (w.heap.size + 4) 30 encW wy (.slice (some ⟨A, 0, none⟩) N N) ql := Row.below (w := wr.drew) hrow.drew hbz;have gL0 := keep (w1 := wr.drew) GL.out hbz;have j1 := keep (w1 := wr.drew) J1.out hbz;have j2 := keep (w1 := wr.drew) J2.out hbz;have hW5 : Wds (wy.setCell ⟨Lb, 0, none⟩ (.slice a5 k5 c5)) (.slice a5 k5 c5) (Lim.limbs (2 * (n / 2 ^ (j + 1) % m) + b.toNat)) := Wds.set hw5 gL0 (by decide) _ _;have hbe5 : Below (w.heap.size + 4) w2 (wy.setCell ⟨Lb, 0, none⟩ (.slice a5 k5 c5)) := hbez.setCell (by simp; omega) _;have hbw5 : Below w.heap.size w (wy.setCell ⟨Lb, 0, none⟩ (.slice a5 k5 c5)) := hbwz.setCell (by simp; omega) _;have hrow5 : Row (w.heap.size + 4) 30 encW (wy.setCell ⟨Lb, 0, none⟩ (.slice a5 k5 c5)) (.slice (some ⟨A, 0, none⟩) N N) ql := Row.set hrowz gL0 (by decide) _ _;have gL5 := set_at (o := 0) gL0 (.slice a5 k5 c5);have j15 := (set_else (o := 0) (.slice a5 k5 c5) (by omega : w.heap.size ≠ Lb)).trans j1;have j25 := (set_else (o := 0) (.slice a5 k5 c5) (by omega : w.heap.size + 1 ≠ Lb)).trans j2;obtain ⟨w5, hw5e⟩ : ∃ w5, wy.setCell ⟨Lb, 0, none⟩ (.slice a5 k5 c5) = w5 := ⟨_, rfl⟩;rw [hw5e] at hW5 hbe5 hbw5 hrow5 gL5 j15 j25 ⊢;clear hw5e hbz hbez hbwz hrowz gL0 j1 j2 hw5 hby hbx hx2 hy2 hyf hcL hfL hc1 hc2 hrow hbel;have hcL5 := cell_of_one gL5;have hc25 := cell_of_one j25;have GL5 := Lib.hid gL5;have J15 := Lib.hid j15;have J25 := Lib.hid j25;have HR5 := Lib.hid hrow5;have W5 := Lib.hid hW5;clear gL5 j15 j25 hrow5 hW5;have hL2 : Lim.bitlen (2 * (n / 2 ^ (j + 1) % m) + b.toNat) ≤ 64 * (M + 1) := HR2B.out;have hsh2 : (Lim.limbs (2 * (n / 2 ^ (j + 1) % m) + b.toNat)).length ≤ 4294967295 := Nat.le_trans (Lim.short hL2) (by omega);have hcmp := cmp_any a5 a' k5 M c5 c' (2 * (n / 2 ^ (j + 1) % m) + b.toNat) m w5 W5.out (HW.out w5 hbw5).2 hsh2 (by rw [HM.out]; omega);have HCMP := Lib.hid hcmp;clear hcmp hL2
    by_cases hlow : 2 * (n / 2 ^ (j + 1) % m) + b.toNat < m
    ·have hz : cmpI (2 * (n / 2 ^ (j + 1) % m) + b.toNat) m = -1 := if_pos hlow;have hdl := div_low (N := n / 2 ^ (j + 1)) (Nat.pos_of_ne_zero hm0) rfl hlow;rw [hz] at HCMP;rw [← HNB2.out] at hdl;have HDL := Lib.hid hdl;clear hz hdl;go_wp2_with fail;refine (HCMP.out).mono ?_;rintro e w6 ⟨rfl, hb6⟩;have hbe6 := hbe5.trans (hb6.mono (by have := hbe5.size; omega));have gL6 := keep GL5.out hb6;have W6 := Lib.hid (W5.out.below hb6);have HR6 := Lib.hid (HR5.out.below hb6);have GL6 := Lib.hid gL6;clear gL6 hb6 hbe5 hcL5 hc25;go_wp2_with fail
     go_roundw
     case rel =>
      refine ⟨j, ql, a5, k5, c5, by omega, rfl, HR6.out, HQL.out, hqs, ?_, GL6.out, ?_, hbe6⟩
      ·rw [HQV.out, HDL.out.2, two_shift]
      ·rw [HDL.out.1]; exact W6.out
     case measure => simp [intOf]
    ·have hb1 : b.toNat ≤ 1 := by cases b <;> decide
     obtain ⟨z, hz, hz0⟩ : ∃ z, cmpI (2 * (n / 2 ^ (j + 1) % m) + b.toNat) m = z ∧ 0 ≤ z := ⟨_, rfl, by unfold cmpI; rw [if_neg hlow]; split <;> decide⟩;have hdh := div_high (N := n / 2 ^ (j + 1)) (Nat.pos_of_ne_zero hm0) rfl hb1 (by omega);rw [hz] at HCMP;rw [← HNB2.out] at hdh;have HDH := Lib.hid hdh;have hsub := fun w6 (hb6 : Below w5.heap.size w5 w6) => sub_any a5 a' k5 M c5 c' (2 * (n / 2 ^ (j + 1) % m) + b.toNat) m w6 (W5.out.below hb6) ((HW.out w5 hbw5).2.below hb6) hsh2 (by rw [HM.out]; omega) (by omega)
     rw [← HDH.out.1] at hsub;have HSUB := Lib.hid hsub;clear hz hdh hsub;have hsz5 : w.heap.size + 4 ≤ w5.heap.size := Nat.le_trans hbl2 hbe5.size;have hltL5 : Lb < w5.heap.size := lt_of_block GL5.out;go_wp2_with fail;refine (HCMP.out).mono ?_;rintro e w6 ⟨rfl, hb6⟩;have hcL6 := (hb6.cell (p := ⟨Lb, 0, none⟩) hltL5).trans hcL5;have hc26 := (hb6.cell (p := ⟨w.heap.size + 1, 0, none⟩) (by simp; omega)).trans hc25;clear hcL5 hc25;go_wp2_with fail;refine (HSUB.out _ hb6).mono ?_;rintro e w7 ⟨a8, k8, c8, rfl, hw8, hb7⟩;have hb57 := hb6.trans (hb7.mono hb6.size);have gL7 := keep GL5.out hb57;have HR7 := HR5.out.below hb57;have hbe7 := hbe5.trans (hb57.mono hsz5);have hw9 := hw8.set gL7 (by decide) 0 (.slice a8 k8 c8);have gL9 := set_at (o := 0) gL7 (.slice a8 k8 c8);have hrow9 : Row (w.heap.size + 4) 30 encW (w7.setCell ⟨Lb, 0, none⟩ (.slice a8 k8 c8)) (.slice (some ⟨A, 0, none⟩) N N) ql := Row.set HR7 gL7 (by decide) _ _;have hbe9 : Below (w.heap.size + 4) w2 (w7.setCell ⟨Lb, 0, none⟩ (.slice a8 k8 c8)) := hbe7.setCell (by simp; omega) _;have hcL7 := cell_of_one gL7;have hfL7 := free_of_one gL7;have W9 := Lib.hid hw9;have GL9 := Lib.hid gL9;have HR9 := Lib.hid hrow9;have HB9 := Lib.hid hbe9;have hA6 : A < w6.heap.size := by have := hb6.size; omega
     clear hcL6 hc26 hb6 hb7 hb57 gL7 HR7 hbe7 hw8 hw9 gL9 hrow9 hbe9 hbe5;obtain ⟨q, r, hqr, hr64⟩ : ∃ q r, j = 64 * q + r ∧ r < 64 := ⟨j / 64, j % 64, by omega, by omega⟩;have hjq : (j : Int) / 64 = q := by omega
     have hjr : (j : Int) % 64 = r := by omega
     have hqN : q < N := by omega
     have hql : q < ql.length := by rw [HQL.out]; exact hqN
     obtain ⟨y, hy, hylt, hyv⟩ := set_bit hqs hqr hr64 hql HQV.out;have hcq : (w7.setCell ⟨Lb, 0, none⟩ (.slice a8 k8 c8)).cell? ⟨A, q, none⟩ = some (.int .u64 (ql.getD q 0 : Nat)) := HR9.out.cell (getElem?_getD hql);have hfq := HR9.out.free q;have hst := HR9.out.stored (i := q) hql y;have hpw := wrap_pow hr64;have hy2 : bits BinOp.or IntKind.u64 (ql.getD q 0 : Nat) (2 ^ r) = (y : Int) := by rw [← hy]; simp
     have HST := Lib.hid hst;have HYV := Lib.hid hyv;clear hst hyv hqr;generalize ql.getD q 0 = o at *;go_wp2_with fail;go_region;go_wp2_with fail
     go_roundw
     case rel =>
      refine ⟨j, ql.set q y, a8, k8, c8, by omega, rfl, HST.out, by simp [HQL.out], small_set hqs _ hylt, ?_, ?_, ?_, (HB9.out.setCell (p := ⟨A, q, none⟩) (by simp; omega) _).drew⟩
      ·rw [HYV.out, HDH.out.2]
      ·exact (set_else _ (by omega)).trans GL9.out
      ·exact ((W9.out.set_low hA6 _ _).base (Nat.zero_le _)).drew
     case measure => simp [intOf]
def wordE (n : Nat) : Ending := if n < 18446744073709551616 then .returned (.tuple #[.int .u64 (n : Int), .bool true]) else .returned (.tuple #[.int .u64 0, .bool false])
theorem word1_any (a : Option Addr) (k c n : Nat) (w : World) (h : Wds w (.slice a k c) (Lim.limbs n)) (hl : (Lim.limbs n).length ≤ 4294967296) :
 Calls Tryz.prog 256 #[.agg #[.slice a k c]] w fun e w' => e = wordE n ∧ Below w.heap.size w w' := by
 obtain ⟨va, vc, he⟩ := Row.shape h;injection he with h1 h2 h3
 subst h1 h2 h3;have hb0 : Below w.heap.size w (w.alloc (.cells #[.slice a (Lim.limbs n).length c] 381)) := (Below.refl _ _).alloc (Nat.le_refl _) _;have hget := Lim.limbs_getD n 0
 by_cases hn : n < 18446744073709551616
 ·have hlen : (Lim.limbs n).length ≤ 1 := Lim.limbs_length_le (by simpa using hn);have hgt : ¬ (1 < ((Lim.limbs n).length : Int)) := by omega
  have hw : wordE n = .returned (.tuple #[.int .u64 (n : Int), .bool true]) := if_pos hn;rw [hw];have HC := Lib.hid (word_any a _ c (Lim.limbs n) 0 _ (h.below hb0) (by omega) (by omega));clear hw h;go_enter Tryz.func256, Tryz.ntmps256;go_wp2_with fail;refine (HC.out).mono ?_;rintro e w1 ⟨rfl, hb⟩;obtain ⟨_, hbw, _⟩ := after1 hb;have hg : (Lim.limbs n).getD (Int.toNat 0) 0 = n := by rw [show Int.toNat 0 = 0 from rfl, hget, Nat.pow_zero, Nat.div_one, Nat.mod_eq_of_lt hn]
  rw [hg];go_wp2;exact bodyPost_ret (v := .tuple #[.int .u64 (n : Int), .bool true]) (by simp [results, Tryz.results256, go_sem]) rfl ⟨rfl, hbw⟩
 ·have hlen : ¬ (Lim.limbs n).length ≤ 1 := fun hle => hn (by have := Lim.lt_of_limbs_length hle; simpa using this)
  have hgt : 1 < ((Lim.limbs n).length : Int) := by omega
  have hw : wordE n = .returned (.tuple #[.int .u64 0, .bool false]) := if_neg hn;rw [hw];clear hw h;go_enter Tryz.func256, Tryz.ntmps256;go_wp2;exact bodyPost_ret (v := .tuple #[.int .u64 0, .bool false]) (by simp [results, Tryz.results256, go_sem]) rfl ⟨rfl, hb0⟩
end Go.Proofs.YtakkmiomhackiaaGreatDoor
