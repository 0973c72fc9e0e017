/-
  The program, one part of its walk: Wd4, Wd5, Wd6. Conditions: none.
-/
import Derived.Test.YtakkmiomhackiaaGreatDoorPa04
import Derived.Deep.RegionHeld3
import Derived.Test.YtakkmiomhackiaaGreatDoorPa00
set_option linter.all false
set_option maxRecDepth 100000
set_option maxHeartbeats 16000000
open Go.Proofs.Tryz
namespace Go.Proofs.YtakkmiomhackiaaGreatDoor
open Go.RowKit
theorem twice_step {v P mo x s q t more : Nat} (h : v + P * mo = 2 * t + more) (h2 : s + 18446744073709551616 * q = 2 * x + mo) : v + P * s + P * 18446744073709551616 * q = 2 * (t + P * x) + more := by
 rw [Nat.mul_assoc P, Nat.add_assoc, ← Nat.mul_add, h2, Nat.mul_add, Nat.mul_add, Nat.mul_left_comm]; omega
theorem or_word (x c : Nat) (hx : x < 18446744073709551616) (hc : c ≤ 1) : ∃ s : Nat, bits BinOp.or IntKind.u64 (IntKind.u64.wrap ((x : Int) * 2)) (c : Int) = s ∧ s < 18446744073709551616 ∧ s + 18446744073709551616 * (x / 9223372036854775808) = 2 * x + c := by
 have hw : IntKind.u64.wrap ((x : Int) * 2) = ((2 * (x % 9223372036854775808) : Nat) : Int) := by
  rw [IntKind.wrap_u64]; omega
 have hor : 2 * (x % 9223372036854775808) ||| c = 2 * (x % 9223372036854775808) + c := (Nat.two_pow_add_eq_or_of_lt (i := 1) (by omega) (x % 9223372036854775808)).symm
 refine ⟨2 * (x % 9223372036854775808) + c, ?_, by omega, by omega⟩;rw [hw, bits_or_u64_nat _ _ (by omega) (by omega), hor]
theorem twice_any (a : Option Addr) (k c n : Nat) (b : Bool) (w : World) (h : Wds w (.slice a k c) (Lim.limbs n)) (hl : (Lim.limbs n).length ≤ 4294967295) :
 Calls prog 275 #[.agg #[.slice a k c], .bool b] w fun e w' => RetNat w (2 * n + b.toNat) e w' := by
 obtain ⟨va, vc, he⟩ := Row.shape h;injection he with h1 h2 h3
 subst h1 h2 h3;obtain ⟨i0, z0, hi0, hz0, hsz0, hby0, hzs0⟩ := elemW.2;generalize hL : Lim.limbs n = l at *;have hsm : Lim.Small l := hL ▸ Lim.small_limbs n;have hvl : Lim.val l = n := hL ▸ Lim.val_limbs n;have HVL := hZ hvl;clear hL hvl;have hby : i0.bytes * (l.length + 1) ≤ 281474976710656 := by rw [hby0]; omega
 obtain ⟨more, hmoe, hmo⟩ : ∃ m : Nat, b.toNat = m ∧ m ≤ 1 := ⟨b.toNat, rfl, by cases b <;> decide⟩;have HMO := hZ hmoe;rw [hmoe];clear hmoe;cases b
 all_goals
  go_enter func275, ntmps275
  go_wp2_with (at_make; refine wpList_make_own _ rfl _ _ 379 rfl (w.heap.size + 2) 30 i0 z0 1 underlying379 hi0 hz0 hsz0 _ _ _ (l.length + 1) rfl rfl ?_ hby ?_ ?_ ?_)
  ·omega
  ·unfold maxLen; omega
  ·simp
  intro w1 hown hgrow;obtain ⟨g1, g2, hbw, hsz⟩ := after2 ((Below.refl _ _).grown hgrow (Nat.le_refl _) (fun k e => by cases e));have hc1 := cell_of_one g1;have G1 := hZ g1;have G2 := hZ g2;have HO : Hid (Row (w.heap.size + 2) 30 encW w1 (.slice (some ⟨w.heap.size + 1 + 1, 0, none⟩) 0 (l.length + 1)) []) := hown;clear hown hgrow g1 g2;go_wp2_with fail
  go_loopw [5, 18, 6, 8] (fun o i m _ wr => ∃ (k mo : Nat) (r : List Nat), k ≤ l.length ∧ i = .int .i64 k ∧ m = .int .u64 mo ∧ mo ≤ 1 ∧ Row (w.heap.size + 2) 30 encW wr o r ∧ Below (w.heap.size + 2) w1 wr ∧ r.length = k ∧ Lim.Small r ∧
   Lim.val r + 18446744073709551616 ^ k * mo = 2 * Lim.val (l.take k) + more) (fun _ i _ _ _ => l.length - (intOf i).toNat)
  case atStart => exact ⟨0, more, [], Nat.zero_le _, rfl, by rw [← HMO.out]; rfl, hmo, HO.out, Below.refl _ _, rfl, (fun x hx => by cases hx), by simp [Lim.val]⟩
  case round =>
   obtain ⟨k, mo, r, hk, rfl, rfl, hmo', hrow, hbel, hr, hsr, hval⟩ := hrel;have HV := hZ hval;have HR := hZ hr;clear hval hr;have hszr : w.heap.size + 2 ≤ wr.heap.size := Nat.le_trans hsz hbel.size
   by_cases hlt : k < l.length
   ·rcases Wds.cases h with ⟨_, hn⟩ | ⟨g, cap, he, hg, _, _, hcell⟩
    ·subst hn; simp at hlt
    ·injection he with h1 h2 h3
     subst h1 h3;have hx : l.getD k 0 < 18446744073709551616 := hsm _ (by rw [List.getD, List.getElem?_eq_getElem hlt]; exact List.getElem_mem _);have hcl : wr.cell? ⟨g, k, none⟩ = some (.int .u64 (l.getD k 0 : Nat)) := (hbel.cell (by simp; omega)).trans ((hbw.cell hg).trans (hcell k hlt));clear hcell;have ht := val_take_succ hlt;generalize hX : l.getD k 0 = x at *;have HT := hZ ht;have HX := hZ hX;clear ht hX h2;obtain ⟨s, hor, hs2, hsum⟩ := or_word x mo hx hmo';have HS := hZ hsum;clear hsum;have hb2 : Below (w.heap.size + 2) w1 (wr.alloc (.cells #[.int .u64 s] 30)) := hbel.alloc hszr _
     go_wp2_with (at_builtin; refine append_one elemW rfl _ _ rfl rfl (hrow.alloc _) ⟨wr.heap.size, 0, none⟩ 1 s rfl ?_ rfl ?_ ?_ ?_ ?_)
     ·simp
     ·have := HR.out; omega
     ·have := HR.out; unfold maxLen; omega
     ·simp; omega
     intro b cap w2 hrow2 hgrow2;have hb3 : Below (w.heap.size + 2) w1 w2 := hb2.grown hgrow2 (by simp; omega) (fun k hk => (hrow.lt k hk).1);have HR2 := hZ hrow2;clear hrow2 hgrow2 hrow;go_wp2
     go_roundw
     case rel =>
      refine ⟨k + 1, x / 9223372036854775808, r ++ [s], by omega, by go_num, by go_num, by omega, HR2.out, hb3, by simp [HR.out], Lim.small_append.2 ⟨hsr, fun y hy => by simp at hy; omega⟩, ?_⟩;rw [HT.out, Lim.val_append, HR.out, Nat.pow_succ];simp only [Lim.val, Nat.mul_zero, Nat.add_zero];exact twice_step HV.out HS.out
     case measure => simp [intOf]; omega
   ·have hkl : k = l.length := by omega
    have hfin : Lim.val (r ++ [mo]) = 2 * n + more := by
     have := HV.out;rw [hkl, List.take_length, HVL.out] at this;rw [Lim.val_append, HR.out, hkl]
     simpa [Lim.val] using this
    have HF := hZ hfin;have HK := hZ hkl;clear hfin hkl;have hb2 : Below (w.heap.size + 2) w1 (wr.alloc (.cells #[.int .u64 mo] 30)) := hbel.alloc hszr _
    go_wp2_with (at_builtin; refine append_one elemW rfl _ _ rfl rfl (hrow.alloc _) ⟨wr.heap.size, 0, none⟩ 1 mo rfl ?_ rfl ?_ ?_ ?_ ?_)
    ·simp
    ·have := HR.out; omega
    ·have := HR.out; unfold maxLen; omega
    ·simp; omega
    intro b cap w2 hrow2 hgrow2;have hb3 : Below (w.heap.size + 2) w1 w2 := hb2.grown hgrow2 (by simp; omega) (fun k hk => (hrow.lt k hk).1);have HR2 := hZ hrow2;clear hrow2 hgrow2 hrow;have g4 : w2.heap[w.heap.size + 1]? = some (.cells #[.slice none 0 0] 381 (0, 0)) := (hb3.block _ (by omega)).trans G2.out;have hbww : Below w.heap.size w w2 := hbw.trans (hb3.mono (by omega));go_wp2_with fail;refine (made_any _ (r ++ [mo]) _ (Lim.small_append.2 ⟨hsr, fun y hy => by simp at hy; omega⟩) (HR2.out.base (Nat.zero_le _))).mono ?_;rintro e w3 ⟨a3, k3, c3, rfl, hm, hb33⟩;rw [HF.out] at hm;have g5 := keep g4 hb33;have hc5 := cell_of_one g5;have hf5 := free_of_one g5;have hbf := chain hbww hb33;have HM := hZ hm;clear hm g4 hb3;go_wp2;exact bodyPost_ret (v := .agg #[.slice a3 k3 c3]) (by simp [results, results275, go_sem, hc5]) rfl ⟨a3, k3, c3, rfl, HM.out.set g5 (by decide) _ _, hbf.setCell (by simp) _⟩
def cmpI (n m : Nat) : Int := if n < m then -1 else if m < n then 1 else 0
theorem cmp_step {n m k : Nat} (h : n / 18446744073709551616 ^ (k + 1) = m / 18446744073709551616 ^ (k + 1)) :
 (n / 18446744073709551616 ^ k % 18446744073709551616 < m / 18446744073709551616 ^ k % 18446744073709551616 → n < m) ∧
 (m / 18446744073709551616 ^ k % 18446744073709551616 < n / 18446744073709551616 ^ k % 18446744073709551616 → m < n) ∧
 (n / 18446744073709551616 ^ k % 18446744073709551616 = m / 18446744073709551616 ^ k % 18446744073709551616 → n / 18446744073709551616 ^ k = m / 18446744073709551616 ^ k) := by
 rw [Nat.pow_succ, ← Nat.div_div_eq_div_mul, ← Nat.div_div_eq_div_mul] at h;have a1 : m ≤ n → m / 18446744073709551616 ^ k ≤ n / 18446744073709551616 ^ k := fun h => Nat.div_le_div_right h
 have a2 : n ≤ m → n / 18446744073709551616 ^ k ≤ m / 18446744073709551616 ^ k := fun h => Nat.div_le_div_right h
 generalize n / 18446744073709551616 ^ k = N at *;generalize m / 18446744073709551616 ^ k = M at *;refine ⟨fun h1 => ?_, fun h1 => ?_, fun h1 => by omega⟩
 ·rcases Nat.lt_or_ge n m with h2 | h2
  ·exact h2
  ·have := a1 h2; omega
 ·rcases Nat.lt_or_ge m n with h2 | h2
  ·exact h2
  ·have := a2 h2; omega
theorem word_is (a : Option Addr) (k c : Nat) (n x : Nat) (i : Nat) (w : World) (h : Wds w (.slice a k c) (Lim.limbs n)) (hm : (i : Int) ≤ 4294967296) (hx : n / 18446744073709551616 ^ i % 18446744073709551616 = x) : Calls prog 278 #[.agg #[.slice a k c], .int .i64 i] w fun e w' =>
 e = .returned (.int .u64 (x : Int)) ∧ Below w.heap.size w w' := by
 have := word_any a k c (Lim.limbs n) i w h (by omega) hm;rw [Int.toNat_natCast, Lim.limbs_getD, hx] at this;exact this
theorem cmp_any (a a' : Option Addr) (k k' c c' n m : Nat) (w : World) (h : Wds w (.slice a k c) (Lim.limbs n)) (h' : Wds w (.slice a' k' c') (Lim.limbs m)) (hl : (Lim.limbs n).length ≤ 4294967295) (hl' : (Lim.limbs m).length ≤ 4294967295) :
 Calls prog 276 #[.agg #[.slice a k c], .agg #[.slice a' k' c']] w fun e w' => e = .returned (.int .i64 (cmpI n m)) ∧ Below w.heap.size w w' := by
 obtain ⟨va, vc, he⟩ := Row.shape h;injection he with h1 h2 h3
 subst h1 h2 h3;obtain ⟨va', vc', he⟩ := Row.shape h';injection he with h1 h2 h3
 subst h1 h2 h3
 have hz : n / 18446744073709551616 ^ (max (Lim.limbs n).length (Lim.limbs m).length) = m / 18446744073709551616 ^ (max (Lim.limbs n).length (Lim.limbs m).length) := by
  rw [Nat.div_eq_of_lt (Lim.lt_of_limbs_length (Nat.le_max_left _ _)), Nat.div_eq_of_lt (Lim.lt_of_limbs_length (Nat.le_max_right _ _))]
 have HZ := hZ hz;clear hz;have hb0 : Below w.heap.size w ((w.alloc (.cells #[.slice a (Lim.limbs n).length c] 381)).alloc (.cells #[.slice a' (Lim.limbs m).length c'] 381)) := ((Below.refl _ _).alloc (Nat.le_refl _) _).alloc (by simp) _;have H := hZ h;have H' := hZ h';clear h h';generalize hL : (Lim.limbs n).length = L at *;generalize hL' : (Lim.limbs m).length = L' at *;have HL := hZ hL;have HL' := hZ hL';clear hL hL';go_enter func276, ntmps276;go_wp2_with fail
 go_loopw [5, 6, 7] (fun i _ _ wr => ∃ (k : Nat), k ≤ max L L' ∧ i = .int .i64 ((k : Int) - 1) ∧ n / 18446744073709551616 ^ k = m / 18446744073709551616 ^ k ∧ Below w.heap.size w wr ∧
  wr.heap[w.heap.size]? = some (.cells #[.slice a L c] 381 (0, 0)) ∧ wr.heap[w.heap.size + 1]? = some (.cells #[.slice a' L' c'] 381 (0, 0))) (fun i _ _ _ => (intOf i + 1).toNat)
 case atStart => exact ⟨max L L', Nat.le_refl _, by simp; omega, HZ.out, hb0, (Below.heap_alloc _ _ _ (by simp)).trans (heap_alloc_new w _), by simpa using heap_alloc_new (w.alloc (.cells #[.slice a L c] 381)) (.cells #[.slice a' L' c'] 381)⟩
 case round =>
  obtain ⟨k, hk, rfl, hq, hbel, g1, g2⟩ := hrel;have hc1 := cell_of_one g1;have hc2 := cell_of_one g2;have HQ := hZ hq;clear hq;have hlt1 : w.heap.size < wr.heap.size := lt_of_block g1;have hlt2 : w.heap.size + 1 < wr.heap.size := lt_of_block g2;rcases Nat.eq_zero_or_pos k with rfl | hkp
  ·have hnm : cmpI n m = 0 := by have := HQ.out; simp at this; subst this; simp [cmpI]
   have HN := hZ hnm;clear hnm;simp only [Int.natCast_zero] at *;go_wp2_with fail;go_ret;rw [HN.out];exact ⟨rfl, hbel⟩
  ·obtain ⟨j, rfl⟩ : ∃ j, k = j + 1 := ⟨k - 1, by omega⟩;have e1 : ((j + 1 : Nat) : Int) - 1 = (j : Int) := by omega
   rw [e1];clear e1;have hj64 : (j : Int) ≤ 4294967296 := by omega
   have HW : Hid (∀ wx, Below w.heap.size w wx → Wds wx (.slice a L c) (Lim.limbs n) ∧ Wds wx (.slice a' L' c') (Lim.limbs m)) := fun wx hx => ⟨H.out.below hx, H'.out.below hx⟩
   have hst := cmp_step HQ.out;obtain ⟨x, hx⟩ : ∃ x, n / 18446744073709551616 ^ j % 18446744073709551616 = x := ⟨_, rfl⟩;obtain ⟨y, hy⟩ : ∃ y, m / 18446744073709551616 ^ j % 18446744073709551616 = y := ⟨_, rfl⟩;rw [hx, hy] at hst;have HX := hZ hx;have HY := hZ hy;have HST := hZ hst;clear hx hy hst;have G1 := hZ g1;have G2 := hZ g2;clear g1 g2 hb0;go_wp2_with fail
   go_region_held3 (fun w' => w'.cell? ⟨w.heap.size, 0, none⟩ = some (.slice a L c) ∧ w'.cell? ⟨w.heap.size + 1, 0, none⟩ = some (.slice a' L' c')) (first | exact ⟨hx1, hx2⟩ | exact ⟨hy1, hy2⟩ | go_keep)
    (first | (go_at_call 278; (with_reducible refine (word_is a L c n x j _ (HW.out _ hbel.drew).1 hj64 HX.out).mono ?_); rintro e wx ⟨rfl, hbx⟩; have hx1 := (hbx.cell (p := ⟨w.heap.size, 0, none⟩) (by simpa using hlt1)).trans hc1; have hx2 := (hbx.cell (p := ⟨w.heap.size + 1, 0, none⟩) (by simpa using hlt2)).trans hc2) | (go_at_call 278; (with_reducible refine (word_is a' L' c' m y j _ (HW.out _ (chain hbel.drew hbx)).2 hj64 HY.out).mono ?_); rintro e wy ⟨rfl, hby⟩; have hy1 := (hby.cell (p := ⟨w.heap.size, 0, none⟩) (by simpa using Nat.lt_of_lt_of_le hlt1 hbx.size)).trans hx1; have hy2 := (hby.cell (p := ⟨w.heap.size + 1, 0, none⟩) (by simpa using Nat.lt_of_lt_of_le hlt2 hbx.size)).trans hx2))
   have hbf := chain (chain hbel.drew hbx) hby;have HG1 := hZ (keep (keep (w1 := wr.drew) G1.out hbx) hby);have HG2 := hZ (keep (keep (w1 := wr.drew) G2.out hbx) hby);clear hbx hby hx1 hx2 hy1 hy2 hc1 hc2 hbel;rcases Nat.lt_trichotomy x y with hxy | hxy | hxy
   ·have hnm : cmpI n m = -1 := by unfold cmpI; rw [if_pos (HST.out.1 hxy)]
    have HN := hZ hnm;clear hnm;go_wp2;go_ret;rw [HN.out];exact ⟨rfl, hbf⟩
   ·subst hxy;go_wp2
    go_roundw
    case rel => exact ⟨j, by omega, rfl, HST.out.2.2 rfl, hbf, HG1.out, HG2.out⟩
    case measure => simp [intOf]
   ·have hnm : cmpI n m = 1 := by unfold cmpI; rw [if_neg (by have := HST.out.2.1 hxy; omega), if_pos (HST.out.2.1 hxy)]
    have HN := hZ hnm;clear hnm;go_wp2;go_ret;rw [HN.out];exact ⟨rfl, hbf⟩
theorem mod_succ (n k : Nat) : n % 18446744073709551616 ^ (k + 1) = n % 18446744073709551616 ^ k + 18446744073709551616 ^ k * (n / 18446744073709551616 ^ k % 18446744073709551616) := Nat.mod_pow_succ
theorem sub_step {v P x y s b b' q t : Nat} (h : v + q = t + P * b) (h2 : s + y + b = x + 18446744073709551616 * b') : (v + P * s) + (q + P * y) = (t + P * x) + P * 18446744073709551616 * b' := by
 have e : P * s + P * y + P * b = P * x + P * (18446744073709551616 * b') := by rw [← Nat.mul_add, ← Nat.mul_add, ← Nat.mul_add, h2]
 rw [Nat.mul_assoc P]; omega
def RetNatF (w : World) (n : Nat) (e : Ending) (w' : World) : Prop := ∃ a k c, e = .returned (.tuple #[.agg #[.slice a k c], .nilIface]) ∧ Row w.heap.size 30 encW w' (.slice a k c) (Lim.limbs n) ∧ Below w.heap.size w w'
theorem sub_any (a a' : Option Addr) (k k' c c' n m : Nat) (w : World) (h : Wds w (.slice a k c) (Lim.limbs n)) (h' : Wds w (.slice a' k' c') (Lim.limbs m)) (hl : (Lim.limbs n).length ≤ 4294967295) (hl' : (Lim.limbs m).length ≤ 4294967295) (hnm : m ≤ n) :
 Calls prog 277 #[.agg #[.slice a k c], .agg #[.slice a' k' c']] w fun e w' => RetNatF w (n - m) e w' := by
 obtain ⟨va, vc, he⟩ := Row.shape h;injection he with h1 h2 h3
 subst h1 h2 h3;obtain ⟨va', vc', he⟩ := Row.shape h';injection he with h1 h2 h3
 subst h1 h2 h3;have hb0 : Below w.heap.size w (((w.alloc (.cells #[.slice a (Lim.limbs n).length c] 381)).alloc (.cells #[.slice a' (Lim.limbs m).length c'] 381)).alloc (.cells #[.slice none 0 0] 381)) := (((Below.refl _ _).alloc (Nat.le_refl _) _).alloc (by simp) _).alloc (by simp; omega) _;have hcmp : cmpI n m = 0 ∨ cmpI n m = 1 := by unfold cmpI; rw [if_neg (by omega)]; split <;> simp
 obtain ⟨z, hz, hz0⟩ : ∃ z, cmpI n m = z ∧ 0 ≤ z := ⟨_, rfl, by omega⟩;have HZ := hZ hz;clear hz hcmp;have HC := cmp_any a a' _ _ c c' n m _ (h.below hb0) (h'.below hb0) hl hl';rw [HZ.out] at HC;have H := hZ h;have H' := hZ h';have hcells := h.cases;have HCS := hZ hcells;clear h h' hcells;have hnB := Lim.lt_of_limbs_length (n := n) (Nat.le_refl _);have HNB := hZ hnB;clear hnB;have hget : ∀ i, (Lim.limbs n).getD i 0 = n / 18446744073709551616 ^ i % 18446744073709551616 := Lim.limbs_getD n;have HGET := hZ hget;clear hget;generalize hL : Lim.limbs n = l at *;have hsm : Lim.Small l := hL ▸ Lim.small_limbs n;generalize hL2 : (Lim.limbs m).length = L' at *;clear hL hL2;have HCC := hZ HC;clear HC;go_enter func277, ntmps277;go_wp2_with fail;refine (HCC.out).mono ?_;rintro e w1 ⟨rfl, hb⟩;obtain ⟨g1, g2, g3, hbw, hsz⟩ := after3 hb;have hc1 := cell_of_one g1;have hc2 := cell_of_one g2;have G1 := hZ g1;have G2 := hZ g2;have G3 := hZ g3;clear g1 g2 g3 hb0;go_wp2_with fail
 go_loopw [19, 6, 7, 8, 9] (fun i o b _ _ wr => ∃ (k bo : Nat) (r : List Nat), k ≤ l.length ∧ i = .int .i64 k ∧ b = .int .u64 bo ∧ bo ≤ 1 ∧ Row (w.heap.size + 3) 30 encW wr o r ∧ Below (w.heap.size + 3) w1 wr ∧ r.length = k ∧ Lim.Small r ∧
  Lim.val r + m % 18446744073709551616 ^ k = n % 18446744073709551616 ^ k + 18446744073709551616 ^ k * bo) (fun i _ _ _ _ _ => l.length - (intOf i).toNat)
 case atStart => exact ⟨0, 0, [], Nat.zero_le _, rfl, rfl, by omega, Row.nil _ _ _ _, Below.refl _ _, rfl, (fun x hx => by cases hx), by simp [Lim.val]; omega⟩
 case round =>
  obtain ⟨k, bo, r, hk, rfl, rfl, hbo, hrow, hbel, hr, hsr, hval⟩ := hrel;have HV := hZ hval;have HR := hZ hr;clear hval hr;have hszr : w.heap.size + 3 ≤ wr.heap.size := Nat.le_trans hsz hbel.size;have hc1 := cell_of_one ((hbel.block _ (by omega)).trans G1.out);have hc2 := cell_of_one ((hbel.block _ (by omega)).trans G2.out)
  by_cases hlt : k < l.length
  ·rcases HCS.out with ⟨_, hn⟩ | ⟨g, cap, he, hg, _, _, hcell⟩
   ·subst hn; simp at hlt
   ·injection he with h1 h2 h3
    subst h1 h3;have hx : l.getD k 0 < 18446744073709551616 := hsm _ (by rw [List.getD, List.getElem?_eq_getElem hlt]; exact List.getElem_mem _);have hcl : wr.cell? ⟨g, k, none⟩ = some (.int .u64 (l.getD k 0 : Nat)) := (hbel.cell (by simp; omega)).trans ((hbw.cell hg).trans (hcell k hlt));clear hcell;have hX := HGET.out k;generalize l.getD k 0 = x at *;have HX := hZ hX;clear hX h2;obtain ⟨y, hy⟩ : ∃ y, m / 18446744073709551616 ^ k % 18446744073709551616 = y := ⟨_, rfl⟩;have hyl : y < 18446744073709551616 := hy ▸ Nat.mod_lt _ (by decide);have hwd := word_is a' L' c' m y k wr.drew (H'.out.below (hbw.trans (hbel.mono (by omega))).drew) (by omega) hy;have HWD := hZ hwd;have HY := hZ hy;clear hwd hy;obtain ⟨s, b2, hsub, hs2, hb2, hrun⟩ := bits_Sub64_ex x y bo hx hyl hbo;have HS := hZ hsub;clear hsub;go_wp2_with fail
    go_region_held3 (fun w' => w'.cell? ⟨w.heap.size, 0, none⟩ = some (.slice (some ⟨g, 0, none⟩) l.length c) ∧ w'.cell? ⟨w.heap.size + 1, 0, none⟩ = some (.slice a' L' c') ∧ w'.cell? ⟨g, k, none⟩ = some (.int .u64 (x : Int))) (first | exact ⟨hx1, hx2, hx3⟩ | go_keep)
     ((go_at_call 278; (with_reducible refine (HWD.out).mono ?_); rintro e wx ⟨rfl, hbx⟩; have hx1 := (hbx.cell (p := ⟨w.heap.size, 0, none⟩) (by simp; omega)).trans hc1; have hx2 := (hbx.cell (p := ⟨w.heap.size + 1, 0, none⟩) (by simp; omega)).trans hc2; have hx3 := (hbx.cell (p := ⟨g, k, none⟩) (by simp; omega)).trans hcl))
    have hrowx : Row (w.heap.size + 3) 30 encW wx _ r := Row.below (w := wr.drew) hrow.drew hbx;have hbelx : Below (w.heap.size + 3) w1 wx := hbel.drew.trans (hbx.mono hszr);have hszx : w.heap.size + 3 ≤ wx.heap.size := Nat.le_trans hszr hbx.size;clear hrow hbel hcl hc1 hc2;have hb22 : Below (w.heap.size + 3) w1 (wx.alloc (.cells #[.int .u64 s] 30)) := hbelx.alloc hszx _
    go_wp2_with (at_builtin; refine append_one elemW rfl _ _ rfl rfl (hrowx.alloc _) ⟨wx.heap.size, 0, none⟩ 1 s rfl ?_ rfl ?_ ?_ ?_ ?_)
    ·simp
    ·have := HR.out; omega
    ·have := HR.out; unfold maxLen; omega
    ·simp; omega
    intro b cap w2 hrow2 hgrow2;have hb3 : Below (w.heap.size + 3) w1 w2 := hb22.grown hgrow2 (by simp; omega) (fun k hk => (hrowx.lt k hk).1);have HR2 := hZ hrow2;clear hrow2 hgrow2 hrowx;go_wp2
    go_roundw
    case rel =>
     refine ⟨k + 1, b2, r ++ [s], by omega, by go_num, rfl, hb2, HR2.out, hb3, by simp [HR.out], Lim.small_append.2 ⟨hsr, fun y hy => by simp at hy; omega⟩, ?_⟩;rw [mod_succ n k, mod_succ m k, ← HX.out, HY.out, Lim.val_append, HR.out, Nat.pow_succ];simp only [Lim.val, Nat.mul_zero, Nat.add_zero];exact sub_step HV.out HS.out
    case measure => simp [intOf]; omega
  ·have hkl : k = l.length := by omega
   have hfin : Lim.val r = n - m := by
    have h1 := HV.out;have h2 := Lim.val_lt hsr;have h3 := HNB.out;rw [HR.out] at h2;rw [hkl] at h1 h2;rw [Nat.mod_eq_of_lt h3, Nat.mod_eq_of_lt (by omega)] at h1
    have : bo = 0 := by
     rcases (by omega : bo = 0 ∨ bo = 1) with h | h
     ·exact h
     ·subst h; omega
    subst this; omega
   have HF := hZ hfin;clear hfin hkl;have g4 := (hbel.block _ (by omega)).trans G3.out;have hbww : Below w.heap.size w wr := hbw.trans (hbel.mono (by omega));go_wp2_with fail;refine (made_base w.heap.size _ r _ hsr (hrow.base (by omega))).mono ?_;rintro e w3 ⟨a3, k3, c3, rfl, hm, hb33⟩;rw [HF.out] at hm;have g5 := keep g4 hb33;have hc5 := cell_of_one g5;have hf5 := free_of_one g5;have hbf := chain hbww hb33;have HM := hZ hm;clear hm g4 hbel hrow;go_wp2;exact bodyPost_ret (v := .tuple #[.agg #[.slice a3 k3 c3], .nilIface]) (by simp [results, results277, go_sem, hc5]) rfl ⟨a3, k3, c3, rfl, HM.out.set g5 (by decide) _ _, hbf.setCell (by simp; omega) _⟩
theorem pow64 {k : Nat} (hk : k < 64) : (18446744073709551616 : Nat) = 2 ^ (64 - k) * 2 ^ k := by
 rw [← Nat.pow_add, Nat.sub_add_cancel (by omega)]
theorem or0 (y : Nat) (hy : y < 18446744073709551616) : bits BinOp.or IntKind.u64 0 (y : Int) = y := by
 have := bits_or_u64_nat 0 y (by decide) hy
 simpa using this
theorem shl_hi {x k : Nat} (hx : x < 18446744073709551616) (hk : k < 64) : bits BinOp.or IntKind.u64 0 ((x : Int) / 2 ^ (64 - k)) = ((x * 2 ^ k / 18446744073709551616 : Nat) : Int) := by
 have e2 : x * 2 ^ k / 18446744073709551616 = x / 2 ^ (64 - k) := by
  rw [pow64 hk]; exact Nat.mul_div_mul_right _ _ (Nat.two_pow_pos k)
 have e3 : ((x : Int) / 2 ^ (64 - k)) = ((x / 2 ^ (64 - k) : Nat) : Int) := by simp
 rw [e2, e3, or0 _ (Nat.lt_of_le_of_lt (Nat.div_le_self _ _) hx)]
theorem shl_lo (x k : Nat) : IntKind.u64.wrap ((x : Int) * 2 ^ k) = ((x * 2 ^ k % 18446744073709551616 : Nat) : Int) := by
 have e : (x : Int) * 2 ^ k = ((x * 2 ^ k : Nat) : Int) := by simp
 rw [IntKind.wrap_u64, e]; generalize x * 2 ^ k = y; omega
theorem shr_lo {h x k : Nat} (hh : h < 18446744073709551616) (hx : x < 18446744073709551616) (hk : k < 64) :
 bits BinOp.or IntKind.u64 ((x : Int) / 2 ^ k) (IntKind.u64.wrap ((h : Int) * 2 ^ (64 - k))) = (((h * 18446744073709551616 + x) / 2 ^ k % 18446744073709551616 : Nat) : Int) := by
 rw [shl_lo];have e3 : ((x : Int) / 2 ^ k) = ((x / 2 ^ k : Nat) : Int) := by simp
 have hp : 0 < 2 ^ k := Nat.two_pow_pos k;have hxk : x / 2 ^ k < 2 ^ (64 - k) := Nat.div_lt_of_lt_mul (by rw [Nat.mul_comm, ← pow64 hk]; exact hx)
 have e4 : h * 2 ^ (64 - k) % 18446744073709551616 = 2 ^ (64 - k) * (h % 2 ^ k) := by
  rw [pow64 hk, Nat.mul_comm h, Nat.mul_mod_mul_left]
 have e5 : (h * 18446744073709551616 + x) / 2 ^ k = h * 2 ^ (64 - k) + x / 2 ^ k := by
  rw [pow64 hk, ← Nat.mul_assoc, Nat.add_comm, Nat.add_mul_div_right _ _ hp, Nat.add_comm]
 have e6 : (h * 2 ^ (64 - k) + x / 2 ^ k) % 18446744073709551616 = 2 ^ (64 - k) * (h % 2 ^ k) + x / 2 ^ k := by
  rw [Nat.add_mod, e4, Nat.mod_eq_of_lt (a := x / 2 ^ k) (Nat.lt_of_le_of_lt (Nat.div_le_self _ _) hx), Nat.mod_eq_of_lt];have h1 : h % 2 ^ k + 1 ≤ 2 ^ k := Nat.mod_lt _ hp;have h2 := Nat.mul_le_mul_left (2 ^ (64 - k)) h1;rw [← pow64 hk, Nat.mul_add, Nat.mul_one] at h2;omega
 have e7 : x / 2 ^ k ||| 2 ^ (64 - k) * (h % 2 ^ k) = 2 ^ (64 - k) * (h % 2 ^ k) + x / 2 ^ k := by
  rw [Nat.or_comm]; exact (Nat.two_pow_add_eq_or_of_lt hxk (h % 2 ^ k)).symm
 rw [e3, bits_or_u64_nat _ _ (Nat.lt_of_le_of_lt (Nat.div_le_self _ _) hx) (Nat.mod_lt _ (by decide)), e4, e5, e6, e7]
theorem pshl_any (x k : Nat) (w : World) (hx : x < 18446744073709551616) (hk : k < 64) : Calls prog 274 #[.agg #[.int .u64 0, .int .u64 x], .int .i64 k] w fun e w' =>
 e = .returned (.agg #[.int .u64 (x * 2 ^ k / 18446744073709551616 : Nat), .int .u64 (x * 2 ^ k % 18446744073709551616 : Nat)]) ∧ Below w.heap.size w w' := by
 have hmin : min (k : Int) 128 = k := by omega
 have H1 := hZ (shl_hi hx hk);have H2 := hZ (shl_lo x k);go_enter func274, ntmps274;go_wp2;refine bodyPost_ret (v := .agg #[.int .u64 (x * 2 ^ k / 18446744073709551616 : Nat), .int .u64 (x * 2 ^ k % 18446744073709551616 : Nat)]) ?_ rfl ⟨rfl, ((Below.refl _ _).alloc (Nat.le_refl _) _).alloc (by simp) _⟩;simp only [results, results274];rw [H1.out];simp [go_sem, H2.out]
theorem pshr_any (h x k : Nat) (w : World) (hh : h < 18446744073709551616) (hx : x < 18446744073709551616) (hk : k < 64) : Calls prog 279 #[.agg #[.int .u64 h, .int .u64 x], .int .i64 k] w fun e w' =>
 (∃ h' : Nat, e = .returned (.agg #[.int .u64 h', .int .u64 ((h * 18446744073709551616 + x) / 2 ^ k % 18446744073709551616 : Nat)])) ∧ Below w.heap.size w w' := by
 have hmin : min (k : Int) 128 = k := by omega
 have H1 := hZ (shr_lo hh hx hk);go_enter func279, ntmps279;go_wp2;refine bodyPost_ret (v := .agg #[.int .u64 (h / 2 ^ k : Nat), .int .u64 ((h * 18446744073709551616 + x) / 2 ^ k % 18446744073709551616 : Nat)]) ?_ rfl ⟨⟨_, rfl⟩, ((Below.refl _ _).alloc (Nat.le_refl _) _).alloc (by simp) _⟩;simp only [results, results279];rw [H1.out];simp [go_sem]
theorem val_zeros (q : Nat) (r : List Nat) : Lim.val (List.replicate q 0 ++ r) = 18446744073709551616 ^ q * Lim.val r := by
 have h0 : Lim.val (List.replicate q 0) = 0 := by
  induction q with
  | zero => rfl
  | succ q ih => simp [List.replicate_succ, Lim.val, ih]
 rw [Lim.val_append, h0, List.length_replicate, Nat.zero_add]
theorem small_zeros (q : Nat) : Lim.Small (List.replicate q 0) := fun x hx => by rw [(List.mem_replicate.1 hx).2]; decide
theorem shl_word {x s mo : Nat} (hx : x < 18446744073709551616) (hs : s < 64) (hmo : mo < 2 ^ s) : ∃ lo hi : Nat, x * 2 ^ s / 18446744073709551616 = hi ∧ hi < 2 ^ s ∧ hi < 18446744073709551616 ∧ lo < 18446744073709551616 ∧
 bits BinOp.or IntKind.u64 ((x * 2 ^ s % 18446744073709551616 : Nat) : Int) (mo : Int) = (lo : Int) ∧ lo + 18446744073709551616 * hi = x * 2 ^ s + mo := by
 have hp := Nat.two_pow_pos s
 have h64 : 2 ^ s < 18446744073709551616 := by
  have h1 : 2 ^ 1 ≤ 2 ^ (64 - s) := Nat.pow_le_pow_right (by decide) (by omega);have h2 := Nat.mul_le_mul_right (2 ^ s) h1;rw [← pow64 hs] at h2;omega
 have hlt : x * 2 ^ s / 18446744073709551616 < 2 ^ s := Nat.div_lt_of_lt_mul (Nat.mul_lt_mul_of_pos_right hx hp)
 have e4 : x * 2 ^ s % 18446744073709551616 = 2 ^ s * (x % 2 ^ (64 - s)) := by
  rw [pow64 hs, Nat.mul_comm x, Nat.mul_comm (2 ^ (64 - s)), Nat.mul_mod_mul_left]
 have hor : x * 2 ^ s % 18446744073709551616 ||| mo = x * 2 ^ s % 18446744073709551616 + mo := by
  rw [e4]; exact (Nat.two_pow_add_eq_or_of_lt hmo (x % 2 ^ (64 - s))).symm
 have hsum : x * 2 ^ s % 18446744073709551616 + mo < 18446744073709551616 := by
  rw [e4];have h1 : x % 2 ^ (64 - s) + 1 ≤ 2 ^ (64 - s) := Nat.mod_lt _ (Nat.two_pow_pos _);have h2 := Nat.mul_le_mul_left (2 ^ s) h1;rw [Nat.mul_comm (2 ^ s) (2 ^ (64 - s)), ← pow64 hs, Nat.mul_add, Nat.mul_one] at h2;omega
 refine ⟨x * 2 ^ s % 18446744073709551616 + mo, _, rfl, hlt, by omega, hsum, ?_, by omega⟩;rw [bits_or_u64_nat _ _ (Nat.mod_lt _ (by decide)) (by omega), hor]
theorem shl_step {v P mo x lo hi t D : Nat} (h : v + P * mo = t * D) (h2 : lo + 18446744073709551616 * hi = x * D + mo) : v + P * lo + P * 18446744073709551616 * hi = (t + P * x) * D := by
 rw [Nat.mul_assoc P, Nat.add_assoc, ← Nat.mul_add, h2, Nat.mul_add, Nat.add_mul, Nat.mul_assoc]; omega
theorem shl_any (a : Option Addr) (kk c n k : Nat) (w : World) (h : Wds w (.slice a kk c) (Lim.limbs n)) (hfit : Lim.bitlen n + k ≤ 8192) :
 Calls prog 253 #[.agg #[.slice a kk c], .int .i64 k] w fun e w' => RetNatE w (n * 2 ^ k) .nilIface e w' := by
 have hmax : max (k : Int) 0 = k := by omega
 have hb0 : Below w.heap.size w ((w.alloc (.cells #[.slice a kk c] 381)).alloc (.cells #[.slice none 0 0] 381)) := ((Below.refl _ _).alloc (Nat.le_refl _) _).alloc (by simp) _
 by_cases hn : n = 0
 ·subst hn;rw [Lim.limbs_zero] at h
  have hk0 : kk = 0 := by
   rcases h.cases with ⟨he, _⟩ | ⟨g, cap, he, _⟩
   ·injection he
   ·injection he
  subst hk0;clear h;go_enter func253, ntmps253;go_wp2;exact bodyPost_ret (v := .tuple #[.agg #[.slice none 0 0], .nilIface]) (by simp [results, results253, go_sem]) rfl ⟨none, 0, 0, rfl, by rw [Nat.zero_mul, Lim.limbs_zero]; exact Wds.nil _, hb0⟩
 ·obtain ⟨hbl, hpos⟩ := Lim.bitlen_limbs hn;obtain ⟨va, vc, he⟩ := Row.shape h;injection he with h1 h2 h3
  subst h1 h2 h3;have hlen : (Lim.limbs n).length ≤ 128 := Lim.short (k := 128) (by omega);have HLEN := hZ (len_any a _ c n _ (h.below hb0) (by omega));have HCS := hZ h.cases;have hvl : Lim.val (Lim.limbs n) = n := Lim.val_limbs n;have hsm := Lim.small_limbs n;clear h hbl;generalize hL : Lim.limbs n = l at *;have HVL := hZ hvl;clear hL hvl;obtain ⟨q, s, hqs, hs64⟩ : ∃ q s, k = 64 * q + s ∧ s < 64 := ⟨k / 64, k % 64, by omega, by omega⟩;have hkq : (k : Int) / 64 = q := by omega
  have hks : (k : Int) % 64 = s := by omega
  have hk8 : k ≤ 8192 := by omega
  have hgt : ¬ (8192 - (Lim.bitlen n : Int) < (k : Int)) := by omega
  have hq8 : q ≤ 128 := by omega
  have HQS := hZ hqs;clear hqs;generalize hBL : Lim.bitlen n = bl at *;have HBL := hZ hBL;clear hBL;have hlne : ((l.length : Int) == 0) = false := by rw [beq_eq_false_iff_ne]; omega
  go_enter func253, ntmps253;go_wp2_with fail;refine (HLEN.out).mono ?_;rintro e w1 ⟨rfl, hb⟩;obtain ⟨g1, g2, hbw, hsz⟩ := after2 hb;have hc1 := cell_of_one g1;have G1 := hZ g1;have G2 := hZ g2;clear g1 g2 hb0;have HKQ := hZ hkq
  go_wp2_with (at_make; refine make_row (B := w.heap.size + 2) (enc := encW) 0 elemZW rfl _ _ rfl _ _ _ _ q (q + l.length + 1) rfl rfl ?_ ?_ ?_ ?_ ?_ ?_ ?_)
  ·simp
  ·simp
  ·omega
  ·omega
  ·unfold maxLen; omega
  ·omega
  intro w2 hrow0 hbm;have hc12 := cell_of_one (keep G1.out hbm);have G1' := hZ (keep G1.out hbm);have G2' := hZ (keep G2.out hbm);have hbw2 := chain hbw hbm;have hsz2 : w.heap.size + 2 ≤ w2.heap.size := Nat.le_trans hsz hbm.size;have HR0 := hZ hrow0;clear hrow0 hbm hc1;go_wp2_with fail
  go_loopw [40, 6, 7, 9, 10] (fun i o m _ _ wr => ∃ (j mo : Nat) (r : List Nat), j ≤ l.length ∧ i = .int .i64 j ∧ m = .int .u64 mo ∧ mo < 2 ^ s ∧ Row (w.heap.size + 2) 30 encW wr o (List.replicate q 0 ++ r) ∧ Below (w.heap.size + 2) w2 wr ∧ r.length = j ∧ Lim.Small r ∧
   Lim.val r + 18446744073709551616 ^ j * mo = Lim.val (l.take j) * 2 ^ s) (fun i _ _ _ _ _ => l.length - (intOf i).toNat)
  case atStart => exact ⟨0, 0, [], Nat.zero_le _, rfl, rfl, Nat.two_pow_pos s, by rw [List.append_nil]; exact HR0.out, Below.refl _ _, rfl, (fun x hx => by cases hx), by simp [Lim.val]⟩
  case round =>
   obtain ⟨j, mo, r, hj, rfl, rfl, hmo, hrow, hbel, hr, hsr, hval⟩ := hrel;have HV := hZ hval;have HR := hZ hr;have HMO := hZ hmo;clear hval hr hmo;have hszr : w.heap.size + 2 ≤ wr.heap.size := Nat.le_trans hsz2 hbel.size
   by_cases hlt : j < l.length
   ·rcases HCS.out with ⟨_, hn⟩ | ⟨g, cap, he, hg, _, _, hcell⟩
    ·subst hn; simp at hlt
    ·injection he with h1 h2 h3
     subst h1 h3;have hx : l.getD j 0 < 18446744073709551616 := hsm _ (by rw [List.getD, List.getElem?_eq_getElem hlt]; exact List.getElem_mem _);have hcl : wr.cell? ⟨g, j, none⟩ = some (.int .u64 (l.getD j 0 : Nat)) := (hbel.cell (by simp; omega)).trans ((hbw2.cell hg).trans (hcell j hlt));clear hcell;have ht := val_take_succ hlt;generalize hX : l.getD j 0 = x at *;have HT := hZ ht;have HX := hZ hX;clear ht hX h2;obtain ⟨lo, hi, hhi, hhi2, hhi3, hlo, hor, hsum⟩ := shl_word hx hs64 HMO.out;have HSH := hZ (pshl_any x s wr hx hs64);rw [hhi] at HSH;generalize hLO : x * 2 ^ s % 18446744073709551616 = lo0 at *;have HS := hZ hsum;have HH2 := hZ hhi2;clear hsum hhi hLO hhi2;go_wp2_with fail;refine (HSH.out).mono ?_;rintro e wx ⟨rfl, hbx⟩;have hbx2 : Below (w.heap.size + 2) w2 wx := hbel.trans (hbx.mono hszr);have hszx : w.heap.size + 2 ≤ wx.heap.size := Nat.le_trans hszr hbx.size;have hrowx := ((hrow.below hbx).alloc (.cells #[.int .u64 hi, .int .u64 lo] 422)).alloc (.cells #[.int .u64 lo] 30);have hlen2 : (List.replicate q 0 ++ r).length ≤ 300 := by have := HR.out; simp; omega
     have hrlt := hrow.lt;clear hrow hbel hcl
     go_wp2_with (at_builtin; refine append_one elemW rfl _ _ rfl rfl hrowx ⟨wx.heap.size + 1, 0, none⟩ 1 lo rfl ?_ rfl ?_ ?_ ?_ ?_)
     ·simp
     ·omega
     ·unfold maxLen; omega
     ·simp; omega
     intro b cap w3 hrow2 hgrow2;have hb3 : Below (w.heap.size + 2) w2 w3 := ((hbx2.alloc (by omega) (.cells #[.int .u64 hi, .int .u64 lo] 422)).alloc (by simp; omega) (.cells #[.int .u64 lo] 30)).grown hgrow2 (by simp; omega) (fun k hk => (hrowx.lt k hk).1)
     have hp0 : w3.heap[wx.heap.size]? = some (.cells #[.int .u64 hi, .int .u64 lo] 422 (0, 0)) := by
      rw [hgrow2.block _ (by simp; omega) (fun e => by have := (hrlt _ e.symm).2; have := hbx.size; omega)];exact (Below.heap_alloc _ _ _ (by simp)).trans (heap_alloc_new wx _)
     have hp1 : w3.cell? ⟨wx.heap.size, 0, none⟩ = some (.int .u64 hi) := by rw [cell_at hp0]; rfl
     have HR2 := hZ hrow2;clear hrow2 hgrow2 hrowx hp0 hrlt;go_wp2
     go_roundw
     case rel =>
      refine ⟨j + 1, hi, r ++ [lo], by omega, by go_num, rfl, HH2.out, ?_, hb3, by simp [HR.out], Lim.small_append.2 ⟨hsr, fun y hy => by simp at hy; omega⟩, ?_⟩
      ·exact HR2.out
      ·rw [HT.out, Lim.val_append, HR.out, Nat.pow_succ];simp only [Lim.val, Nat.mul_zero, Nat.add_zero];exact shl_step HV.out HS.out
     case measure => simp [intOf]; omega
   ·have hjl : j = l.length := by omega
    have hmo64 : mo < 18446744073709551616 := Nat.lt_of_lt_of_le HMO.out (by
     have := Nat.pow_le_pow_right (n := 2) (by decide) (by omega : s ≤ 64); omega)
    have hfin : Lim.val (List.replicate q 0 ++ (r ++ [mo])) = n * 2 ^ k := by
     have h1 := HV.out;rw [hjl, List.take_length, HVL.out] at h1;rw [val_zeros, Lim.val_append, HR.out, hjl];simp only [Lim.val, Nat.mul_zero, Nat.add_zero];rw [h1, HQS.out, Lim.wpow, Nat.pow_add]; exact Nat.mul_left_comm _ _ _
    have HF := hZ hfin;have hlen2 : (List.replicate q 0 ++ r).length ≤ 300 := by have := HR.out; simp; omega
    clear hfin hjl;have hrowx := hrow.alloc (.cells #[.int .u64 mo] 30);have hb2 : Below (w.heap.size + 2) w2 (wr.alloc (.cells #[.int .u64 mo] 30)) := hbel.alloc hszr _;clear hrow
    go_wp2_with (at_builtin; refine append_one elemW rfl _ _ rfl rfl hrowx ⟨wr.heap.size, 0, none⟩ 1 mo rfl ?_ rfl ?_ ?_ ?_ ?_)
    ·simp
    ·omega
    ·unfold maxLen; omega
    ·simp; omega
    intro b cap w3 hrow2 hgrow2;have hb3 : Below (w.heap.size + 2) w2 w3 := hb2.grown hgrow2 (by simp; omega) (fun k hk => (hrowx.lt k hk).1);have HR2 := hZ hrow2;clear hrow2 hgrow2 hrowx;have g4 := (hb3.block _ (by omega)).trans G2'.out;have hbww : Below w.heap.size w w3 := hbw2.trans (hb3.mono (by omega));go_wp2_with fail;refine (made_any _ (List.replicate q 0 ++ (r ++ [mo])) _ (Lim.small_append.2 ⟨small_zeros q, Lim.small_append.2 ⟨hsr, fun y hy => by simp at hy; omega⟩⟩) (HR2.out.base (Nat.zero_le _))).mono ?_;rintro e w4 ⟨a3, k3, c3, rfl, hm, hb33⟩;rw [HF.out] at hm;have g5 := keep g4 hb33;have hc5 := cell_of_one g5;have hf5 := free_of_one g5;have hbf := chain hbww hb33;have HM := hZ hm;clear hm g4 hbel;go_wp2;exact bodyPost_ret (v := .tuple #[.agg #[.slice a3 k3 c3], .nilIface]) (by simp [results, results253, go_sem, hc5]) rfl ⟨a3, k3, c3, rfl, HM.out.set g5 (by decide) _ _, hbf.setCell (by simp) _⟩
end Go.Proofs.YtakkmiomhackiaaGreatDoor
