/-
  The program, one part of its walk: Dc7, Dc8. Conditions: none.
-/
import Derived.Test.YtakkmiomhackiaaGreatDoorPa19
import Derived.Test.YtakkmiomhackiaaGreatDoorPa12
import Derived.Test.YtakkmiomhackiaaGreatDoorPa13
import Derived.Test.YtakkmiomhackiaaGreatDoorPa00
set_option linter.all false
set_option maxRecDepth 100000
set_option maxHeartbeats 16000000
open Go.Proofs.Tryz
namespace Go.Proofs.YtakkmiomhackiaaGreatDoor
open Go.RowKit
theorem bitlen_mul {a b c : Nat} (h : a ≤ b * c) : Lim.bitlen a ≤ Lim.bitlen b + Lim.bitlen c := by
 rw [Lim.bitlen_le, Nat.pow_add];refine Nat.lt_of_le_of_lt h ?_;rcases Nat.eq_zero_or_pos c with h0 | h0
 ·subst h0; rw [Nat.mul_zero]; exact Nat.mul_pos (Nat.two_pow_pos _) (Nat.two_pow_pos _)
 ·exact Nat.lt_of_lt_of_le (Nat.mul_lt_mul_of_pos_right Lim.lt_bitlen h0) (Nat.mul_le_mul_left _ (Nat.le_of_lt Lim.lt_bitlen))
theorem floor_pos {v n x : Nat} (hv : v < 10 ^ n) (h : n + x ≤ 310) : Lim.bitlen (v * 10 ^ x) ≤ 1242 := by
 obtain ⟨K, hK⟩ : ∃ K : Nat, 310 = K := ⟨_, rfl⟩;rw [hK] at h;have h3 := bitlen_ten K;refine Nat.le_trans (Lim.bitlen_mono (b := 10 ^ K) ?_) (Nat.le_trans h3 (by omega));refine Nat.le_trans (Nat.mul_le_mul_right _ (Nat.le_of_lt hv)) ?_;rw [← Nat.pow_add];exact Nat.pow_le_pow_right (by decide) h
theorem floor_neg {v n x : Nat} (hv : v < 10 ^ n) (h : n ≤ 310 + x) : Lim.bitlen v ≤ Lim.bitlen (10 ^ x) + 1500 := by
 obtain ⟨K, hK⟩ : ∃ K : Nat, 310 = K := ⟨_, rfl⟩;rw [hK] at h
 have h1 : v ≤ 10 ^ x * 10 ^ K := by
  refine Nat.le_trans (Nat.le_of_lt hv) ?_;rw [← Nat.pow_add];exact Nat.pow_le_pow_right (by decide) (by omega)
 have h2 := bitlen_mul h1;have h3 := bitlen_ten K;omega
theorem val_bits {v n : Nat} (hv : v < 10 ^ n) (h : n ≤ 801) : Lim.bitlen v ≤ 3210 := by
 obtain ⟨K, hK⟩ : ∃ K : Nat, 801 = K := ⟨_, rfl⟩;rw [hK] at h;have h3 := bitlen_ten K;refine Nat.le_trans (Lim.bitlen_mono (b := 10 ^ K) ?_) (Nat.le_trans h3 (by omega));exact Nat.le_trans (Nat.le_of_lt hv) (Nat.pow_le_pow_right (by decide) h)
theorem isEmpty_nil {s : ByteArray} (h : s.data.toList = []) : s.toList.isEmpty = true := by rw [Lib.toList_data, h]; rfl
theorem isEmpty_ne {s : ByteArray} (h : s.data.toList ≠ []) : s.toList.isEmpty = false := by
 rw [Lib.toList_data];cases hc : s.data.toList with
 | nil => exact absurd hc h
 | cons x r => rfl
theorem floor_any (neg : Bool) (ds : ByteArray) (e : Int) (w : World) (hd : Digits ds.data.toList) (hs : ds.size ≤ 1073741824) (he : -4611686018427387904 ≤ e) (he2 : e ≤ 4611686018427387904) (hnz : ds.size ≠ 0 → 0 < dval ds.data.toList) :
 Calls prog 210 #[.agg #[.bool neg, .string ds, .int .i64 e]] w fun r w' => r = .returned (cutV (floorOf ⟨neg, ds.data.toList, e⟩)) ∧ Below w.heap.size w w' := by
 have hsz : ds.data.toList.length = ds.size := Array.length_toList;have hw0 : IntKind.i64.wrap ((ds.size : Int) + e) = (ds.size : Int) + e := wr (by omega) (by omega);have HD := hZ hd;have HNZ := hZ hnz;clear hd hnz;obtain ⟨g1, g2, hb⟩ := new2 w (.cells #[.bool neg, .string ds, .int .i64 e] 339) (.cells #[.int .u64 0, .int .i64 0, .bool false] 359);have HB := hZ hb;have HG1 := hZ g1;have HG2 := hZ g2;clear hb g1 g2
 by_cases h0 : ds.data.toList = []
 ·have hie := isEmpty_nil h0;have hf : floorOf ⟨neg, ds.data.toList, e⟩ = ⟨0, 0, true⟩ := by unfold floorOf; rw [if_pos h0]
  have HF := hZ hf;clear hf h0;go_enter func210, ntmps210;go_wp2_with fail;exact bodyPost_ret (v := cutV ⟨0, 0, true⟩) (by simp [results, results210, go_sem, cutV]) rfl ⟨by rw [HF.out], (new2 _ _ _).2.2⟩
 ·have hie := isEmpty_ne h0
  by_cases h1 : 310 < (ds.size : Int) + e
  ·have hf : floorOf ⟨neg, ds.data.toList, e⟩ = ⟨most, 1, false⟩ := by unfold floorOf; simp only [hsz]; rw [if_neg h0, if_pos h1]
   have HF := hZ hf;clear hf h0;go_enter func210, ntmps210;go_wp2_with fail;exact bodyPost_ret (v := cutV ⟨most, 1, false⟩) (by simp [results, results210, go_sem, cutV, most]) rfl ⟨by rw [HF.out], (new2 _ _ _).2.2⟩
  ·by_cases h2 : (ds.size : Int) + e < -330
   ·have hf : floorOf ⟨neg, ds.data.toList, e⟩ = ⟨0, -1, false⟩ := by unfold floorOf; simp only [hsz]; rw [if_neg h0, if_neg h1, if_pos h2]
    have HF := hZ hf;clear hf h0;go_enter func210, ntmps210;go_wp2_with fail;exact bodyPost_ret (v := cutV ⟨0, -1, false⟩) (by simp [results, results210, go_sem, cutV]) rfl ⟨by rw [HF.out], (new2 _ _ _).2.2⟩
   ·by_cases hlen : 800 < ds.size
    ·have hlen2 : (800 : Int) < (ds.size : Int) := by omega
     have hn0 : 0 < ds.size := by omega
     have hr5 : IntKind.i64.wrap ((ds.size : Int) - 801) = (ds.size : Int) - 801 := wr (by omega) (by omega);obtain ⟨x, hx⟩ : ∃ x : Nat, e + ((ds.size : Int) - 801) = -(x : Int) := ⟨(-(e + ((ds.size : Int) - 801))).toNat, by omega⟩;have hr6 : IntKind.i64.wrap (-(x : Int)) = -(x : Int) := wr (by omega) (by omega);have hx0 : 0 < x := by omega
     have hx1 : x ≤ 1131 := by omega
     have hep2 : ¬ x = 0 := by omega
     have hep3 : ¬ (x : Int) ≤ 0 := by omega
     obtain ⟨s', hs'⟩ : ∃ s' : ByteArray, ds.extract 0 800 ++ ⟨#[49]⟩ = s' := ⟨_, rfl⟩;have hsd : s'.data.toList = ds.data.toList.take 800 ++ [49] := by rw [← hs']; simp
     have hss : s'.size = 801 := by
      have : s'.data.toList.length = s'.size := Array.length_toList;rw [hsd, List.length_append, List.length_take, hsz] at this;simp at this; omega
     have hcd : cutDigits ds.data.toList = s'.data.toList := by unfold cutDigits; rw [hsz, if_pos hlen, hsd]
     have hce : cutExp ds.data.toList e = -(x : Int) := by unfold cutExp; rw [hsz, if_pos hlen]; omega
     have hds : Digits s'.data.toList := by
      intro c hc;rw [hsd] at hc;rcases List.mem_append.1 hc with h | h
      ·exact HD.out c (List.mem_of_mem_take h)
      ·simp at h; subst h; decide
     have HDS := hZ hds
     have hv : dval s'.data.toList < 10 ^ s'.size := by
      have := dval_lt (l := s'.data.toList) (fun x hx => (hds x hx).2)
      rwa [Array.length_toList] at this
     have hvp : 0 < dval s'.data.toList := by rw [hsd, dval_snoc]; exact Nat.lt_of_lt_of_le (by decide : 0 < (49 : UInt8).toNat - 48) (Nat.le_add_left _ _)
     have hf : floorOf ⟨neg, ds.data.toList, e⟩ = ratioOf (dval s'.data.toList) (10 ^ x) := by
      unfold floorOf; simp only [hsz]; rw [if_neg h0, if_neg h1, if_neg h2, hcd, hce, if_neg (by omega), show (- -(x : Int)).toNat = x by omega]
     have HF := hZ hf;have hB := hZ (floor_neg (x := x) hv (by omega));have HVB := hZ (val_bits hv (by omega));obtain ⟨g1, g2, hb⟩ := new2 w (.cells #[.bool neg, .string ds, .int .i64 (-(x : Int))] 339) (.cells #[.int .u64 0, .int .i64 0, .bool false] 359);have HB := hZ hb;have HG1 := hZ g1;have HG2 := hZ g2;have hxl : x ≤ 1300 := by omega
     clear hf h0 hcd hce hds hsd g1 g2 hb;go_enter func210, ntmps210;go_wp2_with fail;refine (parse_any s' _ HDS.out (by omega) (by omega)).mono ?_;rintro r w1 ⟨a, k, c, rfl, hw, hb⟩;have g1 := keep HG1.out hb;have g2 := keep HG2.out hb;have hbf := chain HB.out hb;have hlt1 := lt_of_block g2;have b1 : Below w1.heap.size w1 (w1.alloc (.cells #[.slice a k c] 381)) := (Below.refl _ _).alloc (Nat.le_refl _) _;have g1 := keep g1 b1;have g2 := keep g2 b1;have hbf := chain hbf b1;have g5 := heap_alloc_new w1 (.cells #[.slice a k c] 381);have hw := hw.below b1;have HG1 := hZ g1;have HG2 := hZ g2;have HG5 := hZ g5;have HBF := hZ hbf;have HW := hZ hw;clear g1 g2 g5 hbf hw hb b1;go_wp2_with fail;refine (of_any 1 _ (by decide)).mono ?_;rintro r w2 ⟨a1, k1, c1, rfl, hw1, hb⟩;have hlt2 := lt_of_block (keep HG5.out hb);have b2 : Below w2.heap.size w2 (w2.alloc (.cells #[.slice a1 k1 c1] 381)) := (Below.refl _ _).alloc (Nat.le_refl _) _;have HG7 := hZ (heap_alloc_new w2 (.cells #[.slice a1 k1 c1] 381));have HG1 := hZ (keep (keep HG1.out hb) b2);have HG2 := hZ (keep (keep HG2.out hb) b2);have HG5 := hZ (keep (keep HG5.out hb) b2);have HBF := hZ (chain (chain HBF.out hb) b2);have HW := hZ ((HW.out.below hb).below b2);have HW1 := hZ (hw1.below b2);clear hb b2 hw1;obtain ⟨c0, c1', c2, cf⟩ := cells3 HG1.out;have d5 := cell_of_one HG5.out;have f5 := free_of_one HG5.out;have d7 := cell_of_one HG7.out;have f7 := free_of_one HG7.out;have hlt3 := lt_of_block HG7.out;have hr4 : IntKind.i64.wrap (x : Int) = (x : Int) := wr (by omega) (by omega);have hltw : w.heap.size + 1 < w2.heap.size := by omega
     go_wp2_with fail;generalize w2.alloc (.cells #[.slice a1 k1 c1] 381) = w3 at *;refine (ten_any x _ (by omega)).mono ?_;rintro r wx ⟨am, km, cm, rfl, hwx, hbx⟩;have g2 := keep HG2.out hbx;have g5 := keep HG5.out hbx;have g7 := keep HG7.out hbx;have hbf := chain HBF.out hbx;have hw := HW.out.below hbx;have HM := hZ (hw.set g7 (by decide) 0 (.slice am km cm));have HX := hZ (hwx.set g7 (by decide) 0 (.slice am km cm));have HBF := hZ (hbf.setCell (p := ⟨w2.heap.size, 0, none⟩) (by simp; omega) (.slice am km cm));have G2 := hZ ((set_else (w := wx) (o := 0) (k := w.heap.size + 1) (b := w2.heap.size) (.slice am km cm) (by omega)).trans g2);have e5 := cell_of_one ((set_else (w := wx) (o := 0) (k := w1.heap.size) (b := w2.heap.size) (.slice am km cm) (by omega)).trans g5);have e7 := cell_of_one (set_at (o := 0) g7 (.slice am km cm));have i7 := cell_of_one g7;have j7 := free_of_one g7;have i5 := cell_of_one g5;clear g2 g5 g7 hbf hw hwx hbx d5 f5 d7 f7 c0 c1' c2 cf HG1 HG2 HG5 HG7 HW HW1;go_wp2_with fail;refine (ratio_any a am k km c cm (dval s'.data.toList) (10 ^ x) _ HM.out HX.out (Nat.ne_of_gt hvp) (Nat.ne_of_gt (Nat.pow_pos (by decide))) (Nat.le_trans HVB.out (by decide)) (Nat.le_trans (bitlen_ten x) (by omega)) hB.out).mono ?_;rintro r wz ⟨rfl, hbz⟩;have hbf := chain HBF.out hbz;obtain ⟨q0, q1, q2, qf⟩ := cells3 (keep G2.out hbz);have HBZ := hZ hbf;clear hbf hbz HBF G2;rw [← HF.out];obtain ⟨⟨cb, ch, ce⟩, hcut⟩ : ∃ z, floorOf ⟨neg, ds.data.toList, e⟩ = z := ⟨_, rfl⟩;rw [hcut];have HCUT := hZ hcut;clear hcut HF;unfold cutV;go_wp2_with fail;exact bodyPost_ret (v := cutV ⟨cb, ch, ce⟩) (by simp [results, results210, go_sem, cutV, q0, q1, q2]) rfl ⟨by rw [HCUT.out], ((HBZ.out.setCell (Nat.le_succ _) _).setCell (Nat.le_succ _) _).setCell (Nat.le_succ _) _⟩
    ·have hn0 : 0 < ds.size := by
      cases hc : ds.data.toList with
      | nil => exact absurd hc h0
      | cons x r => rw [hc] at hsz; simp at hsz; omega
     have hlen2 : ¬ (800 : Int) < (ds.size : Int) := by omega
     have hcd : cutDigits ds.data.toList = ds.data.toList := by unfold cutDigits; rw [hsz, if_neg hlen]
     have hce : cutExp ds.data.toList e = e := by unfold cutExp; rw [hsz, if_neg hlen]
     have hv : dval ds.data.toList < 10 ^ ds.size := by have := dval_lt (l := ds.data.toList) (fun x hx => (HD.out x hx).2); rwa [hsz] at this
     have hvp := HNZ.out (by omega);have HDS := HD
     by_cases hep : 0 ≤ e
     ·obtain ⟨x, rfl⟩ := Int.eq_ofNat_of_zero_le hep;have hf : floorOf ⟨neg, ds.data.toList, (x : Int)⟩ = ratioOf (dval ds.data.toList * 10 ^ x) 1 := by unfold floorOf; simp only [hsz]; rw [if_neg h0, if_neg h1, if_neg h2, hcd, hce, if_pos hep, Int.toNat_natCast]
      have HF := hZ hf;have HV := hZ hv;have hB := hZ (floor_pos (x := x) hv (by omega));have HVB := hZ (val_bits hv (by omega));clear hf h0 hcd hce;go_enter func210, ntmps210;go_wp2_with fail;refine (parse_any ds _ HDS.out (by omega) (by omega)).mono ?_;rintro r w1 ⟨a, k, c, rfl, hw, hb⟩;have g1 := keep HG1.out hb;have g2 := keep HG2.out hb;have hbf := chain HB.out hb;have hlt1 := lt_of_block g2;have b1 : Below w1.heap.size w1 (w1.alloc (.cells #[.slice a k c] 381)) := (Below.refl _ _).alloc (Nat.le_refl _) _;have g1 := keep g1 b1;have g2 := keep g2 b1;have hbf := chain hbf b1;have g5 := heap_alloc_new w1 (.cells #[.slice a k c] 381);have hw := hw.below b1;have HG1 := hZ g1;have HG2 := hZ g2;have HG5 := hZ g5;have HBF := hZ hbf;have HW := hZ hw;clear g1 g2 g5 hbf hw hb b1;go_wp2_with fail;refine (of_any 1 _ (by decide)).mono ?_;rintro r w2 ⟨a1, k1, c1, rfl, hw1, hb⟩;have hlt2 := lt_of_block (keep HG5.out hb);have b2 : Below w2.heap.size w2 (w2.alloc (.cells #[.slice a1 k1 c1] 381)) := (Below.refl _ _).alloc (Nat.le_refl _) _;have HG7 := hZ (heap_alloc_new w2 (.cells #[.slice a1 k1 c1] 381));have HG1 := hZ (keep (keep HG1.out hb) b2);have HG2 := hZ (keep (keep HG2.out hb) b2);have HG5 := hZ (keep (keep HG5.out hb) b2);have HBF := hZ (chain (chain HBF.out hb) b2);have HW := hZ ((HW.out.below hb).below b2);have HW1 := hZ (hw1.below b2);clear hb b2 hw1;obtain ⟨c0, c1', c2, cf⟩ := cells3 HG1.out;have d5 := cell_of_one HG5.out;have f5 := free_of_one HG5.out;have d7 := cell_of_one HG7.out;have f7 := free_of_one HG7.out;have hlt3 := lt_of_block HG7.out;have hltw : w.heap.size < w1.heap.size := by omega
      go_wp2_with fail;generalize w2.alloc (.cells #[.slice a1 k1 c1] 381) = w3 at *;clear c0 c1' d7 f7;have hLV : (Lim.limbs (dval ds.data.toList)).length ≤ 1048576 := Nat.le_trans (Lim.short (k := 128) (Nat.le_trans HVB.out (by decide))) (by decide);have hLX : (Lim.limbs (10 ^ x)).length ≤ 1048576 := Nat.le_trans (Lim.short (k := 128) (Nat.le_trans (bitlen_ten x) (by omega))) (by decide);have HLV := hZ hLV;have HLX := hZ hLX;clear hLV hLX
      go_region_with
       (first | (go_at_call 233; (with_reducible refine (ten_any x _ (by omega)).mono ?_); rintro r wx ⟨ax, kx, cx, rfl, hwx, hbx⟩; have hx1 := (hbx.cell (p := ⟨w1.heap.size, 0, none⟩) (by simp; omega)).trans d5; have hx2 := (hbx.cell (p := ⟨w.heap.size, 2, none⟩) (by simp; omega)).trans c2) | (go_at_call 232; (with_reducible refine (mul_any a ax k kx c cx (dval ds.data.toList) (10 ^ x) _ ((HW.out.drew).below hbx) hwx HLV.out HLX.out).mono ?_); rintro r wy ⟨am, km, cm, rfl, hwm, hby⟩; have hy1 := (hby.cell (p := ⟨w1.heap.size, 0, none⟩) (by have := hbx.size; simp at this; simp; omega)).trans hx1; have hy2 := (hby.cell (p := ⟨w.heap.size, 2, none⟩) (by have := hbx.size; simp at this; simp; omega)).trans hx2; have hyf := (hby.frozen (p := ⟨w1.heap.size, 0, none⟩) (by have := hbx.size; simp at this; simp; omega)).trans ((hbx.frozen (p := ⟨w1.heap.size, 0, none⟩) (by simp; omega)).trans f5)))
      all_goals
       have g1 := keep (keep (w1 := w3.drew) HG1.out hbx) hby;have g2 := keep (keep (w1 := w3.drew) HG2.out hbx) hby;have g5 := keep (keep (w1 := w3.drew) HG5.out hbx) hby;have g7 := keep (keep (w1 := w3.drew) HG7.out hbx) hby;have hbf := chain (chain HBF.out.drew hbx) hby;have hw1 := ((HW1.out.drew).below hbx).below hby;rw [capN_fit (Nat.le_trans hB.out (by decide))] at hwm;have HM := hZ (hwm.set g5 (by decide) 0 (.slice am km cm));have HW1 := hZ (hw1.set g5 (by decide) 0 (.slice am km cm));have HBF := hZ (hbf.setCell (p := ⟨w1.heap.size, 0, none⟩) (Nat.le_of_lt hltw) (.slice am km cm));have G2 := hZ ((set_else (w := wy) (o := 0) (k := w.heap.size + 1) (b := w1.heap.size) (.slice am km cm) (by omega)).trans g2);have e5 := cell_of_one (set_at (o := 0) g5 (.slice am km cm));have e7 := cell_of_one ((set_else (w := wy) (o := 0) (k := w2.heap.size) (b := w1.heap.size) (.slice am km cm) (by omega)).trans g7);clear g1 g2 g5 g7 hbf hw1 hwm hx1 hx2 hy1 hy2 hyf hbx hby hwx d5 f5 c2 cf HG1 HG2 HG5 HG7 HW;go_wp2_with fail;refine (ratio_any am a1 km k1 cm c1 (dval ds.data.toList * 10 ^ x) 1 _ HM.out HW1.out (Nat.ne_of_gt (Nat.mul_pos hvp (Nat.pow_pos (by decide)))) (by decide) (Nat.le_trans hB.out (by decide)) (by decide) (Nat.le_trans hB.out (by decide))).mono ?_;rintro r wz ⟨rfl, hbz⟩;have hbf := chain HBF.out hbz;obtain ⟨q0, q1, q2, qf⟩ := cells3 (keep G2.out hbz);have HBZ := hZ hbf;clear hbf hbz HBF G2;rw [← HF.out];obtain ⟨⟨cb, ch, ce⟩, hcut⟩ : ∃ z, floorOf ⟨neg, ds.data.toList, (x : Int)⟩ = z := ⟨_, rfl⟩;rw [hcut];have HCUT := hZ hcut;clear hcut HF;unfold cutV;go_wp2_with fail;exact bodyPost_ret (v := cutV ⟨cb, ch, ce⟩) (by simp [results, results210, go_sem, cutV, q0, q1, q2]) rfl ⟨by rw [HCUT.out], ((HBZ.out.setCell (Nat.le_succ _) _).setCell (Nat.le_succ _) _).setCell (Nat.le_succ _) _⟩
     ·obtain ⟨x, hx⟩ : ∃ x : Nat, e = -(x : Int) := ⟨(-e).toNat, by omega⟩;subst hx;have hx0 : 0 < x := by omega
      have hep2 : ¬ x = 0 := by omega
      have hep3 : ¬ (x : Int) ≤ 0 := by omega
      have hf : floorOf ⟨neg, ds.data.toList, -(x : Int)⟩ = ratioOf (dval ds.data.toList) (10 ^ x) := by
       unfold floorOf; simp only [hsz]; rw [if_neg h0, if_neg h1, if_neg h2, hcd, hce, if_neg hep, show (- -(x : Int)).toNat = x by omega]
      have HF := hZ hf;have hB := hZ (floor_neg (x := x) hv (by omega));have HVB := hZ (val_bits hv (by omega));clear hf h0 hcd hce;go_enter func210, ntmps210;go_wp2_with fail;refine (parse_any ds _ HDS.out (by omega) (by omega)).mono ?_;rintro r w1 ⟨a, k, c, rfl, hw, hb⟩;have g1 := keep HG1.out hb;have g2 := keep HG2.out hb;have hbf := chain HB.out hb;have hlt1 := lt_of_block g2;have b1 : Below w1.heap.size w1 (w1.alloc (.cells #[.slice a k c] 381)) := (Below.refl _ _).alloc (Nat.le_refl _) _;have g1 := keep g1 b1;have g2 := keep g2 b1;have hbf := chain hbf b1;have g5 := heap_alloc_new w1 (.cells #[.slice a k c] 381);have hw := hw.below b1;have HG1 := hZ g1;have HG2 := hZ g2;have HG5 := hZ g5;have HBF := hZ hbf;have HW := hZ hw;clear g1 g2 g5 hbf hw hb b1;go_wp2_with fail;refine (of_any 1 _ (by decide)).mono ?_;rintro r w2 ⟨a1, k1, c1, rfl, hw1, hb⟩;have hlt2 := lt_of_block (keep HG5.out hb);have b2 : Below w2.heap.size w2 (w2.alloc (.cells #[.slice a1 k1 c1] 381)) := (Below.refl _ _).alloc (Nat.le_refl _) _;have HG7 := hZ (heap_alloc_new w2 (.cells #[.slice a1 k1 c1] 381));have HG1 := hZ (keep (keep HG1.out hb) b2);have HG2 := hZ (keep (keep HG2.out hb) b2);have HG5 := hZ (keep (keep HG5.out hb) b2);have HBF := hZ (chain (chain HBF.out hb) b2);have HW := hZ ((HW.out.below hb).below b2);have HW1 := hZ (hw1.below b2);clear hb b2 hw1;obtain ⟨c0, c1', c2, cf⟩ := cells3 HG1.out;have d5 := cell_of_one HG5.out;have f5 := free_of_one HG5.out;have d7 := cell_of_one HG7.out;have f7 := free_of_one HG7.out;have hlt3 := lt_of_block HG7.out;have hr4 : IntKind.i64.wrap (x : Int) = (x : Int) := wr (by omega) (by omega);have hltw : w.heap.size + 1 < w2.heap.size := by omega
      go_wp2_with fail;generalize w2.alloc (.cells #[.slice a1 k1 c1] 381) = w3 at *;refine (ten_any x _ (by omega)).mono ?_;rintro r wx ⟨am, km, cm, rfl, hwx, hbx⟩;have g2 := keep HG2.out hbx;have g5 := keep HG5.out hbx;have g7 := keep HG7.out hbx;have hbf := chain HBF.out hbx;have hw := HW.out.below hbx;have HM := hZ (hw.set g7 (by decide) 0 (.slice am km cm));have HX := hZ (hwx.set g7 (by decide) 0 (.slice am km cm));have HBF := hZ (hbf.setCell (p := ⟨w2.heap.size, 0, none⟩) (by simp; omega) (.slice am km cm));have G2 := hZ ((set_else (w := wx) (o := 0) (k := w.heap.size + 1) (b := w2.heap.size) (.slice am km cm) (by omega)).trans g2);have e5 := cell_of_one ((set_else (w := wx) (o := 0) (k := w1.heap.size) (b := w2.heap.size) (.slice am km cm) (by omega)).trans g5);have e7 := cell_of_one (set_at (o := 0) g7 (.slice am km cm));have i7 := cell_of_one g7;have j7 := free_of_one g7;have i5 := cell_of_one g5;clear g2 g5 g7 hbf hw hwx hbx d5 f5 d7 f7 c0 c1' c2 cf HG1 HG2 HG5 HG7 HW HW1;go_wp2_with fail;refine (ratio_any a am k km c cm (dval ds.data.toList) (10 ^ x) _ HM.out HX.out (Nat.ne_of_gt hvp) (Nat.ne_of_gt (Nat.pow_pos (by decide))) (Nat.le_trans HVB.out (by decide)) (Nat.le_trans (bitlen_ten x) (by omega)) hB.out).mono ?_;rintro r wz ⟨rfl, hbz⟩;have hbf := chain HBF.out hbz;obtain ⟨q0, q1, q2, qf⟩ := cells3 (keep G2.out hbz);have HBZ := hZ hbf;clear hbf hbz HBF G2;rw [← HF.out];obtain ⟨⟨cb, ch, ce⟩, hcut⟩ : ∃ z, floorOf ⟨neg, ds.data.toList, -(x : Int)⟩ = z := ⟨_, rfl⟩;rw [hcut];have HCUT := hZ hcut;clear hcut HF;unfold cutV;go_wp2_with fail;exact bodyPost_ret (v := cutV ⟨cb, ch, ce⟩) (by simp [results, results210, go_sem, cutV, q0, q1, q2]) rfl ⟨by rw [HCUT.out], ((HBZ.out.setCell (Nat.le_succ _) _).setCell (Nat.le_succ _) _).setCell (Nat.le_succ _) _⟩
theorem if_le {b : Nat} {c c' : Cut} (hc : c.bits ≤ most) (hc' : ¬ most < b → c'.bits ≤ most) : (if most < b then c else c').bits ≤ most := by
 split
 ·exact hc
 ·rename_i h; exact hc' h
theorem cut_le (q r : Nat) (up : Int) : (cutOf q r up).bits ≤ most := if_le (Nat.le_refl _) (fun h => Nat.not_lt.1 h)
theorem floor_le (d : Dml) : (floorOf d).bits ≤ most := by
 unfold floorOf;split
 ·exact Nat.zero_le _
 ·split
  ·exact Nat.le_refl _
  ·split
   ·exact Nat.zero_le _
   ·split <;> exact cut_le _ _ _
theorem or_top {b : Nat} (h : b < 9223372036854775808) : bits BinOp.or IntKind.u64 (b : Int) 9223372036854775808 = ((b + 9223372036854775808 : Nat) : Int) := by
 have e := bits_or_u64_nat b 9223372036854775808 (by omega) (by decide)
 have h2 : b ||| 9223372036854775808 = b + 9223372036854775808 := by
  have := Nat.two_pow_add_eq_or_of_lt (i := 63) (b := b) (by simpa using h) 1;rw [Nat.or_comm, Nat.add_comm]
  simpa using this.symm
 rw [h2] at e;exact e
theorem and_one {b : Nat} (h : b < 18446744073709551616) : bits BinOp.and IntKind.u64 (b : Int) 1 = ((b % 2 : Nat) : Int) := by
 have e := bits_and_u64_nat b 1 h (by decide);rw [Nat.and_one_is_mod] at e;exact e
def topIf (neg : Bool) (b : Nat) : Nat := if neg = true ∧ 0 < b then b + 9223372036854775808 else b
def roundIf (neg : Bool) (b : Nat) : Option Nat := if most < b then none else some (topIf neg b)
def roundedRet (o : Option Nat) (e : Ending) : Prop := match o with
 | some b => e = .returned (.tuple #[.int .u64 b, .nilIface])
 | none => e = .returned (.tuple #[.int .u64 0, .iface 29 (.int .i64 41)])
def bitsRet (o : Option Nat) (e : Ending) : Prop := match o with
 | some b => e = .returned (.tuple #[.int .u64 b, .nilIface])
 | none => ∃ T v, e = .returned (.tuple #[.int .u64 0, .iface T v])
theorem rounded_any (neg : Bool) (ds : ByteArray) (e : Int) (w : World) (hd : Digits ds.data.toList) (hs : ds.size ≤ 1073741824) (he : -4611686018427387904 ≤ e) (he2 : e ≤ 4611686018427387904) (hnz : ds.size ≠ 0 → 0 < dval ds.data.toList) :
 Calls prog 195 #[.agg #[.bool neg, .string ds, .int .i64 e], .int .i64 1] w fun r w' => roundedRet (roundedOf ⟨neg, ds.data.toList, e⟩) r ∧ Below w.heap.size w w' := by
 have HF := fun w => floor_any neg ds e w hd hs he he2 hnz
 have hle := floor_le ⟨neg, ds.data.toList, e⟩;have hr : roundedOf ⟨neg, ds.data.toList, e⟩ = roundIf neg (evenBits (floorOf ⟨neg, ds.data.toList, e⟩)) := rfl;rw [hr];clear hr hd hnz;obtain ⟨⟨b, h, x⟩, hc⟩ : ∃ c, floorOf ⟨neg, ds.data.toList, e⟩ = c := ⟨_, rfl⟩;simp only [hc] at *;clear hc;have HB0 : Hid (∀ w1 w2 : World, ∀ o : Obj, Below (w.alloc o).heap.size (w.alloc o) w1 → Below w.heap.size w w1) := hZ fun w1 w2 o hh => (after1 hh).2.1
 unfold cutV at HF;go_enter func195, ntmps195;go_wp2_with fail;refine (HF _).mono ?_;rintro r w1 ⟨rfl, hb⟩;obtain ⟨h1, hbw, hsz⟩ := after1 hb;have b1 : Below w1.heap.size w1 (w1.alloc (.cells #[.int .u64 b, .int .i64 h, .bool x] 359)) := (Below.refl _ _).alloc (Nat.le_refl _) _;have h6 := heap_alloc_new w1 (.cells #[.int .u64 b, .int .i64 h, .bool x] 359);have h2 := keep h1 b1;have hbf := chain hbw b1;obtain ⟨c0, c1, c2, cf⟩ := cells3 h2;have HA := hZ (and_one (b := b) (by unfold most at hle; omega));have HBEL := hZ (fun o : Obj => hbw.alloc (by omega) o);have hcn : ∀ o : Obj, (w1.alloc o).cell? ⟨w.heap.size, 0, none⟩ = some (.bool neg) := fun o => (cells3 (keep h1 ((Below.refl _ _).alloc (Nat.le_refl _) o))).1
 clear hb h1 hbw b1 h6 hbf c0 c1 c2 cf
 by_cases h0 : h = 0
 ·subst h0
  by_cases hpar : b % 2 = 0
  ·have hpar2 : bits BinOp.and IntKind.u64 (b : Int) 1 = 0 := by rw [HA.out, hpar]; rfl
   have HEB0 : evenBits ⟨b, 0, x⟩ = b := by unfold evenBits; rw [if_pos ⟨rfl, hpar⟩]
   obtain ⟨bb, hbb⟩ : ∃ z : Nat, z = b := ⟨_, rfl⟩;have hbl : bb < 9223372036854775808 := by unfold most at hle; omega
   subst hbb;have HEB := hZ HEB0;clear HEB0
   by_cases hm : most < bb
   ·have hm2 : (9218868437227405311 : Int) < (bb : Int) := by unfold most at hm; omega
    have hfin := hZ (show roundIf neg bb = none from if_pos hm);clear hm;go_wp2_with fail;exact bodyPost_ret (v := .tuple #[.int .u64 0, .iface 29 (.int .i64 41)]) (by simp [results, results195, go_sem]) rfl ⟨by rw [HEB.out, hfin.out]; rfl, HBEL.out _⟩
   ·have hm2 : ¬ (9218868437227405311 : Int) < (bb : Int) := by unfold most at hm; omega
    have hfin := hZ (show roundIf neg bb = some (topIf neg bb) from if_neg hm);clear hm;have hor := or_top hbl;cases neg with
    | false =>
     go_wp2_with fail;exact bodyPost_ret (v := .tuple #[.int .u64 bb, .nilIface]) (by simp [results, results195, go_sem]) rfl ⟨by rw [HEB.out, hfin.out]; rfl, HBEL.out _⟩
    | true =>
     by_cases hb0 : 0 < bb
     ·have hb1 : (0 : Int) < (bb : Int) := by omega
      have hif := hZ (show topIf true bb = bb + 9223372036854775808 from if_pos ⟨rfl, hb0⟩);clear hb0;go_wp2_with fail;exact bodyPost_ret (v := .tuple #[.int .u64 ((bb + 9223372036854775808 : Nat) : Int), .nilIface]) (by simp [results, results195, go_sem]) rfl ⟨by rw [HEB.out, hfin.out, hif.out]; rfl, HBEL.out _⟩
     ·have hb1 : ¬ (0 : Int) < (bb : Int) := by omega
      have hif := hZ (show topIf true bb = bb from if_neg (fun h => hb0 h.2));clear hb0;go_wp2_with fail;exact bodyPost_ret (v := .tuple #[.int .u64 bb, .nilIface]) (by simp [results, results195, go_sem]) rfl ⟨by rw [HEB.out, hfin.out, hif.out]; rfl, HBEL.out _⟩
  ·cases x with
   | false =>
    have hpar2 : bits BinOp.and IntKind.u64 (b : Int) 1 = 1 := by rw [HA.out, show b % 2 = 1 by omega]; rfl
    have HEB0 : evenBits ⟨b, 0, false⟩ = b + 1 := by unfold evenBits; rw [if_neg (fun h => hpar h.2), if_pos ⟨Int.le_refl 0, rfl⟩]
    have hwb : IntKind.u64.wrap ((b : Int) + 1) = ((b + 1 : Nat) : Int) := by rw [IntKind.wrap_u64]; unfold most at hle; omega
    obtain ⟨bb, hbb⟩ : ∃ z : Nat, b + 1 = z := ⟨_, rfl⟩;rw [hbb] at hwb HEB0;have hbl : bb < 9223372036854775808 := by unfold most at hle; omega
    have HEB := hZ HEB0;clear HEB0 hbb
    by_cases hm : most < bb
    ·have hm2 : (9218868437227405311 : Int) < (bb : Int) := by unfold most at hm; omega
     have hfin := hZ (show roundIf neg bb = none from if_pos hm);clear hm;go_wp2_with fail;exact bodyPost_ret (v := .tuple #[.int .u64 0, .iface 29 (.int .i64 41)]) (by simp [results, results195, go_sem]) rfl ⟨by rw [HEB.out, hfin.out]; rfl, HBEL.out _⟩
    ·have hm2 : ¬ (9218868437227405311 : Int) < (bb : Int) := by unfold most at hm; omega
     have hfin := hZ (show roundIf neg bb = some (topIf neg bb) from if_neg hm);clear hm;have hor := or_top hbl;cases neg with
     | false =>
      go_wp2_with fail;exact bodyPost_ret (v := .tuple #[.int .u64 bb, .nilIface]) (by simp [results, results195, go_sem]) rfl ⟨by rw [HEB.out, hfin.out]; rfl, HBEL.out _⟩
     | true =>
      by_cases hb0 : 0 < bb
      ·have hb1 : (0 : Int) < (bb : Int) := by omega
       have hif := hZ (show topIf true bb = bb + 9223372036854775808 from if_pos ⟨rfl, hb0⟩);clear hb0;go_wp2_with fail;exact bodyPost_ret (v := .tuple #[.int .u64 ((bb + 9223372036854775808 : Nat) : Int), .nilIface]) (by simp [results, results195, go_sem]) rfl ⟨by rw [HEB.out, hfin.out, hif.out]; rfl, HBEL.out _⟩
      ·have hb1 : ¬ (0 : Int) < (bb : Int) := by omega
       have hif := hZ (show topIf true bb = bb from if_neg (fun h => hb0 h.2));clear hb0;go_wp2_with fail;exact bodyPost_ret (v := .tuple #[.int .u64 bb, .nilIface]) (by simp [results, results195, go_sem]) rfl ⟨by rw [HEB.out, hfin.out, hif.out]; rfl, HBEL.out _⟩
   | true =>
    have hpar2 : bits BinOp.and IntKind.u64 (b : Int) 1 = 1 := by rw [HA.out, show b % 2 = 1 by omega]; rfl
    have HEB0 : evenBits ⟨b, 0, true⟩ = b := by unfold evenBits; rw [if_neg (fun h => hpar h.2), if_neg (by simp)]
    obtain ⟨bb, hbb⟩ : ∃ z : Nat, z = b := ⟨_, rfl⟩;have hbl : bb < 9223372036854775808 := by unfold most at hle; omega
    subst hbb;have HEB := hZ HEB0;clear HEB0
    by_cases hm : most < bb
    ·have hm2 : (9218868437227405311 : Int) < (bb : Int) := by unfold most at hm; omega
     have hfin := hZ (show roundIf neg bb = none from if_pos hm);clear hm;go_wp2_with fail;exact bodyPost_ret (v := .tuple #[.int .u64 0, .iface 29 (.int .i64 41)]) (by simp [results, results195, go_sem]) rfl ⟨by rw [HEB.out, hfin.out]; rfl, HBEL.out _⟩
    ·have hm2 : ¬ (9218868437227405311 : Int) < (bb : Int) := by unfold most at hm; omega
     have hfin := hZ (show roundIf neg bb = some (topIf neg bb) from if_neg hm);clear hm;have hor := or_top hbl;cases neg with
     | false =>
      go_wp2_with fail;exact bodyPost_ret (v := .tuple #[.int .u64 bb, .nilIface]) (by simp [results, results195, go_sem]) rfl ⟨by rw [HEB.out, hfin.out]; rfl, HBEL.out _⟩
     | true =>
      by_cases hb0 : 0 < bb
      ·have hb1 : (0 : Int) < (bb : Int) := by omega
       have hif := hZ (show topIf true bb = bb + 9223372036854775808 from if_pos ⟨rfl, hb0⟩);clear hb0;go_wp2_with fail;exact bodyPost_ret (v := .tuple #[.int .u64 ((bb + 9223372036854775808 : Nat) : Int), .nilIface]) (by simp [results, results195, go_sem]) rfl ⟨by rw [HEB.out, hfin.out, hif.out]; rfl, HBEL.out _⟩
      ·exfalso; omega
 ·by_cases hh : 0 < h
  ·cases x with
   | false =>
    have hg0 : (h == 0) = false := by simpa using h0
    have hg1 : (0 : Int) ≤ h := by omega
    have HEB0 : evenBits ⟨b, h, false⟩ = b + 1 := by unfold evenBits; rw [if_neg (fun hh => h0 hh.1), if_pos ⟨hg1, rfl⟩]
    have hwb : IntKind.u64.wrap ((b : Int) + 1) = ((b + 1 : Nat) : Int) := by rw [IntKind.wrap_u64]; unfold most at hle; omega
    obtain ⟨bb, hbb⟩ : ∃ z : Nat, b + 1 = z := ⟨_, rfl⟩;rw [hbb] at hwb HEB0;have hbl : bb < 9223372036854775808 := by unfold most at hle; omega
    have HEB := hZ HEB0;clear HEB0 hbb
    by_cases hm : most < bb
    ·have hm2 : (9218868437227405311 : Int) < (bb : Int) := by unfold most at hm; omega
     have hfin := hZ (show roundIf neg bb = none from if_pos hm);clear hm;go_wp2_with fail;exact bodyPost_ret (v := .tuple #[.int .u64 0, .iface 29 (.int .i64 41)]) (by simp [results, results195, go_sem]) rfl ⟨by rw [HEB.out, hfin.out]; rfl, HBEL.out _⟩
    ·have hm2 : ¬ (9218868437227405311 : Int) < (bb : Int) := by unfold most at hm; omega
     have hfin := hZ (show roundIf neg bb = some (topIf neg bb) from if_neg hm);clear hm;have hor := or_top hbl;cases neg with
     | false =>
      go_wp2_with fail;exact bodyPost_ret (v := .tuple #[.int .u64 bb, .nilIface]) (by simp [results, results195, go_sem]) rfl ⟨by rw [HEB.out, hfin.out]; rfl, HBEL.out _⟩
     | true =>
      by_cases hb0 : 0 < bb
      ·have hb1 : (0 : Int) < (bb : Int) := by omega
       have hif := hZ (show topIf true bb = bb + 9223372036854775808 from if_pos ⟨rfl, hb0⟩);clear hb0;go_wp2_with fail;exact bodyPost_ret (v := .tuple #[.int .u64 ((bb + 9223372036854775808 : Nat) : Int), .nilIface]) (by simp [results, results195, go_sem]) rfl ⟨by rw [HEB.out, hfin.out, hif.out]; rfl, HBEL.out _⟩
      ·have hb1 : ¬ (0 : Int) < (bb : Int) := by omega
       have hif := hZ (show topIf true bb = bb from if_neg (fun h => hb0 h.2));clear hb0;go_wp2_with fail;exact bodyPost_ret (v := .tuple #[.int .u64 bb, .nilIface]) (by simp [results, results195, go_sem]) rfl ⟨by rw [HEB.out, hfin.out, hif.out]; rfl, HBEL.out _⟩
   | true =>
    have hg0 : (h == 0) = false := by simpa using h0
    have hg1 : (0 : Int) ≤ h := by omega
    have HEB0 : evenBits ⟨b, h, true⟩ = b := by unfold evenBits; rw [if_neg (fun hh => h0 hh.1), if_neg (by simp)]
    obtain ⟨bb, hbb⟩ : ∃ z : Nat, z = b := ⟨_, rfl⟩;have hbl : bb < 9223372036854775808 := by unfold most at hle; omega
    subst hbb;have HEB := hZ HEB0;clear HEB0
    by_cases hm : most < bb
    ·have hm2 : (9218868437227405311 : Int) < (bb : Int) := by unfold most at hm; omega
     have hfin := hZ (show roundIf neg bb = none from if_pos hm);clear hm;go_wp2_with fail;exact bodyPost_ret (v := .tuple #[.int .u64 0, .iface 29 (.int .i64 41)]) (by simp [results, results195, go_sem]) rfl ⟨by rw [HEB.out, hfin.out]; rfl, HBEL.out _⟩
    ·have hm2 : ¬ (9218868437227405311 : Int) < (bb : Int) := by unfold most at hm; omega
     have hfin := hZ (show roundIf neg bb = some (topIf neg bb) from if_neg hm);clear hm;have hor := or_top hbl;cases neg with
     | false =>
      go_wp2_with fail;exact bodyPost_ret (v := .tuple #[.int .u64 bb, .nilIface]) (by simp [results, results195, go_sem]) rfl ⟨by rw [HEB.out, hfin.out]; rfl, HBEL.out _⟩
     | true =>
      by_cases hb0 : 0 < bb
      ·have hb1 : (0 : Int) < (bb : Int) := by omega
       have hif := hZ (show topIf true bb = bb + 9223372036854775808 from if_pos ⟨rfl, hb0⟩);clear hb0;go_wp2_with fail;exact bodyPost_ret (v := .tuple #[.int .u64 ((bb + 9223372036854775808 : Nat) : Int), .nilIface]) (by simp [results, results195, go_sem]) rfl ⟨by rw [HEB.out, hfin.out, hif.out]; rfl, HBEL.out _⟩
      ·have hb1 : ¬ (0 : Int) < (bb : Int) := by omega
       have hif := hZ (show topIf true bb = bb from if_neg (fun h => hb0 h.2));clear hb0;go_wp2_with fail;exact bodyPost_ret (v := .tuple #[.int .u64 bb, .nilIface]) (by simp [results, results195, go_sem]) rfl ⟨by rw [HEB.out, hfin.out, hif.out]; rfl, HBEL.out _⟩
  ·have hg0 : (h == 0) = false := by simpa using h0
   have hg1 : ¬ (0 : Int) ≤ h := by omega
   have HEB0 : evenBits ⟨b, h, x⟩ = b := by unfold evenBits; rw [if_neg (fun hh => h0 hh.1), if_neg (fun hh => hg1 hh.1)]
   obtain ⟨bb, hbb⟩ : ∃ z : Nat, z = b := ⟨_, rfl⟩;have hbl : bb < 9223372036854775808 := by unfold most at hle; omega
   subst hbb;have HEB := hZ HEB0;clear HEB0
   by_cases hm : most < bb
   ·have hm2 : (9218868437227405311 : Int) < (bb : Int) := by unfold most at hm; omega
    have hfin := hZ (show roundIf neg bb = none from if_pos hm);clear hm;go_wp2_with fail;exact bodyPost_ret (v := .tuple #[.int .u64 0, .iface 29 (.int .i64 41)]) (by simp [results, results195, go_sem]) rfl ⟨by rw [HEB.out, hfin.out]; rfl, HBEL.out _⟩
   ·have hm2 : ¬ (9218868437227405311 : Int) < (bb : Int) := by unfold most at hm; omega
    have hfin := hZ (show roundIf neg bb = some (topIf neg bb) from if_neg hm);clear hm;have hor := or_top hbl;cases neg with
    | false =>
     go_wp2_with fail;exact bodyPost_ret (v := .tuple #[.int .u64 bb, .nilIface]) (by simp [results, results195, go_sem]) rfl ⟨by rw [HEB.out, hfin.out]; rfl, HBEL.out _⟩
    | true =>
     by_cases hb0 : 0 < bb
     ·have hb1 : (0 : Int) < (bb : Int) := by omega
      have hif := hZ (show topIf true bb = bb + 9223372036854775808 from if_pos ⟨rfl, hb0⟩);clear hb0;go_wp2_with fail;exact bodyPost_ret (v := .tuple #[.int .u64 ((bb + 9223372036854775808 : Nat) : Int), .nilIface]) (by simp [results, results195, go_sem]) rfl ⟨by rw [HEB.out, hfin.out, hif.out]; rfl, HBEL.out _⟩
     ·have hb1 : ¬ (0 : Int) < (bb : Int) := by omega
      have hif := hZ (show topIf true bb = bb from if_neg (fun h => hb0 h.2));clear hb0;go_wp2_with fail;exact bodyPost_ret (v := .tuple #[.int .u64 bb, .nilIface]) (by simp [results, results195, go_sem]) rfl ⟨by rw [HEB.out, hfin.out, hif.out]; rfl, HBEL.out _⟩
theorem is_even (w : World) : Calls prog 193 #[.int .i64 1] w fun e w' => e = .returned (.bool true) ∧ w' = w := by
 go_enter func193, ntmps193;go_wp2;go_ret;exact ⟨rfl, rfl⟩
theorem drop_head {l r : List UInt8} {c : UInt8} (h : l.dropWhile (fun x => x == 48) = c :: r) : c ≠ 48 := by
 induction l with
 | nil => cases h
 | cons x l ih =>
  by_cases hx : (x == 48) = true
  ·rw [List.dropWhile_cons_of_pos (by simpa using hx)] at h; exact ih h
  ·rw [List.dropWhile_cons_of_neg (by simpa using hx)] at h;injection h with h1 h2
   subst h1;intro e;subst e;exact hx rfl
theorem strip_ok (neg : Bool) (ds : List UInt8) (e : Int) (hd : ∀ c ∈ ds, isD c = true) : Digits (stripOf neg ds e).digits ∧ (stripOf neg ds e).digits.length ≤ ds.length ∧ ((stripOf neg ds e).digits ≠ [] → 0 < dval (stripOf neg ds e).digits) ∧
 ((stripOf neg ds e).exp = 0 ∨ (e ≤ (stripOf neg ds e).exp ∧ (stripOf neg ds e).exp ≤ e + ds.length)) := by
 unfold stripOf;split
 ·exact ⟨(fun c hc => by cases hc), Nat.zero_le _, fun h => absurd rfl h, .inl rfl⟩
 ·rename_i hne;have hT : ∀ c ∈ Lib.trimLeftB ds 48, c ∈ ds := fun c hc => (List.dropWhile_sublist _).subset hc
  have hTl : (Lib.trimLeftB ds 48).length ≤ ds.length := (List.dropWhile_sublist _).length_le
  obtain ⟨V, hV⟩ : ∃ V, Lib.trimLeftB ds 48 = Lib.trimRightB (Lib.trimLeftB ds 48) 48 ++ V := by
   have h1 := List.dropWhile_suffix (l := (Lib.trimLeftB ds 48).reverse) (fun x : UInt8 => x == 48);obtain ⟨t, ht⟩ := h1;refine ⟨t.reverse, ?_⟩;have := congrArg List.reverse ht;rw [List.reverse_append, List.reverse_reverse] at this;exact this.symm
  have hUd : ∀ c ∈ Lib.trimRightB (Lib.trimLeftB ds 48) 48, c ∈ ds := fun c hc => hT c (by rw [hV]; exact List.mem_append_left _ hc)
  have hUl : (Lib.trimRightB (Lib.trimLeftB ds 48) 48).length ≤ (Lib.trimLeftB ds 48).length := by
   have := congrArg List.length hV;rw [List.length_append] at this; omega
  refine ⟨fun c hc => by have := hd c (hUd c hc); simpa [isD] using this, by show (Lib.trimRightB (Lib.trimLeftB ds 48) 48).length ≤ _; omega, fun _ => ?_, .inr ⟨?_, ?_⟩⟩
  ·show 0 < dval (Lib.trimRightB (Lib.trimLeftB ds 48) 48)
   cases hU : Lib.trimRightB (Lib.trimLeftB ds 48) 48 with
   | nil => exact absurd hU hne
   | cons c r =>
    rw [hU] at hV hUd;have hc := drop_head (l := ds) (r := r ++ V) (c := c) hV;have hdc := hd c (hUd c (by simp));have h3 : 48 ≤ c.toNat := by simp [isD] at hdc; exact hdc.1
    have h4 : c.toNat ≠ 48 := fun h => hc (UInt8.toNat_inj.1 h)
    have e1 : dval (c :: r) = dval [c] * 10 ^ r.length + dval r := dval_append [c] r;have e2 : dval [c] = c.toNat - 48 := by simp [dval]
    rw [e1, e2];exact Nat.lt_of_lt_of_le (Nat.mul_pos (by omega) (Nat.pow_pos (by decide))) (Nat.le_add_right _ _)
  ·show e ≤ e + ((Lib.trimLeftB ds 48).length : Int) - ((Lib.trimRightB (Lib.trimLeftB ds 48) 48).length : Int); omega
  ·show e + ((Lib.trimLeftB ds 48).length : Int) - ((Lib.trimRightB (Lib.trimLeftB ds 48) 48).length : Int) ≤ _; omega
theorem round_any (s : ByteArray) (w : World) (hs : s.size ≤ 1073741824) : Calls prog 172 #[.string s, .int .i64 1] w fun e w' => bitsRet (bitsOf s.data.toList) e ∧ Below w.heap.size w w' := by
 have HP := fun w => parsed_any s w hs
 have hsz : s.data.toList.length = s.size := Array.length_toList;cases hr : readOf s.data.toList with
 | none =>
  have hb : bitsOf s.data.toList = none := by unfold bitsOf; rw [hr]; rfl
  rw [hb];simp only [hr] at HP;have HR := hZ HP;clear hr hb HP;go_enter func172, ntmps172;go_wp2_with fail;refine (is_even _).mono ?_;rintro e w1 ⟨rfl, rfl⟩;go_wp2_with fail;refine (HR.out _).mono ?_;rintro e w1 ⟨⟨i, rfl⟩, hb⟩;have hb1 := hZ (hb.alloc hb.size (.cells #[.bool false, .string ⟨#[]⟩, .int .i64 0] 339));clear hb;unfold dmlV;go_wp2_with fail;exact bodyPost_ret (v := .tuple #[.int .u64 0, .iface 151 (.agg #[.int .i64 40, .int .i64 i])]) (by simp [results, results172, go_sem]) rfl ⟨⟨_, _, rfl⟩, hb1.out⟩
 | some l =>
  obtain ⟨o1, o2, o3, o4⟩ := read_ok hr;have hb : bitsOf s.data.toList = roundedOf (bareOf l) := by unfold bitsOf; rw [hr]; rfl
  have hex := exp_bound (a := 0) (l := l.exp) (by omega) (fun c hc => by have := o3 c hc; simp [isD] at this; exact this.2);obtain ⟨k1, k2, k3, k4⟩ := strip_ok l.neg (l.whole ++ l.behind) ((if l.under then -(expOf l.exp : Int) else expOf l.exp) - l.behind.length) (fun c hc => (List.mem_append.1 hc).elim (o1 c) (o2 c))
  have hE : -351843720888329 ≤ (if l.under then -(expOf l.exp : Int) else expOf l.exp) ∧ (if l.under then -(expOf l.exp : Int) else expOf l.exp) ≤ 351843720888329 := by
   have : expOf l.exp ≤ 351843720888329 := hex;split <;> omega
  rw [List.length_append] at k2 k4;change Digits (bareOf l).digits at k1;change (bareOf l).digits.length ≤ _ at k2;change ((bareOf l).digits ≠ [] → 0 < dval (bareOf l).digits) at k3;change ((bareOf l).exp = 0 ∨ (_ ≤ (bareOf l).exp ∧ (bareOf l).exp ≤ _)) at k4;simp only [hr] at HP;rw [hb];obtain ⟨⟨dn, dd, de⟩, hd⟩ : ∃ d, bareOf l = d := ⟨_, rfl⟩;have HP : ∀ w, Calls prog 194 #[.string s] w fun e w' => e = .returned (.tuple #[dmlV (bareOf l), .nilIface]) ∧ Below w.heap.size w w' := HP
  simp only [hd] at *;have HQ := fun w => rounded_any dn ⟨dd.toArray⟩ de w (by simpa using k1) (by show dd.toArray.size ≤ _; simp; omega) (by omega) (by omega) (fun h => by have := k3 (fun h0 => h (by subst h0; rfl)); simpa using this)
  have HQ : ∀ w, Calls prog 195 #[.agg #[.bool dn, .string ⟨dd.toArray⟩, .int .i64 de], .int .i64 1] w fun r w' => roundedRet (roundedOf ⟨dn, dd, de⟩) r ∧ Below w.heap.size w w' := by simpa using HQ
  have HR := hZ HP;have HS := hZ HQ;clear hr hb HP HQ hd k1 k2 k3 k4 hE hex o1 o2 o3 o4;unfold dmlV at HR;cases hro : roundedOf ⟨dn, dd, de⟩ with
  | none =>
   rw [hro] at HS;go_enter func172, ntmps172;go_wp2_with fail;refine (is_even _).mono ?_;rintro e w1 ⟨rfl, rfl⟩;go_wp2_with fail;refine (HR.out _).mono ?_;rintro e w1 ⟨rfl, hb⟩;have hb1 := hZ (hb.alloc hb.size (.cells #[.bool dn, .string ⟨dd.toArray⟩, .int .i64 de] 339));clear hb;go_wp2_with fail;refine (HS.out _).mono ?_;rintro e w2 ⟨rfl, hb⟩;have hb2 := hZ (chain hb1.out hb);clear hb;go_wp2_with fail;exact bodyPost_ret (v := .tuple #[.int .u64 0, .iface 29 (.int .i64 41)]) (by simp [results, results172, go_sem]) rfl ⟨⟨_, _, rfl⟩, hb2.out⟩
  | some bts =>
   rw [hro] at HS;go_enter func172, ntmps172;go_wp2_with fail;refine (is_even _).mono ?_;rintro e w1 ⟨rfl, rfl⟩;go_wp2_with fail;refine (HR.out _).mono ?_;rintro e w1 ⟨rfl, hb⟩;have hb1 := hZ (hb.alloc hb.size (.cells #[.bool dn, .string ⟨dd.toArray⟩, .int .i64 de] 339));clear hb;go_wp2_with fail;refine (HS.out _).mono ?_;rintro e w2 ⟨rfl, hb⟩;have hb2 := hZ (chain hb1.out hb);clear hb;go_wp2_with fail;exact bodyPost_ret (v := .tuple #[.int .u64 bts, .nilIface]) (by simp [results, results172, go_sem]) rfl ⟨rfl, hb2.out⟩
theorem bits_any (s : ByteArray) (w : World) (hs : s.size ≤ 1073741824) : Calls prog 146 #[.string s] w fun e w' => bitsRet (bitsOf s.data.toList) e ∧ Below w.heap.size w w' := by
 have HR := hZ (fun w => round_any s w hs);cases hb : bitsOf s.data.toList with
 | none =>
  rw [hb] at HR;go_enter func146, ntmps146;go_wp2_with fail;refine (HR.out _).mono ?_;rintro e w1 ⟨⟨T, v, rfl⟩, hbw⟩;go_wp2_with fail;exact bodyPost_ret (v := .tuple #[.int .u64 0, .iface T v]) (by simp [results, results146, go_sem]) rfl ⟨⟨_, _, rfl⟩, hbw⟩
 | some b =>
  rw [hb] at HR;go_enter func146, ntmps146;go_wp2_with fail;refine (HR.out _).mono ?_;rintro e w1 ⟨rfl, hbw⟩;go_wp2_with fail;exact bodyPost_ret (v := .tuple #[.int .u64 b, .nilIface]) (by simp [results, results146, go_sem]) rfl ⟨rfl, hbw⟩
end Go.Proofs.YtakkmiomhackiaaGreatDoor
