/-
  Several texts in one, each under its own head. Conditions: none.
-/
import Derived.Test.YtakkmiomhackiaaGreatDoorLa12
import Derived.Test.YtakkmiomhackiaaGreatDoorLa13
import Derived.Test.YtakkmiomhackiaaGreatDoorLa08
import Derived.Test.YtakkmiomhackiaaGreatDoorLa11
set_option linter.all false

/-
  Package dec, seventh part: floor.
-/
namespace Go.Proofs.YtakkmiomhackiaaGreatDoor
open Go.RowKit
set_option maxRecDepth 100000
theorem bitlen_mul {a b c : Nat} (h : a ≤ b * c) : Lim.bitlen a ≤ Lim.bitlen b + Lim.bitlen c := by
  rw [Lim.bitlen_le, Nat.pow_add]
  refine Nat.lt_of_le_of_lt h ?_
  rcases Nat.eq_zero_or_pos c with h0 | h0
  · subst h0; rw [Nat.mul_zero]; exact Nat.mul_pos (Nat.two_pow_pos _) (Nat.two_pow_pos _)
  · exact Nat.lt_of_lt_of_le (Nat.mul_lt_mul_of_pos_right Lim.lt_bitlen h0) (Nat.mul_le_mul_left _ (Nat.le_of_lt Lim.lt_bitlen))
/-- How great the quotient's parts may be. -/
theorem floor_pos {v n x : Nat} (hv : v < 10 ^ n) (h : n + x ≤ 310) : Lim.bitlen (v * 10 ^ x) ≤ 1242 := by
  obtain ⟨K, hK⟩ : ∃ K : Nat, 310 = K := ⟨_, rfl⟩
  rw [hK] at h
  have h3 := bitlen_ten K
  refine Nat.le_trans (Lim.bitlen_mono (b := 10 ^ K) ?_) (Nat.le_trans h3 (by omega))
  refine Nat.le_trans (Nat.mul_le_mul_right _ (Nat.le_of_lt hv)) ?_
  rw [← Nat.pow_add]
  exact Nat.pow_le_pow_right (by decide) h
theorem floor_neg {v n x : Nat} (hv : v < 10 ^ n) (h : n ≤ 310 + x) : Lim.bitlen v ≤ Lim.bitlen (10 ^ x) + 1500 := by
  obtain ⟨K, hK⟩ : ∃ K : Nat, 310 = K := ⟨_, rfl⟩
  rw [hK] at h
  have h1 : v ≤ 10 ^ x * 10 ^ K := by
    refine Nat.le_trans (Nat.le_of_lt hv) ?_
    rw [← Nat.pow_add]
    exact Nat.pow_le_pow_right (by decide) (by omega)
  have h2 := bitlen_mul h1
  have h3 := bitlen_ten K
  omega
theorem val_bits {v n : Nat} (hv : v < 10 ^ n) (h : n ≤ 801) : Lim.bitlen v ≤ 3210 := by
  obtain ⟨K, hK⟩ : ∃ K : Nat, 801 = K := ⟨_, rfl⟩
  rw [hK] at h
  have h3 := bitlen_ten K
  refine Nat.le_trans (Lim.bitlen_mono (b := 10 ^ K) ?_) (Nat.le_trans h3 (by omega))
  exact Nat.le_trans (Nat.le_of_lt hv) (Nat.pow_le_pow_right (by decide) h)

/-- The end, when the digits are read. -/
theorem isEmpty_nil {s : ByteArray} (h : s.data.toList = []) : s.toList.isEmpty = true := by rw [Lib.toList_data, h]; rfl
theorem isEmpty_ne {s : ByteArray} (h : s.data.toList ≠ []) : s.toList.isEmpty = false := by
  rw [Lib.toList_data]
  cases hc : s.data.toList with
  | nil => exact absurd hc h
  | cons x r => rfl

set_option maxHeartbeats 2000000 in
theorem floor_any (neg : Bool) (ds : ByteArray) (e : Int) (w : World) (hd : Digits ds.data.toList) (hs : ds.size ≤ 1073741824) (he : -4611686018427387904 ≤ e) (he2 : e ≤ 4611686018427387904) (hnz : ds.size ≠ 0 → 0 < dval ds.data.toList) :
    Calls Tryz.prog 210 #[.agg #[.bool neg, .string ds, .int .i64 e]] w fun r w' => r = .returned (cutV (floorOf ⟨neg, ds.data.toList, e⟩)) ∧ Below w.heap.size w w' := by
  have hsz : ds.data.toList.length = ds.size := Array.length_toList
  have hw0 : IntKind.i64.wrap ((ds.size : Int) + e) = (ds.size : Int) + e := wr (by omega) (by omega)
  have HD := Lib.hid hd
  have HNZ := Lib.hid hnz
  clear hd hnz
  obtain ⟨g1, g2, hb⟩ := new2 w (.cells #[.bool neg, .string ds, .int .i64 e] 339) (.cells #[.int .u64 0, .int .i64 0, .bool false] 359)
  have HB := Lib.hid hb
  have HG1 := Lib.hid g1
  have HG2 := Lib.hid g2
  clear hb g1 g2
  by_cases h0 : ds.data.toList = []
  · have hie := isEmpty_nil h0
    have hf : floorOf ⟨neg, ds.data.toList, e⟩ = ⟨0, 0, true⟩ := by unfold floorOf; rw [if_pos h0]
    have HF := Lib.hid hf
    clear hf h0
    go_enter Tryz.func210, Tryz.ntmps210
    go_wp2_with fail
    exact bodyPost_ret (v := cutV ⟨0, 0, true⟩) (by simp [results, Tryz.results210, go_sem, cutV]) rfl ⟨by rw [HF.out], (new2 _ _ _).2.2⟩
  · have hie := isEmpty_ne h0
    by_cases h1 : 310 < (ds.size : Int) + e
    · have hf : floorOf ⟨neg, ds.data.toList, e⟩ = ⟨most, 1, false⟩ := by unfold floorOf; simp only [hsz]; rw [if_neg h0, if_pos h1]
      have HF := Lib.hid hf
      clear hf h0
      go_enter Tryz.func210, Tryz.ntmps210
      go_wp2_with fail
      exact bodyPost_ret (v := cutV ⟨most, 1, false⟩) (by simp [results, Tryz.results210, go_sem, cutV, most]) rfl ⟨by rw [HF.out], (new2 _ _ _).2.2⟩
    · by_cases h2 : (ds.size : Int) + e < -330
      · have hf : floorOf ⟨neg, ds.data.toList, e⟩ = ⟨0, -1, false⟩ := by unfold floorOf; simp only [hsz]; rw [if_neg h0, if_neg h1, if_pos h2]
        have HF := Lib.hid hf
        clear hf h0
        go_enter Tryz.func210, Tryz.ntmps210
        go_wp2_with fail
        exact bodyPost_ret (v := cutV ⟨0, -1, false⟩) (by simp [results, Tryz.results210, go_sem, cutV]) rfl ⟨by rw [HF.out], (new2 _ _ _).2.2⟩
      · by_cases hlen : 800 < ds.size
        · have hlen2 : (800 : Int) < (ds.size : Int) := by omega
          have hn0 : 0 < ds.size := by omega
          have hr5 : IntKind.i64.wrap ((ds.size : Int) - 801) = (ds.size : Int) - 801 := wr (by omega) (by omega)
          obtain ⟨x, hx⟩ : ∃ x : Nat, e + ((ds.size : Int) - 801) = -(x : Int) := ⟨(-(e + ((ds.size : Int) - 801))).toNat, by omega⟩
          have hr6 : IntKind.i64.wrap (-(x : Int)) = -(x : Int) := wr (by omega) (by omega)
          have hx0 : 0 < x := by omega
          have hx1 : x ≤ 1131 := by omega
          have hep2 : ¬ x = 0 := by omega
          have hep3 : ¬ (x : Int) ≤ 0 := by omega
          obtain ⟨s', hs'⟩ : ∃ s' : ByteArray, ds.extract 0 800 ++ ⟨#[49]⟩ = s' := ⟨_, rfl⟩
          have hsd : s'.data.toList = ds.data.toList.take 800 ++ [49] := by rw [← hs']; simp
          have hss : s'.size = 801 := by
            have : s'.data.toList.length = s'.size := Array.length_toList
            rw [hsd, List.length_append, List.length_take, hsz] at this
            simp at this; omega
          have hcd : cutDigits ds.data.toList = s'.data.toList := by unfold cutDigits; rw [hsz, if_pos hlen, hsd]
          have hce : cutExp ds.data.toList e = -(x : Int) := by unfold cutExp; rw [hsz, if_pos hlen]; omega
          have hds : Digits s'.data.toList := by
            intro c hc
            rw [hsd] at hc
            rcases List.mem_append.1 hc with h | h
            · exact HD.out c (List.mem_of_mem_take h)
            · simp at h; subst h; decide
          have HDS := Lib.hid hds
          have hv : dval s'.data.toList < 10 ^ s'.size := by
            have := dval_lt (l := s'.data.toList) (fun x hx => (hds x hx).2)
            rwa [Array.length_toList] at this
          have hvp : 0 < dval s'.data.toList := by rw [hsd, dval_snoc]; exact Nat.lt_of_lt_of_le (by decide : 0 < (49 : UInt8).toNat - 48) (Nat.le_add_left _ _)
          have hf : floorOf ⟨neg, ds.data.toList, e⟩ = ratioOf (dval s'.data.toList) (10 ^ x) := by
            unfold floorOf; simp only [hsz]; rw [if_neg h0, if_neg h1, if_neg h2, hcd, hce, if_neg (by omega), show (- -(x : Int)).toNat = x by omega]
          have HF := Lib.hid hf
          have hB := Lib.hid (floor_neg (x := x) hv (by omega))
          have HVB := Lib.hid (val_bits hv (by omega))
          obtain ⟨g1, g2, hb⟩ := new2 w (.cells #[.bool neg, .string ds, .int .i64 (-(x : Int))] 339) (.cells #[.int .u64 0, .int .i64 0, .bool false] 359)
          have HB := Lib.hid hb
          have HG1 := Lib.hid g1
          have HG2 := Lib.hid g2
          have hxl : x ≤ 1300 := by omega
          clear hf h0 hcd hce hds hsd g1 g2 hb
          go_enter Tryz.func210, Tryz.ntmps210
          go_wp2_with fail
          refine (parse_any s' _ HDS.out (by omega) (by omega)).mono ?_
          rintro r w1 ⟨a, k, c, rfl, hw, hb⟩
          have g1 := keep HG1.out hb
          have g2 := keep HG2.out hb
          have hbf := chain HB.out hb
          have hlt1 := lt_of_block g2
          have b1 : Below w1.heap.size w1 (w1.alloc (.cells #[.slice a k c] 381)) := (Below.refl _ _).alloc (Nat.le_refl _) _
          have g1 := keep g1 b1
          have g2 := keep g2 b1
          have hbf := chain hbf b1
          have g5 := heap_alloc_new w1 (.cells #[.slice a k c] 381)
          have hw := hw.below b1
          have HG1 := Lib.hid g1
          have HG2 := Lib.hid g2
          have HG5 := Lib.hid g5
          have HBF := Lib.hid hbf
          have HW := Lib.hid hw
          clear g1 g2 g5 hbf hw hb b1
          go_wp2_with fail
          refine (of_any 1 _ (by decide)).mono ?_
          rintro r w2 ⟨a1, k1, c1, rfl, hw1, hb⟩
          have hlt2 := lt_of_block (keep HG5.out hb)
          have b2 : Below w2.heap.size w2 (w2.alloc (.cells #[.slice a1 k1 c1] 381)) := (Below.refl _ _).alloc (Nat.le_refl _) _
          have HG7 := Lib.hid (heap_alloc_new w2 (.cells #[.slice a1 k1 c1] 381))
          have HG1 := Lib.hid (keep (keep HG1.out hb) b2)
          have HG2 := Lib.hid (keep (keep HG2.out hb) b2)
          have HG5 := Lib.hid (keep (keep HG5.out hb) b2)
          have HBF := Lib.hid (chain (chain HBF.out hb) b2)
          have HW := Lib.hid ((HW.out.below hb).below b2)
          have HW1 := Lib.hid (hw1.below b2)
          clear hb b2 hw1
          obtain ⟨c0, c1', c2, cf⟩ := cells3 HG1.out
          have d5 := cell_of_one HG5.out
          have f5 := free_of_one HG5.out
          have d7 := cell_of_one HG7.out
          have f7 := free_of_one HG7.out
          have hlt3 := lt_of_block HG7.out
          have hr4 : IntKind.i64.wrap (x : Int) = (x : Int) := wr (by omega) (by omega)
          have hltw : w.heap.size + 1 < w2.heap.size := by omega
          go_wp2_with fail
          generalize w2.alloc (.cells #[.slice a1 k1 c1] 381) = w3 at *
          refine (ten_any x _ (by omega)).mono ?_
          rintro r wx ⟨am, km, cm, rfl, hwx, hbx⟩
          have g2 := keep HG2.out hbx
          have g5 := keep HG5.out hbx
          have g7 := keep HG7.out hbx
          have hbf := chain HBF.out hbx
          have hw := HW.out.below hbx
          have HM := Lib.hid (hw.set g7 (by decide) 0 (.slice am km cm))
          have HX := Lib.hid (hwx.set g7 (by decide) 0 (.slice am km cm))
          have HBF := Lib.hid (hbf.setCell (p := ⟨w2.heap.size, 0, none⟩) (by simp; omega) (.slice am km cm))
          have G2 := Lib.hid ((set_else (w := wx) (o := 0) (k := w.heap.size + 1) (b := w2.heap.size) (.slice am km cm) (by omega)).trans g2)
          have e5 := cell_of_one ((set_else (w := wx) (o := 0) (k := w1.heap.size) (b := w2.heap.size) (.slice am km cm) (by omega)).trans g5)
          have e7 := cell_of_one (set_at (o := 0) g7 (.slice am km cm))
          have i7 := cell_of_one g7
          have j7 := free_of_one g7
          have i5 := cell_of_one g5
          clear g2 g5 g7 hbf hw hwx hbx d5 f5 d7 f7 c0 c1' c2 cf HG1 HG2 HG5 HG7 HW HW1
          go_wp2_with fail
          refine (ratio_any a am k km c cm (dval s'.data.toList) (10 ^ x) _ HM.out HX.out (Nat.ne_of_gt hvp) (Nat.ne_of_gt (Nat.pow_pos (by decide))) (Nat.le_trans HVB.out (by decide)) (Nat.le_trans (bitlen_ten x) (by omega)) hB.out).mono ?_
          rintro r wz ⟨rfl, hbz⟩
          have hbf := chain HBF.out hbz
          obtain ⟨q0, q1, q2, qf⟩ := cells3 (keep G2.out hbz)
          have HBZ := Lib.hid hbf
          clear hbf hbz HBF G2
          rw [← HF.out]
          obtain ⟨⟨cb, ch, ce⟩, hcut⟩ : ∃ z, floorOf ⟨neg, ds.data.toList, e⟩ = z := ⟨_, rfl⟩
          rw [hcut]
          have HCUT := Lib.hid hcut
          clear hcut HF
          unfold cutV
          go_wp2_with fail
          exact bodyPost_ret (v := cutV ⟨cb, ch, ce⟩) (by simp [results, Tryz.results210, go_sem, cutV, q0, q1, q2]) rfl ⟨by rw [HCUT.out], ((HBZ.out.setCell (Nat.le_succ _) _).setCell (Nat.le_succ _) _).setCell (Nat.le_succ _) _⟩
        · have hn0 : 0 < ds.size := by
            cases hc : ds.data.toList with
            | nil => exact absurd hc h0
            | cons x r => rw [hc] at hsz; simp at hsz; omega
          have hlen2 : ¬ (800 : Int) < (ds.size : Int) := by omega
          have hcd : cutDigits ds.data.toList = ds.data.toList := by unfold cutDigits; rw [hsz, if_neg hlen]
          have hce : cutExp ds.data.toList e = e := by unfold cutExp; rw [hsz, if_neg hlen]
          have hv : dval ds.data.toList < 10 ^ ds.size := by have := dval_lt (l := ds.data.toList) (fun x hx => (HD.out x hx).2); rwa [hsz] at this
          have hvp := HNZ.out (by omega)
          have HDS := HD
          by_cases hep : 0 ≤ e
          · obtain ⟨x, rfl⟩ := Int.eq_ofNat_of_zero_le hep
            have hf : floorOf ⟨neg, ds.data.toList, (x : Int)⟩ = ratioOf (dval ds.data.toList * 10 ^ x) 1 := by unfold floorOf; simp only [hsz]; rw [if_neg h0, if_neg h1, if_neg h2, hcd, hce, if_pos hep, Int.toNat_natCast]
            have HF := Lib.hid hf
            have HV := Lib.hid hv
            have hB := Lib.hid (floor_pos (x := x) hv (by omega))
            have HVB := Lib.hid (val_bits hv (by omega))
            clear hf h0 hcd hce
            go_enter Tryz.func210, Tryz.ntmps210
            go_wp2_with fail
            refine (parse_any ds _ HDS.out (by omega) (by omega)).mono ?_
            rintro r w1 ⟨a, k, c, rfl, hw, hb⟩
            have g1 := keep HG1.out hb
            have g2 := keep HG2.out hb
            have hbf := chain HB.out hb
            have hlt1 := lt_of_block g2
            have b1 : Below w1.heap.size w1 (w1.alloc (.cells #[.slice a k c] 381)) := (Below.refl _ _).alloc (Nat.le_refl _) _
            have g1 := keep g1 b1
            have g2 := keep g2 b1
            have hbf := chain hbf b1
            have g5 := heap_alloc_new w1 (.cells #[.slice a k c] 381)
            have hw := hw.below b1
            have HG1 := Lib.hid g1
            have HG2 := Lib.hid g2
            have HG5 := Lib.hid g5
            have HBF := Lib.hid hbf
            have HW := Lib.hid hw
            clear g1 g2 g5 hbf hw hb b1
            go_wp2_with fail
            refine (of_any 1 _ (by decide)).mono ?_
            rintro r w2 ⟨a1, k1, c1, rfl, hw1, hb⟩
            have hlt2 := lt_of_block (keep HG5.out hb)
            have b2 : Below w2.heap.size w2 (w2.alloc (.cells #[.slice a1 k1 c1] 381)) := (Below.refl _ _).alloc (Nat.le_refl _) _
            have HG7 := Lib.hid (heap_alloc_new w2 (.cells #[.slice a1 k1 c1] 381))
            have HG1 := Lib.hid (keep (keep HG1.out hb) b2)
            have HG2 := Lib.hid (keep (keep HG2.out hb) b2)
            have HG5 := Lib.hid (keep (keep HG5.out hb) b2)
            have HBF := Lib.hid (chain (chain HBF.out hb) b2)
            have HW := Lib.hid ((HW.out.below hb).below b2)
            have HW1 := Lib.hid (hw1.below b2)
            clear hb b2 hw1
            obtain ⟨c0, c1', c2, cf⟩ := cells3 HG1.out
            have d5 := cell_of_one HG5.out
            have f5 := free_of_one HG5.out
            have d7 := cell_of_one HG7.out
            have f7 := free_of_one HG7.out
            have hlt3 := lt_of_block HG7.out
            have hltw : w.heap.size < w1.heap.size := by omega
            go_wp2_with fail
            generalize w2.alloc (.cells #[.slice a1 k1 c1] 381) = w3 at *
            clear c0 c1' d7 f7
            have hLV : (Lim.limbs (dval ds.data.toList)).length ≤ 1048576 := Nat.le_trans (Lim.short (k := 128) (Nat.le_trans HVB.out (by decide))) (by decide)
            have hLX : (Lim.limbs (10 ^ x)).length ≤ 1048576 := Nat.le_trans (Lim.short (k := 128) (Nat.le_trans (bitlen_ten x) (by omega))) (by decide)
            have HLV := Lib.hid hLV
            have HLX := Lib.hid hLX
            clear hLV hLX
            go_region_with
              (first | (go_at_call 233; (with_reducible refine (ten_any x _ (by omega)).mono ?_); rintro r wx ⟨ax, kx, cx, rfl, hwx, hbx⟩; have hx1 := (hbx.cell (p := ⟨w1.heap.size, 0, none⟩) (by simp; omega)).trans d5; have hx2 := (hbx.cell (p := ⟨w.heap.size, 2, none⟩) (by simp; omega)).trans c2) | (go_at_call 232; (with_reducible refine (mul_any a ax k kx c cx (dval ds.data.toList) (10 ^ x) _ ((HW.out.drew).below hbx) hwx HLV.out HLX.out).mono ?_); rintro r wy ⟨am, km, cm, rfl, hwm, hby⟩; have hy1 := (hby.cell (p := ⟨w1.heap.size, 0, none⟩) (by have := hbx.size; simp at this; simp; omega)).trans hx1; have hy2 := (hby.cell (p := ⟨w.heap.size, 2, none⟩) (by have := hbx.size; simp at this; simp; omega)).trans hx2; have hyf := (hby.frozen (p := ⟨w1.heap.size, 0, none⟩) (by have := hbx.size; simp at this; simp; omega)).trans ((hbx.frozen (p := ⟨w1.heap.size, 0, none⟩) (by simp; omega)).trans f5)))
            all_goals
              have g1 := keep (keep (w1 := w3.drew) HG1.out hbx) hby
              have g2 := keep (keep (w1 := w3.drew) HG2.out hbx) hby
              have g5 := keep (keep (w1 := w3.drew) HG5.out hbx) hby
              have g7 := keep (keep (w1 := w3.drew) HG7.out hbx) hby
              have hbf := chain (chain HBF.out.drew hbx) hby
              have hw1 := ((HW1.out.drew).below hbx).below hby
              rw [capN_fit (Nat.le_trans hB.out (by decide))] at hwm
              have HM := Lib.hid (hwm.set g5 (by decide) 0 (.slice am km cm))
              have HW1 := Lib.hid (hw1.set g5 (by decide) 0 (.slice am km cm))
              have HBF := Lib.hid (hbf.setCell (p := ⟨w1.heap.size, 0, none⟩) (Nat.le_of_lt hltw) (.slice am km cm))
              have G2 := Lib.hid ((set_else (w := wy) (o := 0) (k := w.heap.size + 1) (b := w1.heap.size) (.slice am km cm) (by omega)).trans g2)
              have e5 := cell_of_one (set_at (o := 0) g5 (.slice am km cm))
              have e7 := cell_of_one ((set_else (w := wy) (o := 0) (k := w2.heap.size) (b := w1.heap.size) (.slice am km cm) (by omega)).trans g7)
              clear g1 g2 g5 g7 hbf hw1 hwm hx1 hx2 hy1 hy2 hyf hbx hby hwx d5 f5 c2 cf HG1 HG2 HG5 HG7 HW
              go_wp2_with fail
              refine (ratio_any am a1 km k1 cm c1 (dval ds.data.toList * 10 ^ x) 1 _ HM.out HW1.out (Nat.ne_of_gt (Nat.mul_pos hvp (Nat.pow_pos (by decide)))) (by decide) (Nat.le_trans hB.out (by decide)) (by decide) (Nat.le_trans hB.out (by decide))).mono ?_
              rintro r wz ⟨rfl, hbz⟩
              have hbf := chain HBF.out hbz
              obtain ⟨q0, q1, q2, qf⟩ := cells3 (keep G2.out hbz)
              have HBZ := Lib.hid hbf
              clear hbf hbz HBF G2
              rw [← HF.out]
              obtain ⟨⟨cb, ch, ce⟩, hcut⟩ : ∃ z, floorOf ⟨neg, ds.data.toList, (x : Int)⟩ = z := ⟨_, rfl⟩
              rw [hcut]
              have HCUT := Lib.hid hcut
              clear hcut HF
              unfold cutV
              go_wp2_with fail
              exact bodyPost_ret (v := cutV ⟨cb, ch, ce⟩) (by simp [results, Tryz.results210, go_sem, cutV, q0, q1, q2]) rfl ⟨by rw [HCUT.out], ((HBZ.out.setCell (Nat.le_succ _) _).setCell (Nat.le_succ _) _).setCell (Nat.le_succ _) _⟩
          · obtain ⟨x, hx⟩ : ∃ x : Nat, e = -(x : Int) := ⟨(-e).toNat, by omega⟩
            subst hx
            have hx0 : 0 < x := by omega
            have hep2 : ¬ x = 0 := by omega
            have hep3 : ¬ (x : Int) ≤ 0 := by omega
            have hf : floorOf ⟨neg, ds.data.toList, -(x : Int)⟩ = ratioOf (dval ds.data.toList) (10 ^ x) := by
              unfold floorOf; simp only [hsz]; rw [if_neg h0, if_neg h1, if_neg h2, hcd, hce, if_neg hep, show (- -(x : Int)).toNat = x by omega]
            have HF := Lib.hid hf
            have hB := Lib.hid (floor_neg (x := x) hv (by omega))
            have HVB := Lib.hid (val_bits hv (by omega))
            clear hf h0 hcd hce
            go_enter Tryz.func210, Tryz.ntmps210
            go_wp2_with fail
            refine (parse_any ds _ HDS.out (by omega) (by omega)).mono ?_
            rintro r w1 ⟨a, k, c, rfl, hw, hb⟩
            have g1 := keep HG1.out hb
            have g2 := keep HG2.out hb
            have hbf := chain HB.out hb
            have hlt1 := lt_of_block g2
            have b1 : Below w1.heap.size w1 (w1.alloc (.cells #[.slice a k c] 381)) := (Below.refl _ _).alloc (Nat.le_refl _) _
            have g1 := keep g1 b1
            have g2 := keep g2 b1
            have hbf := chain hbf b1
            have g5 := heap_alloc_new w1 (.cells #[.slice a k c] 381)
            have hw := hw.below b1
            have HG1 := Lib.hid g1
            have HG2 := Lib.hid g2
            have HG5 := Lib.hid g5
            have HBF := Lib.hid hbf
            have HW := Lib.hid hw
            clear g1 g2 g5 hbf hw hb b1
            go_wp2_with fail
            refine (of_any 1 _ (by decide)).mono ?_
            rintro r w2 ⟨a1, k1, c1, rfl, hw1, hb⟩
            have hlt2 := lt_of_block (keep HG5.out hb)
            have b2 : Below w2.heap.size w2 (w2.alloc (.cells #[.slice a1 k1 c1] 381)) := (Below.refl _ _).alloc (Nat.le_refl _) _
            have HG7 := Lib.hid (heap_alloc_new w2 (.cells #[.slice a1 k1 c1] 381))
            have HG1 := Lib.hid (keep (keep HG1.out hb) b2)
            have HG2 := Lib.hid (keep (keep HG2.out hb) b2)
            have HG5 := Lib.hid (keep (keep HG5.out hb) b2)
            have HBF := Lib.hid (chain (chain HBF.out hb) b2)
            have HW := Lib.hid ((HW.out.below hb).below b2)
            have HW1 := Lib.hid (hw1.below b2)
            clear hb b2 hw1
            obtain ⟨c0, c1', c2, cf⟩ := cells3 HG1.out
            have d5 := cell_of_one HG5.out
            have f5 := free_of_one HG5.out
            have d7 := cell_of_one HG7.out
            have f7 := free_of_one HG7.out
            have hlt3 := lt_of_block HG7.out
            have hr4 : IntKind.i64.wrap (x : Int) = (x : Int) := wr (by omega) (by omega)
            have hltw : w.heap.size + 1 < w2.heap.size := by omega
            go_wp2_with fail
            generalize w2.alloc (.cells #[.slice a1 k1 c1] 381) = w3 at *
            refine (ten_any x _ (by omega)).mono ?_
            rintro r wx ⟨am, km, cm, rfl, hwx, hbx⟩
            have g2 := keep HG2.out hbx
            have g5 := keep HG5.out hbx
            have g7 := keep HG7.out hbx
            have hbf := chain HBF.out hbx
            have hw := HW.out.below hbx
            have HM := Lib.hid (hw.set g7 (by decide) 0 (.slice am km cm))
            have HX := Lib.hid (hwx.set g7 (by decide) 0 (.slice am km cm))
            have HBF := Lib.hid (hbf.setCell (p := ⟨w2.heap.size, 0, none⟩) (by simp; omega) (.slice am km cm))
            have G2 := Lib.hid ((set_else (w := wx) (o := 0) (k := w.heap.size + 1) (b := w2.heap.size) (.slice am km cm) (by omega)).trans g2)
            have e5 := cell_of_one ((set_else (w := wx) (o := 0) (k := w1.heap.size) (b := w2.heap.size) (.slice am km cm) (by omega)).trans g5)
            have e7 := cell_of_one (set_at (o := 0) g7 (.slice am km cm))
            have i7 := cell_of_one g7
            have j7 := free_of_one g7
            have i5 := cell_of_one g5
            clear g2 g5 g7 hbf hw hwx hbx d5 f5 d7 f7 c0 c1' c2 cf HG1 HG2 HG5 HG7 HW HW1
            go_wp2_with fail
            refine (ratio_any a am k km c cm (dval ds.data.toList) (10 ^ x) _ HM.out HX.out (Nat.ne_of_gt hvp) (Nat.ne_of_gt (Nat.pow_pos (by decide))) (Nat.le_trans HVB.out (by decide)) (Nat.le_trans (bitlen_ten x) (by omega)) hB.out).mono ?_
            rintro r wz ⟨rfl, hbz⟩
            have hbf := chain HBF.out hbz
            obtain ⟨q0, q1, q2, qf⟩ := cells3 (keep G2.out hbz)
            have HBZ := Lib.hid hbf
            clear hbf hbz HBF G2
            rw [← HF.out]
            obtain ⟨⟨cb, ch, ce⟩, hcut⟩ : ∃ z, floorOf ⟨neg, ds.data.toList, -(x : Int)⟩ = z := ⟨_, rfl⟩
            rw [hcut]
            have HCUT := Lib.hid hcut
            clear hcut HF
            unfold cutV
            go_wp2_with fail
            exact bodyPost_ret (v := cutV ⟨cb, ch, ce⟩) (by simp [results, Tryz.results210, go_sem, cutV, q0, q1, q2]) rfl ⟨by rw [HCUT.out], ((HBZ.out.setCell (Nat.le_succ _) _).setCell (Nat.le_succ _) _).setCell (Nat.le_succ _) _⟩
end Go.Proofs.YtakkmiomhackiaaGreatDoor

/-
  Package dec, eighth part: rounded, Round, Bits.
-/
namespace Go.Proofs.YtakkmiomhackiaaGreatDoor
open Go.RowKit
set_option maxRecDepth 100000

theorem if_le {b : Nat} {c c' : Cut} (hc : c.bits ≤ most) (hc' : ¬ most < b → c'.bits ≤ most) : (if most < b then c else c').bits ≤ most := by
  split
  · exact hc
  · rename_i h; exact hc' h
theorem cut_le (q r : Nat) (up : Int) : (cutOf q r up).bits ≤ most := if_le (Nat.le_refl _) (fun h => Nat.not_lt.1 h)
theorem floor_le (d : Dml) : (floorOf d).bits ≤ most := by
  unfold floorOf
  split
  · exact Nat.zero_le _
  · split
    · exact Nat.le_refl _
    · split
      · exact Nat.zero_le _
      · split <;> exact cut_le _ _ _
theorem or_top {b : Nat} (h : b < 9223372036854775808) : bits BinOp.or IntKind.u64 (b : Int) 9223372036854775808 = ((b + 9223372036854775808 : Nat) : Int) := by
  have e := bits_or_u64_nat b 9223372036854775808 (by omega) (by decide)
  have h2 : b ||| 9223372036854775808 = b + 9223372036854775808 := by
    have := Nat.two_pow_add_eq_or_of_lt (i := 63) (b := b) (by simpa using h) 1
    rw [Nat.or_comm, Nat.add_comm]
    simpa using this.symm
  rw [h2] at e
  exact e
theorem and_one {b : Nat} (h : b < 18446744073709551616) : bits BinOp.and IntKind.u64 (b : Int) 1 = ((b % 2 : Nat) : Int) := by
  have e := bits_and_u64_nat b 1 h (by decide)
  rw [Nat.and_one_is_mod] at e
  exact e

def topIf (neg : Bool) (b : Nat) : Nat := if neg = true ∧ 0 < b then b + 9223372036854775808 else b
def roundIf (neg : Bool) (b : Nat) : Option Nat := if most < b then none else some (topIf neg b)
def roundedRet (o : Option Nat) (e : Ending) : Prop := match o with
  | some b => e = .returned (.tuple #[.int .u64 b, .nilIface])
  | none => e = .returned (.tuple #[.int .u64 0, .iface 29 (.int .i64 41)])

/-- What Bits hands back: the bits, or some error. -/
def bitsRet (o : Option Nat) (e : Ending) : Prop := match o with
  | some b => e = .returned (.tuple #[.int .u64 b, .nilIface])
  | none => ∃ T v, e = .returned (.tuple #[.int .u64 0, .iface T v])

set_option maxHeartbeats 4000000 in
theorem rounded_any (neg : Bool) (ds : ByteArray) (e : Int) (w : World) (hd : Digits ds.data.toList) (hs : ds.size ≤ 1073741824) (he : -4611686018427387904 ≤ e) (he2 : e ≤ 4611686018427387904) (hnz : ds.size ≠ 0 → 0 < dval ds.data.toList) :
    Calls Tryz.prog 195 #[.agg #[.bool neg, .string ds, .int .i64 e], .int .i64 1] w fun r w' => roundedRet (roundedOf ⟨neg, ds.data.toList, e⟩) r ∧ Below w.heap.size w w' := by
  have HF := fun w => floor_any neg ds e w hd hs he he2 hnz
  have hle := floor_le ⟨neg, ds.data.toList, e⟩
  have hr : roundedOf ⟨neg, ds.data.toList, e⟩ = roundIf neg (evenBits (floorOf ⟨neg, ds.data.toList, e⟩)) := rfl
  rw [hr]
  clear hr hd hnz
  obtain ⟨⟨b, h, x⟩, hc⟩ : ∃ c, floorOf ⟨neg, ds.data.toList, e⟩ = c := ⟨_, rfl⟩
  simp only [hc] at *
  clear hc
  have HB0 : Hid (∀ w1 w2 : World, ∀ o : Obj, Below (w.alloc o).heap.size (w.alloc o) w1 → Below w.heap.size w w1) := Lib.hid fun w1 w2 o hh => (after1 hh).2.1
  unfold cutV at HF
  go_enter Tryz.func195, Tryz.ntmps195
  go_wp2_with fail
  refine (HF _).mono ?_
  rintro r w1 ⟨rfl, hb⟩
  obtain ⟨h1, hbw, hsz⟩ := after1 hb
  have b1 : Below w1.heap.size w1 (w1.alloc (.cells #[.int .u64 b, .int .i64 h, .bool x] 359)) := (Below.refl _ _).alloc (Nat.le_refl _) _
  have h6 := heap_alloc_new w1 (.cells #[.int .u64 b, .int .i64 h, .bool x] 359)
  have h2 := keep h1 b1
  have hbf := chain hbw b1
  obtain ⟨c0, c1, c2, cf⟩ := cells3 h2
  --WAYS
  have HA := Lib.hid (and_one (b := b) (by unfold most at hle; omega))
  have HBEL := Lib.hid (fun o : Obj => hbw.alloc (by omega) o)
  have hcn : ∀ o : Obj, (w1.alloc o).cell? ⟨w.heap.size, 0, none⟩ = some (.bool neg) := fun o => (cells3 (keep h1 ((Below.refl _ _).alloc (Nat.le_refl _) o))).1
  clear hb h1 hbw b1 h6 hbf c0 c1 c2 cf
  by_cases h0 : h = 0
  · subst h0
    by_cases hpar : b % 2 = 0
    · have hpar2 : bits BinOp.and IntKind.u64 (b : Int) 1 = 0 := by rw [HA.out, hpar]; rfl
      have HEB0 : evenBits ⟨b, 0, x⟩ = b := by unfold evenBits; rw [if_pos ⟨rfl, hpar⟩]
      obtain ⟨bb, hbb⟩ : ∃ z : Nat, z = b := ⟨_, rfl⟩
      have hbl : bb < 9223372036854775808 := by unfold most at hle; omega
      subst hbb
      have HEB := Lib.hid HEB0
      clear HEB0
      by_cases hm : most < bb
      · have hm2 : (9218868437227405311 : Int) < (bb : Int) := by unfold most at hm; omega
        have hfin := Lib.hid (show roundIf neg bb = none from if_pos hm)
        clear hm
        go_wp2_with fail
        exact bodyPost_ret (v := .tuple #[.int .u64 0, .iface 29 (.int .i64 41)]) (by simp [results, Tryz.results195, go_sem]) rfl ⟨by rw [HEB.out, hfin.out]; rfl, HBEL.out _⟩
      · have hm2 : ¬ (9218868437227405311 : Int) < (bb : Int) := by unfold most at hm; omega
        have hfin := Lib.hid (show roundIf neg bb = some (topIf neg bb) from if_neg hm)
        clear hm
        have hor := or_top hbl
        cases neg with
        | false =>
          go_wp2_with fail
          exact bodyPost_ret (v := .tuple #[.int .u64 bb, .nilIface]) (by simp [results, Tryz.results195, go_sem]) rfl ⟨by rw [HEB.out, hfin.out]; rfl, HBEL.out _⟩
        | true =>
          by_cases hb0 : 0 < bb
          · have hb1 : (0 : Int) < (bb : Int) := by omega
            have hif := Lib.hid (show topIf true bb = bb + 9223372036854775808 from if_pos ⟨rfl, hb0⟩)
            clear hb0
            go_wp2_with fail
            exact bodyPost_ret (v := .tuple #[.int .u64 ((bb + 9223372036854775808 : Nat) : Int), .nilIface]) (by simp [results, Tryz.results195, go_sem]) rfl ⟨by rw [HEB.out, hfin.out, hif.out]; rfl, HBEL.out _⟩
          · have hb1 : ¬ (0 : Int) < (bb : Int) := by omega
            have hif := Lib.hid (show topIf true bb = bb from if_neg (fun h => hb0 h.2))
            clear hb0
            go_wp2_with fail
            exact bodyPost_ret (v := .tuple #[.int .u64 bb, .nilIface]) (by simp [results, Tryz.results195, go_sem]) rfl ⟨by rw [HEB.out, hfin.out, hif.out]; rfl, HBEL.out _⟩
    · cases x with
      | false =>
        have hpar2 : bits BinOp.and IntKind.u64 (b : Int) 1 = 1 := by rw [HA.out, show b % 2 = 1 by omega]; rfl
        have HEB0 : evenBits ⟨b, 0, false⟩ = b + 1 := by unfold evenBits; rw [if_neg (fun h => hpar h.2), if_pos ⟨Int.le_refl 0, rfl⟩]
        have hwb : IntKind.u64.wrap ((b : Int) + 1) = ((b + 1 : Nat) : Int) := by rw [IntKind.wrap_u64]; unfold most at hle; omega
        obtain ⟨bb, hbb⟩ : ∃ z : Nat, b + 1 = z := ⟨_, rfl⟩
        rw [hbb] at hwb HEB0
        have hbl : bb < 9223372036854775808 := by unfold most at hle; omega
        have HEB := Lib.hid HEB0
        clear HEB0 hbb
        by_cases hm : most < bb
        · have hm2 : (9218868437227405311 : Int) < (bb : Int) := by unfold most at hm; omega
          have hfin := Lib.hid (show roundIf neg bb = none from if_pos hm)
          clear hm
          go_wp2_with fail
          exact bodyPost_ret (v := .tuple #[.int .u64 0, .iface 29 (.int .i64 41)]) (by simp [results, Tryz.results195, go_sem]) rfl ⟨by rw [HEB.out, hfin.out]; rfl, HBEL.out _⟩
        · have hm2 : ¬ (9218868437227405311 : Int) < (bb : Int) := by unfold most at hm; omega
          have hfin := Lib.hid (show roundIf neg bb = some (topIf neg bb) from if_neg hm)
          clear hm
          have hor := or_top hbl
          cases neg with
          | false =>
            go_wp2_with fail
            exact bodyPost_ret (v := .tuple #[.int .u64 bb, .nilIface]) (by simp [results, Tryz.results195, go_sem]) rfl ⟨by rw [HEB.out, hfin.out]; rfl, HBEL.out _⟩
          | true =>
            by_cases hb0 : 0 < bb
            · have hb1 : (0 : Int) < (bb : Int) := by omega
              have hif := Lib.hid (show topIf true bb = bb + 9223372036854775808 from if_pos ⟨rfl, hb0⟩)
              clear hb0
              go_wp2_with fail
              exact bodyPost_ret (v := .tuple #[.int .u64 ((bb + 9223372036854775808 : Nat) : Int), .nilIface]) (by simp [results, Tryz.results195, go_sem]) rfl ⟨by rw [HEB.out, hfin.out, hif.out]; rfl, HBEL.out _⟩
            · have hb1 : ¬ (0 : Int) < (bb : Int) := by omega
              have hif := Lib.hid (show topIf true bb = bb from if_neg (fun h => hb0 h.2))
              clear hb0
              go_wp2_with fail
              exact bodyPost_ret (v := .tuple #[.int .u64 bb, .nilIface]) (by simp [results, Tryz.results195, go_sem]) rfl ⟨by rw [HEB.out, hfin.out, hif.out]; rfl, HBEL.out _⟩
      | true =>
        have hpar2 : bits BinOp.and IntKind.u64 (b : Int) 1 = 1 := by rw [HA.out, show b % 2 = 1 by omega]; rfl
        have HEB0 : evenBits ⟨b, 0, true⟩ = b := by unfold evenBits; rw [if_neg (fun h => hpar h.2), if_neg (by simp)]
        obtain ⟨bb, hbb⟩ : ∃ z : Nat, z = b := ⟨_, rfl⟩
        have hbl : bb < 9223372036854775808 := by unfold most at hle; omega
        subst hbb
        have HEB := Lib.hid HEB0
        clear HEB0
        by_cases hm : most < bb
        · have hm2 : (9218868437227405311 : Int) < (bb : Int) := by unfold most at hm; omega
          have hfin := Lib.hid (show roundIf neg bb = none from if_pos hm)
          clear hm
          go_wp2_with fail
          exact bodyPost_ret (v := .tuple #[.int .u64 0, .iface 29 (.int .i64 41)]) (by simp [results, Tryz.results195, go_sem]) rfl ⟨by rw [HEB.out, hfin.out]; rfl, HBEL.out _⟩
        · have hm2 : ¬ (9218868437227405311 : Int) < (bb : Int) := by unfold most at hm; omega
          have hfin := Lib.hid (show roundIf neg bb = some (topIf neg bb) from if_neg hm)
          clear hm
          have hor := or_top hbl
          cases neg with
          | false =>
            go_wp2_with fail
            exact bodyPost_ret (v := .tuple #[.int .u64 bb, .nilIface]) (by simp [results, Tryz.results195, go_sem]) rfl ⟨by rw [HEB.out, hfin.out]; rfl, HBEL.out _⟩
          | true =>
            by_cases hb0 : 0 < bb
            · have hb1 : (0 : Int) < (bb : Int) := by omega
              have hif := Lib.hid (show topIf true bb = bb + 9223372036854775808 from if_pos ⟨rfl, hb0⟩)
              clear hb0
              go_wp2_with fail
              exact bodyPost_ret (v := .tuple #[.int .u64 ((bb + 9223372036854775808 : Nat) : Int), .nilIface]) (by simp [results, Tryz.results195, go_sem]) rfl ⟨by rw [HEB.out, hfin.out, hif.out]; rfl, HBEL.out _⟩
            · exfalso; omega
  · by_cases hh : 0 < h
    · cases x with
      | false =>
        have hg0 : (h == 0) = false := by simpa using h0
        have hg1 : (0 : Int) ≤ h := by omega
        have HEB0 : evenBits ⟨b, h, false⟩ = b + 1 := by unfold evenBits; rw [if_neg (fun hh => h0 hh.1), if_pos ⟨hg1, rfl⟩]
        have hwb : IntKind.u64.wrap ((b : Int) + 1) = ((b + 1 : Nat) : Int) := by rw [IntKind.wrap_u64]; unfold most at hle; omega
        obtain ⟨bb, hbb⟩ : ∃ z : Nat, b + 1 = z := ⟨_, rfl⟩
        rw [hbb] at hwb HEB0
        have hbl : bb < 9223372036854775808 := by unfold most at hle; omega
        have HEB := Lib.hid HEB0
        clear HEB0 hbb
        by_cases hm : most < bb
        · have hm2 : (9218868437227405311 : Int) < (bb : Int) := by unfold most at hm; omega
          have hfin := Lib.hid (show roundIf neg bb = none from if_pos hm)
          clear hm
          go_wp2_with fail
          exact bodyPost_ret (v := .tuple #[.int .u64 0, .iface 29 (.int .i64 41)]) (by simp [results, Tryz.results195, go_sem]) rfl ⟨by rw [HEB.out, hfin.out]; rfl, HBEL.out _⟩
        · have hm2 : ¬ (9218868437227405311 : Int) < (bb : Int) := by unfold most at hm; omega
          have hfin := Lib.hid (show roundIf neg bb = some (topIf neg bb) from if_neg hm)
          clear hm
          have hor := or_top hbl
          cases neg with
          | false =>
            go_wp2_with fail
            exact bodyPost_ret (v := .tuple #[.int .u64 bb, .nilIface]) (by simp [results, Tryz.results195, go_sem]) rfl ⟨by rw [HEB.out, hfin.out]; rfl, HBEL.out _⟩
          | true =>
            by_cases hb0 : 0 < bb
            · have hb1 : (0 : Int) < (bb : Int) := by omega
              have hif := Lib.hid (show topIf true bb = bb + 9223372036854775808 from if_pos ⟨rfl, hb0⟩)
              clear hb0
              go_wp2_with fail
              exact bodyPost_ret (v := .tuple #[.int .u64 ((bb + 9223372036854775808 : Nat) : Int), .nilIface]) (by simp [results, Tryz.results195, go_sem]) rfl ⟨by rw [HEB.out, hfin.out, hif.out]; rfl, HBEL.out _⟩
            · have hb1 : ¬ (0 : Int) < (bb : Int) := by omega
              have hif := Lib.hid (show topIf true bb = bb from if_neg (fun h => hb0 h.2))
              clear hb0
              go_wp2_with fail
              exact bodyPost_ret (v := .tuple #[.int .u64 bb, .nilIface]) (by simp [results, Tryz.results195, go_sem]) rfl ⟨by rw [HEB.out, hfin.out, hif.out]; rfl, HBEL.out _⟩
      | true =>
        have hg0 : (h == 0) = false := by simpa using h0
        have hg1 : (0 : Int) ≤ h := by omega
        have HEB0 : evenBits ⟨b, h, true⟩ = b := by unfold evenBits; rw [if_neg (fun hh => h0 hh.1), if_neg (by simp)]
        obtain ⟨bb, hbb⟩ : ∃ z : Nat, z = b := ⟨_, rfl⟩
        have hbl : bb < 9223372036854775808 := by unfold most at hle; omega
        subst hbb
        have HEB := Lib.hid HEB0
        clear HEB0
        by_cases hm : most < bb
        · have hm2 : (9218868437227405311 : Int) < (bb : Int) := by unfold most at hm; omega
          have hfin := Lib.hid (show roundIf neg bb = none from if_pos hm)
          clear hm
          go_wp2_with fail
          exact bodyPost_ret (v := .tuple #[.int .u64 0, .iface 29 (.int .i64 41)]) (by simp [results, Tryz.results195, go_sem]) rfl ⟨by rw [HEB.out, hfin.out]; rfl, HBEL.out _⟩
        · have hm2 : ¬ (9218868437227405311 : Int) < (bb : Int) := by unfold most at hm; omega
          have hfin := Lib.hid (show roundIf neg bb = some (topIf neg bb) from if_neg hm)
          clear hm
          have hor := or_top hbl
          cases neg with
          | false =>
            go_wp2_with fail
            exact bodyPost_ret (v := .tuple #[.int .u64 bb, .nilIface]) (by simp [results, Tryz.results195, go_sem]) rfl ⟨by rw [HEB.out, hfin.out]; rfl, HBEL.out _⟩
          | true =>
            by_cases hb0 : 0 < bb
            · have hb1 : (0 : Int) < (bb : Int) := by omega
              have hif := Lib.hid (show topIf true bb = bb + 9223372036854775808 from if_pos ⟨rfl, hb0⟩)
              clear hb0
              go_wp2_with fail
              exact bodyPost_ret (v := .tuple #[.int .u64 ((bb + 9223372036854775808 : Nat) : Int), .nilIface]) (by simp [results, Tryz.results195, go_sem]) rfl ⟨by rw [HEB.out, hfin.out, hif.out]; rfl, HBEL.out _⟩
            · have hb1 : ¬ (0 : Int) < (bb : Int) := by omega
              have hif := Lib.hid (show topIf true bb = bb from if_neg (fun h => hb0 h.2))
              clear hb0
              go_wp2_with fail
              exact bodyPost_ret (v := .tuple #[.int .u64 bb, .nilIface]) (by simp [results, Tryz.results195, go_sem]) rfl ⟨by rw [HEB.out, hfin.out, hif.out]; rfl, HBEL.out _⟩
    · have hg0 : (h == 0) = false := by simpa using h0
      have hg1 : ¬ (0 : Int) ≤ h := by omega
      have HEB0 : evenBits ⟨b, h, x⟩ = b := by unfold evenBits; rw [if_neg (fun hh => h0 hh.1), if_neg (fun hh => hg1 hh.1)]
      obtain ⟨bb, hbb⟩ : ∃ z : Nat, z = b := ⟨_, rfl⟩
      have hbl : bb < 9223372036854775808 := by unfold most at hle; omega
      subst hbb
      have HEB := Lib.hid HEB0
      clear HEB0
      by_cases hm : most < bb
      · have hm2 : (9218868437227405311 : Int) < (bb : Int) := by unfold most at hm; omega
        have hfin := Lib.hid (show roundIf neg bb = none from if_pos hm)
        clear hm
        go_wp2_with fail
        exact bodyPost_ret (v := .tuple #[.int .u64 0, .iface 29 (.int .i64 41)]) (by simp [results, Tryz.results195, go_sem]) rfl ⟨by rw [HEB.out, hfin.out]; rfl, HBEL.out _⟩
      · have hm2 : ¬ (9218868437227405311 : Int) < (bb : Int) := by unfold most at hm; omega
        have hfin := Lib.hid (show roundIf neg bb = some (topIf neg bb) from if_neg hm)
        clear hm
        have hor := or_top hbl
        cases neg with
        | false =>
          go_wp2_with fail
          exact bodyPost_ret (v := .tuple #[.int .u64 bb, .nilIface]) (by simp [results, Tryz.results195, go_sem]) rfl ⟨by rw [HEB.out, hfin.out]; rfl, HBEL.out _⟩
        | true =>
          by_cases hb0 : 0 < bb
          · have hb1 : (0 : Int) < (bb : Int) := by omega
            have hif := Lib.hid (show topIf true bb = bb + 9223372036854775808 from if_pos ⟨rfl, hb0⟩)
            clear hb0
            go_wp2_with fail
            exact bodyPost_ret (v := .tuple #[.int .u64 ((bb + 9223372036854775808 : Nat) : Int), .nilIface]) (by simp [results, Tryz.results195, go_sem]) rfl ⟨by rw [HEB.out, hfin.out, hif.out]; rfl, HBEL.out _⟩
          · have hb1 : ¬ (0 : Int) < (bb : Int) := by omega
            have hif := Lib.hid (show topIf true bb = bb from if_neg (fun h => hb0 h.2))
            clear hb0
            go_wp2_with fail
            exact bodyPost_ret (v := .tuple #[.int .u64 bb, .nilIface]) (by simp [results, Tryz.results195, go_sem]) rfl ⟨by rw [HEB.out, hfin.out, hif.out]; rfl, HBEL.out _⟩

theorem is_even (w : World) : Calls Tryz.prog 193 #[.int .i64 1] w fun e w' => e = .returned (.bool true) ∧ w' = w := by
  go_enter Tryz.func193, Tryz.ntmps193
  go_wp2
  go_ret
  exact ⟨rfl, rfl⟩
theorem drop_head {l r : List UInt8} {c : UInt8} (h : l.dropWhile (fun x => x == 48) = c :: r) : c ≠ 48 := by
  induction l with
  | nil => cases h
  | cons x l ih =>
    by_cases hx : (x == 48) = true
    · rw [List.dropWhile_cons_of_pos (by simpa using hx)] at h; exact ih h
    · rw [List.dropWhile_cons_of_neg (by simpa using hx)] at h
      injection h with h1 h2
      subst h1
      intro e
      subst e
      exact hx rfl
theorem strip_ok (neg : Bool) (ds : List UInt8) (e : Int) (hd : ∀ c ∈ ds, isD c = true) : Digits (stripOf neg ds e).digits ∧ (stripOf neg ds e).digits.length ≤ ds.length ∧ ((stripOf neg ds e).digits ≠ [] → 0 < dval (stripOf neg ds e).digits) ∧
    ((stripOf neg ds e).exp = 0 ∨ (e ≤ (stripOf neg ds e).exp ∧ (stripOf neg ds e).exp ≤ e + ds.length)) := by
  unfold stripOf
  split
  · exact ⟨(fun c hc => by cases hc), Nat.zero_le _, fun h => absurd rfl h, .inl rfl⟩
  · rename_i hne
    have hT : ∀ c ∈ Lib.trimLeftB ds 48, c ∈ ds := fun c hc => (List.dropWhile_sublist _).subset hc
    have hTl : (Lib.trimLeftB ds 48).length ≤ ds.length := (List.dropWhile_sublist _).length_le
    obtain ⟨V, hV⟩ : ∃ V, Lib.trimLeftB ds 48 = Lib.trimRightB (Lib.trimLeftB ds 48) 48 ++ V := by
      have h1 := List.dropWhile_suffix (l := (Lib.trimLeftB ds 48).reverse) (fun x : UInt8 => x == 48)
      obtain ⟨t, ht⟩ := h1
      refine ⟨t.reverse, ?_⟩
      have := congrArg List.reverse ht
      rw [List.reverse_append, List.reverse_reverse] at this
      exact this.symm
    have hUd : ∀ c ∈ Lib.trimRightB (Lib.trimLeftB ds 48) 48, c ∈ ds := fun c hc => hT c (by rw [hV]; exact List.mem_append_left _ hc)
    have hUl : (Lib.trimRightB (Lib.trimLeftB ds 48) 48).length ≤ (Lib.trimLeftB ds 48).length := by
      have := congrArg List.length hV
      rw [List.length_append] at this; omega
    refine ⟨fun c hc => by have := hd c (hUd c hc); simpa [isD] using this, by show (Lib.trimRightB (Lib.trimLeftB ds 48) 48).length ≤ _; omega, fun _ => ?_, .inr ⟨?_, ?_⟩⟩
    · show 0 < dval (Lib.trimRightB (Lib.trimLeftB ds 48) 48)
      cases hU : Lib.trimRightB (Lib.trimLeftB ds 48) 48 with
      | nil => exact absurd hU hne
      | cons c r =>
        rw [hU] at hV hUd
        have hc := drop_head (l := ds) (r := r ++ V) (c := c) hV
        have hdc := hd c (hUd c (by simp))
        have h3 : 48 ≤ c.toNat := by simp [isD] at hdc; exact hdc.1
        have h4 : c.toNat ≠ 48 := fun h => hc (UInt8.toNat_inj.1 h)
        have e1 : dval (c :: r) = dval [c] * 10 ^ r.length + dval r := dval_append [c] r
        have e2 : dval [c] = c.toNat - 48 := by simp [dval]
        rw [e1, e2]
        exact Nat.lt_of_lt_of_le (Nat.mul_pos (by omega) (Nat.pow_pos (by decide))) (Nat.le_add_right _ _)
    · show e ≤ e + ((Lib.trimLeftB ds 48).length : Int) - ((Lib.trimRightB (Lib.trimLeftB ds 48) 48).length : Int); omega
    · show e + ((Lib.trimLeftB ds 48).length : Int) - ((Lib.trimRightB (Lib.trimLeftB ds 48) 48).length : Int) ≤ _; omega

set_option maxHeartbeats 2000000 in
theorem round_any (s : ByteArray) (w : World) (hs : s.size ≤ 1073741824) : Calls Tryz.prog 172 #[.string s, .int .i64 1] w fun e w' => bitsRet (bitsOf s.data.toList) e ∧ Below w.heap.size w w' := by
  have HP := fun w => parsed_any s w hs
  have hsz : s.data.toList.length = s.size := Array.length_toList
  cases hr : readOf s.data.toList with
  | none =>
    have hb : bitsOf s.data.toList = none := by unfold bitsOf; rw [hr]; rfl
    rw [hb]
    simp only [hr] at HP
    have HR := Lib.hid HP
    clear hr hb HP
    go_enter Tryz.func172, Tryz.ntmps172
    go_wp2_with fail
    refine (is_even _).mono ?_
    rintro e w1 ⟨rfl, rfl⟩
    go_wp2_with fail
    refine (HR.out _).mono ?_
    rintro e w1 ⟨⟨i, rfl⟩, hb⟩
    have hb1 := Lib.hid (hb.alloc hb.size (.cells #[.bool false, .string ⟨#[]⟩, .int .i64 0] 339))
    clear hb
    unfold dmlV
    go_wp2_with fail
    exact bodyPost_ret (v := .tuple #[.int .u64 0, .iface 151 (.agg #[.int .i64 40, .int .i64 i])]) (by simp [results, Tryz.results172, go_sem]) rfl ⟨⟨_, _, rfl⟩, hb1.out⟩
  | some l =>
    obtain ⟨o1, o2, o3, o4⟩ := read_ok hr
    have hb : bitsOf s.data.toList = roundedOf (bareOf l) := by unfold bitsOf; rw [hr]; rfl
    have hex := exp_bound (a := 0) (l := l.exp) (by omega) (fun c hc => by have := o3 c hc; simp [isD] at this; exact this.2)
    obtain ⟨k1, k2, k3, k4⟩ := strip_ok l.neg (l.whole ++ l.behind) ((if l.under then -(expOf l.exp : Int) else expOf l.exp) - l.behind.length) (fun c hc => (List.mem_append.1 hc).elim (o1 c) (o2 c))
    have hE : -351843720888329 ≤ (if l.under then -(expOf l.exp : Int) else expOf l.exp) ∧ (if l.under then -(expOf l.exp : Int) else expOf l.exp) ≤ 351843720888329 := by
      have : expOf l.exp ≤ 351843720888329 := hex
      split <;> omega
    rw [List.length_append] at k2 k4
    change Digits (bareOf l).digits at k1
    change (bareOf l).digits.length ≤ _ at k2
    change ((bareOf l).digits ≠ [] → 0 < dval (bareOf l).digits) at k3
    change ((bareOf l).exp = 0 ∨ (_ ≤ (bareOf l).exp ∧ (bareOf l).exp ≤ _)) at k4
    simp only [hr] at HP
    rw [hb]
    obtain ⟨⟨dn, dd, de⟩, hd⟩ : ∃ d, bareOf l = d := ⟨_, rfl⟩
    have HP : ∀ w, Calls Tryz.prog 194 #[.string s] w fun e w' => e = .returned (.tuple #[dmlV (bareOf l), .nilIface]) ∧ Below w.heap.size w w' := HP
    simp only [hd] at *
    have HQ := fun w => rounded_any dn ⟨dd.toArray⟩ de w (by simpa using k1) (by show dd.toArray.size ≤ _; simp; omega) (by omega) (by omega) (fun h => by have := k3 (fun h0 => h (by subst h0; rfl)); simpa using this)
    have HQ : ∀ w, Calls Tryz.prog 195 #[.agg #[.bool dn, .string ⟨dd.toArray⟩, .int .i64 de], .int .i64 1] w fun r w' => roundedRet (roundedOf ⟨dn, dd, de⟩) r ∧ Below w.heap.size w w' := by simpa using HQ
    have HR := Lib.hid HP
    have HS := Lib.hid HQ
    clear hr hb HP HQ hd k1 k2 k3 k4 hE hex o1 o2 o3 o4
    unfold dmlV at HR
    cases hro : roundedOf ⟨dn, dd, de⟩ with
    | none =>
      rw [hro] at HS
      go_enter Tryz.func172, Tryz.ntmps172
      go_wp2_with fail
      refine (is_even _).mono ?_
      rintro e w1 ⟨rfl, rfl⟩
      go_wp2_with fail
      refine (HR.out _).mono ?_
      rintro e w1 ⟨rfl, hb⟩
      have hb1 := Lib.hid (hb.alloc hb.size (.cells #[.bool dn, .string ⟨dd.toArray⟩, .int .i64 de] 339))
      clear hb
      go_wp2_with fail
      refine (HS.out _).mono ?_
      rintro e w2 ⟨rfl, hb⟩
      have hb2 := Lib.hid (chain hb1.out hb)
      clear hb
      go_wp2_with fail
      exact bodyPost_ret (v := .tuple #[.int .u64 0, .iface 29 (.int .i64 41)]) (by simp [results, Tryz.results172, go_sem]) rfl ⟨⟨_, _, rfl⟩, hb2.out⟩
    | some bts =>
      rw [hro] at HS
      go_enter Tryz.func172, Tryz.ntmps172
      go_wp2_with fail
      refine (is_even _).mono ?_
      rintro e w1 ⟨rfl, rfl⟩
      go_wp2_with fail
      refine (HR.out _).mono ?_
      rintro e w1 ⟨rfl, hb⟩
      have hb1 := Lib.hid (hb.alloc hb.size (.cells #[.bool dn, .string ⟨dd.toArray⟩, .int .i64 de] 339))
      clear hb
      go_wp2_with fail
      refine (HS.out _).mono ?_
      rintro e w2 ⟨rfl, hb⟩
      have hb2 := Lib.hid (chain hb1.out hb)
      clear hb
      go_wp2_with fail
      exact bodyPost_ret (v := .tuple #[.int .u64 bts, .nilIface]) (by simp [results, Tryz.results172, go_sem]) rfl ⟨rfl, hb2.out⟩

theorem bits_any (s : ByteArray) (w : World) (hs : s.size ≤ 1073741824) : Calls Tryz.prog 146 #[.string s] w fun e w' => bitsRet (bitsOf s.data.toList) e ∧ Below w.heap.size w w' := by
  have HR := Lib.hid (fun w => round_any s w hs)
  cases hb : bitsOf s.data.toList with
  | none =>
    rw [hb] at HR
    go_enter Tryz.func146, Tryz.ntmps146
    go_wp2_with fail
    refine (HR.out _).mono ?_
    rintro e w1 ⟨⟨T, v, rfl⟩, hbw⟩
    go_wp2_with fail
    exact bodyPost_ret (v := .tuple #[.int .u64 0, .iface T v]) (by simp [results, Tryz.results146, go_sem]) rfl ⟨⟨_, _, rfl⟩, hbw⟩
  | some b =>
    rw [hb] at HR
    go_enter Tryz.func146, Tryz.ntmps146
    go_wp2_with fail
    refine (HR.out _).mono ?_
    rintro e w1 ⟨rfl, hbw⟩
    go_wp2_with fail
    exact bodyPost_ret (v := .tuple #[.int .u64 b, .nilIface]) (by simp [results, Tryz.results146, go_sem]) rfl ⟨rfl, hbw⟩
end Go.Proofs.YtakkmiomhackiaaGreatDoor

/-
  Package lex: finish.
-/
namespace Go.Proofs.YtakkmiomhackiaaGreatDoor
open Go.RowKit
set_option maxRecDepth 100000

theorem finish_none (w : World) (b : Nat) (v0 v1 v2 v3 v4 v5 v7 v8 v9 va vb vc vd rawV : Value) (raw : List UInt8) (h : w.heap[b]? = some (.cells #[v0, v1, v2, v3, v4, v5, rawV, v7, v8, v9, va, vb, vc, vd] 228 (0, 0)))
    (hr : Win 5 encB w rawV raw) (hl : raw.length ≤ 1073741824) (hn : bitsOf raw = none) :
    Calls Tryz.prog 110 #[.pointer (some ⟨b, 0, none⟩)] w fun e w' => e = .returned (.bool false) ∧ Below w.heap.size w w' := by
  obtain ⟨c0, c1, c2, c3, c4, c5, c6, c7, c8, c9, ca, cb, cc, cd, cf⟩ := cells14 h
  have hconv := win_string hr
  have HB := Lib.hid (bits_any ⟨raw.toArray⟩ w (by show raw.toArray.size ≤ _; simpa using hl))
  rw [show (⟨raw.toArray⟩ : ByteArray).data.toList = raw by simp, hn] at HB
  clear h hr hn hl
  go_enter Tryz.func110, Tryz.ntmps110
  go_wp2_with fail
  refine (HB.out).mono ?_
  rintro e w1 ⟨⟨T, v, rfl⟩, hb⟩
  have HB2 := Lib.hid hb
  clear hb
  go_wp2_with fail
  go_ret
  exact ⟨rfl, HB2.out⟩

set_option maxHeartbeats 2000000 in
theorem finish_some (w : World) (b pl st : Nat) (v1 v2 v3 v4 v7 v8 v9 va vb vc rawV tokV : Value) (raw : List UInt8) (toks : List Value) (bits : Nat) (h : w.heap[b]? = some (.cells #[.int .i64 pl, v1, v2, v3, v4, .int .i64 st, rawV, v7, v8, v9, va, vb, vc, tokV] 228 (0, 0)))
    (hr : Win 5 encB w rawV raw) (hl : raw.length ≤ 1073741824) (hn : bitsOf raw = some bits) (hw : Win 232 id w tokV toks) (htl : toks.length ≤ 1000) (hle : st ≤ pl) (hpl : pl ≤ 1073741824) :
    Calls Tryz.prog 110 #[.pointer (some ⟨b, 0, none⟩)] w fun e w' => ToldRet w b tokV toks (tokEnc (.num st (pl - st) bits)) (fun v => #[.int .i64 pl, v1, v2, .func (.func 104) #[] #[], .bool false, .int .i64 st, rawV, v7, v8, v9, va, vb, vc, v]) (.bool true) e w' := by
  obtain ⟨c0, c1, c2, c3, c4, c5, c6, c7, c8, c9, ca, cb, cc, cd, cf⟩ := cells14 h
  have hconv := win_string hr
  have HB := Lib.hid (bits_any ⟨raw.toArray⟩ w (by show raw.toArray.size ≤ _; simpa using hl))
  rw [show (⟨raw.toArray⟩ : ByteArray).data.toList = raw by simp, hn] at HB
  have H := Lib.hid h
  have HW := Lib.hid hw
  have hlt := lt_of_block h
  have htb : ∀ k, tokV.ownBlock = some k → k < w.heap.size := by
    intro k hk
    rcases hw with ⟨rfl, _⟩ | ⟨g, off, cap, cur, rfl, hg, _⟩
    · cases hk
    · cases hk; exact lt_of_block hg
  have HTB := Lib.hid htb
  clear h hr hn hl hw htb
  go_enter Tryz.func110, Tryz.ntmps110
  go_wp2_with fail
  refine (HB.out).mono ?_
  rintro e w1 ⟨rfl, hb⟩
  have h1 := keep H.out hb
  have hw1 : Win 232 id w1 tokV toks := HW.out.keeps (Keeps.of_below (fun _ => False) hb) (fun _ _ => id)
  obtain ⟨d0, d1, d2, d3, d4, d5, d6, d7, d8, d9, da, db, dc, dd, df⟩ := cells14 h1
  have H1 := Lib.hid h1
  have HW1 := Lib.hid hw1
  have HB1 := Lib.hid hb
  clear h1 hw1 hb c0 c1 c2 c3 c4 c5 c6 c7 c8 c9 ca cb cc cd cf hconv
  go_wp2_with fail
  refine (span_any w1 b _ st pl H1.out rfl hle hpl).mono ?_
  rintro e w2 ⟨rfl, hb2⟩
  have h2 := keep H1.out hb2
  have hw2 : Win 232 id w2 tokV toks := HW1.out.keeps (Keeps.of_below (fun _ => False) hb2) (fun _ _ => id)
  have HB2 := Lib.hid (chain HB1.out hb2)
  clear d0 d1 d2 d3 d4 d5 d6 d7 d8 d9 da db dc dd df hb2
  have HT := Lib.hid (tell_any w2 b _ _ _ _ _ _ _ _ _ _ _ _ _ tokV 271 (.agg #[.int .i64 st, .int .i64 ((pl - st : Nat) : Int), .int .u64 bits]) toks h2 hw2 htl)
  clear h2 hw2
  go_wp2_with fail
  refine (HT.out).mono ?_
  rintro e w3 ⟨rfl, g, off, cap, h3, hw3, hg3, hk3⟩
  have H3 := Lib.hid h3
  have HW3 := Lib.hid hw3
  have HG3 := Lib.hid hg3
  have HK3 := Lib.hid hk3
  clear h3 hw3 hg3 hk3
  go_wp2_with fail
  go_ret
  exact ⟨rfl, g, off, cap, H3.out, HW3.out, HG3.out.elim .inl (fun h => .inr (Nat.le_trans HB2.out.size h)), (Keeps.of_below _ HB2.out).same HK3.out⟩
end Go.Proofs.YtakkmiomhackiaaGreatDoor

/-
  Package lex: numeral behind a number.
-/
namespace Go.Proofs.YtakkmiomhackiaaGreatDoor
open Go.RowKit
set_option maxRecDepth 100000

/-- A number ends behind which stands what is no part of it, and is too great. -/
theorem numeral_range (w : World) (b s : Nat) (v0 v1 v2 v3 v4 v5 v8 v9 va vb vc vd rawV : Value) (ch : UInt8) (l : List UInt8) (h : w.heap[b]? = some (.cells #[v0, v1, v2, v3, v4, v5, rawV, .int .i64 s, v8, v9, va, vb, vc, vd] 228 (0, 0))) (hs : s ≤ 8)
    (hn : numNext s ch = none) (he : numEnds s = true) (hr : Win 5 encB w rawV l) (hl : l.length ≤ 1073741824) (hb : bitsOf l = none) :
    Calls Tryz.prog 139 #[.pointer (some ⟨b, 0, none⟩), .int .u8 ((ch.toNat : Nat) : Int)] w fun e w' => e = .returned (.int .i64 41) ∧ Below w.heap.size w w' := by
  have HF := Lib.hid (finish_none w b _ _ _ _ _ _ _ _ _ _ _ _ _ rawV l h hr hl hb)
  obtain ⟨c0, c1, c2, c3, c4, c5, c6, c7, c8, c9, ca, cb, cc, cd, cf⟩ := cells14 h
  have HN := Lib.hid (next_any s hs ch)
  have HE := Lib.hid (numEnds_any s hs)
  rw [hn] at HN
  rw [he] at HE
  clear h hn he hs hr hl hb
  go_enter Tryz.func139, Tryz.ntmps139
  go_wp2_with fail
  refine (HN.out _).mono ?_
  rintro e w1 ⟨rfl, rfl⟩
  go_wp2_with fail
  refine (HE.out _).mono ?_
  rintro e w1 ⟨rfl, rfl⟩
  go_wp2_with fail
  refine (HF.out).mono ?_
  rintro e w2 ⟨rfl, hb2⟩
  have HB := Lib.hid hb2
  clear hb2
  go_wp2_with fail
  go_ret
  exact ⟨rfl, HB.out⟩

/-- A number ends; what comes of the byte behind it is what comes outside. -/
theorem numeral_ends (w : World) (b s pl st : Nat) (v1 v2 v3 v4 v8 v9 va vb vc rawV tokV : Value) (ch : UInt8) (l : List UInt8) (toks : List Value) (bits : Nat) (Q : Ending → World → Prop) (h : w.heap[b]? = some (.cells #[.int .i64 pl, v1, v2, v3, v4, .int .i64 st, rawV, .int .i64 s, v8, v9, va, vb, vc, tokV] 228 (0, 0))) (hs : s ≤ 8)
    (hn : numNext s ch = none) (he : numEnds s = true) (hr : Win 5 encB w rawV l) (hl : l.length ≤ 1073741824) (hb : bitsOf l = some bits) (hw : Win 232 id w tokV toks) (htl : toks.length ≤ 1000) (hle : st ≤ pl) (hpl : pl ≤ 1073741824)
    (hout : ∀ w', ToldRet w b tokV toks (tokEnc (.num st (pl - st) bits)) (fun v => #[.int .i64 pl, v1, v2, .func (.func 104) #[] #[], .bool false, .int .i64 st, rawV, .int .i64 s, v8, v9, va, vb, vc, v]) (.bool true) (.returned (.bool true)) w' →
      Calls Tryz.prog 104 #[.pointer (some ⟨b, 0, none⟩), .int .u8 ((ch.toNat : Nat) : Int)] w' fun e w2 => (∃ n, e = .returned (.int .i64 n)) ∧ Q e w2) :
    Calls Tryz.prog 139 #[.pointer (some ⟨b, 0, none⟩), .int .u8 ((ch.toNat : Nat) : Int)] w Q := by
  have HF := Lib.hid (finish_some w b pl st _ _ _ _ _ _ _ _ _ _ rawV tokV l toks bits h hr hl hb hw htl hle hpl)
  obtain ⟨c0, c1, c2, c3, c4, c5, c6, c7, c8, c9, ca, cb, cc, cd, cf⟩ := cells14 h
  have HN := Lib.hid (next_any s hs ch)
  have HE := Lib.hid (numEnds_any s hs)
  rw [hn] at HN
  rw [he] at HE
  have HO := Lib.hid hout
  clear h hn he hs hr hl hb hw htl hle hpl hout
  go_enter Tryz.func139, Tryz.ntmps139
  go_wp2_with fail
  refine (HN.out _).mono ?_
  rintro e w1 ⟨rfl, rfl⟩
  go_wp2_with fail
  refine (HE.out _).mono ?_
  rintro e w1 ⟨rfl, rfl⟩
  go_wp2_with fail
  refine (HF.out).mono ?_
  intro e w2 ht
  obtain rfl := ht.1
  have HO2 := Lib.hid (HO.out w2 ht)
  clear ht
  go_wp2_with fail
  refine (HO2.out).mono ?_
  rintro e w3 ⟨⟨n, rfl⟩, hq⟩
  have HQ := Lib.hid hq
  clear hq
  go_wp2_with fail
  first
    | exact HQ.out
    | (go_ret; exact HQ.out)
end Go.Proofs.YtakkmiomhackiaaGreatDoor

/-
  Package lex, seventeenth part: a step in a number; End.
-/
namespace Go.Proofs.YtakkmiomhackiaaGreatDoor
open Go.RowKit
set_option maxRecDepth 100000

set_option maxHeartbeats 1000000 in
theorem step_numeral (F : Nat → Prop) (w : World) (b : Nat) (x : Lx) (toks : List Tok) (c : UInt8) (h : LexAt F w b x false toks) (hst : x.st = .numeral) (hst2 : x.start ≤ x.place) (hnum : x.number ≤ 8) (hraw : x.raw.length ≤ 1073741824) (hpl : x.place ≤ 16777216) (htl : toks.length ≤ 999) :
    Calls Tryz.prog 139 #[.pointer (some ⟨b, 0, none⟩), .int .u8 ((c.toNat : Nat) : Int)] w fun e w' => StepPost F w b x.place toks (numeralStep x c) e w' := by
  have h0 := h
  obtain ⟨hF, hlt, rawV, chV, saysV, tokV, hb, hw, hs⟩ := h
  have hr := hs.raw (.inr hst)
  have htl2 : (toks.map tokEnc).length ≤ 1000 := by simp; omega
  unfold numeralStep
  cases hn : numNext x.number c with
  | some s' =>
    refine (numeral_on w b x.number s' _ _ _ _ _ _ _ _ _ _ _ _ rawV c x.raw hb hnum hn hr.1 hraw).mono fun e w' ht => ?_
    obtain ⟨he, hk, hl⟩ := raw_at (y := { x with number := s', raw := x.raw ++ [c] }) hF hlt hw hr.2 (.inr hst) rfl ⟨_, hb⟩ (fun k e => win_win hr.1 hw.1 (by decide) e) (fun u => by rw [hst]) ht
    exact .good he hk (by rw [List.append_nil]; exact hl)
  | none =>
    simp only []
    by_cases he : numEnds x.number = true
    · rw [if_pos he]
      cases hbt : bitsOf x.raw with
      | none =>
        have hfin : x.finish = none := by unfold Lx.finish; rw [hbt]; rfl
        rw [hfin]
        refine (numeral_range w b x.number _ _ _ _ _ _ _ _ _ _ _ _ rawV c x.raw hb hnum hn he hr.1 hraw hbt).mono ?_
        rintro e w' ⟨rfl, hbl⟩
        have hk : Keeps F w w' := Keeps.of_below F hbl
        exact .bad (by decide) rfl hk (by rw [List.append_nil]; exact (h0.dead.apart (G := fun _ => False) (Keeps.of_below _ hbl) (fun _ _ => id)).mono (fun k hk => .inl hk) (since_lt hlt hk.size))
      | some bits =>
        have hfin : x.finish = some (x.told, .num x.start (x.place - x.start) bits) := by unfold Lx.finish; rw [hbt]; rfl
        rw [hfin]
        simp only []
        refine numeral_ends w b x.number x.place x.start _ _ _ _ _ _ _ _ _ rawV tokV c x.raw (toks.map tokEnc) bits _ hb hnum hn he hr.1 hraw hbt hw.1 htl2 hst2 (by omega) ?_
        intro w1 ht
        obtain ⟨_, hk1, hl1⟩ := told_at (y := x.told) (tok := .num x.start (x.place - x.start) bits) hF hlt hw rfl rfl (fun u => rfl) ht
        refine (step_outside (Since F w w1) w1 b x.told (toks ++ [.num x.start (x.place - x.start) bits]) c hl1 rfl hpl (by simp; omega)).mono ?_
        rintro e w2 ⟨rfl, hk2, hg, hd⟩
        refine ⟨⟨_, rfl⟩, rfl, hk1.andThen hk2, fun hn => ?_, fun hn => ?_⟩
        · have := hg hn
          rw [List.append_assoc, List.singleton_append] at this
          exact this.mono (fun k hk => hk.trans hk1.size hk2.size) (since_lt hlt (Nat.le_trans hk1.size hk2.size))
        · have := hd hn
          rw [List.append_assoc, List.singleton_append] at this
          exact this.mono (fun k hk => hk.trans hk1.size hk2.size) (since_lt hlt (Nat.le_trans hk1.size hk2.size))
    · have he' : numEnds x.number = false := by simpa using he
      rw [if_neg he]
      refine (numeral_bad w b x.number _ _ _ _ _ _ _ _ _ _ _ _ _ c hb hnum hn he').mono ?_
      rintro e w' ⟨rfl, rfl⟩
      exact .bad (by decide) rfl (Keeps.refl _ _) (by rw [List.append_nil]; exact h0.dead.mono (fun k hk => .inl hk) (since_lt hlt (Nat.le_refl _)))

/-- No more come: what End hands back. -/
def EndPost (F : Nat → Prop) (w : World) (b : Nat) (toks : List Tok) (t : Lx × List Tok × Nat × Nat) (e : Ending) (w' : World) : Prop :=
  Keeps F w w' ∧ (t.2.2.1 = 0 → e = .returned .nilIface ∧ LexAt (Since F w w') w' b t.1 true (toks ++ t.2.1)) ∧
  (t.2.2.1 ≠ 0 → e = .returned (spotV t.2.2.1 t.2.2.2) ∧ ∃ pl st, LexDead (Since F w w') w' b pl st (spotV t.2.2.1 t.2.2.2) (toks ++ t.2.1))
theorem LexAt.done_set {F : Nat → Prop} {w : World} {b : Nat} {x : Lx} {dn : Bool} {toks : List Tok} (h : LexAt F w b x dn toks) (d : Bool) : LexAt F (w.setCell ⟨b, 2, none⟩ (.bool d)) b x d toks := by
  obtain ⟨hF, hlt, rawV, chV, saysV, tokV, hb, hw, hs⟩ := h
  have hk : Keeps (fun k => k = b) w (w.setCell ⟨b, 2, none⟩ (.bool d)) := (Keeps.refl (fun k => k = b) w).setCell (p := ⟨b, 2, none⟩) (.inl rfl) _
  refine ⟨hF, fun k hk' => Nat.lt_of_lt_of_le (hlt k hk') hk.size, rawV, chV, saysV, tokV, set_at hb _, ⟨hw.1.keeps hk (fun k e hk => hw.1.ne hb (by decide) (e.trans (congrArg some hk))), hw.2⟩, ⟨fun h => ?_, fun h => ?_⟩⟩
  · have hr := hs.raw h
    exact ⟨hr.1.keeps hk (fun k e hk => hr.1.ne hb (by decide) (e.trans (congrArg some hk))), hr.2⟩
  · obtain ⟨h1, f, pl, h2, h3, h4, h5⟩ := hs.text h
    exact ⟨⟨h1.1.keeps hk (fun k e hk => h1.1.ne hb (by decide) (e.trans (congrArg some hk))), h1.2⟩, f, pl, h2, h3.keeps hk (feeds_ne h3 hb (by decide)), h4, h5⟩

set_option maxHeartbeats 4000000 in
theorem lexEnd_any (F : Nat → Prop) (w : World) (b : Nat) (x : Lx) (toks : List Tok) (h : LexAt F w b x false toks) (hg : x.Good) (hraw : numEnds x.number = true → x.isIn = true → x.st = .numeral) (htl : toks.length ≤ 999) :
    Calls Tryz.prog 78 #[.pointer (some ⟨b, 0, none⟩)] w fun e w' => EndPost F w b toks x.ended e w' := by
  obtain ⟨c0, c1, c2, c4, c5, cf⟩ := h.cells
  have h1 := h.done_set true
  have HF := Lib.hid h.1
  have htl2 : (toks.map tokEnc).length ≤ 1000 := by simp; omega
  have hk1 : Keeps F w (w.setCell ⟨b, 2, none⟩ (.bool true)) := (Keeps.refl F w).setCell (p := ⟨b, 2, none⟩) (.inl h.1) _
  have HK1 := Lib.hid hk1
  have hx1 : LexAt (Since F w (w.setCell ⟨b, 2, none⟩ (.bool true))) (w.setCell ⟨b, 2, none⟩ (.bool true)) b x true toks := h1.mono (fun k hk => .inl hk) (since_lt h.lt hk1.size)
  have HX1 := Lib.hid hx1
  cases hin : x.isIn with
  | false =>
    have ht : x.ended = (x, [], 0, 0) := by unfold Lx.ended; rw [hin]; rfl
    rw [ht]
    rw [hin] at c4
    clear h h1 ht hk1 hx1 hraw hin hg
    go_enter Tryz.func78, Tryz.ntmps78
    go_wp2_with fail
    go_ret
    exact ⟨HK1.out, fun _ => ⟨rfl, by rw [List.append_nil]; exact HX1.out⟩, fun e => absurd rfl e⟩
  | true =>
    obtain ⟨hF1, hlt1, rawV, chV, saysV, tokV, hb1, hw1, hs1⟩ := h1
    obtain ⟨d0, d1, d2, d3, d4, d5, d6, d7, d8, d9, da, db, dc, dd, df⟩ := cells14 hb1
    rw [hin] at c4 d4
    have HE := Lib.hid (numEnds_any x.number hg.number)
    cases he : numEnds x.number with
    | false =>
      have ht : x.ended = (x, [], 95, x.place) := by unfold Lx.ended; rw [hin, he]; rfl
      rw [ht]
      rw [he] at HE
      have HD := Lib.hid (hx1.dead.err_set (spotV 95 x.place))
      clear h ht hk1 hx1 hraw hin hg hb1 hw1 hs1 hF1 hlt1 he
      go_enter Tryz.func78, Tryz.ntmps78
      go_wp2_with fail
      refine (HE.out _).mono ?_
      rintro e w1 ⟨rfl, rfl⟩
      go_wp2_with fail
      go_ret
      refine ⟨HK1.out.setCell (p := ⟨b, 1, none⟩) (.inl HF.out) _, fun e => absurd e (show ¬ (95 : Nat) = 0 by decide), fun _ => ⟨rfl, x.place, x.start, ?_⟩⟩
      rw [List.append_nil]
      exact HD.out.mono (fun k hk => hk.mono_r (by simp [World.setCell])) (fun k hk => HD.out.2.1 k (hk.mono_r (by simp [World.setCell])))
    | true =>
      have hst := hraw he hin
      have hr := hs1.raw (.inr hst)
      have hrl : x.raw.length ≤ 1073741824 := Nat.le_trans (hg.numeral hst) (Nat.le_trans hg.place (by decide))
      rw [he] at HE
      cases hbt : bitsOf x.raw with
      | none =>
        have ht : x.ended = (x, [], 41, x.start) := by unfold Lx.ended; rw [hin, he]; simp [Lx.finish, hbt]
        rw [ht]
        have hfn := finish_none _ b _ _ _ _ _ _ _ _ _ _ _ _ _ rawV x.raw hb1 hr.1 hrl hbt
        have HFN := Lib.hid (hfn.mono (R' := fun e w' => e = .returned (.bool false) ∧ w'.cell? ⟨b, 5, none⟩ = some (.int .i64 x.start) ∧ (∃ u, w'.cell? ⟨b, 1, none⟩ = some u) ∧ (∀ o, w'.frozen? ⟨b, o, none⟩ = false) ∧ Keeps F w w' ∧ LexDead (Since F w w') w' b x.place x.start .nilIface toks) fun e w' ⟨he, hbl⟩ => by
          have hd := hx1.dead.apart (G := fun _ => False) (Keeps.of_below _ hbl) (fun _ _ => id)
          have hb2 := keep hb1 hbl
          obtain ⟨e0, e1, e2, e3, e4, e5, e6, e7, e8, e9, ea, eb, ec, ed, ef⟩ := cells14 hb2
          have hkk : Keeps F w w' := hk1.same (Keeps.of_below F hbl)
          exact ⟨he, e5, ⟨_, e1⟩, ef, hkk, hd.mono (fun k hk => hk.mono_r hbl.size) (since_lt h.lt hkk.size)⟩)
        clear h ht hk1 hx1 hraw hin hg hb1 hw1 hs1 hF1 hlt1 he hst hr hrl hbt hfn
        go_enter Tryz.func78, Tryz.ntmps78
        go_wp2_with fail
        refine (HE.out _).mono ?_
        rintro e w1 ⟨rfl, rfl⟩
        go_wp2_with fail
        refine (HFN.out).mono ?_
        rintro e w2 ⟨rfl, e5, ⟨u, e1⟩, ef, hk2, hd2⟩
        have HK2 := Lib.hid hk2
        have HD2 := Lib.hid (hd2.err_set (spotV 41 x.start))
        clear hk2 hd2 c0 c1 c2 c4 c5 cf d0 d1 d2 d3 d4 d5 d6 d7 d8 d9 da db dc dd df
        go_wp2_with fail
        go_ret
        refine ⟨HK2.out.setCell (p := ⟨b, 1, none⟩) (.inl HF.out) _, fun e => absurd e (show ¬ (41 : Nat) = 0 by decide), fun _ => ⟨rfl, x.place, x.start, ?_⟩⟩
        rw [List.append_nil]
        exact HD2.out.mono (fun k hk => hk.mono_r (by simp [World.setCell])) (fun k hk => HD2.out.2.1 k (hk.mono_r (by simp [World.setCell])))
      | some bits =>
        have ht : x.ended = (x.told, [.num x.start (x.place - x.start) bits], 0, 0) := by unfold Lx.ended; rw [hin, he]; simp [Lx.finish, hbt]
        rw [ht]
        have hfs := finish_some _ b x.place x.start _ _ _ _ _ _ _ _ _ _ rawV tokV x.raw (toks.map tokEnc) bits hb1 hr.1 hrl hbt hw1.1 htl2 hg.start (Nat.le_trans hg.place (by decide))
        have HFS := Lib.hid (hfs.mono (R' := fun e w' => e = .returned (.bool true) ∧ Keeps F w w' ∧ LexAt (Since F w w') w' b x.told true (toks ++ [.num x.start (x.place - x.start) bits]) ∧ (w'.cell? ⟨b, 1, none⟩ = some .nilIface)) fun e w' ht => by
          obtain ⟨he, g, off, cap, hb2, hwin, hg2, hk2⟩ := ht
          have hkf : Keeps F (w.setCell ⟨b, 2, none⟩ (.bool true)) w' := hk2.mono fun k hk => hk.elim (fun e => e ▸ hF1) (fun e => hw1.2 k e)
          have hkk : Keeps F w w' := hk1.same hkf
          have hl : LexAt (Since F w w') w' b x.told true (toks ++ [.num x.start (x.place - x.start) bits]) := by
            refine ⟨.inl hF1, since_lt h.lt hkk.size, _, _, _, _, hb2, ⟨by rw [List.map_append, List.map_cons, List.map_nil]; simpa using hwin, ?_⟩, ⟨fun hs => ?_, fun hs => ?_⟩⟩
            · intro k hk3
              cases hk3
              exact hg2.elim (fun e => .inl (hw1.2 _ e)) (fun hle => .inr ⟨by simpa [World.setCell] using hle, hwin.lt rfl⟩)
            · simp [Lx.told] at hs
            · simp [Lx.told, isText] at hs
          exact ⟨he, hkk, hl, (hl.cells).2.1⟩)
        clear h ht hk1 hx1 hraw hin hg hb1 hw1 hs1 hF1 hlt1 he hst hr hrl hbt hfs
        go_enter Tryz.func78, Tryz.ntmps78
        go_wp2_with fail
        refine (HE.out _).mono ?_
        rintro e w1 ⟨rfl, rfl⟩
        go_wp2_with fail
        refine (HFS.out).mono ?_
        rintro e w2 ⟨rfl, hk2, hl2, e1⟩
        have HK2 := Lib.hid hk2
        have HL2 := Lib.hid hl2
        clear hk2 hl2 c0 c1 c2 c4 c5 cf d0 d1 d2 d3 d4 d5 d6 d7 d8 d9 da db dc dd df
        go_wp2_with fail
        go_ret
        exact ⟨HK2.out, fun _ => ⟨rfl, HL2.out⟩, fun e => absurd rfl e⟩
end Go.Proofs.YtakkmiomhackiaaGreatDoor
