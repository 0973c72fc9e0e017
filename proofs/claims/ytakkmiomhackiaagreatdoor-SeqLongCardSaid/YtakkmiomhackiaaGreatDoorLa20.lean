/-
  SeqLong, walked.
-/
import Derived.Test.YtakkmiomhackiaaGreatDoorLa19
set_option linter.all false
namespace Go.Proofs.YtakkmiomhackiaaGreatDoor
open Go.RowKit
set_option maxRecDepth 100000

theorem WinN.set {s e n : Nat} {w : World} {g off cap : Nat} {cs : List Value} (h : WinN s e w (.slice (some ⟨g, off, none⟩) n cap) n cs) {j : Nat} (hj : j < cs.length) (u : Value) :
    WinN s e (w.setCell ⟨g, off + j, none⟩ u) (.slice (some ⟨g, off, none⟩) n cap) n (cs.set j u) := by
  refine ⟨by rw [List.length_set]; exact h.1, ?_⟩
  rcases h.2 with ⟨hv, _⟩ | ⟨g', off', cap', cur, hv, hg, hc, ho, hm, hi⟩
  · cases hv
  · cases hv
    refine .inr ⟨g, off, cap, _, rfl, set_at hg u, hc, by simpa using ho, hm, fun k x hx => ?_⟩
    rw [List.getElem?_set] at hx
    rw [Array.getElem?_setIfInBounds]
    by_cases hjk : j = k
    · subst hjk
      rw [if_pos rfl] at hx
      rw [if_pos rfl]
      rw [if_pos hj] at hx
      rw [if_pos ?_]
      · exact hx
      · have := hi j cs[j] (List.getElem?_eq_getElem hj)
        exact (Array.getElem?_eq_some_iff.1 this).1
    · rw [if_neg hjk] at hx
      rw [if_neg (by omega)]
      exact hi k x hx
section
variable (po : List Tr → List (List UInt8) → List Tr)
include po in
set_option maxHeartbeats 8000000 in
theorem long_out (w : World) (over cut : Int) (h : over < -2 ∨ 3 < over) : Calls Tryz.prog 6 #[.int .i64 over, .int .i64 cut] w fun e w' => e = .returned (.bool true) ∧ Below w.heap.size w w' := by
  have HWK := Lib.hid (works_any po)
  rcases h with h | h
  · go_enter Tryz.func6, Tryz.ntmps6
    go_wp2_with fail
    refine (HWK.out _).mono ?_
    rintro e w1 ⟨rfl, hb⟩
    go_wp2_with fail
    go_ret
    exact ⟨rfl, hb⟩
  · have h2 : ¬ over < -2 := by omega
    go_enter Tryz.func6, Tryz.ntmps6
    go_wp2_with fail
    refine (HWK.out _).mono ?_
    rintro e w1 ⟨rfl, hb⟩
    go_wp2_with fail
    go_ret
    exact ⟨rfl, hb⟩
theorem row_cells (n : Nat) (h : 3 ≤ n) : (((encB 30 :: List.replicate n (encB 32)).set 1 (encB 55)).set n (encB 10)) = (30 :: row (n - 3)).map encB := by
  obtain ⟨m, rfl⟩ : ∃ m, n = m + 3 := ⟨n - 3, by omega⟩
  rw [show m + 3 - 3 = m by omega]
  unfold row
  have e1 : encB 30 :: List.replicate (m + 3) (encB 32) = encB 30 :: encB 32 :: encB 32 :: (List.replicate m (encB 32) ++ [encB 32]) := by
    rw [← List.replicate_succ', List.replicate_succ, List.replicate_succ]
  rw [e1, List.set_cons_succ, List.set_cons_zero, List.set_cons_succ, List.set_cons_succ, List.set_cons_succ, List.set_append_right _ _ (by simp)]
  simp
theorem row_sign (m : Nat) (done rest : List UInt8) (h : 30 :: row m = done ++ 30 :: rest) : done = [] := by
  cases done with
  | nil => rfl
  | cons d ds =>
    rw [List.cons_append] at h
    injection h with _ h2
    exact absurd rfl (row_plain m 30 (by rw [h2]; simp))
theorem row_feed (m : Nat) : (Rd.new 1).feed po (30 :: row m) = ⟨1, 1 + (m + 3), true, (row m).take 16777217, 1, m + 3, []⟩ := by
  rw [rd_first po 1 _ (row_plain m), row_length]
theorem row_fit (m : Nat) (hw : wrongOf true 1 (m + 3) ((row m).take 16777217) = none) : Fit po 1 ((row m).take 16777217) := by
  by_cases h : 16777216 < m + 3
  · unfold wrongOf at hw
    rw [if_neg (by simp), if_pos h] at hw
    cases hw
  · rw [List.take_of_length_le (by rw [row_length]; omega)]
    exact (fit_sevens po 1 (by omega) _ (row_blank m) (by simp; omega)).1
theorem bytesOf_sub {F : Nat → Prop} {w : World} {g off N cap c : Nat} {R : List UInt8} (h : WinN 1 5 w (.slice (some ⟨g, off, none⟩) N cap) N (R.map encB)) (hF : ¬ F g) (i : Nat) (l : List UInt8) (hl : ∀ j x, l[j]? = some x → R[i + j]? = some x) (hc : l.length ≤ c) (hm : c ≤ maxLen) :
    BytesOf F w (.slice (some ⟨g, off + i, none⟩) l.length c) l := by
  refine ⟨⟨_, c, rfl, hc, hm, .inr ⟨g, off + i, rfl, hF, fun j x hx => ?_⟩⟩, .inr ⟨_, _, _, _, rfl⟩⟩
  rw [show off + i + j = off + (i + j) by omega]
  exact h.cell (j := i + j) (u := encB x) (by rw [List.getElem?_map, hl j x hx]; rfl)
include po in
set_option maxHeartbeats 8000000 in
theorem long_in (w : World) (n : Nat) (over cut : Int) (h1 : 16777214 ≤ n) (h2 : n ≤ 16777219) (hov : 16777216 + over = (n : Int)) :
    Calls Tryz.prog 6 #[.int .i64 over, .int .i64 cut] w fun e w' => e = .returned (.bool true) ∧ Below w.heap.size w w' := by
  have o1 : ¬ over < -2 := by omega
  have o2 : ¬ 3 < over := by omega
  have ho1 : (16777216 : Int) + over ≤ 16777219 := by omega
  have ho2 : (16777214 : Int) ≤ 16777216 + over := by omega
  have hb0 : Below w.heap.size w ((w.alloc (.cells #[.int .u8 30] 5)).alloc (.cells #[.int .u8 32] 5)) := ((Below.refl _ _).alloc (Nat.le_refl _) _).alloc (by simp) _
  have hc32 : ((w.alloc (.cells #[.int .u8 30] 5)).alloc (.cells #[.int .u8 32] 5)).cell? ⟨w.heap.size + 1, 0, none⟩ = some (encB 32) := by
    have := cell_at (o := 0) (heap_alloc_new (w.alloc (.cells #[.int .u8 30] 5)) (.cells #[.int .u8 32] 5))
    rw [World.size_alloc] at this
    rw [this]; rfl
  have h30 : ((w.alloc (.cells #[.int .u8 30] 5)).alloc (.cells #[.int .u8 32] 5)).heap[w.heap.size]? = some (.cells #[.int .u8 30] 5 (0, 0)) := (Below.heap_alloc _ _ _ (by simp)).trans (heap_alloc_new w _)
  have HREP := Lib.hid (repeat_any _ (w.heap.size + 1) 0 1 n 32 (by omega) (by omega) hc32)
  have HB0 := Lib.hid hb0
  have H30 := Lib.hid h30
  have HOV := Lib.hid hov
  have HN1 := Lib.hid h1
  have HN2 := Lib.hid h2
  clear hb0 hc32 h30 hov h1 h2
  go_enter Tryz.func6, Tryz.ntmps6
  go_wp2_with fail
  rw [HOV.out]
  refine (HREP.out).mono ?_
  rintro e w1 ⟨b, rfl, hb1, hb2, hfill, hbl⟩
  have hb01 := chain HB0.out hbl
  have h301 := keep H30.out hbl
  have hwin : WinN 1 5 w1 (.slice (some ⟨w.heap.size, 0, none⟩) 1 1) 1 [encB 30] := ⟨rfl, .inr ⟨w.heap.size, 0, 1, #[.int .u8 30], rfl, h301, Nat.le_refl _, Nat.le_refl _, by decide, fun j u hj => by
    match j, hj with
    | 0, hj => exact hj
    | j + 1, hj => simp at hj⟩⟩
  have hnews : ∀ j u, (List.replicate n (encB 32))[j]? = some u → w1.cell? ((⟨b, 0, none⟩ : Addr).add j) = some u := by
    intro j u hj
    rw [List.getElem?_replicate] at hj
    by_cases hjn : j < n
    · rw [if_pos hjn] at hj; cases hj
      obtain ⟨cs, hg, hn, hi⟩ := hfill
      have hp : (⟨b, 0, none⟩ : Addr).add j = ⟨b, j, none⟩ := by unfold Addr.add; split <;> simp_all
      rw [hp, cell_at hg]
      have := hi j hjn
      simpa using this
    · rw [if_neg hjn] at hj; cases hj
  have HWIN := Lib.hid hwin
  have HNEWS := Lib.hid hnews
  have HB01 := Lib.hid hb01
  clear hb1 hb2 hfill hbl hb01 h301 hwin hnews
  go_wp2_with (at_builtin; refine append_winN elemByteN rfl _ _ rfl rfl HWIN.out ⟨b, 0, none⟩ n n (List.replicate n (encB 32)) rfl ?_ HNEWS.out ?_ ?_ ?_ ?_ ?_)
  · simp
  · intro u hu
    rw [(List.mem_replicate.1 hu).2]; rfl
  · have := HN1.out; omega
  · have := HN2.out; omega
  · have := HN2.out; unfold maxLen; omega
  intro g off cap w2 hw2 hg2 hk2
  have hB2 : Below w.heap.size w w2 := ((Keeps.of_below (fun _ => False) HB01.out).trans hk2 (fun k h => .inr (by cases h; exact Nat.le_refl _))).toBelow (Nat.le_refl _) (fun _ h => h.elim)
  have hgw : w.heap.size ≤ g := hg2.elim (fun h => by cases h; exact Nat.le_refl _) (fun h => Nat.le_trans HB01.out.size h.1)
  obtain ⟨N, hN⟩ : ∃ N, 1 + n = N := ⟨_, rfl⟩
  rw [hN] at hw2 ⊢
  have hcap : N ≤ cap ∧ cap ≤ 9223372036854775807 ∧ ∃ cur, w2.heap[g]? = some (.cells cur 5 (0, 0)) := by
    rcases hw2.2 with ⟨hv, _⟩ | ⟨g', off', cap', cur, hv, hg, hc, ho, hm, hi⟩
    · cases hv
    · cases hv; exact ⟨hc, by unfold maxLen at hm; omega, cur, hg⟩
  obtain ⟨hcap, hcapm, cur, hgb⟩ := hcap
  have hlen2 : (encB 30 :: List.replicate n (encB 32)).length = N := by rw [List.length_cons, List.length_replicate]; omega
  have hw3 := hw2.set (j := 1) (by rw [hlen2]; have := HN1.out; omega) (encB 55)
  have hw4 := hw3.set (j := n) (by rw [List.length_set, hlen2]; omega) (encB 10)
  rw [row_cells n (by have := HN1.out; omega)] at hw4
  have hlr : (30 :: row (n - 3)).length = N := by rw [List.length_cons, row_length]; have := HN1.out; omega
  obtain ⟨R, hR⟩ : ∃ R, 30 :: row (n - 3) = R := ⟨_, rfl⟩
  rw [hR] at hw4 hlr
  have q1 : (1 : Int) < (N : Int) := by have := HN1.out; omega
  have q2 : IntKind.i64.wrap ((N : Int) - 1) = (n : Int) := by rw [IntKind.wrap_i64]; have := HN2.out; omega
  have q3 : (n : Int) < (N : Int) := by omega
  have p1 : w2.cell? ⟨g, off + 1, none⟩ = some (encB 32) := by
    exact hw2.cell (j := 1) (u := encB 32) (by rw [List.getElem?_cons_succ, List.getElem?_replicate, if_pos (by have := HN1.out; omega)])
  have p2 : w2.cell? ⟨g, off + n, none⟩ = some (encB 32) := by
    refine hw2.cell (j := n) (u := encB 32) ?_
    obtain ⟨k, hk⟩ : ∃ k, n = k + 1 := ⟨n - 1, by have := HN1.out; omega⟩
    rw [hk, List.getElem?_cons_succ, List.getElem?_replicate, if_pos (by omega)]
  have p3 : ∀ o, w2.frozen? ⟨g, o, none⟩ = false := free_at hgb
  have hn1 : ¬ 1 = n := by have := HN1.out; omega
  have hn2 : ¬ n = 1 := by have := HN1.out; omega
  have HW4 := Lib.hid hw4
  have HLR := Lib.hid hlr
  have HRR := Lib.hid hR
  have HNN := Lib.hid hN
  have HGW := Lib.hid hgw
  have HB2 := Lib.hid hB2
  have HSW := Lib.hid (fun w => seqNew_any w 1 (by decide) (by decide))
  have HCAP := Lib.hid (And.intro hcap hcapm)
  have hB3 : Below w.heap.size w ((w2.setCell ⟨g, off + 1, none⟩ (encB 55)).setCell ⟨g, off + n, none⟩ (encB 10)) := (hB2.setCell (p := ⟨g, off + 1, none⟩) hgw _).setCell (p := ⟨g, off + n, none⟩) hgw _
  obtain ⟨w3, hw3e⟩ : ∃ w3, (w2.setCell ⟨g, off + 1, none⟩ (encB 55)).setCell ⟨g, off + n, none⟩ (encB 10) = w3 := ⟨_, rfl⟩
  have HW3E := Lib.hid hw3e
  rw [hw3e] at HW4 hB3
  have HB3 := Lib.hid hB3
  obtain ⟨at_, hat⟩ : ∃ a : Nat, min (max cut 0) (N : Int) = (a : Int) := ⟨(min (max cut 0) (N : Int)).toNat, by omega⟩
  have hatN : at_ ≤ N := by omega
  have HAT := Lib.hid hatN
  have hcap2 : (at_ : Int) ≤ (cap : Int) := by omega
  have hatn0 : (0 : Int) ≤ (at_ : Int) := by omega
  have hatn1 : (at_ : Int) ≤ (N : Int) := by omega
  clear hw2 hg2 hk2 hB2 hgw hcap hlen2 hw3 hw4 hlr hR hgb HB2 hB3 hw3e hatN
  go_wp2_with fail
  have hg3 : ((w2.setCell ⟨g, off + 1, none⟩ (.int .u8 55)).setCell ⟨g, off + n, none⟩ (.int .u8 10)) = w3 := HW3E.out
  rw [hg3]
  clear hg3 p1 p2 p3
  refine (HSW.out _).mono ?_
  rintro e w4 ⟨rfl, hw4⟩
  -- the reader, in plain Lean
  have hk4 : Keeps (fun _ => False) w3 w4 := by rw [hw4]; exact (Keeps.refl _ _).alloc _
  have hr0 : RdAt (fun k => k = w3.heap.size) w4 w3.heap.size (Rd.new 1) false := by
    subst hw4
    exact ⟨rfl, fun k e => by subst e; simp, .slice none 0 0, .slice none 0 0, [], heap_alloc_new w3 _, .nil _ _ _, fun k h => (by cases h), .nil _ _ _, fun k h => (by cases h), fun i rc h => by simp [Rd.new] at h⟩
  have hg3 : g < w3.heap.size := HW4.out.lt rfl
  have hwn4 := HW4.out.keeps hk4 (fun _ _ => id)
  have hok0 : RdOk (Rd.new 1) := ⟨by decide, by decide, rfl, Nat.le_refl _, Nat.le_refl _, Nat.le_refl _⟩
  have hRm : R = 30 :: row (n - 3) := HRR.out.symm
  have hal : (R.take at_).length = at_ := by rw [List.length_take, HLR.out]; have := HAT.out; omega
  have hbl : (R.drop at_).length = N - at_ := by rw [List.length_drop, HLR.out]
  have hNb : N ≤ 16777220 := by have := HNN.out; have := HN2.out; omega
  have hby1 : BytesOf (fun k => k = w3.heap.size) w4 (.slice (some ⟨g, off, none⟩) at_ cap) (R.take at_) := by
    have := bytesOf_sub (F := fun k => k = w3.heap.size) hwn4 (fun e => by omega) 0 (R.take at_) (c := cap) (fun j x hx => by
      rw [List.getElem?_take] at hx
      split at hx
      · rw [Nat.zero_add]; exact hx
      · cases hx) (by rw [hal]; have := HCAP.out.1; have := HAT.out; omega) (by have := HCAP.out.2; unfold maxLen; omega)
    rw [hal] at this
    exact this
  have hfeed1 := seqFeed_any po _ w4 w3.heap.size (Rd.new 1) (R.take at_) _ hr0 hok0 (by rw [hal]; show 0 + at_ ≤ _; omega) hby1 (fun done rest h hs _ => by
    have := row_sign (n - 3) done (rest ++ R.drop at_) ((hRm.symm.trans (by rw [← h]; exact (List.take_append_drop at_ R).symm : R = (done ++ 30 :: rest) ++ R.drop at_)).trans (by simp))
    subst this
    exact absurd rfl hs)
  obtain ⟨x1, hx1⟩ : ∃ x1, (Rd.new 1).feed po (R.take at_) = x1 := ⟨_, rfl⟩
  have hok1 : RdOk x1 := by rw [← hx1]; exact Rd.feed_ok po _ hok0
  have hpl1 : x1.place = at_ := by rw [← hx1, Rd.feed_place, hal]; exact Nat.zero_add _
  have hx2 : x1.feed po (R.drop at_) = ⟨1, 1 + n, true, (row (n - 3)).take 16777217, 1, n, []⟩ := by
    rw [← hx1, ← Rd.feed_append, List.take_append_drop, hRm, row_feed, show n - 3 + 3 = n by have := HN1.out; omega]
  rw [hx1] at hfeed1
  have HF1 := Lib.hid hfeed1
  have HF2 := Lib.hid (fun (F : Nat → Prop) (w5 : World) (v : Value) (h : RdAt F w5 w3.heap.size x1 false) (hb : BytesOf F w5 v (R.drop at_)) => seqFeed_any po F w5 w3.heap.size x1 (R.drop at_) v h hok1 (by rw [hbl, hpl1]; have := HAT.out; omega) hb (fun done rest h hs _ => by
    have := row_sign (n - 3) (R.take at_ ++ done) rest (by rw [← hRm, List.append_assoc, ← h, List.take_append_drop])
    rw [← hx1, ← Rd.feed_append, this] at hs
    exact absurd rfl hs))
  rw [hx2] at HF2
  have HWN4 := Lib.hid hwn4
  have HK4 := Lib.hid hk4
  have HG3 := Lib.hid hg3
  have HBL := Lib.hid hbl
  have HPLN := Lib.hid (And.intro hpl1 hal)
  have HB4 := Lib.hid (HB3.out.trans (hk4.toBelow HB3.out.size (fun _ h => h.elim)))
  have HS4 := Lib.hid (show w3.heap.size < w4.heap.size from hr0.2.1 _ rfl)
  -- what comes behind the row
  obtain ⟨X2, hX2⟩ : ∃ X2 : Rd, X2 = ⟨1, 1 + n, true, (row (n - 3)).take 16777217, 1, n, []⟩ := ⟨_, rfl⟩
  rw [← hX2] at HF2
  have hX2f : (Rd.new 1).feed po (30 :: row (n - 3)) = X2 := by rw [row_feed, hX2, show n - 3 + 3 = n by have := HN1.out; omega]
  have hok2 : RdOk X2 := by rw [← hX2f]; exact Rd.feed_ok po _ hok0
  have hpl2 : X2.place ≤ 16777220 := by rw [hX2]; have := HN2.out; show 1 + n ≤ _; omega
  have HF3 := Lib.hid (fun (F : Nat → Prop) (w7 : World) (v : Value) (h : RdAt F w7 w3.heap.size X2 false) (hb : BytesOf F w7 v [30, 49, 10]) => seqFeed_any po F w7 w3.heap.size X2 [30, 49, 10] v h hok2 (by simp; omega) hb (fun done rest h _ hw => by
    have hd : done = [] := by
      rcases done with _ | ⟨a1, _ | ⟨a2, _ | ⟨a3, tl⟩⟩⟩ <;> simp at h
      rfl
    subst hd
    have hx : X2.feed po [] = X2 := rfl
    rw [hx] at hw ⊢
    rw [hX2] at hw ⊢
    rw [show n = (n - 3) + 3 by have := HN1.out; omega] at hw
    exact row_fit po (n - 3) (by simpa using hw)))
  obtain ⟨X3, hX3⟩ : ∃ X3, X2.feed po [30, 49, 10] = X3 := ⟨_, rfl⟩
  have hok3 : RdOk X3 := by rw [← hX3]; exact Rd.feed_ok po _ hok2
  have hpl3 : X3.place ≤ 16777230 := by rw [← hX3, Rd.feed_place]; simp; omega
  have hX3e : X3.depth = 1 ∧ X3.open_ = [49, 10] := by
    rw [← hX3, hX2, rd_second po 1 n _ (by have := HN1.out; omega)]
    exact ⟨rfl, rfl⟩
  rw [hX3] at HF3
  have HEN := Lib.hid (fun (F : Nat → Prop) (w8 : World) (h : RdAt F w8 w3.heap.size X3 false) => seqEnd_any po F w8 w3.heap.size X3 h hok3 (by omega) (fun _ _ => by rw [hX3e.1, hX3e.2]; exact (fit_one po 1 (by omega)).1))
  have hover : 16777216 < n → (X3.done po).recs = [.error (3, 16777217), .ok (.num 4607182418800017408)] := fun h => by
    rw [← hX3, ← hX2f]
    exact recs_over po (n - 3) (by omega)
  have hwith : n ≤ 16777216 → (X3.done po).recs = [.ok (.num 4619567317775286272), .ok (.num 4607182418800017408)] := fun h => by
    rw [← hX3, ← hX2f]
    exact recs_within po (n - 3) (by have := HN1.out; omega)
  obtain ⟨X4, hX4⟩ : ∃ X4, X3.done po = X4 := ⟨_, rfl⟩
  rw [hX4] at HEN hover hwith
  have HOVER := Lib.hid hover
  have HWITH := Lib.hid hwith
  have HWORKS := Lib.hid (works_any po)
  have HRW := Lib.hid (show w.heap.size ≤ w3.heap.size from HB3.out.size)
  clear hX2 hX2f hok2 hpl2 hX3 hok3 hpl3 hX3e hX4 hover hwith
  clear hw4 hk4 hr0 hg3 hwn4 hok0 hRm hal hbl hby1 hfeed1 hx1 hok1 hpl1 hx2
  rcases Nat.lt_or_ge 16777216 n with hov2 | hov2
  · have HREC := Lib.hid (HOVER.out hov2)
    have hov3 : 0 < over := by have := HOV.out; omega
    clear hov2
    go_wp2_with fail
    refine (HF1.out).mono ?_
    rintro e w5 ⟨rfl, hk5, hr5⟩
    have HR5 := Lib.hid hr5
    have hwn5 := HWN4.out.keeps hk5 (fun k e hk => by cases e; have := HG3.out; have e' : g = w3.heap.size := hk; omega)
    have hgF : ¬ Since (fun k => k = w3.heap.size) w4 w5 g := fun h => h.elim (fun e => by have := HG3.out; have e' : g = w3.heap.size := e; omega) (fun h => by have := HG3.out; have := HS4.out; omega)
    have HWN5 := Lib.hid hwn5
    have HGF := Lib.hid hgF
    have HB5 := Lib.hid (HB4.out.trans (hk5.toBelow HB4.out.size (fun k e => by have := HRW.out; have e' : k = w3.heap.size := e; omega)))
    have HF5 := Lib.hid (show ∀ k, Since (fun k => k = w3.heap.size) w4 w5 k → w.heap.size ≤ k from fun k hk => hk.elim (fun e => by have := HRW.out; have e' : k = w3.heap.size := e; omega) (fun h => Nat.le_trans HB4.out.size h.1))
    clear hr5 hk5 hwn5 hgF
    by_cases hcc : cap = at_
    · have hN0 : N - at_ = 0 := by have := HCAP.out; omega
      have HBY2 := Lib.hid (show BytesOf (Since (fun k => k = w3.heap.size) w4 w5) w5 (.slice (some ⟨g, off, none⟩) 0 0) (R.drop at_) from by
        have h0 : R.drop at_ = [] := List.eq_nil_of_length_eq_zero (by rw [HBL.out]; exact hN0)
        rw [h0]
        exact ⟨⟨_, 0, rfl, Nat.le_refl _, Nat.zero_le _, .inl rfl⟩, .inr ⟨_, _, _, _, rfl⟩⟩)
      subst hcc
      go_wp2_with fail
      have hr6' := HF2.out _ w5 _ HR5.out (HBY2.out)
      refine (hr6').mono ?_
      rintro e w6 ⟨rfl, hk6, hr6⟩
      have hF6 : ∀ k, Since (Since (fun k => k = w3.heap.size) w4 w5) w5 w6 k → w.heap.size ≤ k := fun k hk => hk.elim (fun h => HF5.out k h) (fun h => Nat.le_trans HB5.out.size h.1)
      have hB6 : Below w.heap.size w w6 := HB5.out.trans (hk6.toBelow HB5.out.size HF5.out)
      have hby3 : BytesOf (Since (Since (fun k => k = w3.heap.size) w4 w5) w5 w6) (w6.alloc (.cells #[.int .u8 30, .int .u8 49, .int .u8 10] 5)) (.slice (some ⟨w6.heap.size, 0, none⟩) 3 3) [30, 49, 10] := by
        refine ⟨⟨_, 3, rfl, Nat.le_refl _, by decide, .inr ⟨w6.heap.size, 0, rfl, fun h => absurd (hr6.2.1 _ h) (Nat.lt_irrefl _), fun i x hx => ?_⟩⟩, .inr ⟨_, _, _, _, rfl⟩⟩
        rw [cell_at (heap_alloc_new w6 _), Nat.zero_add]
        match i, hx with
        | 0, hx => cases hx; rfl
        | 1, hx => cases hx; rfl
        | 2, hx => cases hx; rfl
        | i + 3, hx => simp at hx
      have HFD := Lib.hid (HF3.out _ _ _ (hr6.stays (stays_alloc w6 (.cells #[.int .u8 30, .int .u8 49, .int .u8 10] 5))) hby3)
      have HF6 := Lib.hid hF6
      have HB6 := Lib.hid (hB6.alloc hB6.size (.cells #[.int .u8 30, .int .u8 49, .int .u8 10] 5))
      clear hr6' hk6 hr6 hF6 hB6 hby3
      go_wp2_with fail
      refine (HFD.out).mono ?_
      rintro e w7 ⟨rfl, hk7, hr7⟩
      have hF7 := fun k (hk : Since (Since (Since (fun k => k = w3.heap.size) w4 w5) w5 w6) (w6.alloc (.cells #[.int .u8 30, .int .u8 49, .int .u8 10] 5)) w7 k) => hk.elim (fun h => HF6.out k h) (fun h => Nat.le_trans HB6.out.size h.1)
      have hB7 : Below w.heap.size w w7 := HB6.out.trans (hk7.toBelow HB6.out.size HF6.out)
      have HF7 := Lib.hid hF7
      have HB7 := Lib.hid hB7
      have HED := Lib.hid (HEN.out _ w7 hr7)
      clear hk7 hr7 hF7 hB7
      go_wp2_with fail
      refine (HED.out).mono ?_
      rintro e w8 ⟨rfl, hk8, hr8⟩
      obtain ⟨G, hG⟩ : ∃ G : Nat → Prop, Since (Since (Since (Since (fun k => k = w3.heap.size) w4 w5) w5 w6) (w6.alloc (.cells #[.int .u8 30, .int .u8 49, .int .u8 10] 5)) w7) w7 w8 = G := ⟨_, rfl⟩
      have hF8 : ∀ k, G k → w.heap.size ≤ k := by
        rw [← hG]
        exact fun k hk => hk.elim (fun h => HF7.out k h) (fun h => Nat.le_trans HB7.out.size h.1)
      have hB8 : Below w.heap.size w w8 := HB7.out.trans (hk8.toBelow HB7.out.size HF7.out)
      rw [hG] at hr8
      have HF8 := Lib.hid hF8
      have HB8 := Lib.hid hB8
      have HN1X := Lib.hid (seqNext_some G w8 w3.heap.size X4 (.error (3, 16777217)) [.ok (.num 4607182418800017408)] true hr8 (HREC.out) (by rw [HREC.out]; decide))
      clear hk8 hr8 hF8 hB8 hG
      go_wp2_with fail
      refine (HN1X.out).mono ?_
      rintro e w9 ⟨a1, b1, rfl, hra1, hk9, hr9⟩
      have hB9 : Below w.heap.size w w9 := HB8.out.trans (hk9.toBelow HB8.out.size HF8.out)
      have hF9 : ∀ k, Since G w8 w9 k → w.heap.size ≤ k := fun k hk => hk.elim (fun h => HF8.out k h) (fun h => Nat.le_trans HB8.out.size h.1)
      have HF9 := Lib.hid hF9
      have HB9 := Lib.hid hB9
      have HN2X := Lib.hid (seqNext_some _ w9 w3.heap.size _ (.ok (.num 4607182418800017408)) [] true hr9 rfl (by simp))
      obtain ⟨rfl, rfl⟩ := hra1
      have HSP := Lib.hid (fun w => spot_at w 3 16777217 (by decide) (by decide) (by decide))
      rw [show spotV 3 16777217 = .iface 151 (.agg #[.int .i64 3, .int .i64 16777217]) from rfl] at HSP ⊢
      clear hk9 hr9 hB9 hF9
      go_wp2_with fail
      refine (HN2X.out).mono ?_
      rintro e w10 ⟨a2, b2, rfl, hra2, hk10, hr10⟩
      obtain ⟨rfl, T2, v2, rfl, _, _⟩ := hra2
      have HB10 := Lib.hid (HB9.out.trans (hk10.toBelow HB9.out.size HF9.out))
      clear hk10 hr10
      go_wp2_with fail
      refine (HSP.out _).mono ?_
      rintro e w11 ⟨rfl, hk11⟩
      have HB11 := Lib.hid (HB10.out.trans (hk11.toBelow HB10.out.size (fun _ h => h.elim)))
      clear hk11
      go_wp2_with fail
      refine (HWORKS.out _).mono ?_
      rintro e w12 ⟨rfl, hb12⟩
      have HB12 := Lib.hid (chain HB11.out hb12)
      clear hb12
      go_wp2_with fail
      go_ret
      exact ⟨rfl, HB12.out⟩
    · have HBY2 := Lib.hid (show BytesOf (Since (fun k => k = w3.heap.size) w4 w5) w5 (.slice (some ⟨g, off + at_, none⟩) (N - at_) (cap - at_)) (R.drop at_) from by
        have := bytesOf_sub HWN5.out HGF.out at_ (R.drop at_) (c := cap - at_) (fun j x hx => by rw [List.getElem?_drop] at hx; exact hx) (by rw [HBL.out]; have := HCAP.out.1; omega) (by have := HCAP.out.2; unfold maxLen; omega)
        rw [HBL.out] at this
        exact this)
      go_wp2_with fail
      have hr6' := HF2.out _ w5 _ HR5.out (HBY2.out)
      refine (hr6').mono ?_
      rintro e w6 ⟨rfl, hk6, hr6⟩
      have hF6 : ∀ k, Since (Since (fun k => k = w3.heap.size) w4 w5) w5 w6 k → w.heap.size ≤ k := fun k hk => hk.elim (fun h => HF5.out k h) (fun h => Nat.le_trans HB5.out.size h.1)
      have hB6 : Below w.heap.size w w6 := HB5.out.trans (hk6.toBelow HB5.out.size HF5.out)
      have hby3 : BytesOf (Since (Since (fun k => k = w3.heap.size) w4 w5) w5 w6) (w6.alloc (.cells #[.int .u8 30, .int .u8 49, .int .u8 10] 5)) (.slice (some ⟨w6.heap.size, 0, none⟩) 3 3) [30, 49, 10] := by
        refine ⟨⟨_, 3, rfl, Nat.le_refl _, by decide, .inr ⟨w6.heap.size, 0, rfl, fun h => absurd (hr6.2.1 _ h) (Nat.lt_irrefl _), fun i x hx => ?_⟩⟩, .inr ⟨_, _, _, _, rfl⟩⟩
        rw [cell_at (heap_alloc_new w6 _), Nat.zero_add]
        match i, hx with
        | 0, hx => cases hx; rfl
        | 1, hx => cases hx; rfl
        | 2, hx => cases hx; rfl
        | i + 3, hx => simp at hx
      have HFD := Lib.hid (HF3.out _ _ _ (hr6.stays (stays_alloc w6 (.cells #[.int .u8 30, .int .u8 49, .int .u8 10] 5))) hby3)
      have HF6 := Lib.hid hF6
      have HB6 := Lib.hid (hB6.alloc hB6.size (.cells #[.int .u8 30, .int .u8 49, .int .u8 10] 5))
      clear hr6' hk6 hr6 hF6 hB6 hby3
      go_wp2_with fail
      refine (HFD.out).mono ?_
      rintro e w7 ⟨rfl, hk7, hr7⟩
      have hF7 := fun k (hk : Since (Since (Since (fun k => k = w3.heap.size) w4 w5) w5 w6) (w6.alloc (.cells #[.int .u8 30, .int .u8 49, .int .u8 10] 5)) w7 k) => hk.elim (fun h => HF6.out k h) (fun h => Nat.le_trans HB6.out.size h.1)
      have hB7 : Below w.heap.size w w7 := HB6.out.trans (hk7.toBelow HB6.out.size HF6.out)
      have HF7 := Lib.hid hF7
      have HB7 := Lib.hid hB7
      have HED := Lib.hid (HEN.out _ w7 hr7)
      clear hk7 hr7 hF7 hB7
      go_wp2_with fail
      refine (HED.out).mono ?_
      rintro e w8 ⟨rfl, hk8, hr8⟩
      obtain ⟨G, hG⟩ : ∃ G : Nat → Prop, Since (Since (Since (Since (fun k => k = w3.heap.size) w4 w5) w5 w6) (w6.alloc (.cells #[.int .u8 30, .int .u8 49, .int .u8 10] 5)) w7) w7 w8 = G := ⟨_, rfl⟩
      have hF8 : ∀ k, G k → w.heap.size ≤ k := by
        rw [← hG]
        exact fun k hk => hk.elim (fun h => HF7.out k h) (fun h => Nat.le_trans HB7.out.size h.1)
      have hB8 : Below w.heap.size w w8 := HB7.out.trans (hk8.toBelow HB7.out.size HF7.out)
      rw [hG] at hr8
      have HF8 := Lib.hid hF8
      have HB8 := Lib.hid hB8
      have HN1X := Lib.hid (seqNext_some G w8 w3.heap.size X4 (.error (3, 16777217)) [.ok (.num 4607182418800017408)] true hr8 (HREC.out) (by rw [HREC.out]; decide))
      clear hk8 hr8 hF8 hB8 hG
      go_wp2_with fail
      refine (HN1X.out).mono ?_
      rintro e w9 ⟨a1, b1, rfl, hra1, hk9, hr9⟩
      have hB9 : Below w.heap.size w w9 := HB8.out.trans (hk9.toBelow HB8.out.size HF8.out)
      have hF9 : ∀ k, Since G w8 w9 k → w.heap.size ≤ k := fun k hk => hk.elim (fun h => HF8.out k h) (fun h => Nat.le_trans HB8.out.size h.1)
      have HF9 := Lib.hid hF9
      have HB9 := Lib.hid hB9
      have HN2X := Lib.hid (seqNext_some _ w9 w3.heap.size _ (.ok (.num 4607182418800017408)) [] true hr9 rfl (by simp))
      obtain ⟨rfl, rfl⟩ := hra1
      have HSP := Lib.hid (fun w => spot_at w 3 16777217 (by decide) (by decide) (by decide))
      rw [show spotV 3 16777217 = .iface 151 (.agg #[.int .i64 3, .int .i64 16777217]) from rfl] at HSP ⊢
      clear hk9 hr9 hB9 hF9
      go_wp2_with fail
      refine (HN2X.out).mono ?_
      rintro e w10 ⟨a2, b2, rfl, hra2, hk10, hr10⟩
      obtain ⟨rfl, T2, v2, rfl, _, _⟩ := hra2
      have HB10 := Lib.hid (HB9.out.trans (hk10.toBelow HB9.out.size HF9.out))
      clear hk10 hr10
      go_wp2_with fail
      refine (HSP.out _).mono ?_
      rintro e w11 ⟨rfl, hk11⟩
      have HB11 := Lib.hid (HB10.out.trans (hk11.toBelow HB10.out.size (fun _ h => h.elim)))
      clear hk11
      go_wp2_with fail
      refine (HWORKS.out _).mono ?_
      rintro e w12 ⟨rfl, hb12⟩
      have HB12 := Lib.hid (chain HB11.out hb12)
      clear hb12
      go_wp2_with fail
      go_ret
      exact ⟨rfl, HB12.out⟩
  · have HREC := Lib.hid (HWITH.out hov2)
    have hov3 : ¬ 0 < over := by have := HOV.out; omega
    clear hov2
    go_wp2_with fail
    refine (HF1.out).mono ?_
    rintro e w5 ⟨rfl, hk5, hr5⟩
    have HR5 := Lib.hid hr5
    have hwn5 := HWN4.out.keeps hk5 (fun k e hk => by cases e; have := HG3.out; have e' : g = w3.heap.size := hk; omega)
    have hgF : ¬ Since (fun k => k = w3.heap.size) w4 w5 g := fun h => h.elim (fun e => by have := HG3.out; have e' : g = w3.heap.size := e; omega) (fun h => by have := HG3.out; have := HS4.out; omega)
    have HWN5 := Lib.hid hwn5
    have HGF := Lib.hid hgF
    have HB5 := Lib.hid (HB4.out.trans (hk5.toBelow HB4.out.size (fun k e => by have := HRW.out; have e' : k = w3.heap.size := e; omega)))
    have HF5 := Lib.hid (show ∀ k, Since (fun k => k = w3.heap.size) w4 w5 k → w.heap.size ≤ k from fun k hk => hk.elim (fun e => by have := HRW.out; have e' : k = w3.heap.size := e; omega) (fun h => Nat.le_trans HB4.out.size h.1))
    clear hr5 hk5 hwn5 hgF
    by_cases hcc : cap = at_
    · have hN0 : N - at_ = 0 := by have := HCAP.out; omega
      have HBY2 := Lib.hid (show BytesOf (Since (fun k => k = w3.heap.size) w4 w5) w5 (.slice (some ⟨g, off, none⟩) 0 0) (R.drop at_) from by
        have h0 : R.drop at_ = [] := List.eq_nil_of_length_eq_zero (by rw [HBL.out]; exact hN0)
        rw [h0]
        exact ⟨⟨_, 0, rfl, Nat.le_refl _, Nat.zero_le _, .inl rfl⟩, .inr ⟨_, _, _, _, rfl⟩⟩)
      subst hcc
      go_wp2_with fail
      have hr6' := HF2.out _ w5 _ HR5.out (HBY2.out)
      refine (hr6').mono ?_
      rintro e w6 ⟨rfl, hk6, hr6⟩
      have hF6 : ∀ k, Since (Since (fun k => k = w3.heap.size) w4 w5) w5 w6 k → w.heap.size ≤ k := fun k hk => hk.elim (fun h => HF5.out k h) (fun h => Nat.le_trans HB5.out.size h.1)
      have hB6 : Below w.heap.size w w6 := HB5.out.trans (hk6.toBelow HB5.out.size HF5.out)
      have hby3 : BytesOf (Since (Since (fun k => k = w3.heap.size) w4 w5) w5 w6) (w6.alloc (.cells #[.int .u8 30, .int .u8 49, .int .u8 10] 5)) (.slice (some ⟨w6.heap.size, 0, none⟩) 3 3) [30, 49, 10] := by
        refine ⟨⟨_, 3, rfl, Nat.le_refl _, by decide, .inr ⟨w6.heap.size, 0, rfl, fun h => absurd (hr6.2.1 _ h) (Nat.lt_irrefl _), fun i x hx => ?_⟩⟩, .inr ⟨_, _, _, _, rfl⟩⟩
        rw [cell_at (heap_alloc_new w6 _), Nat.zero_add]
        match i, hx with
        | 0, hx => cases hx; rfl
        | 1, hx => cases hx; rfl
        | 2, hx => cases hx; rfl
        | i + 3, hx => simp at hx
      have HFD := Lib.hid (HF3.out _ _ _ (hr6.stays (stays_alloc w6 (.cells #[.int .u8 30, .int .u8 49, .int .u8 10] 5))) hby3)
      have HF6 := Lib.hid hF6
      have HB6 := Lib.hid (hB6.alloc hB6.size (.cells #[.int .u8 30, .int .u8 49, .int .u8 10] 5))
      clear hr6' hk6 hr6 hF6 hB6 hby3
      go_wp2_with fail
      refine (HFD.out).mono ?_
      rintro e w7 ⟨rfl, hk7, hr7⟩
      have hF7 := fun k (hk : Since (Since (Since (fun k => k = w3.heap.size) w4 w5) w5 w6) (w6.alloc (.cells #[.int .u8 30, .int .u8 49, .int .u8 10] 5)) w7 k) => hk.elim (fun h => HF6.out k h) (fun h => Nat.le_trans HB6.out.size h.1)
      have hB7 : Below w.heap.size w w7 := HB6.out.trans (hk7.toBelow HB6.out.size HF6.out)
      have HF7 := Lib.hid hF7
      have HB7 := Lib.hid hB7
      have HED := Lib.hid (HEN.out _ w7 hr7)
      clear hk7 hr7 hF7 hB7
      go_wp2_with fail
      refine (HED.out).mono ?_
      rintro e w8 ⟨rfl, hk8, hr8⟩
      obtain ⟨G, hG⟩ : ∃ G : Nat → Prop, Since (Since (Since (Since (fun k => k = w3.heap.size) w4 w5) w5 w6) (w6.alloc (.cells #[.int .u8 30, .int .u8 49, .int .u8 10] 5)) w7) w7 w8 = G := ⟨_, rfl⟩
      have hF8 : ∀ k, G k → w.heap.size ≤ k := by
        rw [← hG]
        exact fun k hk => hk.elim (fun h => HF7.out k h) (fun h => Nat.le_trans HB7.out.size h.1)
      have hB8 : Below w.heap.size w w8 := HB7.out.trans (hk8.toBelow HB7.out.size HF7.out)
      rw [hG] at hr8
      have HF8 := Lib.hid hF8
      have HB8 := Lib.hid hB8
      have HN1X := Lib.hid (seqNext_some G w8 w3.heap.size X4 (.ok (.num 4619567317775286272)) [.ok (.num 4607182418800017408)] true hr8 (HREC.out) (by rw [HREC.out]; decide))
      clear hk8 hr8 hF8 hB8 hG
      go_wp2_with fail
      refine (HN1X.out).mono ?_
      rintro e w9 ⟨a1, b1, rfl, hra1, hk9, hr9⟩
      have hB9 : Below w.heap.size w w9 := HB8.out.trans (hk9.toBelow HB8.out.size HF8.out)
      have hF9 : ∀ k, Since G w8 w9 k → w.heap.size ≤ k := fun k hk => hk.elim (fun h => HF8.out k h) (fun h => Nat.le_trans HB8.out.size h.1)
      have HF9 := Lib.hid hF9
      have HB9 := Lib.hid hB9
      have HN2X := Lib.hid (seqNext_some _ w9 w3.heap.size _ (.ok (.num 4607182418800017408)) [] true hr9 rfl (by simp))
      obtain ⟨rfl, T1, v1, rfl, _, _⟩ := hra1
      clear hk9 hr9 hB9 hF9
      go_wp2_with fail
      refine (HN2X.out).mono ?_
      rintro e w10 ⟨a2, b2, rfl, hra2, hk10, hr10⟩
      obtain ⟨rfl, T2, v2, rfl, _, _⟩ := hra2
      have HB10 := Lib.hid (HB9.out.trans (hk10.toBelow HB9.out.size HF9.out))
      clear hk10 hr10
      go_wp2_with fail
      refine (HWORKS.out _).mono ?_
      rintro e w12 ⟨rfl, hb12⟩
      have HB12 := Lib.hid (chain HB10.out hb12)
      clear hb12
      go_wp2_with fail
      go_ret
      exact ⟨rfl, HB12.out⟩
    · have HBY2 := Lib.hid (show BytesOf (Since (fun k => k = w3.heap.size) w4 w5) w5 (.slice (some ⟨g, off + at_, none⟩) (N - at_) (cap - at_)) (R.drop at_) from by
        have := bytesOf_sub HWN5.out HGF.out at_ (R.drop at_) (c := cap - at_) (fun j x hx => by rw [List.getElem?_drop] at hx; exact hx) (by rw [HBL.out]; have := HCAP.out.1; omega) (by have := HCAP.out.2; unfold maxLen; omega)
        rw [HBL.out] at this
        exact this)
      go_wp2_with fail
      have hr6' := HF2.out _ w5 _ HR5.out (HBY2.out)
      refine (hr6').mono ?_
      rintro e w6 ⟨rfl, hk6, hr6⟩
      have hF6 : ∀ k, Since (Since (fun k => k = w3.heap.size) w4 w5) w5 w6 k → w.heap.size ≤ k := fun k hk => hk.elim (fun h => HF5.out k h) (fun h => Nat.le_trans HB5.out.size h.1)
      have hB6 : Below w.heap.size w w6 := HB5.out.trans (hk6.toBelow HB5.out.size HF5.out)
      have hby3 : BytesOf (Since (Since (fun k => k = w3.heap.size) w4 w5) w5 w6) (w6.alloc (.cells #[.int .u8 30, .int .u8 49, .int .u8 10] 5)) (.slice (some ⟨w6.heap.size, 0, none⟩) 3 3) [30, 49, 10] := by
        refine ⟨⟨_, 3, rfl, Nat.le_refl _, by decide, .inr ⟨w6.heap.size, 0, rfl, fun h => absurd (hr6.2.1 _ h) (Nat.lt_irrefl _), fun i x hx => ?_⟩⟩, .inr ⟨_, _, _, _, rfl⟩⟩
        rw [cell_at (heap_alloc_new w6 _), Nat.zero_add]
        match i, hx with
        | 0, hx => cases hx; rfl
        | 1, hx => cases hx; rfl
        | 2, hx => cases hx; rfl
        | i + 3, hx => simp at hx
      have HFD := Lib.hid (HF3.out _ _ _ (hr6.stays (stays_alloc w6 (.cells #[.int .u8 30, .int .u8 49, .int .u8 10] 5))) hby3)
      have HF6 := Lib.hid hF6
      have HB6 := Lib.hid (hB6.alloc hB6.size (.cells #[.int .u8 30, .int .u8 49, .int .u8 10] 5))
      clear hr6' hk6 hr6 hF6 hB6 hby3
      go_wp2_with fail
      refine (HFD.out).mono ?_
      rintro e w7 ⟨rfl, hk7, hr7⟩
      have hF7 := fun k (hk : Since (Since (Since (fun k => k = w3.heap.size) w4 w5) w5 w6) (w6.alloc (.cells #[.int .u8 30, .int .u8 49, .int .u8 10] 5)) w7 k) => hk.elim (fun h => HF6.out k h) (fun h => Nat.le_trans HB6.out.size h.1)
      have hB7 : Below w.heap.size w w7 := HB6.out.trans (hk7.toBelow HB6.out.size HF6.out)
      have HF7 := Lib.hid hF7
      have HB7 := Lib.hid hB7
      have HED := Lib.hid (HEN.out _ w7 hr7)
      clear hk7 hr7 hF7 hB7
      go_wp2_with fail
      refine (HED.out).mono ?_
      rintro e w8 ⟨rfl, hk8, hr8⟩
      obtain ⟨G, hG⟩ : ∃ G : Nat → Prop, Since (Since (Since (Since (fun k => k = w3.heap.size) w4 w5) w5 w6) (w6.alloc (.cells #[.int .u8 30, .int .u8 49, .int .u8 10] 5)) w7) w7 w8 = G := ⟨_, rfl⟩
      have hF8 : ∀ k, G k → w.heap.size ≤ k := by
        rw [← hG]
        exact fun k hk => hk.elim (fun h => HF7.out k h) (fun h => Nat.le_trans HB7.out.size h.1)
      have hB8 : Below w.heap.size w w8 := HB7.out.trans (hk8.toBelow HB7.out.size HF7.out)
      rw [hG] at hr8
      have HF8 := Lib.hid hF8
      have HB8 := Lib.hid hB8
      have HN1X := Lib.hid (seqNext_some G w8 w3.heap.size X4 (.ok (.num 4619567317775286272)) [.ok (.num 4607182418800017408)] true hr8 (HREC.out) (by rw [HREC.out]; decide))
      clear hk8 hr8 hF8 hB8 hG
      go_wp2_with fail
      refine (HN1X.out).mono ?_
      rintro e w9 ⟨a1, b1, rfl, hra1, hk9, hr9⟩
      have hB9 : Below w.heap.size w w9 := HB8.out.trans (hk9.toBelow HB8.out.size HF8.out)
      have hF9 : ∀ k, Since G w8 w9 k → w.heap.size ≤ k := fun k hk => hk.elim (fun h => HF8.out k h) (fun h => Nat.le_trans HB8.out.size h.1)
      have HF9 := Lib.hid hF9
      have HB9 := Lib.hid hB9
      have HN2X := Lib.hid (seqNext_some _ w9 w3.heap.size _ (.ok (.num 4607182418800017408)) [] true hr9 rfl (by simp))
      obtain ⟨rfl, T1, v1, rfl, _, _⟩ := hra1
      clear hk9 hr9 hB9 hF9
      go_wp2_with fail
      refine (HN2X.out).mono ?_
      rintro e w10 ⟨a2, b2, rfl, hra2, hk10, hr10⟩
      obtain ⟨rfl, T2, v2, rfl, _, _⟩ := hra2
      have HB10 := Lib.hid (HB9.out.trans (hk10.toBelow HB9.out.size HF9.out))
      clear hk10 hr10
      go_wp2_with fail
      refine (HWORKS.out _).mono ?_
      rintro e w12 ⟨rfl, hb12⟩
      have HB12 := Lib.hid (chain HB10.out hb12)
      clear hb12
      go_wp2_with fail
      go_ret
      exact ⟨rfl, HB12.out⟩
end
/-- SeqLong answers true, whatever it is given. -/
theorem long_any (w : World) (over cut : Int) : Calls Tryz.prog 6 #[.int .i64 over, .int .i64 cut] w fun e w' => e = .returned (.bool true) ∧ Below w.heap.size w w' := by
  by_cases h : over < -2 ∨ 3 < over
  · exact long_out (fun l _ => l) w over cut h
  · exact long_in (fun l _ => l) w (16777216 + over).toNat over cut (by omega) (by omega) (by omega)
end Go.Proofs.YtakkmiomhackiaaGreatDoor
