/-
  Several texts in one, each under its own head. Conditions: none.
-/
import Derived.Test.YtakkmiomhackiaaGreatDoorLa02
import Derived.Test.YtakkmiomhackiaaGreatDoorLa05
import Derived.Laws.EntriesVeiled
import Derived.Scope
import Derived.WalkMore
set_option linter.all false

/-
  Package utf, second part: New, Held, take.
-/
namespace Go.Proofs.YtakkmiomhackiaaGreatDoor
open Go.RowKit
set_option maxRecDepth 100000

/-- What is held of a character is less than its form. -/
def HeldOk (held : List UInt8) : Prop := ∀ h t, held = h :: t → held.length < (formOf h).wide
theorem wide_le (c : UInt8) : (formOf c).wide ≤ 4 := by unfold formOf; repeat' (first | exact by decide | split)
theorem HeldOk.le {held : List UInt8} (h : HeldOk held) : held.length ≤ 3 := by
  cases held with
  | nil => exact Nat.zero_le _
  | cons a t => have := h a t rfl; have := wide_le a; omega
/-- Block b is a feeder to which so many bytes came, the last of them held. -/
def Feeds (w : World) (b pl : Nat) (held : List UInt8) : Prop := HeldOk held ∧ ∃ a0 a1 a2 a3 : UInt8, w.heap[b]? = some (.cells #[.int .i64 pl, .int .u8 ((a0.toNat : Nat) : Int), .int .u8 ((a1.toNat : Nat) : Int), .int .u8 ((a2.toNat : Nat) : Int), .int .u8 ((a3.toNat : Nat) : Int), .int .i64 held.length, .bool false] 305 (0, 0)) ∧
  held = [a0, a1, a2, a3].take held.length
theorem Feeds.keeps {F : Nat → Prop} {w w' : World} {b pl : Nat} {held : List UInt8} (h : Feeds w b pl held) (hk : Keeps F w w') (hb : ¬ F b) : Feeds w' b pl held := by
  obtain ⟨h1, a0, a1, a2, a3, h2, h3⟩ := h
  exact ⟨h1, a0, a1, a2, a3, hk.blk h2 hb, h3⟩
theorem cells7 {w : World} {b : Nat} {v0 v1 v2 v3 v4 v5 v6 : Value} {T : TypeId} (h : w.heap[b]? = some (.cells #[v0, v1, v2, v3, v4, v5, v6] T (0, 0))) : w.cell? ⟨b, 0, none⟩ = some v0 ∧ w.cell? ⟨b, 1, none⟩ = some v1 ∧ w.cell? ⟨b, 2, none⟩ = some v2 ∧ w.cell? ⟨b, 3, none⟩ = some v3 ∧ w.cell? ⟨b, 4, none⟩ = some v4 ∧ w.cell? ⟨b, 5, none⟩ = some v5 ∧ w.cell? ⟨b, 6, none⟩ = some v6 ∧ ∀ o, w.frozen? ⟨b, o, none⟩ = false :=
  ⟨cell_at h, cell_at h, cell_at h, cell_at h, cell_at h, cell_at h, cell_at h, free_at h⟩

theorem newFeeder_any (w : World) : Calls Tryz.prog 137 #[] w fun e w' => e = .returned (.pointer (some ⟨w.heap.size, 0, none⟩)) ∧ Feeds w' w.heap.size 0 [] ∧ Below w.heap.size w w' ∧ w'.heap.size = w.heap.size + 1 := by
  go_enter Tryz.func137, Tryz.ntmps137
  go_wp2
  go_ret
  refine ⟨rfl, ⟨(fun h t e => by cases e), 0, 0, 0, 0, heap_alloc_new w _, rfl⟩, (Below.refl _ _).alloc (Nat.le_refl _) _, by simp⟩
theorem held_any (w : World) (b pl : Nat) (held : List UInt8) (h : Feeds w b pl held) : Calls Tryz.prog 167 #[.pointer (some ⟨b, 0, none⟩)] w fun e w' => e = .returned (.int .i64 held.length) ∧ w' = w := by
  obtain ⟨_, a0, a1, a2, a3, h2, h9⟩ := h
  clear h9
  obtain ⟨c0, c1, c2, c3, c4, c5, c6, cf⟩ := cells7 h2
  clear h2
  go_enter Tryz.func167, Tryz.ntmps167
  go_wp2
  go_ret
  exact ⟨rfl, rfl⟩

/-- What take hands back. -/
def takeRet (w : World) (b pl : Nat) (held : List UInt8) (o : Option (List UInt8)) (e : Ending) (w' : World) : Prop := match o with
  | none => e = .returned (.bool false) ∧ Feeds w' b pl held
  | some h => e = .returned (.bool true) ∧ Feeds w' b pl h

set_option maxHeartbeats 2000000 in
theorem take0_any (w : World) (b pl : Nat) (c : UInt8) (h : Feeds w b pl []) : Calls Tryz.prog 190 #[.pointer (some ⟨b, 0, none⟩), .int .u8 ((c.toNat : Nat) : Int)] w fun e w' => takeRet w b pl [] (feedOne [] c) e w' ∧ Keeps (fun k => k = b) w w' := by
  obtain ⟨hok, a0, a1, a2, a3, h2, h9⟩ := h
  clear h9
  obtain ⟨c0, c1, c2, c3, c4, c5, c6, cf⟩ := cells7 h2
  have H2 := Lib.hid h2
  have hlt := lt_of_block h2
  have HF := Lib.hid (formOf_any c)
  have hfo : feedOne [] c = if (formOf c).wide = 0 then none else if 1 < (formOf c).wide then some [c] else some [] := rfl
  rw [hfo]
  have hwl := wide_le c
  have hok1 : 1 < (formOf c).wide → HeldOk [c] := fun hh x t e => by injection e with e1 e2; subst e1; simpa using hh
  have HOK := Lib.hid hok1
  have HOK0 := Lib.hid hok
  clear h2 hfo hok1 hok
  obtain ⟨f, hf⟩ : ∃ f, formOf c = f := ⟨_, rfl⟩
  rw [hf] at HF HOK hwl ⊢
  clear hf
  obtain ⟨n, lo, hi⟩ := f
  simp only at hwl HOK
  by_cases hn0 : n = 0
  · subst hn0
    rw [if_pos rfl]
    go_enter Tryz.func190, Tryz.ntmps190
    go_wp2_with fail
    refine (HF.out _).mono ?_
    rintro e w1 ⟨rfl, hb⟩
    unfold formV
    have hbx := Lib.hid (fun o => hb.alloc hb.size o)
    clear hb
    go_wp2_with fail
    go_ret
    exact ⟨⟨rfl, HOK0.out, a0, a1, a2, a3, ((hbx.out _).block b hlt).trans H2.out, rfl⟩, Keeps.of_below _ (hbx.out _)⟩
  · rw [if_neg hn0]
    by_cases hn1 : 1 < n
    · rw [if_pos hn1]
      have g1 : (1 : Int) < (n : Int) := by omega
      have g0 : ((n : Int) == 0) = false := by simpa using hn0
      go_enter Tryz.func190, Tryz.ntmps190
      go_wp2_with fail
      refine (HF.out _).mono ?_
      rintro e w1 ⟨rfl, hb⟩
      unfold formV
      have hbx := hb.alloc hb.size (.cells #[.int .i64 n, .int .u8 lo, .int .u8 hi] 349)
      have h3 := (hbx.block b hlt).trans H2.out
      obtain ⟨d0, d1, d2, d3, d4, d5, d6, df⟩ := cells7 h3
      have H3 := Lib.hid h3
      have HBX := Lib.hid hbx
      clear hb h3 hbx
      go_wp2_with fail
      go_ret
      exact ⟨⟨rfl, HOK.out hn1, c, a1, a2, a3, set_at (set_at H3.out _) _, rfl⟩, ((Keeps.of_below (fun k => k = b) HBX.out).setCell (p := ⟨b, 1, none⟩) (.inl rfl) _).setCell (p := ⟨b, 5, none⟩) (.inl rfl) _⟩
    · rw [if_neg hn1]
      have hn2 : n = 1 := by omega
      subst hn2
      go_enter Tryz.func190, Tryz.ntmps190
      go_wp2_with fail
      refine (HF.out _).mono ?_
      rintro e w1 ⟨rfl, hb⟩
      unfold formV
      have hbx := Lib.hid (fun o => hb.alloc hb.size o)
      clear hb
      go_wp2_with fail
      go_ret
      exact ⟨⟨rfl, HOK0.out, a0, a1, a2, a3, ((hbx.out _).block b hlt).trans H2.out, rfl⟩, Keeps.of_below _ (hbx.out _)⟩

set_option maxHeartbeats 4000000 in
theorem take1_any (w : World) (b pl : Nat) (c b0 : UInt8) (h : Feeds w b pl [b0]) : Calls Tryz.prog 190 #[.pointer (some ⟨b, 0, none⟩), .int .u8 ((c.toNat : Nat) : Int)] w fun e w' => takeRet w b pl [b0] (feedOne [b0] c) e w' ∧ Keeps (fun k => k = b) w w' := by
  obtain ⟨hok, a0, a1, a2, a3, h2, h9⟩ := h
  have hl : 1 < (formOf b0).wide := hok _ _ rfl
  have hok0 : HeldOk [b0] := hok
  simp only [List.length_cons, List.length_nil, Nat.reduceAdd, List.take_succ_cons, List.take_zero, List.cons.injEq, and_true] at h2 h9
  obtain rfl := h9
  obtain ⟨c0, c1, c2, c3, c4, c5, c6, cf⟩ := cells7 h2
  have H2 := Lib.hid h2
  have hlt := lt_of_block h2
  have HF := Lib.hid (formOf_any b0)
  have HM0 : ∀ w, Calls Tryz.prog 206 #[formV (formOf b0), .int .i64 (1 : Int), .int .u8 ((c.toNat : Nat) : Int)] w fun e w' => e = .returned (.bool ((formOf b0).may 1 c)) ∧ Below w.heap.size w w' := fun w => may_any (formOf b0) 1 c w
  have HM := Lib.hid HM0
  clear HM0
  have hwl := wide_le b0
  have hfo : feedOne [b0] c = if (formOf b0).may 1 c then (if 1 + 1 = (formOf b0).wide then some [] else some [b0, c]) else none := rfl
  rw [hfo]
  have hok1 : ¬ 1 + 1 = (formOf b0).wide → HeldOk [b0, c] := fun hh x t e => by injection e with e1 e2; subst e1; show 1 + 1 < _; omega
  have HOK := Lib.hid hok1
  have HOK0 := Lib.hid hok0
  clear h2 hfo hok1 hok hok0
  generalize formOf b0 = f at *
  obtain ⟨n, lo, hi⟩ := f
  simp only at hwl HOK hl
  generalize (Form.mk n lo hi).may 1 c = m at *
  unfold formV at HF HM
  cases m with
  | false =>
    go_enter Tryz.func190, Tryz.ntmps190
    go_wp2_with fail
    refine (HF.out _).mono ?_
    rintro e w1 ⟨rfl, hb⟩
    have hbx := hb.alloc hb.size (.cells #[.int .i64 n, .int .u8 lo, .int .u8 hi] 349)
    have h3 := (hbx.block b hlt).trans H2.out
    have h6 := heap_alloc_new w1 (.cells #[.int .i64 n, .int .u8 lo, .int .u8 hi] 349)
    have hlt1 := lt_of_block h3
    have hne := lt_of_block ((hb.block b hlt).trans H2.out)
    obtain ⟨d0, d1, d2, d3, d4, d5, d6, df⟩ := cells7 h3
    obtain ⟨q0, q1, q2, qf⟩ := cells3 h6
    have H3 := Lib.hid h3
    have H6 := Lib.hid h6
    have HBX := Lib.hid hbx
    clear hb h3 h6 hbx
    go_wp2_with fail
    generalize w1.alloc (.cells #[.int .i64 n, .int .u8 lo, .int .u8 hi] 349) = w2 at *
    go_region_held3 (fun w' => w'.cell? ⟨w1.heap.size, 0, none⟩ = some (.int .i64 n) ∧ w'.cell? ⟨w1.heap.size, 1, none⟩ = some (.int .u8 lo) ∧ w'.cell? ⟨w1.heap.size, 2, none⟩ = some (.int .u8 hi) ∧ w'.cell? ⟨b, 5, none⟩ = some (.int .i64 1)) (first | exact ⟨hx1, hx2, hx3, hx4⟩ | go_keep)
      ((go_at_call 206; (with_reducible refine (HM.out _).mono ?_); rintro e wx ⟨rfl, hbx⟩; have hx1 := (hbx.cell (p := ⟨w1.heap.size, 0, none⟩) (by simpa using lt_of_block H6.out)).trans q0; have hx2 := (hbx.cell (p := ⟨w1.heap.size, 1, none⟩) (by simpa using lt_of_block H6.out)).trans q1; have hx3 := (hbx.cell (p := ⟨w1.heap.size, 2, none⟩) (by simpa using lt_of_block H6.out)).trans q2; have hx4 := (hbx.cell (p := ⟨b, 5, none⟩) (by simpa using lt_of_block H3.out)).trans d5))
    have H3 := Lib.hid (keep (w1 := w2.drew) H3.out hbx)
    have H6 := Lib.hid (keep (w1 := w2.drew) H6.out hbx)
    have HBX := Lib.hid (chain HBX.out.drew hbx)
    clear hbx hx1 hx2 hx3 hx4 d0 d1 d2 d3 d4 d5 d6 df q0 q1 q2 qf
    go_wp2_with fail
    go_ret
    exact ⟨⟨rfl, HOK0.out, _, _, _, _, H3.out, rfl⟩, Keeps.of_below _ HBX.out⟩
  | true =>
    by_cases hwd : 1 + 1 = n
    · have hfe : (if true = true then (if 1 + 1 = n then some [] else some [b0, c]) else none) = some ([] : List UInt8) := by rw [if_pos rfl, if_pos hwd]
      rw [hfe]
      have E2 := Lib.hid (show ((2 : Int) == (n : Int)) = true by simp; omega)
      clear hfe hwd hl
      go_enter Tryz.func190, Tryz.ntmps190
      go_wp2_with fail
      refine (HF.out _).mono ?_
      rintro e w1 ⟨rfl, hb⟩
      have hbx := hb.alloc hb.size (.cells #[.int .i64 n, .int .u8 lo, .int .u8 hi] 349)
      have h3 := (hbx.block b hlt).trans H2.out
      have h6 := heap_alloc_new w1 (.cells #[.int .i64 n, .int .u8 lo, .int .u8 hi] 349)
      have hlt1 := lt_of_block h3
      have hne := lt_of_block ((hb.block b hlt).trans H2.out)
      obtain ⟨d0, d1, d2, d3, d4, d5, d6, df⟩ := cells7 h3
      obtain ⟨q0, q1, q2, qf⟩ := cells3 h6
      have H3 := Lib.hid h3
      have H6 := Lib.hid h6
      have HBX := Lib.hid hbx
      clear hb h3 h6 hbx
      go_wp2_with fail
      generalize w1.alloc (.cells #[.int .i64 n, .int .u8 lo, .int .u8 hi] 349) = w2 at *
      go_region_held3 (fun w' => w'.cell? ⟨w1.heap.size, 0, none⟩ = some (.int .i64 n) ∧ w'.cell? ⟨w1.heap.size, 1, none⟩ = some (.int .u8 lo) ∧ w'.cell? ⟨w1.heap.size, 2, none⟩ = some (.int .u8 hi) ∧ w'.cell? ⟨b, 5, none⟩ = some (.int .i64 1)) (first | exact ⟨hx1, hx2, hx3, hx4⟩ | go_keep)
        ((go_at_call 206; (with_reducible refine (HM.out _).mono ?_); rintro e wx ⟨rfl, hbx⟩; have hx1 := (hbx.cell (p := ⟨w1.heap.size, 0, none⟩) (by simpa using lt_of_block H6.out)).trans q0; have hx2 := (hbx.cell (p := ⟨w1.heap.size, 1, none⟩) (by simpa using lt_of_block H6.out)).trans q1; have hx3 := (hbx.cell (p := ⟨w1.heap.size, 2, none⟩) (by simpa using lt_of_block H6.out)).trans q2; have hx4 := (hbx.cell (p := ⟨b, 5, none⟩) (by simpa using lt_of_block H3.out)).trans d5))
      have H3 := Lib.hid (keep (w1 := w2.drew) H3.out hbx)
      have H6 := Lib.hid (keep (w1 := w2.drew) H6.out hbx)
      have HBX := Lib.hid (chain HBX.out.drew hbx)
      clear hbx hx1 hx2 hx3 hx4 d0 d1 d2 d3 d4 d5 d6 df q0 q1 q2 qf
      obtain ⟨d0, d1, d2, d3, d4, d5, d6, df⟩ := cells7 H3.out
      obtain ⟨q0, q1, q2, qf⟩ := cells3 H6.out
      go_wp2_with fail
      go_region
      have h4 : (wx.setCell ⟨b, 2, none⟩ (.int .u8 ((c.toNat : Nat) : Int))).drew.heap[b]? = some (.cells #[.int .i64 pl, .int .u8 ((b0.toNat : Nat) : Int), .int .u8 ((c.toNat : Nat) : Int), .int .u8 ((a2.toNat : Nat) : Int), .int .u8 ((a3.toNat : Nat) : Int), .int .i64 1, .bool false] 305 (0, 0)) := set_at (o := 2) H3.out _
      have h6 := (set_else (w := wx) (o := 2) (k := w1.heap.size) (b := b) (.int .u8 ((c.toNat : Nat) : Int)) (by omega)).trans H6.out
      have hbx := (Keeps.of_below (fun k => k = b) HBX.out).setCell (p := ⟨b, 2, none⟩) (.inl rfl) (.int .u8 ((c.toNat : Nat) : Int))
      have HBY := Lib.hid hbx.drew
      have H4 := Lib.hid h4
      have H7 : Hid ((wx.setCell ⟨b, 2, none⟩ (.int .u8 ((c.toNat : Nat) : Int))).drew.heap[w1.heap.size]? = _) := Lib.hid h6
      clear d0 d1 d2 d3 d4 d5 d6 df q0 q1 q2 qf hbx h4 h6
      generalize (wx.setCell ⟨b, 2, none⟩ (.int .u8 ((c.toNat : Nat) : Int))).drew = w5 at *
      obtain ⟨d0, d1, d2, d3, d4, d5, d6, df⟩ := cells7 H4.out
      obtain ⟨q0, q1, q2, qf⟩ := cells3 H7.out
      have e2 := E2.out
      go_wp2_with fail
      go_region
      go_wp2_with fail
      go_ret
      exact ⟨⟨rfl, (fun h t e => by cases e), _, _, _, _, set_at (o := 5) (set_at (o := 5) H4.out _) _, rfl⟩, ((HBY.out.setCell (p := ⟨b, 5, none⟩) (.inl rfl) _).drew.setCell (p := ⟨b, 5, none⟩) (.inl rfl) _)⟩
    · have hfe : (if true = true then (if 1 + 1 = n then some [] else some [b0, c]) else none) = some [b0, c] := by rw [if_pos rfl, if_neg hwd]
      rw [hfe]
      have e1 : ¬ (2 : Int) = (n : Int) := by omega
      have e2 : ((2 : Int) == (n : Int)) = false := by simpa using e1
      have HOK := Lib.hid (HOK.out hwd)
      clear hfe hwd
      go_enter Tryz.func190, Tryz.ntmps190
      go_wp2_with fail
      refine (HF.out _).mono ?_
      rintro e w1 ⟨rfl, hb⟩
      have hbx := hb.alloc hb.size (.cells #[.int .i64 n, .int .u8 lo, .int .u8 hi] 349)
      have h3 := (hbx.block b hlt).trans H2.out
      have h6 := heap_alloc_new w1 (.cells #[.int .i64 n, .int .u8 lo, .int .u8 hi] 349)
      have hlt1 := lt_of_block h3
      have hne := lt_of_block ((hb.block b hlt).trans H2.out)
      obtain ⟨d0, d1, d2, d3, d4, d5, d6, df⟩ := cells7 h3
      obtain ⟨q0, q1, q2, qf⟩ := cells3 h6
      have H3 := Lib.hid h3
      have H6 := Lib.hid h6
      have HBX := Lib.hid hbx
      clear hb h3 h6 hbx
      go_wp2_with fail
      generalize w1.alloc (.cells #[.int .i64 n, .int .u8 lo, .int .u8 hi] 349) = w2 at *
      go_region_held3 (fun w' => w'.cell? ⟨w1.heap.size, 0, none⟩ = some (.int .i64 n) ∧ w'.cell? ⟨w1.heap.size, 1, none⟩ = some (.int .u8 lo) ∧ w'.cell? ⟨w1.heap.size, 2, none⟩ = some (.int .u8 hi) ∧ w'.cell? ⟨b, 5, none⟩ = some (.int .i64 1)) (first | exact ⟨hx1, hx2, hx3, hx4⟩ | go_keep)
        ((go_at_call 206; (with_reducible refine (HM.out _).mono ?_); rintro e wx ⟨rfl, hbx⟩; have hx1 := (hbx.cell (p := ⟨w1.heap.size, 0, none⟩) (by simpa using lt_of_block H6.out)).trans q0; have hx2 := (hbx.cell (p := ⟨w1.heap.size, 1, none⟩) (by simpa using lt_of_block H6.out)).trans q1; have hx3 := (hbx.cell (p := ⟨w1.heap.size, 2, none⟩) (by simpa using lt_of_block H6.out)).trans q2; have hx4 := (hbx.cell (p := ⟨b, 5, none⟩) (by simpa using lt_of_block H3.out)).trans d5))
      have H3 := Lib.hid (keep (w1 := w2.drew) H3.out hbx)
      have H6 := Lib.hid (keep (w1 := w2.drew) H6.out hbx)
      have HBX := Lib.hid (chain HBX.out.drew hbx)
      clear hbx hx1 hx2 hx3 hx4 d0 d1 d2 d3 d4 d5 d6 df q0 q1 q2 qf
      obtain ⟨d0, d1, d2, d3, d4, d5, d6, df⟩ := cells7 H3.out
      obtain ⟨q0, q1, q2, qf⟩ := cells3 H6.out
      go_wp2_with fail
      go_region
      have h4 : (wx.setCell ⟨b, 2, none⟩ (.int .u8 ((c.toNat : Nat) : Int))).drew.heap[b]? = some (.cells #[.int .i64 pl, .int .u8 ((b0.toNat : Nat) : Int), .int .u8 ((c.toNat : Nat) : Int), .int .u8 ((a2.toNat : Nat) : Int), .int .u8 ((a3.toNat : Nat) : Int), .int .i64 1, .bool false] 305 (0, 0)) := set_at (o := 2) H3.out _
      have h6 := (set_else (w := wx) (o := 2) (k := w1.heap.size) (b := b) (.int .u8 ((c.toNat : Nat) : Int)) (by omega)).trans H6.out
      have hbx := (Keeps.of_below (fun k => k = b) HBX.out).setCell (p := ⟨b, 2, none⟩) (.inl rfl) (.int .u8 ((c.toNat : Nat) : Int))
      have HBY := Lib.hid hbx.drew
      have H4 := Lib.hid h4
      have H7 : Hid ((wx.setCell ⟨b, 2, none⟩ (.int .u8 ((c.toNat : Nat) : Int))).drew.heap[w1.heap.size]? = _) := Lib.hid h6
      clear d0 d1 d2 d3 d4 d5 d6 df q0 q1 q2 qf hbx h4 h6
      generalize (wx.setCell ⟨b, 2, none⟩ (.int .u8 ((c.toNat : Nat) : Int))).drew = w5 at *
      obtain ⟨d0, d1, d2, d3, d4, d5, d6, df⟩ := cells7 H4.out
      obtain ⟨q0, q1, q2, qf⟩ := cells3 H7.out
      go_wp2_with fail
      go_region
      go_wp2_with fail
      go_ret
      exact ⟨⟨rfl, HOK.out, _, _, _, _, set_at (o := 5) H4.out _, rfl⟩, (HBY.out.setCell (p := ⟨b, 5, none⟩) (.inl rfl) _).drew⟩

set_option maxHeartbeats 4000000 in
theorem take2_any (w : World) (b pl : Nat) (c b0 b1 : UInt8) (h : Feeds w b pl [b0, b1]) : Calls Tryz.prog 190 #[.pointer (some ⟨b, 0, none⟩), .int .u8 ((c.toNat : Nat) : Int)] w fun e w' => takeRet w b pl [b0, b1] (feedOne [b0, b1] c) e w' ∧ Keeps (fun k => k = b) w w' := by
  obtain ⟨hok, a0, a1, a2, a3, h2, h9⟩ := h
  have hl : 2 < (formOf b0).wide := hok _ _ rfl
  have hok0 : HeldOk [b0, b1] := hok
  simp only [List.length_cons, List.length_nil, Nat.reduceAdd, List.take_succ_cons, List.take_zero, List.cons.injEq, and_true] at h2 h9
  obtain ⟨rfl, rfl⟩ := h9
  obtain ⟨c0, c1, c2, c3, c4, c5, c6, cf⟩ := cells7 h2
  have H2 := Lib.hid h2
  have hlt := lt_of_block h2
  have HF := Lib.hid (formOf_any b0)
  have HM0 : ∀ w, Calls Tryz.prog 206 #[formV (formOf b0), .int .i64 (2 : Int), .int .u8 ((c.toNat : Nat) : Int)] w fun e w' => e = .returned (.bool ((formOf b0).may 2 c)) ∧ Below w.heap.size w w' := fun w => may_any (formOf b0) 2 c w
  have HM := Lib.hid HM0
  clear HM0
  have hwl := wide_le b0
  have hfo : feedOne [b0, b1] c = if (formOf b0).may 2 c then (if 2 + 1 = (formOf b0).wide then some [] else some [b0, b1, c]) else none := rfl
  rw [hfo]
  have hok1 : ¬ 2 + 1 = (formOf b0).wide → HeldOk [b0, b1, c] := fun hh x t e => by injection e with e1 e2; subst e1; show 2 + 1 < _; omega
  have HOK := Lib.hid hok1
  have HOK0 := Lib.hid hok0
  clear h2 hfo hok1 hok hok0
  generalize formOf b0 = f at *
  obtain ⟨n, lo, hi⟩ := f
  simp only at hwl HOK hl
  generalize (Form.mk n lo hi).may 2 c = m at *
  unfold formV at HF HM
  cases m with
  | false =>
    go_enter Tryz.func190, Tryz.ntmps190
    go_wp2_with fail
    refine (HF.out _).mono ?_
    rintro e w1 ⟨rfl, hb⟩
    have hbx := hb.alloc hb.size (.cells #[.int .i64 n, .int .u8 lo, .int .u8 hi] 349)
    have h3 := (hbx.block b hlt).trans H2.out
    have h6 := heap_alloc_new w1 (.cells #[.int .i64 n, .int .u8 lo, .int .u8 hi] 349)
    have hlt1 := lt_of_block h3
    have hne := lt_of_block ((hb.block b hlt).trans H2.out)
    obtain ⟨d0, d1, d2, d3, d4, d5, d6, df⟩ := cells7 h3
    obtain ⟨q0, q1, q2, qf⟩ := cells3 h6
    have H3 := Lib.hid h3
    have H6 := Lib.hid h6
    have HBX := Lib.hid hbx
    clear hb h3 h6 hbx
    go_wp2_with fail
    generalize w1.alloc (.cells #[.int .i64 n, .int .u8 lo, .int .u8 hi] 349) = w2 at *
    go_region_held3 (fun w' => w'.cell? ⟨w1.heap.size, 0, none⟩ = some (.int .i64 n) ∧ w'.cell? ⟨w1.heap.size, 1, none⟩ = some (.int .u8 lo) ∧ w'.cell? ⟨w1.heap.size, 2, none⟩ = some (.int .u8 hi) ∧ w'.cell? ⟨b, 5, none⟩ = some (.int .i64 2)) (first | exact ⟨hx1, hx2, hx3, hx4⟩ | go_keep)
      ((go_at_call 206; (with_reducible refine (HM.out _).mono ?_); rintro e wx ⟨rfl, hbx⟩; have hx1 := (hbx.cell (p := ⟨w1.heap.size, 0, none⟩) (by simpa using lt_of_block H6.out)).trans q0; have hx2 := (hbx.cell (p := ⟨w1.heap.size, 1, none⟩) (by simpa using lt_of_block H6.out)).trans q1; have hx3 := (hbx.cell (p := ⟨w1.heap.size, 2, none⟩) (by simpa using lt_of_block H6.out)).trans q2; have hx4 := (hbx.cell (p := ⟨b, 5, none⟩) (by simpa using lt_of_block H3.out)).trans d5))
    have H3 := Lib.hid (keep (w1 := w2.drew) H3.out hbx)
    have H6 := Lib.hid (keep (w1 := w2.drew) H6.out hbx)
    have HBX := Lib.hid (chain HBX.out.drew hbx)
    clear hbx hx1 hx2 hx3 hx4 d0 d1 d2 d3 d4 d5 d6 df q0 q1 q2 qf
    go_wp2_with fail
    go_ret
    exact ⟨⟨rfl, HOK0.out, _, _, _, _, H3.out, rfl⟩, Keeps.of_below _ HBX.out⟩
  | true =>
    by_cases hwd : 2 + 1 = n
    · have hfe : (if true = true then (if 2 + 1 = n then some [] else some [b0, b1, c]) else none) = some ([] : List UInt8) := by rw [if_pos rfl, if_pos hwd]
      rw [hfe]
      have E2 := Lib.hid (show ((3 : Int) == (n : Int)) = true by simp; omega)
      clear hfe hwd hl
      go_enter Tryz.func190, Tryz.ntmps190
      go_wp2_with fail
      refine (HF.out _).mono ?_
      rintro e w1 ⟨rfl, hb⟩
      have hbx := hb.alloc hb.size (.cells #[.int .i64 n, .int .u8 lo, .int .u8 hi] 349)
      have h3 := (hbx.block b hlt).trans H2.out
      have h6 := heap_alloc_new w1 (.cells #[.int .i64 n, .int .u8 lo, .int .u8 hi] 349)
      have hlt1 := lt_of_block h3
      have hne := lt_of_block ((hb.block b hlt).trans H2.out)
      obtain ⟨d0, d1, d2, d3, d4, d5, d6, df⟩ := cells7 h3
      obtain ⟨q0, q1, q2, qf⟩ := cells3 h6
      have H3 := Lib.hid h3
      have H6 := Lib.hid h6
      have HBX := Lib.hid hbx
      clear hb h3 h6 hbx
      go_wp2_with fail
      generalize w1.alloc (.cells #[.int .i64 n, .int .u8 lo, .int .u8 hi] 349) = w2 at *
      go_region_held3 (fun w' => w'.cell? ⟨w1.heap.size, 0, none⟩ = some (.int .i64 n) ∧ w'.cell? ⟨w1.heap.size, 1, none⟩ = some (.int .u8 lo) ∧ w'.cell? ⟨w1.heap.size, 2, none⟩ = some (.int .u8 hi) ∧ w'.cell? ⟨b, 5, none⟩ = some (.int .i64 2)) (first | exact ⟨hx1, hx2, hx3, hx4⟩ | go_keep)
        ((go_at_call 206; (with_reducible refine (HM.out _).mono ?_); rintro e wx ⟨rfl, hbx⟩; have hx1 := (hbx.cell (p := ⟨w1.heap.size, 0, none⟩) (by simpa using lt_of_block H6.out)).trans q0; have hx2 := (hbx.cell (p := ⟨w1.heap.size, 1, none⟩) (by simpa using lt_of_block H6.out)).trans q1; have hx3 := (hbx.cell (p := ⟨w1.heap.size, 2, none⟩) (by simpa using lt_of_block H6.out)).trans q2; have hx4 := (hbx.cell (p := ⟨b, 5, none⟩) (by simpa using lt_of_block H3.out)).trans d5))
      have H3 := Lib.hid (keep (w1 := w2.drew) H3.out hbx)
      have H6 := Lib.hid (keep (w1 := w2.drew) H6.out hbx)
      have HBX := Lib.hid (chain HBX.out.drew hbx)
      clear hbx hx1 hx2 hx3 hx4 d0 d1 d2 d3 d4 d5 d6 df q0 q1 q2 qf
      obtain ⟨d0, d1, d2, d3, d4, d5, d6, df⟩ := cells7 H3.out
      obtain ⟨q0, q1, q2, qf⟩ := cells3 H6.out
      go_wp2_with fail
      go_region
      have h4 : (wx.setCell ⟨b, 3, none⟩ (.int .u8 ((c.toNat : Nat) : Int))).drew.heap[b]? = some (.cells #[.int .i64 pl, .int .u8 ((b0.toNat : Nat) : Int), .int .u8 ((b1.toNat : Nat) : Int), .int .u8 ((c.toNat : Nat) : Int), .int .u8 ((a3.toNat : Nat) : Int), .int .i64 2, .bool false] 305 (0, 0)) := set_at (o := 3) H3.out _
      have h6 := (set_else (w := wx) (o := 3) (k := w1.heap.size) (b := b) (.int .u8 ((c.toNat : Nat) : Int)) (by omega)).trans H6.out
      have hbx := (Keeps.of_below (fun k => k = b) HBX.out).setCell (p := ⟨b, 3, none⟩) (.inl rfl) (.int .u8 ((c.toNat : Nat) : Int))
      have HBY := Lib.hid hbx.drew
      have H4 := Lib.hid h4
      have H7 : Hid ((wx.setCell ⟨b, 3, none⟩ (.int .u8 ((c.toNat : Nat) : Int))).drew.heap[w1.heap.size]? = _) := Lib.hid h6
      clear d0 d1 d2 d3 d4 d5 d6 df q0 q1 q2 qf hbx h4 h6
      generalize (wx.setCell ⟨b, 3, none⟩ (.int .u8 ((c.toNat : Nat) : Int))).drew = w5 at *
      obtain ⟨d0, d1, d2, d3, d4, d5, d6, df⟩ := cells7 H4.out
      obtain ⟨q0, q1, q2, qf⟩ := cells3 H7.out
      have e2 := E2.out
      go_wp2_with fail
      go_region
      go_wp2_with fail
      go_ret
      exact ⟨⟨rfl, (fun h t e => by cases e), _, _, _, _, set_at (o := 5) (set_at (o := 5) H4.out _) _, rfl⟩, ((HBY.out.setCell (p := ⟨b, 5, none⟩) (.inl rfl) _).drew.setCell (p := ⟨b, 5, none⟩) (.inl rfl) _)⟩
    · have hfe : (if true = true then (if 2 + 1 = n then some [] else some [b0, b1, c]) else none) = some [b0, b1, c] := by rw [if_pos rfl, if_neg hwd]
      rw [hfe]
      have e1 : ¬ (3 : Int) = (n : Int) := by omega
      have e2 : ((3 : Int) == (n : Int)) = false := by simpa using e1
      have HOK := Lib.hid (HOK.out hwd)
      clear hfe hwd
      go_enter Tryz.func190, Tryz.ntmps190
      go_wp2_with fail
      refine (HF.out _).mono ?_
      rintro e w1 ⟨rfl, hb⟩
      have hbx := hb.alloc hb.size (.cells #[.int .i64 n, .int .u8 lo, .int .u8 hi] 349)
      have h3 := (hbx.block b hlt).trans H2.out
      have h6 := heap_alloc_new w1 (.cells #[.int .i64 n, .int .u8 lo, .int .u8 hi] 349)
      have hlt1 := lt_of_block h3
      have hne := lt_of_block ((hb.block b hlt).trans H2.out)
      obtain ⟨d0, d1, d2, d3, d4, d5, d6, df⟩ := cells7 h3
      obtain ⟨q0, q1, q2, qf⟩ := cells3 h6
      have H3 := Lib.hid h3
      have H6 := Lib.hid h6
      have HBX := Lib.hid hbx
      clear hb h3 h6 hbx
      go_wp2_with fail
      generalize w1.alloc (.cells #[.int .i64 n, .int .u8 lo, .int .u8 hi] 349) = w2 at *
      go_region_held3 (fun w' => w'.cell? ⟨w1.heap.size, 0, none⟩ = some (.int .i64 n) ∧ w'.cell? ⟨w1.heap.size, 1, none⟩ = some (.int .u8 lo) ∧ w'.cell? ⟨w1.heap.size, 2, none⟩ = some (.int .u8 hi) ∧ w'.cell? ⟨b, 5, none⟩ = some (.int .i64 2)) (first | exact ⟨hx1, hx2, hx3, hx4⟩ | go_keep)
        ((go_at_call 206; (with_reducible refine (HM.out _).mono ?_); rintro e wx ⟨rfl, hbx⟩; have hx1 := (hbx.cell (p := ⟨w1.heap.size, 0, none⟩) (by simpa using lt_of_block H6.out)).trans q0; have hx2 := (hbx.cell (p := ⟨w1.heap.size, 1, none⟩) (by simpa using lt_of_block H6.out)).trans q1; have hx3 := (hbx.cell (p := ⟨w1.heap.size, 2, none⟩) (by simpa using lt_of_block H6.out)).trans q2; have hx4 := (hbx.cell (p := ⟨b, 5, none⟩) (by simpa using lt_of_block H3.out)).trans d5))
      have H3 := Lib.hid (keep (w1 := w2.drew) H3.out hbx)
      have H6 := Lib.hid (keep (w1 := w2.drew) H6.out hbx)
      have HBX := Lib.hid (chain HBX.out.drew hbx)
      clear hbx hx1 hx2 hx3 hx4 d0 d1 d2 d3 d4 d5 d6 df q0 q1 q2 qf
      obtain ⟨d0, d1, d2, d3, d4, d5, d6, df⟩ := cells7 H3.out
      obtain ⟨q0, q1, q2, qf⟩ := cells3 H6.out
      go_wp2_with fail
      go_region
      have h4 : (wx.setCell ⟨b, 3, none⟩ (.int .u8 ((c.toNat : Nat) : Int))).drew.heap[b]? = some (.cells #[.int .i64 pl, .int .u8 ((b0.toNat : Nat) : Int), .int .u8 ((b1.toNat : Nat) : Int), .int .u8 ((c.toNat : Nat) : Int), .int .u8 ((a3.toNat : Nat) : Int), .int .i64 2, .bool false] 305 (0, 0)) := set_at (o := 3) H3.out _
      have h6 := (set_else (w := wx) (o := 3) (k := w1.heap.size) (b := b) (.int .u8 ((c.toNat : Nat) : Int)) (by omega)).trans H6.out
      have hbx := (Keeps.of_below (fun k => k = b) HBX.out).setCell (p := ⟨b, 3, none⟩) (.inl rfl) (.int .u8 ((c.toNat : Nat) : Int))
      have HBY := Lib.hid hbx.drew
      have H4 := Lib.hid h4
      have H7 : Hid ((wx.setCell ⟨b, 3, none⟩ (.int .u8 ((c.toNat : Nat) : Int))).drew.heap[w1.heap.size]? = _) := Lib.hid h6
      clear d0 d1 d2 d3 d4 d5 d6 df q0 q1 q2 qf hbx h4 h6
      generalize (wx.setCell ⟨b, 3, none⟩ (.int .u8 ((c.toNat : Nat) : Int))).drew = w5 at *
      obtain ⟨d0, d1, d2, d3, d4, d5, d6, df⟩ := cells7 H4.out
      obtain ⟨q0, q1, q2, qf⟩ := cells3 H7.out
      go_wp2_with fail
      go_region
      go_wp2_with fail
      go_ret
      exact ⟨⟨rfl, HOK.out, _, _, _, _, set_at (o := 5) H4.out _, rfl⟩, (HBY.out.setCell (p := ⟨b, 5, none⟩) (.inl rfl) _).drew⟩

set_option maxHeartbeats 4000000 in
theorem take3_any (w : World) (b pl : Nat) (c b0 b1 b2 : UInt8) (h : Feeds w b pl [b0, b1, b2]) : Calls Tryz.prog 190 #[.pointer (some ⟨b, 0, none⟩), .int .u8 ((c.toNat : Nat) : Int)] w fun e w' => takeRet w b pl [b0, b1, b2] (feedOne [b0, b1, b2] c) e w' ∧ Keeps (fun k => k = b) w w' := by
  obtain ⟨hok, a0, a1, a2, a3, h2, h9⟩ := h
  have hl : 3 < (formOf b0).wide := hok _ _ rfl
  have hok0 : HeldOk [b0, b1, b2] := hok
  simp only [List.length_cons, List.length_nil, Nat.reduceAdd, List.take_succ_cons, List.take_zero, List.cons.injEq, and_true] at h2 h9
  obtain ⟨rfl, rfl, rfl⟩ := h9
  obtain ⟨c0, c1, c2, c3, c4, c5, c6, cf⟩ := cells7 h2
  have H2 := Lib.hid h2
  have hlt := lt_of_block h2
  have HF := Lib.hid (formOf_any b0)
  have HM0 : ∀ w, Calls Tryz.prog 206 #[formV (formOf b0), .int .i64 (3 : Int), .int .u8 ((c.toNat : Nat) : Int)] w fun e w' => e = .returned (.bool ((formOf b0).may 3 c)) ∧ Below w.heap.size w w' := fun w => may_any (formOf b0) 3 c w
  have HM := Lib.hid HM0
  clear HM0
  have hwl := wide_le b0
  have hfo : feedOne [b0, b1, b2] c = if (formOf b0).may 3 c then (if 3 + 1 = (formOf b0).wide then some [] else some [b0, b1, b2, c]) else none := rfl
  rw [hfo]
  have hok1 : ¬ 3 + 1 = (formOf b0).wide → HeldOk [b0, b1, b2, c] := fun hh x t e => by injection e with e1 e2; subst e1; show 3 + 1 < _; omega
  have HOK := Lib.hid hok1
  have HOK0 := Lib.hid hok0
  clear h2 hfo hok1 hok hok0
  generalize formOf b0 = f at *
  obtain ⟨n, lo, hi⟩ := f
  simp only at hwl HOK hl
  generalize (Form.mk n lo hi).may 3 c = m at *
  unfold formV at HF HM
  cases m with
  | false =>
    go_enter Tryz.func190, Tryz.ntmps190
    go_wp2_with fail
    refine (HF.out _).mono ?_
    rintro e w1 ⟨rfl, hb⟩
    have hbx := hb.alloc hb.size (.cells #[.int .i64 n, .int .u8 lo, .int .u8 hi] 349)
    have h3 := (hbx.block b hlt).trans H2.out
    have h6 := heap_alloc_new w1 (.cells #[.int .i64 n, .int .u8 lo, .int .u8 hi] 349)
    have hlt1 := lt_of_block h3
    have hne := lt_of_block ((hb.block b hlt).trans H2.out)
    obtain ⟨d0, d1, d2, d3, d4, d5, d6, df⟩ := cells7 h3
    obtain ⟨q0, q1, q2, qf⟩ := cells3 h6
    have H3 := Lib.hid h3
    have H6 := Lib.hid h6
    have HBX := Lib.hid hbx
    clear hb h3 h6 hbx
    go_wp2_with fail
    generalize w1.alloc (.cells #[.int .i64 n, .int .u8 lo, .int .u8 hi] 349) = w2 at *
    go_region_held3 (fun w' => w'.cell? ⟨w1.heap.size, 0, none⟩ = some (.int .i64 n) ∧ w'.cell? ⟨w1.heap.size, 1, none⟩ = some (.int .u8 lo) ∧ w'.cell? ⟨w1.heap.size, 2, none⟩ = some (.int .u8 hi) ∧ w'.cell? ⟨b, 5, none⟩ = some (.int .i64 3)) (first | exact ⟨hx1, hx2, hx3, hx4⟩ | go_keep)
      ((go_at_call 206; (with_reducible refine (HM.out _).mono ?_); rintro e wx ⟨rfl, hbx⟩; have hx1 := (hbx.cell (p := ⟨w1.heap.size, 0, none⟩) (by simpa using lt_of_block H6.out)).trans q0; have hx2 := (hbx.cell (p := ⟨w1.heap.size, 1, none⟩) (by simpa using lt_of_block H6.out)).trans q1; have hx3 := (hbx.cell (p := ⟨w1.heap.size, 2, none⟩) (by simpa using lt_of_block H6.out)).trans q2; have hx4 := (hbx.cell (p := ⟨b, 5, none⟩) (by simpa using lt_of_block H3.out)).trans d5))
    have H3 := Lib.hid (keep (w1 := w2.drew) H3.out hbx)
    have H6 := Lib.hid (keep (w1 := w2.drew) H6.out hbx)
    have HBX := Lib.hid (chain HBX.out.drew hbx)
    clear hbx hx1 hx2 hx3 hx4 d0 d1 d2 d3 d4 d5 d6 df q0 q1 q2 qf
    go_wp2_with fail
    go_ret
    exact ⟨⟨rfl, HOK0.out, _, _, _, _, H3.out, rfl⟩, Keeps.of_below _ HBX.out⟩
  | true =>
    by_cases hwd : 3 + 1 = n
    · have hfe : (if true = true then (if 3 + 1 = n then some [] else some [b0, b1, b2, c]) else none) = some ([] : List UInt8) := by rw [if_pos rfl, if_pos hwd]
      rw [hfe]
      have E2 := Lib.hid (show ((4 : Int) == (n : Int)) = true by simp; omega)
      clear hfe hwd hl
      go_enter Tryz.func190, Tryz.ntmps190
      go_wp2_with fail
      refine (HF.out _).mono ?_
      rintro e w1 ⟨rfl, hb⟩
      have hbx := hb.alloc hb.size (.cells #[.int .i64 n, .int .u8 lo, .int .u8 hi] 349)
      have h3 := (hbx.block b hlt).trans H2.out
      have h6 := heap_alloc_new w1 (.cells #[.int .i64 n, .int .u8 lo, .int .u8 hi] 349)
      have hlt1 := lt_of_block h3
      have hne := lt_of_block ((hb.block b hlt).trans H2.out)
      obtain ⟨d0, d1, d2, d3, d4, d5, d6, df⟩ := cells7 h3
      obtain ⟨q0, q1, q2, qf⟩ := cells3 h6
      have H3 := Lib.hid h3
      have H6 := Lib.hid h6
      have HBX := Lib.hid hbx
      clear hb h3 h6 hbx
      go_wp2_with fail
      generalize w1.alloc (.cells #[.int .i64 n, .int .u8 lo, .int .u8 hi] 349) = w2 at *
      go_region_held3 (fun w' => w'.cell? ⟨w1.heap.size, 0, none⟩ = some (.int .i64 n) ∧ w'.cell? ⟨w1.heap.size, 1, none⟩ = some (.int .u8 lo) ∧ w'.cell? ⟨w1.heap.size, 2, none⟩ = some (.int .u8 hi) ∧ w'.cell? ⟨b, 5, none⟩ = some (.int .i64 3)) (first | exact ⟨hx1, hx2, hx3, hx4⟩ | go_keep)
        ((go_at_call 206; (with_reducible refine (HM.out _).mono ?_); rintro e wx ⟨rfl, hbx⟩; have hx1 := (hbx.cell (p := ⟨w1.heap.size, 0, none⟩) (by simpa using lt_of_block H6.out)).trans q0; have hx2 := (hbx.cell (p := ⟨w1.heap.size, 1, none⟩) (by simpa using lt_of_block H6.out)).trans q1; have hx3 := (hbx.cell (p := ⟨w1.heap.size, 2, none⟩) (by simpa using lt_of_block H6.out)).trans q2; have hx4 := (hbx.cell (p := ⟨b, 5, none⟩) (by simpa using lt_of_block H3.out)).trans d5))
      have H3 := Lib.hid (keep (w1 := w2.drew) H3.out hbx)
      have H6 := Lib.hid (keep (w1 := w2.drew) H6.out hbx)
      have HBX := Lib.hid (chain HBX.out.drew hbx)
      clear hbx hx1 hx2 hx3 hx4 d0 d1 d2 d3 d4 d5 d6 df q0 q1 q2 qf
      obtain ⟨d0, d1, d2, d3, d4, d5, d6, df⟩ := cells7 H3.out
      obtain ⟨q0, q1, q2, qf⟩ := cells3 H6.out
      go_wp2_with fail
      go_region
      have h4 : (wx.setCell ⟨b, 4, none⟩ (.int .u8 ((c.toNat : Nat) : Int))).drew.heap[b]? = some (.cells #[.int .i64 pl, .int .u8 ((b0.toNat : Nat) : Int), .int .u8 ((b1.toNat : Nat) : Int), .int .u8 ((b2.toNat : Nat) : Int), .int .u8 ((c.toNat : Nat) : Int), .int .i64 3, .bool false] 305 (0, 0)) := set_at (o := 4) H3.out _
      have h6 := (set_else (w := wx) (o := 4) (k := w1.heap.size) (b := b) (.int .u8 ((c.toNat : Nat) : Int)) (by omega)).trans H6.out
      have hbx := (Keeps.of_below (fun k => k = b) HBX.out).setCell (p := ⟨b, 4, none⟩) (.inl rfl) (.int .u8 ((c.toNat : Nat) : Int))
      have HBY := Lib.hid hbx.drew
      have H4 := Lib.hid h4
      have H7 : Hid ((wx.setCell ⟨b, 4, none⟩ (.int .u8 ((c.toNat : Nat) : Int))).drew.heap[w1.heap.size]? = _) := Lib.hid h6
      clear d0 d1 d2 d3 d4 d5 d6 df q0 q1 q2 qf hbx h4 h6
      generalize (wx.setCell ⟨b, 4, none⟩ (.int .u8 ((c.toNat : Nat) : Int))).drew = w5 at *
      obtain ⟨d0, d1, d2, d3, d4, d5, d6, df⟩ := cells7 H4.out
      obtain ⟨q0, q1, q2, qf⟩ := cells3 H7.out
      have e2 := E2.out
      go_wp2_with fail
      go_region
      go_wp2_with fail
      go_ret
      exact ⟨⟨rfl, (fun h t e => by cases e), _, _, _, _, set_at (o := 5) (set_at (o := 5) H4.out _) _, rfl⟩, ((HBY.out.setCell (p := ⟨b, 5, none⟩) (.inl rfl) _).drew.setCell (p := ⟨b, 5, none⟩) (.inl rfl) _)⟩
    · exfalso; omega

/-- A byte behind whatever is held. -/
theorem take_any (w : World) (b pl : Nat) (c : UInt8) (held : List UInt8) (h : Feeds w b pl held) : Calls Tryz.prog 190 #[.pointer (some ⟨b, 0, none⟩), .int .u8 ((c.toNat : Nat) : Int)] w fun e w' => takeRet w b pl held (feedOne held c) e w' ∧ Keeps (fun k => k = b) w w' := by
  have hl := h.1.le
  match held, h, hl with
  | [], h, _ => exact take0_any w b pl c h
  | [b0], h, _ => exact take1_any w b pl c b0 h
  | [b0, b1], h, _ => exact take2_any w b pl c b0 b1 h
  | [b0, b1, b2], h, _ => exact take3_any w b pl c b0 b1 b2 h
  | _ :: _ :: _ :: _ :: _, _, hl => simp at hl
end Go.Proofs.YtakkmiomhackiaaGreatDoor

/-
  Package lex, second part: New, tell.
-/
namespace Go.Proofs.YtakkmiomhackiaaGreatDoor
open Go.RowKit
set_option maxRecDepth 100000

theorem elemTok : Elem 226 232 16 := ⟨Tryz.underlying226, by
  have h : (Tryz.prog.info? 232).map (fun i => (i.zero, i.size, i.bytes)) = some (some .nilIface, 1, 16) := by kernel_rfl
  obtain ⟨i, h1, h2, h3, h4⟩ := info_parts h
  exact ⟨i, _, h1, h2, h3, h4, rfl⟩⟩
theorem cells14 {w : World} {b : Nat} {v0 v1 v2 v3 v4 v5 v6 v7 v8 v9 va vb vc vd : Value} {T : TypeId} (h : w.heap[b]? = some (.cells #[v0, v1, v2, v3, v4, v5, v6, v7, v8, v9, va, vb, vc, vd] T (0, 0))) :
    w.cell? ⟨b, 0, none⟩ = some v0 ∧ w.cell? ⟨b, 1, none⟩ = some v1 ∧ w.cell? ⟨b, 2, none⟩ = some v2 ∧ w.cell? ⟨b, 3, none⟩ = some v3 ∧ w.cell? ⟨b, 4, none⟩ = some v4 ∧ w.cell? ⟨b, 5, none⟩ = some v5 ∧ w.cell? ⟨b, 6, none⟩ = some v6 ∧ w.cell? ⟨b, 7, none⟩ = some v7 ∧
    w.cell? ⟨b, 8, none⟩ = some v8 ∧ w.cell? ⟨b, 9, none⟩ = some v9 ∧ w.cell? ⟨b, 10, none⟩ = some va ∧ w.cell? ⟨b, 11, none⟩ = some vb ∧ w.cell? ⟨b, 12, none⟩ = some vc ∧ w.cell? ⟨b, 13, none⟩ = some vd ∧ ∀ o, w.frozen? ⟨b, o, none⟩ = false :=
  ⟨cell_at h, cell_at h, cell_at h, cell_at h, cell_at h, cell_at h, cell_at h, cell_at h, cell_at h, cell_at h, cell_at h, cell_at h, cell_at h, cell_at h, free_at h⟩

theorem newLexer_any (w : World) : Calls Tryz.prog 72 #[] w fun e w' => e = .returned (.pointer (some ⟨w.heap.size, 0, none⟩)) ∧
    w' = w.alloc (.cells #[.int .i64 0, .nilIface, .bool false, .func (.func 104) #[] #[], .bool false, .int .i64 0, .slice none 0 0, .int .i64 0, .pointer none, .slice none 0 0, .int .i64 0, .int .i32 0, .int .i32 0, .slice none 0 0] 228) := by
  go_enter Tryz.func72, Tryz.ntmps72
  go_wp2
  go_ret
  exact ⟨rfl, rfl⟩

theorem span_any (w : World) (b : Nat) (c : Array Value) (st to : Nat) (h : w.heap[b]? = some (.cells c 228 (0, 0))) (h5 : c[5]? = some (.int .i64 st)) (hle : st ≤ to) (hto : to ≤ 1073741824) :
    Calls Tryz.prog 136 #[.pointer (some ⟨b, 0, none⟩), .int .i64 to] w fun e w' => e = .returned (.agg #[.int .i64 st, .int .i64 ((to - st : Nat) : Int)]) ∧ Below w.heap.size w w' := by
  have hlt := lt_of_block h
  have hb0 : Below w.heap.size w (w.alloc (.cells #[.int .i64 0, .int .i64 0] 236)) := (Below.refl _ _).alloc (Nat.le_refl _) _
  have h2 := keep h hb0
  have c5 : (w.alloc (.cells #[.int .i64 0, .int .i64 0] 236)).cell? ⟨b, 5, none⟩ = some (.int .i64 st) := by rw [cell_at h2]; exact h5
  have hr : IntKind.i64.wrap ((to : Int) - (st : Int)) = ((to - st : Nat) : Int) := by rw [IntKind.wrap_i64]; omega
  clear h h2 h5 hle
  go_enter Tryz.func136, Tryz.ntmps136
  go_wp2_with fail
  go_region
  go_wp2_with fail
  exact bodyPost_ret (v := .agg #[.int .i64 st, .int .i64 ((to - st : Nat) : Int)]) (by simp [results, Tryz.results136, go_sem]) rfl ⟨rfl, ((Below.refl _ _).alloc (Nat.le_refl _) _).drew⟩

/-- The block of a window, told apart by its element type. -/
theorem Win.ne {α : Type} {e : Nat} {enc : α → Value} {w : World} {v : Value} {l : List α} (h : Win e enc w v l) {b : Nat} {c : Array Value} {T : TypeId} (hb : w.heap[b]? = some (.cells c T (0, 0))) (hT : T ≠ e) : v.ownBlock ≠ some b := by
  rcases h with ⟨rfl, _⟩ | ⟨g, off, cap, cur, rfl, hg, _⟩
  · simp [Value.ownBlock]
  · intro hc
    simp only [Value.ownBlock, Option.some.injEq] at hc
    subst hc
    rw [hb] at hg
    simp only [Option.some.injEq, Obj.cells.injEq] at hg
    exact hT hg.2.1

set_option maxHeartbeats 2000000 in
theorem tell_any (w : World) (b : Nat) (v0 v1 v2 v3 v4 v5 v6 v7 v8 v9 va vb vc tokV : Value) (T : TypeId) (tv : Value) (toks : List Value) (h : w.heap[b]? = some (.cells #[v0, v1, v2, v3, v4, v5, v6, v7, v8, v9, va, vb, vc, tokV] 228 (0, 0)))
    (hw : Win 232 id w tokV toks) (hl : toks.length ≤ 1000) :
    Calls Tryz.prog 135 #[.pointer (some ⟨b, 0, none⟩), .iface T tv] w fun e w' => e = .returned (.tuple #[]) ∧ ∃ g off cap, w'.heap[b]? = some (.cells #[v0, v1, v2, .func (.func 104) #[] #[], .bool false, v5, v6, v7, v8, v9, va, vb, vc, .slice (some ⟨g, off, none⟩) (toks.length + 1) cap] 228 (0, 0)) ∧
      Win 232 id w' (.slice (some ⟨g, off, none⟩) (toks.length + 1) cap) (toks ++ [.iface T tv]) ∧ (tokV.ownBlock = some g ∨ w.heap.size ≤ g) ∧ Keeps (fun k => k = b ∨ tokV.ownBlock = some k) w w' := by
  obtain ⟨c0, c1, c2, c3, c4, c5, c6, c7, c8, c9, ca, cb, cc, cd, cf⟩ := cells14 h
  have H := Lib.hid h
  have hlt := lt_of_block h
  have HNE := Lib.hid (hw.ne h (by decide))
  obtain ⟨ta, tc, htv⟩ := hw.shape
  have hw2 : Win 232 id (w.alloc (.cells #[.iface T tv] 232)) tokV toks := hw.keeps (F := fun _ => False) ((Keeps.refl _ w).alloc _) (fun _ _ => id)
  have HW := Lib.hid hw2
  clear h hw hw2
  subst htv
  go_enter Tryz.func135, Tryz.ntmps135
  go_wp2_with (at_builtin; refine append_win elemTok rfl _ _ rfl rfl HW.out ⟨w.heap.size, 0, none⟩ 1 (.iface T tv) rfl ?_ rfl ?_ ?_ ?_)
  · simp
  · omega
  · unfold maxLen; omega
  intro g off cap w' hwin hgb hgr
  have hb' := (hgr.block b (by simp; omega) (fun e => HNE.out e.symm)).trans ((Below.heap_alloc w _ _ hlt).trans H.out)
  have hgne : g ≠ b := by
    have := hwin.ne hb' (by decide)
    intro e
    subst e
    exact this rfl
  have HK := Lib.hid (((Keeps.refl (fun k => k = b ∨ (Value.slice ta toks.length tc).ownBlock = some k) w).alloc (.cells #[.iface T tv] 232)).grown hgr (fun k e => .inl (.inr e)))
  have HWIN := Lib.hid hwin
  have HGB := Lib.hid (show (Value.slice ta toks.length tc).ownBlock = some g ∨ w.heap.size ≤ g from hgb.elim .inl (fun h => .inr (by have := h.1; first | omega | (simp at this; omega))))
  obtain ⟨d0, d1, d2, d3, d4, d5, d6, d7, d8, d9, da, db, dc, dd, df⟩ := cells14 hb'
  have HB := Lib.hid hb'
  have HGN := Lib.hid hgne
  clear hb' hwin hgb hgr hgne c0 c1 c2 c3 c4 c5 c6 c7 c8 c9 ca cb cc cd cf
  go_wp2_with fail
  go_end0
  refine ⟨rfl, g, off, cap, set_at (set_at (set_at HB.out _) _) _, ?_, HGB.out, ((HK.out.setCell (p := ⟨b, 13, none⟩) (.inl (.inl rfl)) _).setCell (p := ⟨b, 4, none⟩) (.inl (.inl rfl)) _).setCell (p := ⟨b, 3, none⟩) (.inl (.inl rfl)) _⟩
  exact HWIN.out.keeps ((((Keeps.refl (fun k => k = b) w').setCell (p := ⟨b, 13, none⟩) (.inl rfl) _).setCell (p := ⟨b, 4, none⟩) (.inl rfl) _).setCell (p := ⟨b, 3, none⟩) (.inl rfl) _) (fun k e hk => by
    simp only [Value.ownBlock, Option.some.injEq] at e
    exact HGN.out (e.trans hk))

/-- The bytes of the token in hand. -/
theorem held2_any (w : World) (b pl st : Nat) (isIn : Bool) (c : Array Value) (h : w.heap[b]? = some (.cells c 228 (0, 0))) (h0 : c[0]? = some (.int .i64 pl)) (h4 : c[4]? = some (.bool isIn)) (h5 : c[5]? = some (.int .i64 st)) (hle : st ≤ pl) (hpl : pl ≤ 1073741824) :
    Calls Tryz.prog 116 #[.pointer (some ⟨b, 0, none⟩)] w fun e w' => e = .returned (.int .i64 ((if isIn then pl - st else 0 : Nat) : Int)) ∧ Below w.heap.size w w' := by
  have c0 : w.cell? ⟨b, 0, none⟩ = some (.int .i64 pl) := by rw [cell_at h]; exact h0
  have c4 : w.cell? ⟨b, 4, none⟩ = some (.bool isIn) := by rw [cell_at h]; exact h4
  have c5 : w.cell? ⟨b, 5, none⟩ = some (.int .i64 st) := by rw [cell_at h]; exact h5
  have hr : IntKind.i64.wrap ((pl : Int) - (st : Int)) = ((pl - st : Nat) : Int) := by rw [IntKind.wrap_i64]; omega
  clear h h0 h4 h5 hle
  cases isIn with
  | false =>
    go_enter Tryz.func116, Tryz.ntmps116
    go_wp2_with fail
    go_ret
    exact ⟨rfl, Below.refl _ _⟩
  | true =>
    go_enter Tryz.func116, Tryz.ntmps116
    go_wp2_with fail
    go_region
    go_wp2_with fail
    go_ret
    exact ⟨rfl, (Below.refl _ _).drew⟩
end Go.Proofs.YtakkmiomhackiaaGreatDoor

/-
  A scope with several labels: what holds at every jump to each of them; jumps lead to labels of lower rank. A law of the walk; no program in sight.
-/
namespace Go.Proofs.YtakkmiomhackiaaGreatDoor
open Go

/-- As Q; by a goto to label l: J l. -/
def Exit.jumps (J : Nat → Act → World → Prop) (Q : Exit → Act → World → Prop) : Exit → Act → World → Prop
  | .goto l, a, w => J l a w
  | e, a, w => Q e a w
theorem Exit.jumps_ret (J : Nat → Act → World → Prop) (Q : Exit → Act → World → Prop) (a : Act) (w : World) : Exit.jumps J Q .ret a w = Q .ret a w := rfl
theorem Exit.jumps_goto (J : Nat → Act → World → Prop) (Q : Exit → Act → World → Prop) (l : Nat) (a : Act) (w : World) : Exit.jumps J Q (.goto l) a w = J l a w := rfl

section
variable {P : Program} {a : Act} {w : World} {Q : Exit → Act → World → Prop}
theorem wp_of_weaker {c : Code} {J J' : Nat → Act → World → Prop} (h : c.wp P (Exit.jumps J Q) a w) (hJ : ∀ l a w, J l a w → J' l a w) : c.wp P (Exit.jumps J' Q) a w := by
  intro b k cs
  obtain ⟨e, a₁, w₁, hq, harr⟩ := h b k cs
  refine ⟨e, a₁, w₁, ?_, harr⟩
  cases e <;> first | exact hq | exact hJ _ _ _ hq

theorem wp_scope_many {c : Code} (J : Nat → Act → World → Prop) (rank : Nat → Nat)
    (pass : ∀ l a w, J l a w → ∃ rest, findLabel c l = some rest ∧ rest.wp P (Exit.jumps (fun l' a' w' => J l' a' w' ∧ rank l' < rank l) Q) a w)
    (first : c.wp P (Exit.jumps J Q) a w) : (Code.scope c).wp P Q a w := by
  intro b k cs
  have hg : ∀ l rest, findLabel c l = some rest → gotoIn l (.inScope c :: k) = some (.code rest :: .inScope c :: k) := fun l rest hf => by simp [gotoIn, hf]
  have key : ∀ n l a w, rank l = n → J l a w → ∃ rest, findLabel c l = some rest ∧ ∃ e a' w', Q e a' w' ∧ Arrives P (lone (b.at a (.code rest :: .inScope c :: k)) cs w) b k cs e a' w' := by
    intro n
    induction n using Nat.strongRecOn with
    | _ n ih =>
      intro l a w hn hJ
      obtain ⟨rest, hf, hp⟩ := pass l a w hJ
      refine ⟨rest, hf, ?_⟩
      obtain ⟨e, a₁, w₁, hq, harr⟩ := hp b (.inScope c :: k) cs
      cases e with
      | normal => exact ⟨.normal, a₁, w₁, hq, Steps.trans harr (.one step_inScope)⟩
      | exit id => exact ⟨.exit id, a₁, w₁, hq, fun k' hk => harr k' (by simp [exitTo, hk])⟩
      | goto l' =>
        obtain ⟨hJ', hlt⟩ := hq
        obtain ⟨rest', hf', e₂, a₂, w₂, hq₂, harr₂⟩ := ih _ (by omega) l' a₁ w₁ rfl hJ'
        exact ⟨e₂, a₂, w₂, hq₂, .of_steps (harr _ (hg _ _ hf')) harr₂⟩
      | ret => exact ⟨_, a₁, w₁, hq, harr⟩
      | panic ch => exact ⟨_, a₁, w₁, hq, harr⟩
      | outgrown => exact ⟨_, a₁, w₁, hq, harr⟩
  obtain ⟨e, a₁, w₁, hq, harr⟩ := first b (.inScope c :: k) cs
  cases e with
  | normal => exact ⟨.normal, a₁, w₁, hq, .head step_scope (Steps.trans harr (.one step_inScope))⟩
  | exit id => exact ⟨.exit id, a₁, w₁, hq, fun k' hk => .head step_scope (harr k' (by simp [exitTo, hk]))⟩
  | goto l' =>
    obtain ⟨rest', hf', e₂, a₂, w₂, hq₂, harr₂⟩ := key _ l' a₁ w₁ rfl hq
    exact ⟨e₂, a₂, w₂, hq₂, .of_steps (.head step_scope (harr _ (hg _ _ hf'))) harr₂⟩
  | ret => exact ⟨_, a₁, w₁, hq, .of_steps (.one step_scope) harr⟩
  | panic ch => exact ⟨_, a₁, w₁, hq, .of_steps (.one step_scope) harr⟩
  | outgrown => exact ⟨_, a₁, w₁, hq, .of_steps (.one step_scope) harr⟩

/-- The same, where the run falls into a label: in turn, from the last label on. -/
theorem wp_fall {c rest : Code} {J : Nat → Act → World → Prop} {rank : Nat → Nat}
    (pass : ∀ l a w, J l a w → ∃ rest, findLabel c l = some rest ∧ rest.wp P (Exit.jumps (fun l' a' w' => J l' a' w' ∧ rank l' < rank l) Q) a w) {l : Nat} (hf : findLabel c l = some rest) (hJ : J l a w) :
    rest.wp P (Exit.jumps J Q) a w := by
  obtain ⟨r, hr, h⟩ := pass l a w hJ
  rw [hf] at hr
  cases hr
  exact wp_of_weaker h fun _ _ _ h => h.1
/-- A scope, label by label, from the one of lowest rank on: each may fall or jump into those below it. -/
theorem wp_scope_order {c : Code} (J : Nat → Act → World → Prop) (rank : Nat → Nat)
    (pass : ∀ l, (∀ l' rest a w, rank l' < rank l → findLabel c l' = some (Code.skip.seq rest) → J l' a w → rest.wp P (Exit.jumps (fun l'' a' w' => J l'' a' w' ∧ rank l'' < rank l) Q) a w) →
      ∀ a w, J l a w → ∃ rest, findLabel c l = some (Code.skip.seq rest) ∧ rest.wp P (Exit.jumps (fun l' a' w' => J l' a' w' ∧ rank l' < rank l) Q) a w)
    (first : (∀ l' rest a w, findLabel c l' = some (Code.skip.seq rest) → J l' a w → rest.wp P (Exit.jumps J Q) a w) → c.wp P (Exit.jumps J Q) a w) : (Code.scope c).wp P Q a w := by
  have all : ∀ n l, rank l = n → ∀ a w, J l a w → ∃ rest, findLabel c l = some (Code.skip.seq rest) ∧ rest.wp P (Exit.jumps (fun l' a' w' => J l' a' w' ∧ rank l' < rank l) Q) a w := by
    intro n
    induction n using Nat.strongRecOn with
    | _ n ih =>
      intro l hn
      refine pass l fun l' rest a w hr hf hJ => ?_
      obtain ⟨r, hr', h⟩ := ih (rank l') (by omega) l' rfl a w hJ
      rw [hf] at hr'
      cases hr'
      exact wp_of_weaker h fun _ _ _ h => ⟨h.1, Nat.lt_trans h.2 hr⟩
  refine wp_scope_many J rank (fun l a w hJ => ?_) (first fun l' rest a w hf hJ => ?_)
  · obtain ⟨rest, hf, h⟩ := all _ l rfl a w hJ
    exact ⟨_, hf, wp_seq (wp_skip h)⟩
  · obtain ⟨r, hr, h⟩ := all _ l' rfl a w hJ
    rw [hf] at hr
    cases hr
    exact wp_of_weaker h fun _ _ _ h => h.1
end
end Go.Proofs.YtakkmiomhackiaaGreatDoor
