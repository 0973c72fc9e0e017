/-
  Several texts in one, each under its own head. Conditions: none.
-/
import Derived.Test.YtakkmiomhackiaaGreatDoorLa14
import Derived.Test.YtakkmiomhackiaaGreatDoorLa06
import Derived.Test.YtakkmiomhackiaaGreatDoorLa09
set_option linter.all false

/-
  Package lex, eighteenth part: what holds between two bytes holds behind one more (of the states that need no escape and no word).
-/
namespace Go.Proofs.YtakkmiomhackiaaGreatDoor
open Go.RowKit
set_option maxRecDepth 100000

/-- Bytes with which no word and no escape begins. -/
def PlainB (c : UInt8) : Prop := wordOf c = [] ∧ c ≠ 92
def PlainSt (s : St) : Prop := s = .outside ∨ s = .numeral ∨ s = .within
theorem numNext_le {s s' : Nat} {c : UInt8} (h : numNext s c = some s') : s' ≤ 8 := by
  unfold numNext at h
  repeat' (first | (split at h) | (cases h; decide) | cases h)
theorem good_of {x : Lx} (hst : PlainSt x.st) (place : x.place ≤ 16777216) (start : x.start ≤ x.place) (number : x.number ≤ 8) (isIn : x.isIn = decide (x.st ≠ .outside)) (numeral : x.st = .numeral → x.raw.length ≤ x.place)
    (within : x.st = .within → x.number = 0 ∧ x.says.length ≤ x.place ∧ x.high = 0) : x.Good := by
  have h1 : x.st ≠ .letter := by rcases hst with h | h | h <;> rw [h] <;> decide
  have h2 : x.st ≠ .digit := by rcases hst with h | h | h <;> rw [h] <;> decide
  have h3 : x.st ≠ .slash := by rcases hst with h | h | h <;> rw [h] <;> decide
  have h4 : x.st ≠ .letterU := by rcases hst with h | h | h <;> rw [h] <;> decide
  have h5 : x.st ≠ .escape := by rcases hst with h | h | h <;> rw [h] <;> decide
  have h6 : isText x.st = true → x.st = .within := by
    intro ht
    rcases hst with h | h | h
    · rw [h] at ht; cases ht
    · rw [h] at ht; cases ht
    · exact h
  exact ⟨place, start, number, isIn, fun h => absurd h h1, numeral, fun h => (within (h6 h)).1, fun h => (within (h.elim id (fun h => absurd h h5))).2.1, fun h => absurd h h2, fun h => absurd h (fun h => h.elim h3 h4), fun ht _ => (within (h6 ht)).2.2⟩

theorem good_outside {x : Lx} (hg : x.Good) (hst : x.st = .outside) (hp : x.place < 16777216) (c : UInt8) (hc : wordOf c = []) (hn : (outsideStep x c).no = 0) :
    Lx.Good { (outsideStep x c).lx with place := x.place + 1 } ∧ PlainSt (outsideStep x c).lx.st := by
  revert hn
  unfold outsideStep
  have hin : x.isIn = false := by rw [hg.isIn, hst]; rfl
  by_cases hbl : isBlank c = true
  · rw [if_pos hbl]
    intro _
    exact ⟨good_of (.inl hst) (by simp; omega) (by have := hg.start; simp; omega) hg.number (by simp [hst, hin]) (fun h => by simp [hst] at h) (fun h => by simp [hst] at h), .inl hst⟩
  rw [if_neg hbl]
  simp only []
  by_cases hm : isMark c = true
  · rw [if_pos hm]
    intro _
    exact ⟨good_of (.inl rfl) (by simp; omega) (by simp [Lx.told]) (by simp [Lx.told]) (by simp [Lx.told]) (fun h => by simp [Lx.told] at h) (fun h => by simp [Lx.told] at h), .inl rfl⟩
  rw [if_neg hm]
  by_cases hq : c = 34
  · rw [if_pos hq]
    intro _
    exact ⟨good_of (.inr (.inr rfl)) (by simp; omega) (by simp) (by simp) (by simp) (fun h => by simp at h) (fun h => by simp), .inr (.inr rfl)⟩
  rw [if_neg hq]
  by_cases hnum : c = 45 ∨ isD c = true
  · rw [if_pos hnum]
    unfold numFirst
    cases hnx : numNext 0 c with
    | none => intro h; simp at h
    | some s' =>
      intro _
      exact ⟨good_of (.inr (.inl rfl)) (by simp; omega) (by simp) (numNext_le hnx) (by simp) (fun _ => by simp) (fun h => by simp at h), .inr (.inl rfl)⟩
  rw [if_neg hnum, if_neg (by simp [hc])]
  intro h; simp at h

theorem good_step {x : Lx} (hg : x.Good) (hst : PlainSt x.st) (hp : x.place < 16777216) (c : UInt8) (hc : PlainB c) (hn : (x.step c).no = 0) : Lx.Good { (x.step c).lx with place := x.place + 1 } ∧ PlainSt (x.step c).lx.st := by
  rcases hst with hst | hst | hst
  · have he : x.step c = outsideStep x c := by unfold Lx.step; rw [hst]
    rw [he] at hn ⊢
    exact good_outside hg hst hp c hc.1 hn
  · have he : x.step c = numeralStep x c := by unfold Lx.step; rw [hst]
    rw [he] at hn ⊢
    revert hn
    have hin : x.isIn = true := by rw [hg.isIn, hst]; rfl
    have hraw := hg.numeral hst
    unfold numeralStep
    cases hnx : numNext x.number c with
    | some s' =>
      intro _
      exact ⟨good_of (.inr (.inl hst)) (by simp; omega) (by have := hg.start; simp; omega) (numNext_le hnx) (by simp [hst, hin]) (fun _ => by simp; omega) (fun h => by simp [hst] at h), .inr (.inl hst)⟩
    | none =>
      simp only []
      by_cases he : numEnds x.number = true
      · rw [if_pos he]
        cases hfin : x.finish with
        | none => intro h; simp at h
        | some p =>
          obtain ⟨y, t⟩ := p
          simp only []
          intro hno
          have hy : y = x.told := by
            unfold Lx.finish at hfin
            cases hb : bitsOf x.raw with
            | none => rw [hb] at hfin; cases hfin
            | some v => rw [hb] at hfin; simp at hfin; exact hfin.1.symm
          subst hy
          have hgy : x.told.Good := good_of (.inl rfl) hg.place hg.start hg.number rfl (fun h => by simp [Lx.told] at h) (fun h => by simp [Lx.told] at h)
          exact good_outside hgy rfl hp c hc.1 hno
      · rw [if_neg he]
        intro h; simp at h
  · have he : x.step c = withinStep x c := by unfold Lx.step; rw [hst]
    rw [he] at hn ⊢
    revert hn
    have hin : x.isIn = true := by rw [hg.isIn, hst]; rfl
    have hnum := hg.text (by rw [hst]; rfl)
    have hsay := hg.within (.inl hst)
    have hhigh := hg.high (by rw [hst]; rfl) (.inl hst)
    unfold withinStep
    by_cases h1 : x.held = [] ∧ c = 34
    · rw [if_pos h1]
      intro _
      exact ⟨good_of (.inl rfl) (by simp; omega) (by have := hg.start; simp [Lx.told]; omega) hg.number (by simp [Lx.told]) (fun h => by simp [Lx.told] at h) (fun h => by simp [Lx.told] at h), .inl rfl⟩
    rw [if_neg h1, if_neg (fun h => hc.2 h.2)]
    by_cases h3 : x.held = [] ∧ c.toNat < 32
    · rw [if_pos h3]; intro h; simp at h
    rw [if_neg h3]
    cases hfo : feedOne x.held c with
    | none => intro h; simp at h
    | some h' =>
      intro _
      exact ⟨good_of (.inr (.inr hst)) (by simp; omega) (by have := hg.start; simp; omega) hg.number (by simp [hst, hin]) (fun h => by simp [hst] at h) (fun h => by simp [hnum, hhigh]; omega), .inr (.inr hst)⟩

/-- Feed of one byte, of the states that need no escape and no word. -/
theorem lexFeed_plain (F : Nat → Prop) (w : World) (b g off : Nat) (x : Lx) (toks : List Tok) (c : UInt8) (h : LexAt F w b x false toks) (hc : w.cell? ⟨g, off, none⟩ = some (.int .u8 ((c.toNat : Nat) : Int))) (hg : x.Good) (hst : PlainSt x.st) (htl : toks.length ≤ 999) :
    Calls Tryz.prog 82 #[.pointer (some ⟨b, 0, none⟩), .slice (some ⟨g, off, none⟩) 1 1] w fun e w' => TakePost F w b toks (x.take c) spotV e w' := by
  refine lexFeed_any F w b g off x toks c h hc ?_
  refine take_of (stepNo x.st) (by rcases hst with h | h | h <;> rw [h] <;> simp [stepNo]) F w b x toks c rfl h hg.place fun hp => ?_
  rcases hst with hst | hst | hst
  · have he : x.step c = outsideStep x c := by unfold Lx.step; rw [hst]
    rw [he, hst]
    exact step_outside F w b x toks c h hst hg.place (by omega)
  · have he : x.step c = numeralStep x c := by unfold Lx.step; rw [hst]
    rw [he, hst]
    exact step_numeral F w b x toks c h hst hg.start hg.number (Nat.le_trans (hg.numeral hst) (Nat.le_trans hg.place (by decide))) hg.place (by omega)
  · have he : x.step c = withinStep x c := by unfold Lx.step; rw [hst]
    rw [he, hst]
    exact step_within F w b x toks c h hst hg.start (Nat.le_trans (hg.within (.inl hst)) (Nat.le_trans hg.place (by decide))) hg.place (by omega)
theorem outsideStep_toks (x : Lx) (c : UInt8) : (outsideStep x c).toks.length ≤ 1 := by
  unfold outsideStep
  split
  · exact Nat.zero_le _
  · simp only []
    split
    · exact Nat.le_refl _
    · split
      · exact Nat.zero_le _
      · split
        · unfold numFirst; split <;> exact Nat.zero_le _
        · split <;> exact Nat.zero_le _
theorem step_toks (x : Lx) (c : UInt8) : (x.step c).toks.length ≤ 2 := by
  unfold Lx.step
  split
  · exact Nat.le_trans (outsideStep_toks x c) (by decide)
  · unfold letterStep
    simp only []
    split
    · split <;> simp
    · simp
  · unfold numeralStep
    split
    · simp
    · split
      · cases x.finish with
        | none => simp
        | some p => simp only [List.length_cons]; have := outsideStep_toks p.1 c; omega
      · simp
  · unfold withinStep
    split
    · simp
    · split
      · simp
      · split
        · simp
        · split <;> simp
  · unfold escapeStep
    split
    · simp
    · split <;> simp
  · unfold digitStep
    split
    · simp
    · split <;> simp
  · unfold slashStep; split <;> simp
  · unfold letterUStep; split <;> simp
theorem take_toks (x : Lx) (c : UInt8) : (x.take c).2.1.length ≤ 2 := by
  unfold Lx.take
  split
  · simp
  · simp only []
    split <;> exact step_toks x c
theorem good_new : Lx.new.Good ∧ PlainSt Lx.new.st := ⟨good_of (.inl rfl) (by decide) (by decide) (by decide) rfl (fun h => by cases h) (fun h => by cases h), .inl rfl⟩
theorem good_take {x : Lx} (hg : x.Good) (hst : PlainSt x.st) (c : UInt8) (hc : PlainB c) (hn : (x.take c).2.2.1 = 0) : (x.take c).1.Good ∧ PlainSt (x.take c).1.st := by
  unfold Lx.take at hn ⊢
  by_cases hp : x.place = 16777216
  · rw [if_pos hp] at hn; cases hn
  rw [if_neg hp] at hn ⊢
  simp only [] at hn ⊢
  by_cases h0 : (x.step c).no = 0
  · rw [if_pos h0]
    obtain ⟨h1, h2⟩ := good_step hg hst (by have := hg.place; omega) c hc h0
    exact ⟨h1, h2⟩
  · rw [if_neg h0] at hn
    exact absurd hn h0
end Go.Proofs.YtakkmiomhackiaaGreatDoor

/-
  Package lex, seventh part: Next.
-/
namespace Go.Proofs.YtakkmiomhackiaaGreatDoor
open Go.RowKit
set_option maxRecDepth 100000

theorem next_none (w : World) (b : Nat) (v0 v1 v2 v3 v4 v5 v6 v7 v8 v9 va vb vc : Value) (a : Option Addr) (cap : Nat) (h : w.heap[b]? = some (.cells #[v0, v1, v2, v3, v4, v5, v6, v7, v8, v9, va, vb, vc, .slice a 0 cap] 228 (0, 0))) :
    Calls Tryz.prog 111 #[.pointer (some ⟨b, 0, none⟩)] w fun e w' => e = .returned (.tuple #[.nilIface, .bool false]) ∧ w' = w := by
  obtain ⟨c0, c1, c2, c3, c4, c5, c6, c7, c8, c9, ca, cb, cc, cd, cf⟩ := cells14 h
  clear h
  go_enter Tryz.func111, Tryz.ntmps111
  go_wp2_with fail
  exact bodyPost_ret (v := .tuple #[.nilIface, .bool false]) (by simp [results, Tryz.results111, go_sem]) rfl ⟨rfl, rfl⟩

set_option maxHeartbeats 2000000 in
theorem next_some (w : World) (b : Nat) (v0 v1 v2 v3 v4 v5 v6 v7 v8 v9 va vb vc tokV : Value) (T : TypeId) (tv : Value) (toks : List Value) (h : w.heap[b]? = some (.cells #[v0, v1, v2, v3, v4, v5, v6, v7, v8, v9, va, vb, vc, tokV] 228 (0, 0)))
    (hw : Win 232 id w tokV (.iface T tv :: toks)) (hl : toks.length ≤ 1000) :
    Calls Tryz.prog 111 #[.pointer (some ⟨b, 0, none⟩)] w fun e w' => e = .returned (.tuple #[.iface T tv, .bool true]) ∧ ∃ g off cap, w'.heap[b]? = some (.cells #[v0, v1, v2, v3, v4, v5, v6, v7, v8, v9, va, vb, vc, .slice (some ⟨g, off, none⟩) toks.length cap] 228 (0, 0)) ∧
      Win 232 id w' (.slice (some ⟨g, off, none⟩) toks.length cap) toks ∧ tokV.ownBlock = some g ∧ Keeps (fun k => k = b) w w' := by
  obtain ⟨c0, c1, c2, c3, c4, c5, c6, c7, c8, c9, ca, cb, cc, cd, cf⟩ := cells14 h
  have HNE := Lib.hid (hw.ne h (by decide))
  have H := Lib.hid h
  clear h
  rcases hw with ⟨_, hn⟩ | ⟨g, off, cap, cur, rfl, hg, hc, ho, hm, hi⟩
  · cases hn
  · have hcell : w.cell? ⟨g, off, none⟩ = some (.iface T tv) := by
      have := hi 0 (.iface T tv) rfl
      rw [cell_at hg]; simpa using this
    have hwin : Win 232 id w (.slice (some ⟨g, off + 1, none⟩) toks.length (cap - 1)) toks :=
      Win.tail (x := .iface T tv) (.inr ⟨g, off, cap, cur, rfl, hg, hc, ho, hm, hi⟩)
    have HW := Lib.hid hwin
    have h0 : cap = 1 → Win 232 id w (.slice (some ⟨g, off, none⟩) toks.length 0) toks := fun hc1 => by
      have hl0 : toks = [] := List.eq_nil_of_length_eq_zero (by simp at hc; omega)
      subst hl0
      exact .inr ⟨g, off, 0, cur, rfl, hg, Nat.le_refl _, by omega, Nat.zero_le _, fun i x hx => by cases hx⟩
    have HW0 := Lib.hid h0
    clear h0
    have hgb : g ≠ b := fun e => HNE.out (by rw [e]; rfl)
    have HGB := Lib.hid hgb
    simp only [List.length_cons] at *
    have hle : toks.length + 1 ≤ cap := hc
    have hcap : cap ≤ 9223372036854775807 := by unfold maxLen at hm; omega
    clear hg hc ho hm hi hwin hgb
    go_enter Tryz.func111, Tryz.ntmps111
    go_wp2_with fail
    · exact bodyPost_ret (v := .tuple #[.iface T tv, .bool true]) (by simp [results, Tryz.results111, go_sem]) rfl ⟨rfl, g, off, 0, set_at H.out _, (HW0.out (by first | rfl | omega)).keeps ((Keeps.refl (fun k => k = b) w).setCell (p := ⟨b, 13, none⟩) (.inl rfl) _) (fun k e hk => HGB.out ((Option.some.inj e).trans hk)), rfl, (Keeps.refl (fun k => k = b) w).setCell (p := ⟨b, 13, none⟩) (.inl rfl) _⟩
    · exact bodyPost_ret (v := .tuple #[.iface T tv, .bool true]) (by simp [results, Tryz.results111, go_sem]) rfl ⟨rfl, g, off + 1, cap - 1, set_at H.out _, HW.out.keeps ((Keeps.refl (fun k => k = b) w).setCell (p := ⟨b, 13, none⟩) (.inl rfl) _) (fun k e hk => HGB.out ((Option.some.inj e).trans hk)), rfl, (Keeps.refl (fun k => k = b) w).setCell (p := ⟨b, 13, none⟩) (.inl rfl) _⟩

theorem heldNow_any (w : World) (b pl st : Nat) (isIn : Bool) (v3 v6 v7 v8 v9 va vb vc vd : Value) (h : w.heap[b]? = some (.cells #[.int .i64 pl, .nilIface, .bool false, v3, .bool isIn, .int .i64 st, v6, v7, v8, v9, va, vb, vc, vd] 228 (0, 0))) (hle : st ≤ pl) (hpl : pl ≤ 1073741824) :
    Calls Tryz.prog 83 #[.pointer (some ⟨b, 0, none⟩)] w fun e w' => e = .returned (.int .i64 ((if isIn then pl - st else 0 : Nat) : Int)) ∧ Below w.heap.size w w' := by
  have HH := Lib.hid (held2_any w b pl st isIn _ h rfl rfl rfl hle hpl)
  obtain ⟨n, hn⟩ : ∃ n, (if isIn then pl - st else 0 : Nat) = n := ⟨_, rfl⟩
  rw [hn] at HH ⊢
  obtain ⟨c0, c1, c2, c3, c4, c5, c6, c7, c8, c9, ca, cb, cc, cd, cf⟩ := cells14 h
  clear h hn
  go_enter Tryz.func83, Tryz.ntmps83
  go_wp2_with fail
  refine (HH.out).mono ?_
  rintro e w1 ⟨rfl, hb⟩
  go_wp2_with fail
  go_ret
  exact ⟨rfl, hb⟩
end Go.Proofs.YtakkmiomhackiaaGreatDoor

/-
  Package parse, first part: fail, value, begins, weigh, lexed.
-/
namespace Go.Proofs.YtakkmiomhackiaaGreatDoor
open Go.RowKit
set_option maxRecDepth 100000

/-- What was given up: its number, its place. -/
def failE (no at_ : Nat) : Ending := .panicked [{ v := spotV no at_, recovered := false }]
theorem fail_any (w : World) (no at_ : Nat) : Calls Tryz.prog 81 #[.int .i64 no, .int .i64 at_] w fun e w' => e = failE no at_ ∧ w' = w := by
  go_enter Tryz.func81, Tryz.ntmps81
  go_wp2
  exact ⟨rfl, rfl, rfl⟩
theorem cells10 {w : World} {b : Nat} {v0 v1 v2 v3 v4 v5 v6 v7 v8 v9 : Value} {T : TypeId} (h : w.heap[b]? = some (.cells #[v0, v1, v2, v3, v4, v5, v6, v7, v8, v9] T (0, 0))) :
    w.cell? ⟨b, 0, none⟩ = some v0 ∧ w.cell? ⟨b, 1, none⟩ = some v1 ∧ w.cell? ⟨b, 2, none⟩ = some v2 ∧ w.cell? ⟨b, 3, none⟩ = some v3 ∧ w.cell? ⟨b, 4, none⟩ = some v4 ∧ w.cell? ⟨b, 5, none⟩ = some v5 ∧ w.cell? ⟨b, 6, none⟩ = some v6 ∧ w.cell? ⟨b, 7, none⟩ = some v7 ∧
    w.cell? ⟨b, 8, none⟩ = some v8 ∧ w.cell? ⟨b, 9, none⟩ = some v9 ∧ ∀ o, w.frozen? ⟨b, o, none⟩ = false :=
  ⟨cell_at h, cell_at h, cell_at h, cell_at h, cell_at h, cell_at h, cell_at h, cell_at h, cell_at h, cell_at h, free_at h⟩

theorem lexed_nil (w : World) : Calls Tryz.prog 80 #[.nilIface] w fun e w' => e = .returned (.tuple #[]) ∧ w' = w := by
  go_enter Tryz.func80, Tryz.ntmps80
  go_wp2
  first
    | (go_end0; exact ⟨rfl, rfl⟩)
    | exact bodyPost_ret (results_none rfl _ _ _) rfl ⟨rfl, rfl⟩
theorem lexed_spot (w : World) (no at_ : Nat) : Calls Tryz.prog 80 #[spotV no at_] w fun e w' => e = failE (lexNo no) at_ ∧ Below w.heap.size w w' := by
  have hta : ∀ w : World, (Instr.typeAssert (.iface 151 (.agg #[.int .i64 no, .int .i64 at_])) 26 151 false).run Tryz.prog w = .ok (.agg #[.int .i64 no, .int .i64 at_]) w := fun _ => by kernel_rfl
  unfold spotV
  by_cases h : no = 94
  · subst h
    simp only [Int.cast_ofNat_Int] at hta ⊢
    go_enter Tryz.func80, Tryz.ntmps80
    go_wp2
    exact ⟨rfl, rfl, (Below.refl _ _).alloc (Nat.le_refl _) _⟩
  · have hn : ((no : Int) == 94) = false := by simp; omega
    have hl : lexNo no = no := if_neg h
    rw [hl]
    clear hl h
    go_enter Tryz.func80, Tryz.ntmps80
    go_wp2
    exact ⟨rfl, rfl, (Below.refl _ _).alloc (Nat.le_refl _) _⟩

set_option maxHeartbeats 2000000 in
theorem value_ok (w : World) (p d want nodes at_ n cap : Nat) (a : Option Addr) (v1 v2 v3 v7 v8 v9 : Value) (h : w.heap[p]? = some (.cells #[.int .i64 d, v1, v2, v3, .slice a n cap, .int .i64 want, .int .i64 nodes, v7, v8, v9] 136 (0, 0))) (hw : want = 0 ∨ want = 1) (hn : n ≠ d) (hno : nodes < 65536) :
    Calls Tryz.prog 117 #[.pointer (some ⟨p, 0, none⟩), .int .i64 at_] w fun e w' => e = .returned (.tuple #[]) ∧ w'.heap[p]? = some (.cells #[.int .i64 d, v1, v2, v3, .slice a n cap, .int .i64 want, .int .i64 (nodes + 1 : Nat), v7, v8, v9] 136 (0, 0)) ∧ Keeps (fun k => k = p) w w' := by
  obtain ⟨c0, c1, c2, c3, c4, c5, c6, c7, c8, c9, cf⟩ := cells10 h
  have H := Lib.hid h
  have e1 : ((n : Int) == (d : Int)) = false := by simp; omega
  have e1n : (n == d) = false := by simpa using hn
  have e2 : ((nodes : Int) == 65536) = false := by simp; omega
  clear h hn
  rcases hw with rfl | rfl
  all_goals
    go_enter Tryz.func117, Tryz.ntmps117
    go_wp2_with fail
    go_region
    go_wp2_with fail
    go_end0
    exact ⟨rfl, set_at (w := w.drew) H.out _, ((Keeps.refl (fun k => k = p) w).drew).setCell (p := ⟨p, 6, none⟩) (.inl rfl) _⟩
theorem value_syntax (w : World) (p want at_ : Nat) (v0 v1 v2 v3 v4 v6 v7 v8 v9 : Value) (h : w.heap[p]? = some (.cells #[v0, v1, v2, v3, v4, .int .i64 want, v6, v7, v8, v9] 136 (0, 0))) (hw : want ≠ 0 ∧ want ≠ 1) :
    Calls Tryz.prog 117 #[.pointer (some ⟨p, 0, none⟩), .int .i64 at_] w fun e w' => e = failE 120 at_ ∧ Below w.heap.size w w' := by
  obtain ⟨c0, c1, c2, c3, c4, c5, c6, c7, c8, c9, cf⟩ := cells10 h
  have e1 : ((want : Int) == 0) = false := by simp; omega
  have e2 : ((want : Int) == 1) = false := by simp; omega
  have e3 : ((want : Int) != 0) = true := by simp; omega
  have e4 : ((want : Int) != 1) = true := by simp; omega
  have HF := Lib.hid (fun w => fail_any w 120 at_)
  clear h hw
  go_enter Tryz.func117, Tryz.ntmps117
  go_wp2_with fail
  refine (HF.out _).mono ?_
  rintro e w1 ⟨he, rfl⟩
  unfold failE at he
  subst he
  go_wp2_with fail
  exact ⟨rfl, rfl, Below.refl _ _⟩
theorem value_depth (w : World) (p d want at_ cap : Nat) (a : Option Addr) (v1 v2 v3 v6 v7 v8 v9 : Value) (h : w.heap[p]? = some (.cells #[.int .i64 d, v1, v2, v3, .slice a d cap, .int .i64 want, v6, v7, v8, v9] 136 (0, 0))) (hw : want = 0 ∨ want = 1) :
    Calls Tryz.prog 117 #[.pointer (some ⟨p, 0, none⟩), .int .i64 at_] w fun e w' => e = failE 121 at_ ∧ Below w.heap.size w w' := by
  obtain ⟨c0, c1, c2, c3, c4, c5, c6, c7, c8, c9, cf⟩ := cells10 h
  have HF := Lib.hid (fun w => fail_any w 121 at_)
  clear h
  rcases hw with rfl | rfl
  all_goals
    go_enter Tryz.func117, Tryz.ntmps117
    go_wp2_with fail
    go_region
    go_wp2_with fail
    refine (HF.out _).mono ?_
    rintro e w1 ⟨he, rfl⟩
    unfold failE at he
    subst he
    go_wp2_with fail
    exact ⟨rfl, rfl, (Below.refl _ _).drew⟩
theorem value_long (w : World) (p d want at_ n cap : Nat) (a : Option Addr) (v1 v2 v3 v7 v8 v9 : Value) (h : w.heap[p]? = some (.cells #[.int .i64 d, v1, v2, v3, .slice a n cap, .int .i64 want, .int .i64 65536, v7, v8, v9] 136 (0, 0))) (hw : want = 0 ∨ want = 1) (hn : n ≠ d) :
    Calls Tryz.prog 117 #[.pointer (some ⟨p, 0, none⟩), .int .i64 at_] w fun e w' => e = failE 3 at_ ∧ Below w.heap.size w w' := by
  obtain ⟨c0, c1, c2, c3, c4, c5, c6, c7, c8, c9, cf⟩ := cells10 h
  have e1 : ((n : Int) == (d : Int)) = false := by simp; omega
  have e1n : (n == d) = false := by simpa using hn
  have HF := Lib.hid (fun w => fail_any w 3 at_)
  clear h hn
  rcases hw with rfl | rfl
  all_goals
    go_enter Tryz.func117, Tryz.ntmps117
    go_wp2_with fail
    go_region
    go_wp2_with fail
    refine (HF.out _).mono ?_
    rintro e w1 ⟨he, rfl⟩
    unfold failE at he
    subst he
    go_wp2_with fail
    exact ⟨rfl, rfl, (Below.refl _ _).drew⟩

set_option maxHeartbeats 2000000 in
theorem weigh_any (w : World) (p bytes at_ : Nat) (s : ByteArray) (v0 v1 v2 v3 v4 v5 v6 v8 v9 : Value) (h : w.heap[p]? = some (.cells #[v0, v1, v2, v3, v4, v5, v6, .int .i64 bytes, v8, v9] 136 (0, 0))) (hb : bytes ≤ 1073741824) (hs : s.size ≤ 1073741824) :
    Calls Tryz.prog 149 #[.pointer (some ⟨p, 0, none⟩), .string s, .int .i64 at_] w fun e w' => (bytes + s.size ≤ 2097152 → e = .returned (.tuple #[])) ∧ (2097152 < bytes + s.size → e = failE 3 at_) ∧ w'.heap[p]? = some (.cells #[v0, v1, v2, v3, v4, v5, v6, .int .i64 (bytes + s.size : Nat), v8, v9] 136 (0, 0)) ∧ Keeps (fun k => k = p) w w' := by
  obtain ⟨c0, c1, c2, c3, c4, c5, c6, c7, c8, c9, cf⟩ := cells10 h
  have H := Lib.hid h
  have HF := Lib.hid (fun w => fail_any w 3 at_)
  obtain ⟨n, hn⟩ : ∃ n, s.size = n := ⟨_, rfl⟩
  rw [hn] at hs
  have HN := Lib.hid hn
  have hset := set_at (o := 7) h (.int .i64 ((bytes + n : Nat) : Int))
  simp only [List.setIfInBounds_toArray, List.set_cons_zero, List.set_cons_succ] at hset
  have HS := Lib.hid hset
  clear h hset
  by_cases hf : bytes + n ≤ 2097152
  · have e1 : (bytes : Int) + (n : Int) ≤ 2097152 := by omega
    have HFF := Lib.hid hf
    clear hf
    go_enter Tryz.func149, Tryz.ntmps149
    go_wp2_with fail
    go_end0
    rw [HN.out]
    exact ⟨fun _ => rfl, fun h => absurd HFF.out (Nat.not_le.2 h), HS.out, (Keeps.refl (fun k => k = p) w).setCell (p := ⟨p, 7, none⟩) (.inl rfl) _⟩
  · have e1 : ¬ (bytes : Int) + (n : Int) ≤ 2097152 := by omega
    have HFF := Lib.hid hf
    clear hf
    go_enter Tryz.func149, Tryz.ntmps149
    go_wp2_with fail
    refine (HF.out _).mono ?_
    rintro e w1 ⟨he, rfl⟩
    unfold failE at he
    subst he
    go_wp2_with fail
    rw [HN.out]
    exact ⟨rfl, fun h => absurd h HFF.out, fun _ => rfl, HS.out, (Keeps.refl (fun k => k = p) w).setCell (p := ⟨p, 7, none⟩) (.inl rfl) _⟩
end Go.Proofs.YtakkmiomhackiaaGreatDoor

/-
  Package parse, second part: begins, put, scalar, text (a value), mark (a list begins).
-/
namespace Go.Proofs.YtakkmiomhackiaaGreatDoor
open Go.RowKit
set_option maxRecDepth 100000

/-- It came back, or gave up. -/
def Plainly (e : Ending) : Prop := e = .returned (.tuple #[]) ∨ ∃ no at_, e = failE no at_
set_option maxHeartbeats 2000000 in
theorem begins_value (w : World) (p pl want : Nat) (v0 v2 v3 v4 v6 v7 v8 v9 : Value) (c : UInt8) (Q : Ending → World → Prop) (h : w.heap[p]? = some (.cells #[v0, .int .i64 pl, v2, v3, v4, .int .i64 want, v6, v7, v8, v9] 136 (0, 0))) (hc : c ≠ 34 ∨ (want ≠ 2 ∧ want ≠ 3))
    (hv : Calls Tryz.prog 117 #[.pointer (some ⟨p, 0, none⟩), .int .i64 pl] w fun e w' => Plainly e ∧ Q e w') :
    Calls Tryz.prog 84 #[.pointer (some ⟨p, 0, none⟩), .int .u8 ((c.toNat : Nat) : Int)] w Q := by
  obtain ⟨c0, c1, c2, c3, c4, c5, c6, c7, c8, c9, cf⟩ := cells10 h
  have HV := Lib.hid hv
  have hway : ¬ c = 34 ∨ (c = 34 ∧ ((want : Int) == 2) = false ∧ ((want : Int) == 3) = false) := by
    by_cases h34 : c = 34
    · right
      have := hc.resolve_left (fun h => h h34)
      exact ⟨h34, by simp; omega, by simp; omega⟩
    · exact .inl h34
  clear h hv hc
  rcases hway with h34 | ⟨h34, e2, e3⟩
  · obtain ⟨n1, n2, n3⟩ := byte_ne3 (c := c) (d := 34) (n := 34) h34 rfl
    clear h34
    go_enter Tryz.func84, Tryz.ntmps84
    go_wp2_with fail
    refine (HV.out).mono ?_
    rintro e w1 ⟨rfl | ⟨no, at_, he⟩, hq⟩
    · have HQ := Lib.hid hq
      clear hq
      go_wp2_with fail
      first
        | (go_end0; exact HQ.out)
        | exact HQ.out
    · have HQ := Lib.hid hq
      clear hq
      have HE := Lib.hid he
      unfold failE at he
      subst he
      go_wp2_with fail
      exact ⟨rfl, HQ.out⟩
  · have hv : ((c.toNat : Nat) : Int) = 34 := by rw [h34]; rfl
    clear h34
    go_enter Tryz.func84, Tryz.ntmps84
    go_wp2_with fail
    refine (HV.out).mono ?_
    rintro e w1 ⟨rfl | ⟨no, at_, he⟩, hq⟩
    · have HQ := Lib.hid hq
      clear hq
      go_wp2_with fail
      first
        | (go_end0; exact HQ.out)
        | exact HQ.out
    · have HQ := Lib.hid hq
      clear hq
      unfold failE at he
      subst he
      go_wp2_with fail
      exact ⟨rfl, HQ.out⟩

theorem put_empty (w : World) (p cap : Nat) (a : Option Addr) (v0 v1 v2 v3 v5 v6 v7 v8 v9 : Value) (h : w.heap[p]? = some (.cells #[v0, v1, v2, v3, .slice a 0 cap, v5, v6, v7, v8, v9] 136 (0, 0))) :
    Calls Tryz.prog 151 #[.pointer (some ⟨p, 0, none⟩)] w fun e w' => e = .returned (.tuple #[]) ∧ w'.heap[p]? = some (.cells #[v0, v1, v2, v3, .slice a 0 cap, .int .i64 6, v6, v7, v8, v9] 136 (0, 0)) ∧ Keeps (fun k => k = p) w w' := by
  obtain ⟨c0, c1, c2, c3, c4, c5, c6, c7, c8, c9, cf⟩ := cells10 h
  have H := Lib.hid h
  clear h
  go_enter Tryz.func151, Tryz.ntmps151
  go_wp2_with fail
  first
    | (go_end0; exact ⟨rfl, set_at (set_at H.out _) _, ((Keeps.refl (fun k => k = p) w).setCell (p := ⟨p, 5, none⟩) (.inl rfl) _).setCell (p := ⟨p, 5, none⟩) (.inl rfl) _⟩)
    | exact bodyPost_ret (results_none rfl _ _ _) rfl ⟨rfl, set_at (set_at H.out _) _, ((Keeps.refl (fun k => k = p) w).setCell (p := ⟨p, 5, none⟩) (.inl rfl) _).setCell (p := ⟨p, 5, none⟩) (.inl rfl) _⟩
set_option maxHeartbeats 2000000 in
theorem put_list (w : World) (p g off n cap fb m : Nat) (v0 v1 v2 v3 v5 v6 v7 v8 v9 : Value) (h : w.heap[p]? = some (.cells #[v0, v1, v2, v3, .slice (some ⟨g, off, none⟩) (n + 1) cap, v5, v6, v7, v8, v9] 136 (0, 0)))
    (hg : w.cell? ⟨g, off + n, none⟩ = some (.iface 272 (.pointer (some ⟨fb, 0, none⟩)))) (hgp : g ≠ p) (hf : w.heap[fb]? = some (.cells #[.int .i64 m] 274 (0, 0))) (hn : n ≤ 1048576) (hm : m ≤ 1073741824) :
    Calls Tryz.prog 151 #[.pointer (some ⟨p, 0, none⟩)] w fun e w' => e = .returned (.tuple #[]) ∧ w'.heap[p]? = some (.cells #[v0, v1, v2, v3, .slice (some ⟨g, off, none⟩) (n + 1) cap, .int .i64 5, v6, v7, v8, v9] 136 (0, 0)) ∧ w'.heap[fb]? = some (.cells #[.int .i64 (m + 1 : Nat)] 274 (0, 0)) ∧ Keeps (fun k => k = p ∨ k = fb) w w' := by
  have hta : ∀ w : World, (Instr.typeAssert (.iface 272 (.pointer (some ⟨fb, 0, none⟩))) 281 272 true).run Tryz.prog w = .ok (.tuple #[.pointer (some ⟨fb, 0, none⟩), .bool true]) w := fun _ => by kernel_rfl
  obtain ⟨c0, c1, c2, c3, c4, c5, c6, c7, c8, c9, cf⟩ := cells10 h
  have hpf : p ≠ fb := by
    intro e; subst e
    rw [h] at hf
    simp at hf
  have hp2 : (w.setCell ⟨p, 5, none⟩ (.int .i64 5)).heap[p]? = _ := set_at h _
  have hf2 : (w.setCell ⟨p, 5, none⟩ (.int .i64 5)).heap[fb]? = _ := (set_else _ (fun e => hpf e.symm)).trans hf
  have hg2 : (w.setCell ⟨p, 5, none⟩ (.int .i64 5)).cell? ⟨g, off + n, none⟩ = _ := ((Keeps.refl (fun k => k = p) w).setCell (p := ⟨p, 5, none⟩) (.inl rfl) _).cell hg hgp
  have HK := Lib.hid ((Keeps.refl (fun k => k = p ∨ k = fb) w).setCell (p := ⟨p, 5, none⟩) (.inl (.inl rfl)) (.int .i64 5))
  simp only [List.setIfInBounds_toArray, List.set_cons_zero, List.set_cons_succ] at hp2
  have HP2 := Lib.hid hp2
  have HF2 := Lib.hid hf2
  have HG2 := Lib.hid hg2
  have HPF := Lib.hid hpf
  clear h hg hf hp2 hf2 hg2 hpf
  go_enter Tryz.func151, Tryz.ntmps151
  go_wp2_with fail
  obtain ⟨w2, hw2⟩ : ∃ w2, w.setCell ⟨p, 5, none⟩ (.int .i64 5) = w2 := ⟨_, rfl⟩
  rw [hw2] at HK HP2 HF2 HG2 ⊢
  obtain ⟨d0, d1, d2, d3, d4, d5, d6, d7, d8, d9, df⟩ := cells10 HP2.out
  have hg3 := HG2.out
  have hf3 := cell_of_one HF2.out
  have hff := free_of_one HF2.out
  have hr1 : IntKind.i64.wrap ((n : Int) + 1 - 1) = (n : Int) := by rw [IntKind.wrap_i64]; omega
  clear hw2 c0 c1 c2 c3 c4 c5 c6 c7 c8 c9 cf
  go_region
  go_wp2_with fail
  go_end0
  exact ⟨rfl, (set_else (w := w2.drew) _ HPF.out).trans HP2.out, set_at (w := w2.drew) HF2.out _, (HK.out.drew).setCell (p := ⟨fb, 0, none⟩) (.inl (.inr rfl)) _⟩
end Go.Proofs.YtakkmiomhackiaaGreatDoor

/-
  Package parse, third part: a parser in memory.
-/
namespace Go.Proofs.YtakkmiomhackiaaGreatDoor
open Go.RowKit
set_option maxRecDepth 100000

/-- How a lexer stands: at work (or done), or given up. -/
inductive LS | at_ (x : Lx) (dn : Bool) | dead (pl st : Nat) (errV : Value)
def LexIs (F : Nat → Prop) (w : World) (b : Nat) (toks : List Tok) : LS → Prop
  | .at_ x dn => LexAt F w b x dn toks
  | .dead pl st errV => LexDead F w b pl st errV toks
section
variable {F G : Nat → Prop} {w w' : World} {b : Nat} {toks : List Tok} {s : LS}
theorem LexIs.block (h : LexIs F w b toks s) : F b := by cases s <;> exact h.1
theorem LexIs.lt (h : LexIs F w b toks s) : ∀ k, F k → k < w.heap.size := by cases s <;> exact h.2.1
theorem LexIs.apart (h : LexIs F w b toks s) (hk : Keeps G w w') (hd : ∀ k, F k → ¬ G k) : LexIs F w' b toks s := by
  cases s with
  | at_ x dn => exact LexAt.apart h hk hd
  | dead pl st errV => exact LexDead.apart h hk hd
end

/-- The next token is told. -/
theorem nextTok_any (F : Nat → Prop) (w : World) (b : Nat) (t : Tok) (toks : List Tok) (s : LS) (h : LexIs F w b (t :: toks) s) (hl : toks.length ≤ 999) :
    Calls Tryz.prog 111 #[.pointer (some ⟨b, 0, none⟩)] w fun e w' => e = .returned (.tuple #[tokEnc t, .bool true]) ∧ LexIs F w' b toks s ∧ Keeps (fun k => k = b) w w' := by
  have hl2 : (toks.map tokEnc).length ≤ 1000 := by simp; omega
  obtain ⟨T, tv, ht⟩ : ∃ T tv, tokEnc t = .iface T tv := by cases t <;> exact ⟨_, _, rfl⟩
  cases s with
  | at_ x dn =>
    obtain ⟨hF, hlt, rawV, chV, saysV, tokV, hb, hw, hs⟩ := h
    have hw1 := hw.1
    rw [List.map_cons, ht] at hw1
    rw [ht]
    refine (next_some w b _ _ _ _ _ _ _ _ _ _ _ _ _ tokV T tv (toks.map tokEnc) hb hw1 hl2).mono ?_
    rintro e w' ⟨rfl, g, off, cap, hb2, hw2, hg, hk⟩
    refine ⟨rfl, ⟨hF, fun k hk' => Nat.lt_of_lt_of_le (hlt k hk') hk.size, rawV, chV, saysV, _, hb2, ⟨by simpa using hw2, fun k e => by cases e; exact hw.2 _ hg⟩, ⟨fun h => ?_, fun h => ?_⟩⟩, hk⟩
    · have hr := hs.raw h
      exact ⟨hr.1.keeps hk (fun k e hk => hr.1.ne hb (by decide) (e.trans (congrArg some hk))), hr.2⟩
    · obtain ⟨h1, f, pl, h2, h3, h4, h5⟩ := hs.text h
      exact ⟨⟨h1.1.keeps hk (fun k e hk => h1.1.ne hb (by decide) (e.trans (congrArg some hk))), h1.2⟩, f, pl, h2, h3.keeps hk (feeds_ne h3 hb (by decide)), h4, h5⟩
  | dead pl st errV =>
    obtain ⟨hF, hlt, v2, v3, v4, v6, v7, v8, v9, va, vb, vc, tokV, hb, hw⟩ := h
    have hw1 := hw.1
    rw [List.map_cons, ht] at hw1
    rw [ht]
    refine (next_some w b _ _ _ _ _ _ _ _ _ _ _ _ _ tokV T tv (toks.map tokEnc) hb hw1 hl2).mono ?_
    rintro e w' ⟨rfl, g, off, cap, hb2, hw2, hg, hk⟩
    exact ⟨rfl, ⟨hF, fun k hk' => Nat.lt_of_lt_of_le (hlt k hk') hk.size, _, _, _, _, _, _, _, _, _, _, _, hb2, ⟨by simpa using hw2, fun k e => by cases e; exact hw.2 _ hg⟩⟩, hk⟩
theorem nextNone_any (F : Nat → Prop) (w : World) (b : Nat) (s : LS) (h : LexIs F w b [] s) :
    Calls Tryz.prog 111 #[.pointer (some ⟨b, 0, none⟩)] w fun e w' => e = .returned (.tuple #[.nilIface, .bool false]) ∧ w' = w := by
  cases s with
  | at_ x dn =>
    obtain ⟨hF, hlt, rawV, chV, saysV, tokV, hb, hw, hs⟩ := h
    obtain ⟨a, c, rfl⟩ := hw.1.shape
    exact next_none w b _ _ _ _ _ _ _ _ _ _ _ _ _ a c hb
  | dead pl st errV =>
    obtain ⟨hF, hlt, v2, v3, v4, v6, v7, v8, v9, va, vb, vc, tokV, hb, hw⟩ := h
    obtain ⟨a, c, rfl⟩ := hw.1.shape
    exact next_none w b _ _ _ _ _ _ _ _ _ _ _ _ _ a c hb

/-- What has begun: a frame in memory. -/
def FrameAt (F : Nat → Prop) (w : World) (v : Value) : Fr → Prop
  | .list m => ∃ fb, v = .iface 272 (.pointer (some ⟨fb, 0, none⟩)) ∧ w.heap[fb]? = some (.cells #[.int .i64 m] 274 (0, 0)) ∧ F fb
  | .object _ => False
structure PileAt (F : Nat → Prop) (w : World) (v : Value) (pile : List Fr) (vals : List Value) : Prop where
  lt : ∀ k, F k → k < w.heap.size
  win : WinIn F 281 id w v vals
  len : vals.length = pile.length
  frames : ∀ (i : Nat) (u : Value) (fr : Fr), vals[i]? = some u → pile[i]? = some fr → FrameAt F w u fr
  apart : ∀ (i j : Nat) (u : Value), vals[i]? = some u → vals[j]? = some u → i = j
theorem FrameAt.keeps {F G : Nat → Prop} {w w' : World} {v : Value} {fr : Fr} (h : FrameAt F w v fr) (hk : Keeps G w w') (hd : ∀ k, F k → ¬ G k) : FrameAt F w' v fr := by
  cases fr with
  | list m => obtain ⟨fb, h1, h2, h3⟩ := h; exact ⟨fb, h1, hk.blk h2 (hd fb h3), h3⟩
  | object k => exact h.elim
theorem FrameAt.mono {F G : Nat → Prop} {w : World} {v : Value} {fr : Fr} (h : FrameAt F w v fr) (hf : ∀ k, F k → G k) : FrameAt G w v fr := by
  cases fr with
  | list m => obtain ⟨fb, h1, h2, h3⟩ := h; exact ⟨fb, h1, h2, hf _ h3⟩
  | object k => exact h.elim
theorem PileAt.keeps {F G : Nat → Prop} {w w' : World} {v : Value} {pile : List Fr} {vals : List Value} (h : PileAt F w v pile vals) (hk : Keeps G w w') (hd : ∀ k, F k → ¬ G k) : PileAt F w' v pile vals :=
  ⟨fun k hk' => Nat.lt_of_lt_of_le (h.lt k hk') hk.size, ⟨h.win.1.keeps hk fun k e => hd k (h.win.2 k e), h.win.2⟩, h.len, fun i u fr hu hf => (h.frames i u fr hu hf).keeps hk hd, h.apart⟩

/-- The parser's parts have no block in common. -/
structure Parts (F : Nat → Prop) (p : Nat) (FL FM FP : Nat → Prop) : Prop where
  lex : ∀ k, FL k → F k
  maker : ∀ k, FM k → F k
  pile : ∀ k, FP k → F k
  self : F p ∧ ¬ FL p ∧ ¬ FM p ∧ ¬ FP p
  lm : ∀ k, FL k → ¬ FM k
  lp : ∀ k, FL k → ¬ FP k
  mp : ∀ k, FM k → ¬ FP k
section
variable {F FL FM FP : Nat → Prop} {p : Nat} {w w' : World}
theorem Parts.lexSince (h : Parts F p FL FM FP) (hp : p < w.heap.size) (hm : ∀ k, FM k → k < w.heap.size) (hf : ∀ k, FP k → k < w.heap.size) : Parts (Since F w w') p (Since FL w w') FM FP :=
  ⟨fun k hk => hk.elim (fun h' => .inl (h.lex k h')) .inr, fun k hk => .inl (h.maker k hk), fun k hk => .inl (h.pile k hk), ⟨.inl h.self.1, fun hk => hk.elim h.self.2.1 (fun h => absurd hp (Nat.not_lt.2 h.1)), h.self.2.2.1, h.self.2.2.2⟩,
   fun k hk hm' => hk.elim (fun h' => h.lm k h' hm') (fun h' => absurd (hm k hm') (Nat.not_lt.2 h'.1)), fun k hk hm' => hk.elim (fun h' => h.lp k h' hm') (fun h' => absurd (hf k hm') (Nat.not_lt.2 h'.1)), h.mp⟩
theorem Parts.makerSince (h : Parts F p FL FM FP) (hp : p < w.heap.size) (hl : ∀ k, FL k → k < w.heap.size) (hf : ∀ k, FP k → k < w.heap.size) : Parts (Since F w w') p FL (Since FM w w') FP :=
  ⟨fun k hk => .inl (h.lex k hk), fun k hk => hk.elim (fun h' => .inl (h.maker k h')) .inr, fun k hk => .inl (h.pile k hk), ⟨.inl h.self.1, h.self.2.1, fun hk => hk.elim h.self.2.2.1 (fun h => absurd hp (Nat.not_lt.2 h.1)), h.self.2.2.2⟩,
   fun k hk hm' => hm'.elim (fun h' => h.lm k hk h') (fun h' => absurd (hl k hk) (Nat.not_lt.2 h'.1)), h.lp, fun k hk hm' => hk.elim (fun h' => h.mp k h' hm') (fun h' => absurd (hf k hm') (Nat.not_lt.2 h'.1))⟩
theorem Parts.pileSince (h : Parts F p FL FM FP) (hp : p < w.heap.size) (hl : ∀ k, FL k → k < w.heap.size) (hm : ∀ k, FM k → k < w.heap.size) : Parts (Since F w w') p FL FM (Since FP w w') :=
  ⟨fun k hk => .inl (h.lex k hk), fun k hk => .inl (h.maker k hk), fun k hk => hk.elim (fun h' => .inl (h.pile k h')) .inr, ⟨.inl h.self.1, h.self.2.1, h.self.2.2.1, fun hk => hk.elim h.self.2.2.2 (fun h => absurd hp (Nat.not_lt.2 h.1))⟩,
   h.lm, fun k hk hm' => hm'.elim (fun h' => h.lp k hk h') (fun h' => absurd (hl k hk) (Nat.not_lt.2 h'.1)), fun k hk hm' => hm'.elim (fun h' => h.mp k hk h') (fun h' => absurd (hm k hk) (Nat.not_lt.2 h'.1))⟩
theorem Parts.since (h : Parts F p FL FM FP) : Parts (Since F w w') p FL FM FP :=
  ⟨fun k hk => .inl (h.lex k hk), fun k hk => .inl (h.maker k hk), fun k hk => .inl (h.pile k hk), ⟨.inl h.self.1, h.self.2⟩, h.lm, h.lp, h.mp⟩
end
def parCells (x : Ps) (lb mb : Nat) (pileV : Value) : Array Value := #[.int .i64 x.depth, .int .i64 x.place, .pointer (some ⟨lb, 0, none⟩), .pointer (some ⟨mb, 0, none⟩), pileV, .int .i64 x.want, .int .i64 x.nodes, .int .i64 x.bytes, .nilIface, .bool false]
/-- At block p lies the parser x (its lexer aside: s, with tokens that were not told). -/
def ParAt (F : Nat → Prop) (w : World) (p : Nat) (x : Ps) (s : LS) (toks : List Tok) : Prop :=
  (∀ k, F k → k < w.heap.size) ∧ ∃ FL FM FP lb mb pileV vals, Parts F p FL FM FP ∧ w.heap[p]? = some (.cells (parCells x lb mb pileV) 136 (0, 0)) ∧ LexIs FL w lb toks s ∧ MakerAt FM w mb x.items ∧ PileAt FP w pileV x.pile vals
/-- Of a parser that gave up its block alone matters. -/
def ParDead (w : World) (p : Nat) : Prop := ∃ v0 v1 v2 v3 v4 v5 v6 v7 v8 v9, w.heap[p]? = some (.cells #[v0, v1, v2, v3, v4, v5, v6, v7, v8, v9] 136 (0, 0))
theorem ParAt.dead {F : Nat → Prop} {w : World} {p : Nat} {x : Ps} {s : LS} {toks : List Tok} (h : ParAt F w p x s toks) : ParDead w p := by
  obtain ⟨_, _, _, _, _, _, _, _, _, hb, _⟩ := h
  exact ⟨_, _, _, _, _, _, _, _, _, _, hb⟩
/-- What a method of the parser leaves: it gave up, or the parser stands so. -/
def ParPost (F : Nat → Prop) (w : World) (p : Nat) (s : LS) (toks : List Tok) (o : Out) (e : Ending) (w' : World) : Prop :=
  Keeps F w w' ∧ match o with
  | .error (no, at_) => e = failE no at_ ∧ ParDead w' p
  | .ok y => e = .returned (.tuple #[]) ∧ ParAt (Since F w w') w' p y s toks
end Go.Proofs.YtakkmiomhackiaaGreatDoor

/-
  Package parse, fourth part: value, begins, weigh, put: from a parser in memory to a parser in memory.
-/
namespace Go.Proofs.YtakkmiomhackiaaGreatDoor
open Go.RowKit
set_option maxRecDepth 100000

section
variable {F FL FM FP : Nat → Prop} {w w' : World} {p lb mb : Nat} {x y : Ps} {s : LS} {toks : List Tok} {pileV : Value} {vals : List Value}
/-- The parser's own block alone has turned. -/
theorem par_self (hlt : ∀ k, F k → k < w.heap.size) (hp : Parts F p FL FM FP) (hL : LexIs FL w lb toks s) (hM : MakerAt FM w mb x.items) (hP : PileAt FP w pileV x.pile vals) (hk : Keeps (fun k => k = p) w w') (hb : w'.heap[p]? = some (.cells (parCells y lb mb pileV) 136 (0, 0)))
    (hi : y.items = x.items) (hpi : y.pile = x.pile) : Keeps F w w' ∧ ParAt (Since F w w') w' p y s toks := by
  have hkF : Keeps F w w' := hk.mono fun k e => e ▸ hp.self.1
  refine ⟨hkF, since_lt hlt hk.size, FL, FM, FP, lb, mb, pileV, vals, hp.since, hb, hL.apart hk (fun k h e => hp.self.2.1 (e ▸ h)), ?_, ?_⟩
  · rw [hi]; exact hM.apart hk (fun k h e => hp.self.2.2.1 (e ▸ h))
  · rw [hpi]; exact hP.keeps hk (fun k h e => hp.self.2.2.2 (e ▸ h))
theorem pile_shape (hP : PileAt FP w pileV x.pile vals) : ∃ a cap, pileV = .slice a x.pile.length cap := by
  obtain ⟨a, c, h⟩ := hP.win.1.shape
  exact ⟨a, c, by rw [h, hP.len]⟩
theorem ParDead.keeps {G : Nat → Prop} (h : ParDead w p) (hk : Keeps G w w') (hG : ¬ G p) : ParDead w' p := by
  obtain ⟨v0, v1, v2, v3, v4, v5, v6, v7, v8, v9, hb⟩ := h
  exact ⟨v0, v1, v2, v3, v4, v5, v6, v7, v8, v9, hk.blk hb hG⟩
end

theorem value_par (F : Nat → Prop) (w : World) (p : Nat) (x : Ps) (s : LS) (toks : List Tok) (at_ : Nat) (h : ParAt F w p x s toks) (hn : x.nodes ≤ 65536) :
    Calls Tryz.prog 117 #[.pointer (some ⟨p, 0, none⟩), .int .i64 at_] w fun e w' => Plainly e ∧ ParPost F w p s toks (x.value at_) e w' := by
  have h0 := h
  obtain ⟨hlt, FL, FM, FP, lb, mb, pileV, vals, hp, hb, hL, hM, hP⟩ := h
  obtain ⟨a, cap, rfl⟩ := pile_shape hP
  unfold Ps.value
  by_cases h1 : x.want ≠ 0 ∧ x.want ≠ 1
  · rw [if_pos h1]
    refine (value_syntax w p x.want at_ _ _ _ _ _ _ _ _ _ hb h1).mono ?_
    rintro e w' ⟨rfl, hbl⟩
    exact ⟨.inr ⟨_, _, rfl⟩, Keeps.of_below F hbl, rfl, h0.dead.keeps (Keeps.of_below (fun _ => False) hbl) id⟩
  rw [if_neg h1]
  have hw : x.want = 0 ∨ x.want = 1 := by omega
  by_cases h2 : x.pile.length = x.depth
  · rw [if_pos h2]
    have hb2 := hb
    unfold parCells at hb2
    rw [h2] at hb2
    refine (value_depth w p x.depth x.want at_ cap a _ _ _ _ _ _ _ hb2 hw).mono ?_
    rintro e w' ⟨rfl, hbl⟩
    exact ⟨.inr ⟨_, _, rfl⟩, Keeps.of_below F hbl, rfl, h0.dead.keeps (Keeps.of_below (fun _ => False) hbl) id⟩
  rw [if_neg h2]
  by_cases h3 : x.nodes = 65536
  · rw [if_pos h3]
    have hb2 := hb
    unfold parCells at hb2
    rw [h3] at hb2
    refine (value_long w p x.depth x.want at_ x.pile.length cap a _ _ _ _ _ _ hb2 hw h2).mono ?_
    rintro e w' ⟨rfl, hbl⟩
    exact ⟨.inr ⟨_, _, rfl⟩, Keeps.of_below F hbl, rfl, h0.dead.keeps (Keeps.of_below (fun _ => False) hbl) id⟩
  rw [if_neg h3]
  refine (value_ok w p x.depth x.want x.nodes at_ x.pile.length cap a _ _ _ _ _ _ hb hw h2 (by omega)).mono ?_
  rintro e w' ⟨rfl, hb2, hk⟩
  have := par_self (y := { x with nodes := x.nodes + 1 }) hlt hp hL hM hP hk hb2 rfl rfl
  exact ⟨.inl rfl, this.1, rfl, this.2⟩

theorem begins_par (F : Nat → Prop) (w : World) (p : Nat) (x : Ps) (s : LS) (toks : List Tok) (c : UInt8) (h : ParAt F w p x s toks) (hn : x.nodes ≤ 65536) (hw : x.want ≠ 2 ∧ x.want ≠ 3) :
    Calls Tryz.prog 84 #[.pointer (some ⟨p, 0, none⟩), .int .u8 ((c.toNat : Nat) : Int)] w fun e w' => Plainly e ∧ ParPost F w p s toks (x.begins c) e w' := by
  have hbg : x.begins c = x.value x.place := by
    unfold Ps.begins
    rw [if_neg (fun h => h.2.elim hw.1 hw.2)]
  rw [hbg]
  have hv := value_par F w p x s toks x.place h hn
  obtain ⟨hlt, FL, FM, FP, lb, mb, pileV, vals, hp, hb, hL, hM, hP⟩ := h
  refine begins_value w p x.place x.want _ _ _ _ _ _ _ _ c _ hb (.inr hw) (hv.mono fun e w' h => ⟨h.1, h⟩)

theorem weigh_par (F : Nat → Prop) (w : World) (p : Nat) (x : Ps) (s : LS) (toks : List Tok) (l : List UInt8) (at_ : Nat) (h : ParAt F w p x s toks) (hb0 : x.bytes ≤ 1073741824) (hl : l.length ≤ 1073741824) :
    Calls Tryz.prog 149 #[.pointer (some ⟨p, 0, none⟩), .string ⟨l.toArray⟩, .int .i64 at_] w fun e w' => Plainly e ∧ ParPost F w p s toks (x.weigh l at_) e w' := by
  obtain ⟨hlt, FL, FM, FP, lb, mb, pileV, vals, hp, hb, hL, hM, hP⟩ := h
  have hsz : (⟨l.toArray⟩ : ByteArray).size = l.length := by show l.toArray.size = _; simp
  refine (weigh_any w p x.bytes at_ ⟨l.toArray⟩ _ _ _ _ _ _ _ _ _ hb hb0 (by rw [hsz]; exact hl)).mono ?_
  rintro e w' ⟨h1, h2, hb2, hk⟩
  rw [hsz] at h1 h2 hb2
  unfold Ps.weigh
  have := par_self (y := { x with bytes := x.bytes + l.length }) hlt hp hL hM hP hk hb2 rfl rfl
  by_cases hf : 2097152 < x.bytes + l.length
  · rw [if_pos hf]
    exact ⟨.inr ⟨_, _, h2 hf⟩, this.1, h2 hf, this.2.dead⟩
  · rw [if_neg hf]
    exact ⟨.inl (h1 (by omega)), this.1, h1 (by omega), this.2⟩

theorem getLast_cases (l : List Fr) : l = [] ∨ ∃ i fr, l = i ++ [fr] := by
  rcases List.eq_nil_or_concat l with h | ⟨i, fr, h⟩
  · exact .inl h
  · exact .inr ⟨i, fr, by simpa using h⟩

theorem put_par (F : Nat → Prop) (w : World) (p : Nat) (x : Ps) (s : LS) (toks : List Tok) (h : ParAt F w p x s toks) (hm : ∀ m, Fr.list m ∈ x.pile → m ≤ 1073741824) (hl : x.pile.length ≤ 1048576) :
    Calls Tryz.prog 151 #[.pointer (some ⟨p, 0, none⟩)] w fun e w' => e = .returned (.tuple #[]) ∧ Keeps F w w' ∧ ParAt (Since F w w') w' p x.put s toks := by
  obtain ⟨hlt, FL, FM, FP, lb, mb, pileV, vals, hp, hb, hL, hM, hP⟩ := h
  rcases getLast_cases x.pile with hnil | ⟨ini, fr, hpile⟩
  · obtain ⟨a, cap, rfl⟩ := pile_shape hP
    have hb2 := hb
    unfold parCells at hb2
    rw [hnil, List.length_nil] at hb2
    refine (put_empty w p cap a _ _ _ _ _ _ _ _ _ hb2).mono ?_
    rintro e w' ⟨rfl, hb3, hk⟩
    have hput : x.put = { x with want := 6 } := by
      have hmo : more x.pile = x.pile := by rw [hnil]; rfl
      unfold Ps.put; rw [if_pos hnil, hmo]
    rw [hput]
    have := par_self (y := { x with want := 6 }) hlt hp hL hM hP hk (by rw [hnil, List.length_nil]; exact hb3) rfl rfl
    exact ⟨rfl, this.1, this.2⟩
  · have hlen : vals.length = ini.length + 1 := by rw [hP.len, hpile]; simp
    have hfr := hP.frames ini.length (vals[ini.length]'(by omega)) fr (List.getElem?_eq_getElem (by omega)) (by rw [hpile]; simp)
    cases fr with
    | object k => exact hfr.elim
    | list m =>
      obtain ⟨fb, hv, hfb, hFb⟩ := hfr
      obtain ⟨a, cap, hpv⟩ := pile_shape hP
      rw [hpile, List.length_append, List.length_cons, List.length_nil, Nat.zero_add] at hpv
      subst hpv
      have hwin := hP.win.1
      obtain ⟨g, off, hga⟩ : ∃ g off, a = some ⟨g, off, none⟩ := by
        rcases hwin with ⟨hv, _⟩ | ⟨g, off, cap', cur, hv, _⟩
        · cases hv
        · injection hv with h1 _ _; exact ⟨g, off, h1⟩
      subst hga
      have hcell : w.cell? ⟨g, off + ini.length, none⟩ = some (.iface 272 (.pointer (some ⟨fb, 0, none⟩))) := by
        have := hwin.cell (i := ini.length) (x := vals[ini.length]'(by omega)) (List.getElem?_eq_getElem (by omega))
        rw [this]; exact congrArg some hv
      have hgp : g ≠ p := fun e => hp.self.2.2.2 (e ▸ hP.win.2 g rfl)
      have hm1 : m ≤ 1073741824 := hm m (by rw [hpile]; simp)
      have hput : x.put = { x with want := 5, pile := ini ++ [.list (m + 1)] } := by
        unfold Ps.put
        rw [if_neg (by rw [hpile]; simp), hpile]
        simp [more]
      rw [hput]
      refine (put_list w p g off ini.length cap fb m _ _ _ _ _ _ _ _ _ hb hcell hgp hfb (by rw [hpile] at hl; simp at hl; omega) hm1).mono ?_
      rintro e w' ⟨rfl, hb2, hfb2, hk⟩
      have hkF : Keeps F w w' := hk.mono fun k e => e.elim (fun e => e ▸ hp.self.1) (fun e => e ▸ hp.pile fb hFb)
      have hd : ∀ (Q : Nat → Prop), ¬ Q p → ¬ Q fb → ∀ k, Q k → ¬ (k = p ∨ k = fb) := fun Q h1 h2 k hk e => e.elim (fun e => h1 (e ▸ hk)) (fun e => h2 (e ▸ hk))
      refine ⟨rfl, hkF, since_lt hlt hkF.size, FL, FM, FP, lb, mb, _, vals, hp.since, hb2, hL.apart hk (hd FL hp.self.2.1 (fun h => hp.lp fb h hFb)), hM.apart hk (hd FM hp.self.2.2.1 (fun h => hp.mp fb h hFb)), ?_⟩
      refine ⟨fun k hk' => Nat.lt_of_lt_of_le (hP.lt k hk') hk.size, ⟨hwin.keeps hk ?_, hP.win.2⟩, by simp [hlen], ?_, hP.apart⟩
      · intro k hk2 hk3
        rcases hk3 with e | e
        · exact hp.self.2.2.2 (e ▸ hP.win.2 k hk2)
        · subst e; exact hwin.ne hfb (by decide) hk2
      · intro i u fr hu hf
        by_cases hi : i < ini.length
        · rw [List.getElem?_append_left hi] at hf
          have hf0 : x.pile[i]? = some fr := by rw [hpile, List.getElem?_append_left hi]; exact hf
          have hfa := hP.frames i u fr hu hf0
          cases fr with
          | object k => exact hfa.elim
          | list m' =>
            obtain ⟨fb', h1, h2, h3⟩ := hfa
            refine ⟨fb', h1, hk.blk h2 ?_, h3⟩
            rintro (e | e)
            · exact hp.self.2.2.2 (e ▸ h3)
            · have : vals[ini.length]? = some u := by rw [List.getElem?_eq_getElem (by omega), hv, h1, e]
              have := hP.apart i ini.length u hu this
              omega
        · have hi2 : i = ini.length := by
            have := (List.getElem?_eq_some_iff.1 hu).1
            omega
          subst hi2
          rw [List.getElem?_append_right (by omega)] at hf
          simp at hf
          subst hf
          have hue : u = .iface 272 (.pointer (some ⟨fb, 0, none⟩)) := by
            rw [List.getElem?_eq_getElem (by omega)] at hu
            exact (Option.some.inj hu).symm.trans hv
          exact ⟨fb, hue, hfb2, hFb⟩
end Go.Proofs.YtakkmiomhackiaaGreatDoor

/-
  Package parse, fifth part: scalar (a number), text (a value), mark (a list begins).
-/
namespace Go.Proofs.YtakkmiomhackiaaGreatDoor
open Go.RowKit
set_option maxRecDepth 100000

/-- What is known of the pile ahead of a token. -/
structure PileOk (x : Ps) (n : Nat) : Prop where
  many : ∀ m, Fr.list m ∈ x.pile → m ≤ n
  len : x.pile.length ≤ 1048576
section
variable {F FL FM FP : Nat → Prop} {w w' : World} {p lb mb : Nat} {x y : Ps} {s : LS} {toks : List Tok} {pileV : Value} {vals : List Value}
/-- The maker alone has turned. -/
theorem par_maker (hlt : ∀ k, F k → k < w.heap.size) (hp : Parts F p FL FM FP) (hb : w.heap[p]? = some (.cells (parCells x lb mb pileV) 136 (0, 0))) (hL : LexIs FL w lb toks s) (hP : PileAt FP w pileV x.pile vals) (hk : Keeps FM w w') (hml : ∀ k, FM k → k < w.heap.size) {items : List Tr} (hM' : MakerAt (Since FM w w') w' mb items) :
    Keeps F w w' ∧ ParAt (Since F w w') w' p { x with items := items } s toks :=
  ⟨hk.mono hp.maker, since_lt hlt hk.size, FL, Since FM w w', FP, lb, mb, pileV, vals, hp.makerSince (hlt p hp.self.1) hL.lt hP.lt, hk.blk hb hp.self.2.2.1, hL.apart hk hp.lm, hM', hP.keeps hk fun k h e => hp.mp k e h⟩
end
theorem ParAt.mono_since {F : Nat → Prop} {w w1 w2 : World} {p : Nat} {x : Ps} {s : LS} {toks : List Tok} (h : ParAt (Since (Since F w w1) w1 w2) w2 p x s toks) (h1 : w.heap.size ≤ w1.heap.size) (h2 : w1.heap.size ≤ w2.heap.size) (hlt : ∀ k, F k → k < w.heap.size) : ParAt (Since F w w2) w2 p x s toks := by
  obtain ⟨_, FL, FM, FP, lb, mb, pileV, vals, hp, hb, hL, hM, hP⟩ := h
  have hs : ∀ k, Since (Since F w w1) w1 w2 k → Since F w w2 k := fun k hk => hk.trans h1 h2
  exact ⟨since_lt hlt (Nat.le_trans h1 h2), FL, FM, FP, lb, mb, pileV, vals, ⟨fun k h => hs k (hp.lex k h), fun k h => hs k (hp.maker k h), fun k h => hs k (hp.pile k h), ⟨hs p hp.self.1, hp.self.2⟩, hp.lm, hp.lp, hp.mp⟩, hb, hL, hM, hP⟩

set_option maxHeartbeats 2000000 in
theorem scalar_num (F : Nat → Prop) (w : World) (p : Nat) (x : Ps) (s : LS) (toks : List Tok) (b : Nat) (hbf : Finite b) (h : ParAt F w p x s toks) (hpo : PileOk x 1073741824) (hit : x.items.length ≤ 1048576) :
    Calls Tryz.prog 114 #[.pointer (some ⟨p, 0, none⟩), .iface 107 (.float .f64 b)] w fun e w' => e = .returned (.tuple #[]) ∧ Keeps F w w' ∧ ParAt (Since F w w') w' p (Ps.put { x with items := putNum x.items b }) s toks := by
  have ht1 : ∀ w : World, (Instr.typeAssert (.iface 107 (.float .f64 b)) 39 102 true).run Tryz.prog w = .ok (.tuple #[.agg #[], .bool false]) w := fun _ => by kernel_rfl
  have ht2 : ∀ w : World, (Instr.typeAssert (.iface 107 (.float .f64 b)) 39 104 true).run Tryz.prog w = .ok (.tuple #[.bool false, .bool false]) w := fun _ => by kernel_rfl
  have ht3 : ∀ w : World, (Instr.typeAssert (.iface 107 (.float .f64 b)) 39 107 true).run Tryz.prog w = .ok (.tuple #[.float .f64 b, .bool true]) w := fun _ => by kernel_rfl
  obtain ⟨hlt, FL, FM, FP, lb, mb, pileV, vals, hp, hb, hL, hM, hP⟩ := h
  obtain ⟨c0, c1, c2, c3, c4, c5, c6, c7, c8, c9, cf⟩ := cells10 hb
  have HM := Lib.hid ((maker_num FM w mb x.items b hbf hM hit).mono (R' := fun e w1 => (∃ v, e = .returned v) ∧ Keeps F w w1 ∧ ParAt (Since F w w1) w1 p { x with items := putNum x.items b } s toks) fun e w1 ⟨he, hk, hm⟩ => ⟨he, par_maker hlt hp hb hL hP hk hM.2.1 hm⟩)
  have HPUT := Lib.hid (fun w1 (h : ParAt (Since F w w1) w1 p { x with items := putNum x.items b } s toks) => put_par (Since F w w1) w1 p _ s toks h hpo.many hpo.len)
  have HLT := Lib.hid hlt
  clear hlt hp hb hL hM hP
  go_enter Tryz.func114, Tryz.ntmps114
  go_wp2_with fail
  refine (HM.out).mono ?_
  rintro e w1 ⟨⟨v, rfl⟩, hk1, hp1⟩
  have HK1 := Lib.hid hk1
  have HPP := Lib.hid (HPUT.out w1 hp1)
  clear hk1 hp1 c0 c1 c2 c3 c4 c5 c6 c7 c8 c9 cf
  go_wp2_with fail
  refine (HPP.out).mono ?_
  rintro e w2 ⟨rfl, hk2, hp2⟩
  have HK2 := Lib.hid hk2
  have HP2 := Lib.hid hp2
  clear hk2 hp2
  go_wp2_with fail
  go_end0
  exact ⟨rfl, HK1.out.andThen HK2.out, HP2.out.mono_since HK1.out.size HK2.out.size HLT.out⟩

theorem ParAt.apart {F G : Nat → Prop} {w w' : World} {p : Nat} {x : Ps} {s : LS} {toks : List Tok} (h : ParAt F w p x s toks) (hk : Keeps G w w') (hd : ∀ k, F k → ¬ G k) : ParAt F w' p x s toks := by
  obtain ⟨hlt, FL, FM, FP, lb, mb, pileV, vals, hp, hb, hL, hM, hP⟩ := h
  exact ⟨fun k hk' => Nat.lt_of_lt_of_le (hlt k hk') hk.size, FL, FM, FP, lb, mb, pileV, vals, hp, hk.blk hb (hd p hp.self.1), hL.apart hk (fun k h => hd k (hp.lex k h)), hM.apart hk (fun k h => hd k (hp.maker k h)), hP.keeps hk (fun k h => hd k (hp.pile k h))⟩
theorem ParAt.mono {F G : Nat → Prop} {w : World} {p : Nat} {x : Ps} {s : LS} {toks : List Tok} (h : ParAt F w p x s toks) (hs : ∀ k, F k → G k) (hlt : ∀ k, G k → k < w.heap.size) : ParAt G w p x s toks := by
  obtain ⟨_, FL, FM, FP, lb, mb, pileV, vals, hp, hb, hL, hM, hP⟩ := h
  exact ⟨hlt, FL, FM, FP, lb, mb, pileV, vals, ⟨fun k h => hs k (hp.lex k h), fun k h => hs k (hp.maker k h), fun k h => hs k (hp.pile k h), ⟨hs p hp.self.1, hp.self.2⟩, hp.lm, hp.lp, hp.mp⟩, hb, hL, hM, hP⟩
theorem ParAt.lt {F : Nat → Prop} {w : World} {p : Nat} {x : Ps} {s : LS} {toks : List Tok} (h : ParAt F w p x s toks) : ∀ k, F k → k < w.heap.size := h.1
theorem ParAt.self {F : Nat → Prop} {w : World} {p : Nat} {x : Ps} {s : LS} {toks : List Tok} (h : ParAt F w p x s toks) : F p := by
  obtain ⟨_, _, _, _, _, _, _, _, hp, _⟩ := h
  exact hp.self.1

set_option maxHeartbeats 4000000 in
theorem text_value (F : Nat → Prop) (w : World) (p : Nat) (x : Ps) (s : LS) (toks : List Tok) (at_ size : Nat) (l : List UInt8) (hr : rightOf l = true) (hl : l.length ≤ 1073741824) (h : ParAt F w p x s toks) (hpo : PileOk x 1073741824) (hit : x.items.length ≤ 1048576) (hby : x.bytes ≤ 1073741824) (hw : x.want ≠ 2 ∧ x.want ≠ 3) :
    Calls Tryz.prog 113 #[.pointer (some ⟨p, 0, none⟩), .agg #[.int .i64 at_, .int .i64 size, .string ⟨l.toArray⟩]] w fun e w' => Plainly e ∧ ParPost F w p s toks (x.text at_ l) e w' := by
  have htx : x.text at_ l = (x.weigh l at_).map fun p => Ps.put { p with items := putText p.items l } := by unfold Ps.text; rw [if_pos hw]
  rw [htx]
  have hal : Keeps (fun _ => False) w (w.alloc (.cells #[.int .i64 at_, .int .i64 size, .string ⟨l.toArray⟩] 241)) := (Keeps.refl _ w).alloc _
  have hlt := h.lt
  have hself := h.self
  have h1 := h.apart hal (fun _ _ => id)
  have e2 : ((x.want : Int) != 2) = true := by simp; omega
  have e3 : ((x.want : Int) != 3) = true := by simp; omega
  have HWG := Lib.hid (weigh_par F _ p x s toks l at_ h1 hby hl)
  have HKA := Lib.hid hal
  have HLT := Lib.hid hlt
  have hB : ¬ F w.heap.size := fun hf => absurd (hlt _ hf) (Nat.lt_irrefl _)
  have hc5 : (w.alloc (.cells #[.int .i64 at_, .int .i64 size, .string ⟨l.toArray⟩] 241)).cell? ⟨p, 5, none⟩ = some (.int .i64 x.want) := by
    obtain ⟨_, FL, FM, FP, lb, mb, pileV, vals, hp, hb, hL, hM, hP⟩ := h1
    rw [cell_at hb]; rfl
  have hf5 : ∀ o, (w.alloc (.cells #[.int .i64 at_, .int .i64 size, .string ⟨l.toArray⟩] 241)).frozen? ⟨p, o, none⟩ = false := by
    obtain ⟨_, FL, FM, FP, lb, mb, pileV, vals, hp, hb, hL, hM, hP⟩ := h1
    exact free_at hb
  have hnew := heap_alloc_new w (.cells #[.int .i64 at_, .int .i64 size, .string ⟨l.toArray⟩] 241)
  have HB := Lib.hid hB
  have HNEW := Lib.hid hnew
  have b0 : (w.alloc (.cells #[.int .i64 at_, .int .i64 size, .string ⟨l.toArray⟩] 241)).cell? ⟨w.heap.size, 0, none⟩ = some (.int .i64 at_) := cell_at hnew
  have b2 : (w.alloc (.cells #[.int .i64 at_, .int .i64 size, .string ⟨l.toArray⟩] 241)).cell? ⟨w.heap.size, 2, none⟩ = some (.string ⟨l.toArray⟩) := cell_at hnew
  have HR := Lib.hid hr
  have HLL := Lib.hid hl
  have HPO := Lib.hid hpo
  have HIT := Lib.hid hit
  have HW := Lib.hid hw
  have HSF := Lib.hid hself
  have HH := Lib.hid h
  obtain ⟨sv, hsv⟩ : ∃ sv : ByteArray, (⟨l.toArray⟩ : ByteArray) = sv := ⟨_, rfl⟩
  rw [hsv] at HWG HKA hc5 hf5 HNEW b0 b2 ⊢
  have HSV := Lib.hid hsv
  by_cases hbig : 2097152 < x.bytes + l.length
  · have hwv : x.weigh l at_ = .error (3, at_) := by unfold Ps.weigh; rw [if_pos hbig]
    rw [hwv] at HWG ⊢
    clear htx hal h h1 hw hlt hB hnew hr hl hpo hit hby hself hsv hwv hbig
    go_enter Tryz.func113, Tryz.ntmps113
    go_wp2_with fail
    refine (HWG.out).mono ?_
    rintro e w2 ⟨hpl, hk2, hpost⟩
    obtain ⟨he, hdead⟩ := hpost
    have HK := Lib.hid ((HKA.out.mono (G := F) (fun _ h => h.elim)).same hk2)
    have HD := Lib.hid hdead
    clear hpl hk2 hdead
    have HE := Lib.hid he
    unfold failE at he
    subst he
    go_wp2_with fail
    exact ⟨rfl, .inr ⟨_, _, rfl⟩, HK.out, rfl, HD.out⟩
  · have hwv : x.weigh l at_ = .ok { x with bytes := x.bytes + l.length } := by unfold Ps.weigh; rw [if_neg hbig]
    rw [hwv] at HWG ⊢
    have HBIG := Lib.hid hbig
    clear htx hal h h1 hw hlt hB hnew hr hl hpo hit hby hself hsv hwv hbig
    go_enter Tryz.func113, Tryz.ntmps113
    go_wp2_with fail
    refine (HWG.out).mono ?_
    rintro e w2 ⟨hpl, hk2, hpost⟩
    obtain ⟨he, hpar⟩ := hpost
    subst he
    have hkk : Keeps F w w2 := (HKA.out.mono (G := F) (fun _ h => h.elim)).same hk2
    have hnew2 := hk2.blk HNEW.out HB.out
    obtain ⟨hlt2, FL, FM, FP, lb, mb, pileV, vals, hp, hb, hL, hM, hP⟩ := hpar
    obtain ⟨d0, d1, d2, d3, d4, d5, d6, d7, d8, d9, df⟩ := cells10 hb
    have x0 : w2.cell? ⟨w.heap.size, 0, none⟩ = some (.int .i64 at_) := cell_at hnew2
    have x2 : w2.cell? ⟨w.heap.size, 2, none⟩ = some (.string sv) := cell_at hnew2
    have hmt := maker_text FM w2.drew mb x.items l HR.out (by have := HBIG.out; omega) (hM.apart ((Keeps.refl (fun _ => False) w2).drew) (fun _ _ => id)) HIT.out
    rw [HSV.out] at hmt
    have hlt3 : ∀ k, Since F w w2 k → k < w2.heap.size := since_lt HLT.out hkk.size
    have hsub : ∀ k, Since F (w.alloc (.cells #[.int .i64 at_, .int .i64 size, .string sv] 241)) w2 k → Since F w w2 k := fun k h => h.elim .inl (fun h => .inr ⟨Nat.le_trans (by simp) h.1, h.2⟩)
    have hp' : Parts (Since F w w2) p FL FM FP := ⟨fun k h => hsub k (hp.lex k h), fun k h => hsub k (hp.maker k h), fun k h => hsub k (hp.pile k h), ⟨.inl HSF.out, hp.self.2⟩, hp.lm, hp.lp, hp.mp⟩
    have HMT := Lib.hid (hmt.mono (R' := fun e w3 => (∃ v, e = .returned v) ∧ Keeps (Since F w w2) w2 w3 ∧ ParAt (Since (Since F w w2) w2 w3) w3 p { x with bytes := x.bytes + l.length, items := putText x.items l } s toks) fun e w3 ⟨he, hk3, hm3⟩ => by
      have hk3' : Keeps FM w2 w3 := ⟨hk3.os, hk3.tape, hk3.output, hk3.size, hk3.block⟩
      have := par_maker (x := { x with bytes := x.bytes + l.length }) hlt3 hp' hb hL hP hk3' hM.2.1 hm3
      exact ⟨he, this⟩)
    have HPUT := Lib.hid (fun w3 (h : ParAt (Since (Since F w w2) w2 w3) w3 p { x with bytes := x.bytes + l.length, items := putText x.items l } s toks) => put_par _ w3 p _ s toks h HPO.out.many HPO.out.len)
    have HKK := Lib.hid hkk
    clear hpl hk2 hkk hnew2 hlt2 hp hb hL hM hP hmt hlt3 hsub hp' b0 b2 hc5 hf5
    go_wp2_with fail
    go_region_with (go_at_call 150; refine (HMT.out).mono ?_; rintro e w3 ⟨⟨v, rfl⟩, hk3, hp3⟩)
    all_goals
      have HK3 := Lib.hid hk3
      have HPP := Lib.hid (HPUT.out w3 hp3)
      clear hk3 hp3
      go_wp2_with fail
      refine (HPP.out).mono ?_
      rintro e w4 ⟨rfl, hk4, hp4⟩
      have HK4 := Lib.hid hk4
      have HP4 := Lib.hid hp4
      clear hk4 hp4
      go_wp2_with fail
      refine bodyPost_ret (results_none rfl _ _ _) rfl ?_
      have hkA := HKK.out.andThen HK3.out
      have hsub3 : ∀ k, Since (Since F w w2) w2 w3 k → Since F w w3 k := fun k h => h.trans HKK.out.size HK3.out.size
      have hk4 : Keeps F w w4 := hkA.andThen (HK4.out.mono hsub3)
      exact ⟨.inl rfl, hk4, rfl, HP4.out.mono (fun k h => Since.trans (F := F) (w := w) (w1 := w3) (w2 := w4) (h.elim (fun h => .inl (hsub3 k h)) .inr) hkA.size HK4.out.size) (since_lt HLT.out hk4.size)⟩
end Go.Proofs.YtakkmiomhackiaaGreatDoor

/-
  Package parse, sixth part: mark, where a list begins.
-/
namespace Go.Proofs.YtakkmiomhackiaaGreatDoor
open Go.RowKit
set_option maxRecDepth 100000

theorem elemFrame : Elem 133 281 16 := ⟨Tryz.underlying133, by
  have h : (Tryz.prog.info? 281).map (fun i => (i.zero, i.size, i.bytes)) = some (some .nilIface, 1, 16) := by kernel_rfl
  obtain ⟨i, h1, h2, h3, h4⟩ := info_parts h
  exact ⟨i, _, h1, h2, h3, h4, rfl⟩⟩

set_option maxHeartbeats 4000000 in
theorem mark_open (F : Nat → Prop) (w : World) (p : Nat) (x : Ps) (s : LS) (toks : List Tok) (at_ : Nat) (h : ParAt F w p x s toks) (hno : x.nodes ≤ 65536) (hpl : x.pile.length ≤ 1048576) :
    Calls Tryz.prog 112 #[.pointer (some ⟨p, 0, none⟩), .agg #[.int .i64 at_, .int .i64 1, .int .u8 91]] w fun e w' => Plainly e ∧ ParPost F w p s toks ((x.value at_).map fun p => { p with pile := p.pile ++ [.list 0], want := 1 }) e w' := by
  have hal : Keeps (fun _ => False) w (w.alloc (.cells #[.int .i64 at_, .int .i64 1, .int .u8 91] 238)) := (Keeps.refl _ w).alloc _
  have hlt := h.lt
  have hself := h.self
  have h1 := h.apart hal (fun _ _ => id)
  have HV := Lib.hid (value_par F _ p x s toks at_ h1 hno)
  have HKA := Lib.hid hal
  have HLT := Lib.hid hlt
  have hnew := heap_alloc_new w (.cells #[.int .i64 at_, .int .i64 1, .int .u8 91] 238)
  have b0 : (w.alloc (.cells #[.int .i64 at_, .int .i64 1, .int .u8 91] 238)).cell? ⟨w.heap.size, 0, none⟩ = some (.int .i64 at_) := cell_at hnew
  have b2 : (w.alloc (.cells #[.int .i64 at_, .int .i64 1, .int .u8 91] 238)).cell? ⟨w.heap.size, 2, none⟩ = some (.int .u8 91) := cell_at hnew
  have HSF := Lib.hid hself
  cases hvo : x.value at_ with
  | error er =>
    obtain ⟨no, a2⟩ := er
    rw [hvo] at HV
    clear hal h h1 hlt hnew hself hvo hno hpl
    go_enter Tryz.func112, Tryz.ntmps112
    go_wp2_with fail
    refine (HV.out).mono ?_
    rintro e w2 ⟨hpl, hk2, he, hdead⟩
    have HK := Lib.hid ((HKA.out.mono (G := F) (fun _ h => h.elim)).same hk2)
    have HD := Lib.hid hdead
    clear hpl hk2 hdead
    have HE := Lib.hid he
    unfold failE at he
    subst he
    go_wp2_with fail
    exact ⟨rfl, .inr ⟨_, _, rfl⟩, HK.out, rfl, HD.out⟩
  | ok y =>
    have hyp : y.pile = x.pile := by
      unfold Ps.value at hvo
      split at hvo
      · cases hvo
      · split at hvo
        · cases hvo
        · split at hvo
          · cases hvo
          · cases hvo; rfl
    rw [hvo] at HV
    have HYP := Lib.hid hyp
    have HPL := Lib.hid hpl
    clear hal h h1 hlt hnew hself hvo hno hyp hpl
    go_enter Tryz.func112, Tryz.ntmps112
    go_wp2_with fail
    refine (HV.out).mono ?_
    rintro e w2 ⟨hpl, hk2, he, hpar⟩
    subst he
    have hkk : Keeps F w w2 := (HKA.out.mono (G := F) (fun _ h => h.elim)).same hk2
    obtain ⟨hlt2, FL, FM, FP, lb, mb, pileV, vals, hp, hb, hL, hM, hP⟩ := hpar
    obtain ⟨d0, d1, d2, d3, d4, d5, d6, d7, d8, d9, df⟩ := cells10 hb
    have hkx : Keeps (fun _ => False) w2 ((w2.alloc (.cells #[.int .i64 0] 274)).alloc (.cells #[.iface 272 (.pointer (some ⟨w2.heap.size, 0, none⟩))] 281)) := ((Keeps.refl _ w2).alloc _).alloc _
    have hw0 := hP.win.1.keeps hkx (fun _ _ => id)
    have HWIN := Lib.hid hw0
    have HB := Lib.hid hb
    have HNE := Lib.hid (hP.win.1.ne hb (by decide))
    have hpl2 : p < w2.heap.size := lt_of_block hb
    have hfb : ((w2.alloc (.cells #[.int .i64 0] 274)).alloc (.cells #[.iface 272 (.pointer (some ⟨w2.heap.size, 0, none⟩))] 281)).heap[w2.heap.size]? = some (.cells #[.int .i64 0] 274 (0, 0)) :=
      (Below.heap_alloc _ _ _ (by simp)).trans (heap_alloc_new w2 _)
    have HFB := Lib.hid hfb
    have HFBN := Lib.hid (hw0.ne hfb (by decide))
    have hvl : vals.length ≤ 1048576 := by rw [hP.len, HYP.out]; exact HPL.out
    have HKK := Lib.hid hkk
    have HHP := Lib.hid hp
    have HHL := Lib.hid hL
    have HHM := Lib.hid hM
    have HHPL := Lib.hid hP
    have HKX := Lib.hid hkx
    have hsub : ∀ k, Since F (w.alloc (.cells #[.int .i64 at_, .int .i64 1, .int .u8 91] 238)) w2 k → Since F w w2 k := fun k h => h.elim .inl (fun h => .inr ⟨Nat.le_trans (by simp) h.1, h.2⟩)
    have HSUB := Lib.hid hsub
    obtain ⟨ta, tc, htv⟩ := hP.win.1.shape
    clear hpl hk2 hkk hlt2 hp hb hL hM hP hw0 hfb hkx hsub b0 b2
    subst htv
    go_wp2_with (at_builtin; refine append_win elemFrame rfl _ _ rfl rfl HWIN.out ⟨w2.heap.size + 1, 0, none⟩ 1 (.iface 272 (.pointer (some ⟨w2.heap.size, 0, none⟩))) rfl ?_ rfl ?_ ?_ ?_)
    · exact cell_new (by simp)
    · omega
    · unfold maxLen; omega
    intro g off cap w' hrow hgb0 hgr
    have hb' := (hgr.block p (by simp; omega) (fun e => HNE.out e.symm)).trans ((HKX.out.block p hpl2 id).trans HB.out)
    have hf' := (hgr.block w2.heap.size (by simp; omega) (fun e => HFBN.out e.symm)).trans HFB.out
    obtain ⟨e0, e1, e2, e3, e4, e5, e6, e7, e8, e9, ef⟩ := cells10 hb'
    have HB3 := Lib.hid hb'
    have HF3 := Lib.hid hf'
    have HROW := Lib.hid hrow
    have HGB := Lib.hid hgb0
    have HK := Lib.hid ((HKX.out.mono (G := fun k => (Value.slice ta vals.length tc).ownBlock = some k) (fun _ h => h.elim)).grown hgr (fun k e => .inl e))
    clear hb' hf' hrow hgb0 hgr d0 d1 d2 d3 d4 d5 d6 d7 d8 d9 df
    go_wp2_with fail
    go_end0
    have hks : Keeps (fun k => k = p) w' ((w'.setCell ⟨p, 4, none⟩ (.slice (some ⟨g, off, none⟩) (vals.length + 1) cap)).setCell ⟨p, 5, none⟩ (.int .i64 1)) := ((Keeps.refl (fun k => k = p) w').setCell (p := ⟨p, 4, none⟩) (.inl rfl) _).setCell (p := ⟨p, 5, none⟩) (.inl rfl) _
    have hall : Keeps (fun k => k = p ∨ (Value.slice ta vals.length tc).ownBlock = some k) w2 ((w'.setCell ⟨p, 4, none⟩ (.slice (some ⟨g, off, none⟩) (vals.length + 1) cap)).setCell ⟨p, 5, none⟩ (.int .i64 1)) := (HK.out.mono (fun k h => .inr h)).same (hks.mono (fun k h => .inl h))
    have hown := HHPL.out.win.2
    have hallF : Keeps F w ((w'.setCell ⟨p, 4, none⟩ (.slice (some ⟨g, off, none⟩) (vals.length + 1) cap)).setCell ⟨p, 5, none⟩ (.int .i64 1)) := HKK.out.andThen (hall.mono (fun k h => h.elim (fun e => e ▸ .inl HSF.out) (fun e => HSUB.out k (HHP.out.pile k (hown k e)))))
    have hbp := set_at (o := 5) (set_at (o := 4) HB3.out (.slice (some ⟨g, off, none⟩) (vals.length + 1) cap)) (.int .i64 1)
    obtain ⟨wf, hwf⟩ : ∃ wf, ((w'.setCell ⟨p, 4, none⟩ (.slice (some ⟨g, off, none⟩) (vals.length + 1) cap)).setCell ⟨p, 5, none⟩ (.int .i64 1)) = wf := ⟨_, rfl⟩
    rw [hwf] at hks hall hallF hbp ⊢
    have hgp : g ≠ p := by
      intro e
      rcases HGB.out with h | h
      · exact HHP.out.self.2.2.2 (e ▸ hown g h)
      · have h4 := h.1
        try rw [World.size_alloc, World.size_alloc] at h4
        omega
    have hdisj : ∀ (Q : Nat → Prop), ¬ Q p → (∀ k, Q k → ¬ FP k) → ∀ k, Q k → ¬ (k = p ∨ (Value.slice ta vals.length tc).ownBlock = some k) := fun Q h1 h2 k hk h => h.elim (fun e => h1 (e ▸ hk)) (fun e => h2 k hk (hown k e))
    refine ⟨.inl rfl, hallF, rfl, since_lt HLT.out hallF.size, FL, FM, Since FP w2 wf, lb, mb, _, vals ++ [.iface 272 (.pointer (some ⟨w2.heap.size, 0, none⟩))], ?_, hbp, HHL.out.apart hall (hdisj FL HHP.out.self.2.1 (fun k h => HHP.out.lp k h)), HHM.out.apart hall (hdisj FM HHP.out.self.2.2.1 (fun k h => HHP.out.mp k h)), ?_⟩
    · have hps := HHP.out.pileSince (w := w2) (w' := wf) hpl2 HHL.out.lt HHM.out.2.1
      have hs2 : ∀ k, Since (Since F (w.alloc (.cells #[.int .i64 at_, .int .i64 1, .int .u8 91] 238)) w2) w2 wf k → Since F w wf k :=
        fun k h => Since.trans (w1 := w2) (h.elim (fun h => .inl (HSUB.out k h)) .inr) HKK.out.size hall.size
      exact ⟨fun k h => hs2 k (hps.lex k h), fun k h => hs2 k (hps.maker k h), fun k h => hs2 k (hps.pile k h), ⟨.inl HSF.out, hps.self.2⟩, hps.lm, hps.lp, hps.mp⟩
    · have hlen := HHPL.out.len
      refine ⟨since_lt HHPL.out.lt hall.size, ⟨?_, ?_⟩, by simp [hlen], ?_, ?_⟩
      · have := HROW.out.keeps hks (fun k e hk => hgp (by cases e; exact hk))
        simpa using this
      · intro k hk3
        cases hk3
        exact HGB.out.elim (fun e => .inl (hown _ e)) (fun h => .inr ⟨by have h4 := h.1; show w2.heap.size ≤ g; first | omega | (rw [World.size_alloc, World.size_alloc] at h4; omega), Nat.lt_of_lt_of_le h.2 hks.size⟩)
      · intro i u fr hu hf
        by_cases hi : i < vals.length
        · rw [List.getElem?_append_left hi] at hu
          rw [List.getElem?_append_left (by omega)] at hf
          have hfa := HHPL.out.frames i u fr hu hf
          cases fr with
          | object k => exact hfa.elim
          | list m =>
            obtain ⟨fb, h1, h2, h3⟩ := hfa
            exact ⟨fb, h1, hall.blk h2 (fun e => e.elim (fun e => HHP.out.self.2.2.2 (e ▸ h3)) (fun e => HHPL.out.win.1.ne h2 (by decide) e)), .inl h3⟩
        · have hi2 : i - vals.length = 0 := by
            have := (List.getElem?_eq_some_iff.1 hu).1
            simp at this; omega
          rw [List.getElem?_append_right (by omega), hi2] at hu
          rw [List.getElem?_append_right (by omega), show i - y.pile.length = 0 by omega] at hf
          simp at hu hf
          subst hu; subst hf
          exact ⟨w2.heap.size, rfl, hks.blk HF3.out (fun e => by omega), .inr ⟨Nat.le_refl _, Nat.lt_of_lt_of_le (lt_of_block HF3.out) hks.size⟩⟩
      · have hold : ∀ i, i < vals.length → (vals ++ [Value.iface 272 (.pointer (some ⟨w2.heap.size, 0, none⟩))])[i]? = some (.iface 272 (.pointer (some ⟨w2.heap.size, 0, none⟩))) → False := by
          intro i hi hu
          rw [List.getElem?_append_left hi] at hu
          obtain ⟨fr, hf⟩ : ∃ fr, y.pile[i]? = some fr := ⟨_, List.getElem?_eq_getElem (by omega)⟩
          have hfa := HHPL.out.frames i _ fr hu hf
          cases fr with
          | object k => exact hfa.elim
          | list m =>
            obtain ⟨fb, h1, h2, h3⟩ := hfa
            injection h1 with _ h1
            injection h1 with h1
            injection h1 with h1
            injection h1 with h1 _ _
            exact absurd (lt_of_block h2) (by omega)
        have hnew : ∀ i u, ¬ i < vals.length → (vals ++ [Value.iface 272 (.pointer (some ⟨w2.heap.size, 0, none⟩))])[i]? = some u → i = vals.length ∧ u = .iface 272 (.pointer (some ⟨w2.heap.size, 0, none⟩)) := by
          intro i u hi hu
          have hi2 : i - vals.length = 0 := by
            have := (List.getElem?_eq_some_iff.1 hu).1
            simp at this; omega
          rw [List.getElem?_append_right (by omega), hi2] at hu
          simp at hu
          exact ⟨by omega, hu.symm⟩
        intro i j u hi hj
        by_cases h1 : i < vals.length
        · by_cases h2 : j < vals.length
          · rw [List.getElem?_append_left h1] at hi
            rw [List.getElem?_append_left h2] at hj
            exact HHPL.out.apart i j u hi hj
          · obtain ⟨_, rfl⟩ := hnew j u h2 hj
            exact (hold i h1 hi).elim
        · obtain ⟨e1, rfl⟩ := hnew i u h1 hi
          by_cases h2 : j < vals.length
          · exact (hold j h2 hj).elim
          · obtain ⟨e2, _⟩ := hnew j _ h2 hj
            omega
end Go.Proofs.YtakkmiomhackiaaGreatDoor
