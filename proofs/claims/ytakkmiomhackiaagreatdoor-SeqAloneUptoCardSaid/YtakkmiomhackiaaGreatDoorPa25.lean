/-
  The program, one part of its walk: Lx19, Pv1. Conditions: none.
-/
import Derived.Test.YtakkmiomhackiaaGreatDoorPa11
import Derived.Test.YtakkmiomhackiaaGreatDoorPa02
import Derived.Test.YtakkmiomhackiaaGreatDoorPa18
import Derived.Test.YtakkmiomhackiaaGreatDoorPa24
import Derived.Test.YtakkmiomhackiaaGreatDoorPa00
set_option linter.all false
set_option maxRecDepth 100000
set_option maxHeartbeats 16000000
open Go.Proofs.Tryz
namespace Go.Proofs.YtakkmiomhackiaaGreatDoor
open Go.RowKit
theorem numNext_le8 {s s' : Nat} {c : UInt8} (h : numNext s c = some s') : s' ≤ 8 := by
 unfold numNext at h
 repeat' (first | (split at h) | (cases h; decide) | cases h)
def DigOk (high n c : Nat) : Prop :=
 c < 16 ^ n ∧ n ≤ 3 ∧ (high = 0 → (n = 2 → ¬ (220 ≤ c ∧ c ≤ 223)) ∧ (n = 3 → ¬ (220 ≤ c / 16 ∧ c / 16 ≤ 223))) ∧
  (high ≠ 0 → (n = 1 → c = 13) ∧ (n = 2 → 220 ≤ c ∧ c ≤ 223) ∧ (n = 3 → 220 ≤ c / 16 ∧ c / 16 ≤ 223))
structure Lx.Fine (x : Lx) : Prop where
 place : x.place ≤ 16777216
 start : x.start ≤ x.place
 number : x.number ≤ 8
 isIn : x.isIn = decide (x.st ≠ .outside)
 letter : x.st = .letter → x.number = 0 ∧ x.raw ≠ [] ∧ x.raw.length < (wordOf (x.raw.headD 0)).length
 numeral : x.st = .numeral → x.raw.length ≤ x.place
 text : isText x.st = true → x.number = 0 ∧ x.says.length ≤ x.place ∧ feedAll [] x.says = some x.held
 esc : isText x.st = true → x.st ≠ .within → x.held = []
 low : x.st = .within ∨ x.st = .escape → x.high = 0
 slash : x.st = .slash ∨ x.st = .letterU → 55296 ≤ x.high ∧ x.high ≤ 56319
 dig : x.st = .digit → x.says.length + x.digits ≤ x.place ∧ DigOk x.high x.digits x.code ∧ (x.high = 0 ∨ (55296 ≤ x.high ∧ x.high ≤ 56319))
def StrOk : Tok → Prop
 | .str _ _ t => rightOf t = true ∧ t.length ≤ 16777216
 | .num _ _ b => Finite b
 | .mark _ s => isMark s = true
 | .term _ _ n => n = [110, 117, 108, 108] ∨ n = [116, 114, 117, 101] ∨ n = [102, 97, 108, 115, 101]
theorem fine_outside {x : Lx} (hst : x.st = .outside) (hin : x.isIn = false) (hp : x.place ≤ 16777216) (hs : x.start ≤ x.place) (hn : x.number ≤ 8) : x.Fine := by
 refine ⟨hp, hs, hn, by rw [hin, hst]; rfl, ?_, ?_, ?_, ?_, ?_, ?_, ?_⟩ <;> rw [hst]
 ·intro h; cases h
 ·intro h; cases h
 ·intro h; cases h
 ·intro h; cases h
 ·rintro (h | h) <;> cases h
 ·rintro (h | h) <;> cases h
 ·intro h; cases h
theorem fine_new : Lx.new.Fine := fine_outside rfl rfl (by decide) (by decide) (by decide)
theorem fine_numeral {x : Lx} (hst : x.st = .numeral) (hin : x.isIn = true) (hp : x.place ≤ 16777216) (hs : x.start ≤ x.place) (hn : x.number ≤ 8) (hr : x.raw.length ≤ x.place) : x.Fine := by
 refine ⟨hp, hs, hn, by rw [hin, hst]; rfl, ?_, fun _ => hr, ?_, ?_, ?_, ?_, ?_⟩ <;> rw [hst]
 ·intro h; cases h
 ·intro h; cases h
 ·intro h; cases h
 ·rintro (h | h) <;> cases h
 ·rintro (h | h) <;> cases h
 ·intro h; cases h
theorem fine_letter {x : Lx} (hst : x.st = .letter) (hin : x.isIn = true) (hp : x.place ≤ 16777216) (hs : x.start ≤ x.place) (hn : x.number = 0) (h1 : x.raw ≠ []) (h2 : x.raw.length < (wordOf (x.raw.headD 0)).length) : x.Fine := by
 refine ⟨hp, hs, by omega, by rw [hin, hst]; rfl, fun _ => ⟨hn, h1, h2⟩, ?_, ?_, ?_, ?_, ?_, ?_⟩ <;> rw [hst]
 ·intro h; cases h
 ·intro h; cases h
 ·intro h; cases h
 ·rintro (h | h) <;> cases h
 ·rintro (h | h) <;> cases h
 ·intro h; cases h
theorem fine_within {x : Lx} (hst : x.st = .within) (hin : x.isIn = true) (hp : x.place ≤ 16777216) (hs : x.start ≤ x.place) (hn : x.number = 0) (hl : x.says.length ≤ x.place) (hh : x.high = 0) (hc : feedAll [] x.says = some x.held) : x.Fine := by
 refine ⟨hp, hs, by omega, by rw [hin, hst]; rfl, ?_, ?_, fun _ => ⟨hn, hl, hc⟩, ?_, fun _ => hh, ?_, ?_⟩ <;> rw [hst]
 ·intro h; cases h
 ·intro h; cases h
 ·intro _ h; exact absurd rfl h
 ·rintro (h | h) <;> cases h
 ·intro h; cases h
theorem fine_escape {x : Lx} (hst : x.st = .escape) (hin : x.isIn = true) (hp : x.place ≤ 16777216) (hs : x.start ≤ x.place) (hn : x.number = 0) (hl : x.says.length ≤ x.place) (hh : x.high = 0) (hc : feedAll [] x.says = some x.held) (he : x.held = []) : x.Fine := by
 refine ⟨hp, hs, by omega, by rw [hin, hst]; rfl, ?_, ?_, fun _ => ⟨hn, hl, hc⟩, fun _ _ => he, fun _ => hh, ?_, ?_⟩ <;> rw [hst]
 ·intro h; cases h
 ·intro h; cases h
 ·rintro (h | h) <;> cases h
 ·intro h; cases h
theorem fine_slash {x : Lx} (hst : x.st = .slash ∨ x.st = .letterU) (hin : x.isIn = true) (hp : x.place ≤ 16777216) (hs : x.start ≤ x.place) (hn : x.number = 0) (hl : x.says.length ≤ x.place) (hh : 55296 ≤ x.high ∧ x.high ≤ 56319) (hc : feedAll [] x.says = some x.held) (he : x.held = []) : x.Fine := by
 refine ⟨hp, hs, by omega, by rcases hst with h | h <;> rw [hin, h] <;> rfl, ?_, ?_, fun _ => ⟨hn, hl, hc⟩, fun _ _ => he, ?_, fun _ => hh, ?_⟩ <;> rcases hst with hst | hst <;> rw [hst]
 ·intro h; cases h
 ·intro h; cases h
 ·intro h; cases h
 ·intro h; cases h
 ·rintro (h | h) <;> cases h
 ·rintro (h | h) <;> cases h
 ·intro h; cases h
 ·intro h; cases h
theorem fine_digit {x : Lx} (hst : x.st = .digit) (hin : x.isIn = true) (hp : x.place ≤ 16777216) (hs : x.start ≤ x.place) (hn : x.number = 0) (hl : x.says.length + x.digits ≤ x.place) (hh : x.high = 0 ∨ (55296 ≤ x.high ∧ x.high ≤ 56319)) (hd : DigOk x.high x.digits x.code) (hc : feedAll [] x.says = some x.held) (he : x.held = []) : x.Fine := by
 refine ⟨hp, hs, by omega, by rw [hin, hst]; rfl, ?_, ?_, fun _ => ⟨hn, by omega, hc⟩, fun _ _ => he, ?_, ?_, fun _ => ⟨hl, hd, hh⟩⟩ <;> rw [hst]
 ·intro h; cases h
 ·intro h; cases h
 ·rintro (h | h) <;> cases h
 ·rintro (h | h) <;> cases h
theorem fine_outsideStep {x : Lx} (hst : x.st = .outside) (hin : x.isIn = false) (hp : x.place < 16777216) (hs : x.start ≤ x.place) (hnum : x.number ≤ 8) (c : UInt8) :
 ((outsideStep x c).no = 0 → Lx.Fine { (outsideStep x c).lx with place := x.place + 1 }) ∧ ∀ t ∈ (outsideStep x c).toks, StrOk t := by
 unfold outsideStep
 by_cases hbl : isBlank c = true
 ·rw [if_pos hbl];exact ⟨fun _ => fine_outside hst hin (by simp; omega) (by simp; omega) hnum, fun t ht => by simp at ht⟩
 rw [if_neg hbl];simp only []
 by_cases hm : isMark c = true
 ·rw [if_pos hm];exact ⟨fun _ => fine_outside rfl rfl (by simp; omega) (by simp [Lx.told]) (by simp [Lx.told]), fun t ht => by simp at ht; subst ht; exact hm⟩
 rw [if_neg hm]
 by_cases hq : c = 34
 ·rw [if_pos hq];exact ⟨fun _ => fine_within rfl rfl (by simp; omega) (by simp) rfl (by simp) rfl rfl, fun t ht => by simp at ht⟩
 rw [if_neg hq]
 by_cases hnum : c = 45 ∨ isD c = true
 ·rw [if_pos hnum];unfold numFirst;cases hnx : numNext 0 c with
  | none => exact ⟨fun h => by simp at h, fun t ht => by simp at ht⟩
  | some s' => exact ⟨fun _ => fine_numeral rfl rfl (by simp; omega) (by simp) (numNext_le8 hnx) (by simp), fun t ht => by simp at ht⟩
 rw [if_neg hnum]
 by_cases hw : wordOf c ≠ []
 ·rw [if_pos hw];refine ⟨fun _ => fine_letter rfl rfl (by simp; omega) (by simp) rfl (by simp) ?_, fun t ht => by simp at ht⟩
  show 1 < (wordOf c).length
  unfold wordOf at hw ⊢;split at hw
  ·rename_i h; rw [if_pos h]; decide
  ·rename_i h;rw [if_neg h];split at hw
   ·rename_i h; rw [if_pos h]; decide
   ·rename_i h;rw [if_neg h];split at hw
    ·rename_i h; rw [if_pos h]; decide
    ·exact absurd rfl hw
 rw [if_neg hw];exact ⟨fun h => by simp at h, fun t ht => by simp at ht⟩
theorem saidOf_small {c b : UInt8} (h : saidOf c = some b) : feedOne [] b = some [] := by
 have : b.toNat < 128 := by
  unfold saidOf at h;split at h
  ·rename_i hc; cases h; rcases hc with rfl | rfl | rfl <;> decide
  ·repeat' (first | (split at h) | (cases h; decide) | cases h)
 unfold feedOne formOf;simp [this]
theorem word_three {c : UInt8} {n : Nat} (h : n < (wordOf c).length) : wordOf c = [110, 117, 108, 108] ∨ wordOf c = [116, 114, 117, 101] ∨ wordOf c = [102, 97, 108, 115, 101] := by
 unfold wordOf at h ⊢;split
 ·exact .inl rfl
 ·rename_i g1;rw [if_neg g1] at h;split
  ·exact .inr (.inl rfl)
  ·rename_i g2;rw [if_neg g2] at h;split
   ·exact .inr (.inr rfl)
   ·rename_i g3;rw [if_neg g3] at h;simp at h
theorem fine_step {x : Lx} (h : x.Fine) (hp : x.place < 16777216) (c : UInt8) : ((x.step c).no = 0 → Lx.Fine { (x.step c).lx with place := x.place + 1 }) ∧ ∀ t ∈ (x.step c).toks, StrOk t := by
 have hg := h;cases hst : x.st with
 | outside =>
  have he : x.step c = outsideStep x c := by unfold Lx.step; rw [hst]
  rw [he];exact fine_outsideStep hst (by rw [hg.isIn, hst]; rfl) hp hg.start hg.number c
 | numeral =>
  have he : x.step c = numeralStep x c := by unfold Lx.step; rw [hst]
  rw [he];have hin : x.isIn = true := by rw [hg.isIn, hst]; rfl
  have hraw := hg.numeral hst;unfold numeralStep;cases hnx : numNext x.number c with
  | some s' => exact ⟨fun _ => fine_numeral hst hin (by simp; omega) (by have := hg.start; simp; omega) (numNext_le8 hnx) (by simp; omega), fun t ht => by simp at ht⟩
  | none =>
   simp only []
   by_cases hen : numEnds x.number = true
   ·rw [if_pos hen];unfold Lx.finish;cases hb : bitsOf x.raw with
    | none => exact ⟨fun h => by simp at h, fun t ht => by simp at ht⟩
    | some v =>
     simp only [Option.map_some];obtain ⟨h1, h2⟩ := fine_outsideStep (x := x.told) rfl rfl hp hg.start hg.number c;refine ⟨h1, fun t ht => ?_⟩;rcases List.mem_cons.1 ht with rfl | ht
     ·exact bitsOf_finite hb
     ·exact h2 t ht
   ·rw [if_neg hen];exact ⟨fun h => by simp at h, fun t ht => by simp at ht⟩
 | letter =>
  have he : x.step c = letterStep x c := by unfold Lx.step; rw [hst]
  rw [he];have hin : x.isIn = true := by rw [hg.isIn, hst]; rfl
  obtain ⟨hn, hr1, hr2⟩ := hg.letter hst;unfold letterStep;simp only []
  by_cases hc : (wordOf (x.raw.headD 0))[x.raw.length]? = some c
  ·rw [if_pos hc]
   by_cases hl : x.raw.length + 1 = (wordOf (x.raw.headD 0)).length
   ·rw [if_pos hl];refine ⟨fun _ => fine_outside rfl rfl (by simp; omega) (by have := hg.start; simp [Lx.told]; omega) (by simp [Lx.told, hn]), fun t ht => ?_⟩;rw [List.mem_singleton] at ht;subst ht;exact word_three hr2
   ·rw [if_neg hl];refine ⟨fun _ => fine_letter hst hin (by simp; omega) (by have := hg.start; simp; omega) hn (by simp) ?_, fun t ht => by simp at ht⟩;cases hx : x.raw with
    | nil => exact absurd hx hr1
    | cons r rs =>
     rw [hx] at hr2 hl;simp only [List.headD_cons, List.length_cons] at hr2 hl;simp only [List.cons_append, List.headD_cons, List.length_cons, List.length_append, List.length_nil];omega
  ·rw [if_neg hc];exact ⟨fun h => by simp at h, fun t ht => by simp at ht⟩
 | within =>
  have he : x.step c = withinStep x c := by unfold Lx.step; rw [hst]
  rw [he];have hin : x.isIn = true := by rw [hg.isIn, hst]; rfl
  have hnum := (hg.text (by rw [hst]; rfl)).1;have hsay := (hg.text (by rw [hst]; rfl)).2.1;have hhigh := hg.low (.inl hst);have hfed := (hg.text (by rw [hst]; rfl)).2.2;unfold withinStep
  by_cases h1 : x.held = [] ∧ c = 34
  ·rw [if_pos h1];refine ⟨fun _ => fine_outside rfl rfl (by simp; omega) (by have := hg.start; simp [Lx.told]; omega) (by simp [Lx.told, hnum]), fun t ht => ?_⟩;simp at ht; subst ht;refine ⟨?_, by omega⟩;unfold rightOf;rw [hfed, h1.1]; rfl
  rw [if_neg h1]
  by_cases h2 : x.held = [] ∧ c = 92
  ·rw [if_pos h2];exact ⟨fun _ => fine_escape rfl hin (by simp; omega) (by have := hg.start; simp; omega) hnum (by simp; omega) hhigh hfed h2.1, fun t ht => by simp at ht⟩
  rw [if_neg h2]
  by_cases h3 : x.held = [] ∧ c.toNat < 32
  ·rw [if_pos h3]; exact ⟨fun h => by simp at h, fun t ht => by simp at ht⟩
  rw [if_neg h3];cases hfo : feedOne x.held c with
  | none => exact ⟨fun h => by simp at h, fun t ht => by simp at ht⟩
  | some h' =>
   refine ⟨fun _ => fine_within hst hin (by simp; omega) (by have := hg.start; simp; omega) hnum (by simp; omega) hhigh ?_, fun t ht => by simp at ht⟩
   show feedAll [] (x.says ++ [c]) = some h'
   rw [feedAll_append, hfed]
   show feedAll x.held [c] = _
   rw [feedAll_cons, hfo]; rfl
 | escape =>
  have he : x.step c = escapeStep x c := by unfold Lx.step; rw [hst]
  rw [he];have hin : x.isIn = true := by rw [hg.isIn, hst]; rfl
  have hnum := (hg.text (by rw [hst]; rfl)).1;have hsay := (hg.text (by rw [hst]; rfl)).2.1;have hhigh := hg.low (.inr hst);have hfed := (hg.text (by rw [hst]; rfl)).2.2;have hheld := hg.esc (by rw [hst]; rfl) (by rw [hst]; decide);unfold escapeStep
  by_cases h1 : c = 117
  ·rw [if_pos h1];refine ⟨fun _ => fine_digit rfl hin (by simp; omega) (by have := hg.start; simp; omega) hnum ?_ (.inl hhigh) ?_ hfed hheld, fun t ht => by simp at ht⟩
   ·show x.says.length + 0 ≤ x.place + 1
    omega
   ·exact ⟨by simp, by simp, by simp, by simp⟩
  rw [if_neg h1];cases hsd : saidOf c with
  | none => exact ⟨fun h => by simp at h, fun t ht => by simp at ht⟩
  | some b =>
   refine ⟨fun _ => fine_within rfl hin (by simp; omega) (by have := hg.start; simp; omega) hnum (by simp; omega) hhigh ?_, fun t ht => by simp at ht⟩
   show feedAll [] (x.says ++ [b]) = some x.held
   rw [feedAll_append, hfed, hheld]
   show feedAll [] [b] = _
   rw [feedAll_cons, saidOf_small hsd]; rfl
 | slash =>
  have he : x.step c = slashStep x c := by unfold Lx.step; rw [hst]
  rw [he];have hin : x.isIn = true := by rw [hg.isIn, hst]; rfl
  have hnum := (hg.text (by rw [hst]; rfl)).1;have hl := (hg.text (by rw [hst]; rfl)).2.1;have hh := hg.slash (.inl hst);unfold slashStep;split
  ·exact ⟨fun _ => fine_slash (.inr rfl) hin (by simp; omega) (by have := hg.start; simp; omega) hnum (by simp; omega) hh (hg.text (by rw [hst]; rfl)).2.2 (hg.esc (by rw [hst]; rfl) (by rw [hst]; decide)), fun t ht => by simp at ht⟩
  ·exact ⟨fun h => by simp at h, fun t ht => by simp at ht⟩
 | letterU =>
  have he : x.step c = letterUStep x c := by unfold Lx.step; rw [hst]
  rw [he];have hin : x.isIn = true := by rw [hg.isIn, hst]; rfl
  have hnum := (hg.text (by rw [hst]; rfl)).1;have hl := (hg.text (by rw [hst]; rfl)).2.1;have hh := hg.slash (.inr hst);unfold letterUStep;split
  ·refine ⟨fun _ => fine_digit rfl hin (by simp; omega) (by have := hg.start; simp; omega) hnum ?_ (.inr hh) ?_ (hg.text (by rw [hst]; rfl)).2.2 (hg.esc (by rw [hst]; rfl) (by rw [hst]; decide)), fun t ht => by simp at ht⟩
   ·show x.says.length + 0 ≤ x.place + 1
    omega
   ·exact ⟨by simp, by simp, by simp, by simp⟩
  ·exact ⟨fun h => by simp at h, fun t ht => by simp at ht⟩
 | digit =>
  have he : x.step c = digitStep x c := by unfold Lx.step; rw [hst]
  rw [he];have hin : x.isIn = true := by rw [hg.isIn, hst]; rfl
  have hnum := (hg.text (by rw [hst]; rfl)).1;have hfed := (hg.text (by rw [hst]; rfl)).2.2;have hheld := hg.esc (by rw [hst]; rfl) (by rw [hst]; decide);obtain ⟨hl, ⟨hcode, hd3, hz, hnz⟩, hhi⟩ := hg.dig hst;unfold digitStep;cases hv : hexOf c with
  | none => exact ⟨fun h => by by_cases h0 : x.high = 0 <;> simp [h0] at h, fun t ht => by simp at ht⟩
  | some v =>
   have hv16 := hexOf_lt hv;simp only []
   by_cases hlo : x.lone v = true
   ·rw [if_pos hlo]; exact ⟨fun h => by simp at h, fun t ht => by simp at ht⟩
   rw [if_neg hlo];refine ⟨fun _ => ?_, fun t ht => by simp at ht⟩;have hcode2 : x.code * 16 + v < 16 ^ (x.digits + 1) := by rw [Nat.pow_succ]; omega
   have hlone : (x.high ≠ 0 → x.digits = 0 → v = 13) ∧ (x.high ≠ 0 → x.digits = 1 → 12 ≤ v) ∧ (x.high = 0 → x.digits = 1 → x.code = 13 → v < 12) := by
    unfold Lx.lone at hlo;refine ⟨fun h1 h2 => ?_, fun h1 h2 => ?_, fun h1 h2 h3 => ?_⟩
    ·rw [if_pos ⟨h1, h2⟩] at hlo; simpa using hlo
    ·rw [if_neg (by omega), if_pos ⟨h1, h2⟩] at hlo;simp at hlo; omega
    ·rw [if_neg (by omega), if_neg (by omega)] at hlo;simp [h1, h2, h3] at hlo; omega
   obtain ⟨l1, l2, l3⟩ := hlone
   have hdok : (x.high = 0 → (x.digits + 1 = 2 → ¬ (220 ≤ x.code * 16 + v ∧ x.code * 16 + v ≤ 223)) ∧ (x.digits + 1 = 3 → ¬ (220 ≤ (x.code * 16 + v) / 16 ∧ (x.code * 16 + v) / 16 ≤ 223)) ∧ (x.digits + 1 = 4 → ¬ (56320 ≤ x.code * 16 + v ∧ x.code * 16 + v ≤ 57343))) ∧
    (x.high ≠ 0 → (x.digits + 1 = 1 → x.code * 16 + v = 13) ∧ (x.digits + 1 = 2 → 220 ≤ x.code * 16 + v ∧ x.code * 16 + v ≤ 223) ∧ (x.digits + 1 = 3 → 220 ≤ (x.code * 16 + v) / 16 ∧ (x.code * 16 + v) / 16 ≤ 223) ∧ (x.digits + 1 = 4 → 56320 ≤ x.code * 16 + v ∧ x.code * 16 + v ≤ 57343)) := by
    refine ⟨fun h0 => ⟨fun h2 => ?_, fun h2 => ?_, fun h2 => ?_⟩, fun h0 => ⟨fun h2 => ?_, fun h2 => ?_, fun h2 => ?_, fun h2 => ?_⟩⟩
    ·have := l3 h0 (by omega);have hc1 : x.code < 16 ^ 1 := by rw [show x.digits = 1 by omega] at hcode; exact hcode
     by_cases hx : x.code = 13
     ·have := this hx; omega
     ·omega
    ·have := (hz h0).1 (by omega); omega
    ·have := (hz h0).2 (by omega); omega
    ·have hc1 : x.code < 16 ^ 0 := by rw [show x.digits = 0 by omega] at hcode; exact hcode
     have := l1 h0 (by omega); omega
    ·have := (hnz h0).1 (by omega); have := l2 h0 (by omega); omega
    ·have := (hnz h0).2.1 (by omega); omega
    ·have := (hnz h0).2.2 (by omega); omega
   by_cases h4 : x.digits + 1 = 4
   ·rw [if_pos h4];have hc4 : x.code * 16 + v < 65536 := by rw [h4] at hcode2; exact hcode2
    unfold Lx.whole;simp only []
    by_cases hh : x.high ≠ 0
    ·rw [if_pos hh];have hb := (hdok.2 hh).2.2.2 h4;have hhi2 : 55296 ≤ x.high ∧ x.high ≤ 56319 := by omega
     refine fine_within rfl hin (by simp; omega) (by have := hg.start; simp; omega) hnum ?_ rfl ?_
     ·obtain ⟨R, hR⟩ : ∃ R, runeBytes (65536 + (x.high - 55296) * 1024 + (x.code * 16 + v) - 56320) = R := ⟨_, rfl⟩;have := (runeBytes_len (65536 + (x.high - 55296) * 1024 + (x.code * 16 + v) - 56320)).2.1;rw [hR] at this ⊢;rw [List.length_append]
      show _ ≤ x.place + 1
      omega
     ·show feedAll [] (x.says ++ _) = some x.held
      have hrn : IsRune (65536 + (x.high - 55296) * 1024 + (x.code * 16 + v) - 56320) := .inr (by omega);have hrb := runeBytes_right hrn;obtain ⟨R, hR⟩ : ∃ R, runeBytes (65536 + (x.high - 55296) * 1024 + (x.code * 16 + v) - 56320) = R := ⟨_, rfl⟩;rw [hR] at hrb ⊢;rw [feedAll_append, hfed, hheld];exact hrb
    ·rw [if_neg hh];have hh0 : x.high = 0 := by omega
     have hb := (hdok.1 hh0).2.2 h4
     by_cases hs : 55296 ≤ x.code * 16 + v ∧ x.code * 16 + v ≤ 56319
     ·rw [if_pos hs];exact fine_slash (.inl rfl) hin (by simp; omega) (by have := hg.start; simp; omega) hnum (by simp; omega) hs hfed hheld
     ·rw [if_neg hs];refine fine_within rfl hin (by simp; omega) (by have := hg.start; simp; omega) hnum ?_ hh0 ?_
      ·have := (runeBytes_len (x.code * 16 + v)).2.2 hc4;simp; omega
      ·show feedAll [] (x.says ++ _) = some x.held
       have hrn : IsRune (x.code * 16 + v) := by unfold IsRune; omega
       have hrb := runeBytes_right hrn;obtain ⟨R, hR⟩ : ∃ R, runeBytes (x.code * 16 + v) = R := ⟨_, rfl⟩;rw [hR] at hrb ⊢;rw [feedAll_append, hfed, hheld];exact hrb
   ·rw [if_neg h4];refine fine_digit hst hin (by simp; omega) (by have := hg.start; simp; omega) hnum (by simp; omega) hhi ?_ hfed hheld;refine ⟨hcode2, by simp; omega, fun h0 => ⟨(hdok.1 h0).1, (hdok.1 h0).2.1⟩, fun h0 => ⟨(hdok.2 h0).1, (hdok.2 h0).2.1, (hdok.2 h0).2.2.1⟩⟩
theorem fine_take {x : Lx} (h : x.Fine) (c : UInt8) : ((x.take c).2.2.1 = 0 → (x.take c).1.Fine) ∧ ∀ t ∈ (x.take c).2.1, StrOk t := by
 unfold Lx.take
 by_cases hp : x.place = 16777216
 ·rw [if_pos hp]; exact ⟨fun h => by simp at h, fun t ht => by simp at ht⟩
 rw [if_neg hp];simp only [];obtain ⟨h1, h2⟩ := fine_step h (by have := h.place; omega) c
 by_cases h0 : (x.step c).no = 0
 ·rw [if_pos h0]; exact ⟨fun _ => h1 h0, h2⟩
 ·rw [if_neg h0]; exact ⟨fun h => absurd h h0, h2⟩
theorem fine_ended {x : Lx} : ∀ t ∈ x.ended.2.1, StrOk t := by
 unfold Lx.ended;split
 ·intro t ht; simp at ht
 ·split
  ·intro t ht; simp at ht
  ·unfold Lx.finish;cases hb : bitsOf x.raw with
   | none => intro t ht; simp at ht
   | some v => intro t ht; simp at ht; subst ht; exact bitsOf_finite hb
section
def sumN (l : List Tr) : Nat := l.foldr (fun t a => t.sized.nodes + a) 0
def sumB (l : List Tr) : Nat := l.foldr (fun t a => t.sized.bytes + a) 0
def frB : Fr → Nat
 | .list _ => 0
 | .object k => keysLen k
def keysB (l : List Fr) : Nat := l.foldr (fun f a => frB f + a) 0
theorem sumN_append (l m : List Tr) : sumN (l ++ m) = sumN l + sumN m := by
 induction l with
 | nil => simp [sumN]
 | cons t l ih => unfold sumN at ih ⊢; rw [List.cons_append, List.foldr_cons, List.foldr_cons, ih]; omega
theorem sumB_append (l m : List Tr) : sumB (l ++ m) = sumB l + sumB m := by
 induction l with
 | nil => simp [sumB]
 | cons t l ih => unfold sumB at ih ⊢; rw [List.cons_append, List.foldr_cons, List.foldr_cons, ih]; omega
theorem keysB_append (l m : List Fr) : keysB (l ++ m) = keysB l + keysB m := by
 induction l with
 | nil => simp [keysB]
 | cons t l ih => unfold keysB at ih ⊢; rw [List.cons_append, List.foldr_cons, List.foldr_cons, ih]; omega
theorem sumN_one (t : Tr) : sumN [t] = t.sized.nodes := rfl
theorem sumB_one (t : Tr) : sumB [t] = t.sized.bytes := rfl
theorem keysB_one (f : Fr) : keysB [f] = frB f := rfl
theorem foldSz_sum : ∀ (l : List Tr) (a : Sz), ((l.map Tr.sized).foldl (fun (a z : Sz) => (⟨a.nodes + z.nodes, a.bytes + z.bytes, max a.depth z.depth⟩ : Sz)) a).nodes = a.nodes + sumN l ∧
 ((l.map Tr.sized).foldl (fun (a z : Sz) => (⟨a.nodes + z.nodes, a.bytes + z.bytes, max a.depth z.depth⟩ : Sz)) a).bytes = a.bytes + sumB l ∧
 ∀ D, a.depth ≤ D → (∀ t ∈ l, t.sized.depth ≤ D) → ((l.map Tr.sized).foldl (fun (a z : Sz) => (⟨a.nodes + z.nodes, a.bytes + z.bytes, max a.depth z.depth⟩ : Sz)) a).depth ≤ D
 | [], a => ⟨by simp [sumN], by simp [sumB], fun D h _ => h⟩
 | t :: l, a => by
  obtain ⟨h1, h2, h3⟩ := foldSz_sum l ⟨a.nodes + t.sized.nodes, a.bytes + t.sized.bytes, max a.depth t.sized.depth⟩;rw [List.map_cons, List.foldl_cons];have e1 : sumN (t :: l) = t.sized.nodes + sumN l := rfl;have e2 : sumB (t :: l) = t.sized.bytes + sumB l := rfl;refine ⟨by rw [h1, e1]; show a.nodes + t.sized.nodes + sumN l = _; omega, by rw [h2, e2]; show a.bytes + t.sized.bytes + sumB l = _; omega, fun D hD hl => h3 D ?_ (fun u hu => hl u (List.mem_cons_of_mem _ hu))⟩;have := hl t (List.mem_cons_self ..)
  show max a.depth t.sized.depth ≤ D
  omega
theorem sumSz_sum (bytes : Nat) (l : List Tr) : (sumSz bytes (l.map Tr.sized)).nodes = 1 + sumN l ∧ (sumSz bytes (l.map Tr.sized)).bytes = bytes + sumB l ∧ ∀ D, (∀ t ∈ l, t.sized.depth ≤ D) → (sumSz bytes (l.map Tr.sized)).depth ≤ D + 1 := by
 obtain ⟨h1, h2, h3⟩ := foldSz_sum l ⟨1, bytes, 0⟩;rw [sumSz_part];exact ⟨h1, h2, fun D h => Nat.succ_le_succ (h3 D (Nat.zero_le _) h)⟩
theorem nodes_pos (t : Tr) : 1 ≤ t.sized.nodes := by
 cases t with
 | null => simp [Tr.sized]
 | flag b => simp [Tr.sized]
 | num b => simp [Tr.sized]
 | text s => simp [Tr.sized]
 | list l => rw [sized_list_eq, (sumSz_sum 0 l).1]; omega
 | object k l => rw [sized_object_eq, (sumSz_sum _ l).1]; omega
theorem len_le_sumN : ∀ l : List Tr, l.length ≤ sumN l
 | [] => Nat.le_refl _
 | t :: l => by
  have h := len_le_sumN l;have h1 := nodes_pos t;have e1 : sumN (t :: l) = t.sized.nodes + sumN l := rfl;rw [List.length_cons, e1];omega
theorem mem_le_sum {t : Tr} : ∀ {l : List Tr}, t ∈ l → t.sized.nodes ≤ sumN l ∧ t.sized.bytes ≤ sumB l
 | u :: l, h => by
  have e1 : sumN (u :: l) = u.sized.nodes + sumN l := rfl;have e2 : sumB (u :: l) = u.sized.bytes + sumB l := rfl;rw [e1, e2];rcases List.mem_cons.1 h with rfl | h
  ·exact ⟨by omega, by omega⟩
  ·have := mem_le_sum h;exact ⟨by omega, by omega⟩
theorem mem_keysB {f : Fr} : ∀ {l : List Fr}, f ∈ l → frB f ≤ keysB l
 | u :: l, h => by
  have e1 : keysB (u :: l) = frB u + keysB l := rfl;rw [e1];rcases List.mem_cons.1 h with rfl | h
  ·omega
  ·have := mem_keysB h;omega
theorem key_le_keysLen {s : List UInt8} : ∀ {l : List (List UInt8)} {a : Nat}, s ∈ l → s.length + a ≤ l.foldl (fun a k => a + k.length) a
 | u :: l, a, h => by
  rw [List.foldl_cons];rcases List.mem_cons.1 h with rfl | h
  ·have hle : ∀ (l : List (List UInt8)) (a : Nat), a ≤ l.foldl (fun a k => a + k.length) a := by
    intro l
    induction l with
    | nil => intro a; exact Nat.le_refl _
    | cons x l ih => intro a; exact Nat.le_trans (Nat.le_add_right a x.length) (ih (a + x.length))
   have := hle l (a + s.length);omega
  ·have := key_le_keysLen (a := a + u.length) h;omega
inductive Held (D : Nat) : List Fr → List Tr → Prop
 | nil : Held D [] []
 | list {ini : List Fr} {its : List Tr} (s : List Tr) (h : Held D ini its) (hd : ∀ t ∈ s, t.sized.depth + ini.length + 1 ≤ D) : Held D (ini ++ [.list s.length]) (its ++ s)
 | object {ini : List Fr} {its : List Tr} (k : List (List UInt8)) (s : List Tr) (h : Held D ini its) (hd : ∀ t ∈ s, t.sized.depth + ini.length + 1 ≤ D) (hk : k.length = s.length + 1) : Held D (ini ++ [.object k]) (its ++ s)
inductive Stand (D : Nat) : Nat → List Fr → List Tr → Prop
 | new : Stand D 0 [] []
 | done (t : Tr) (hd : t.sized.depth ≤ D) : Stand D 6 [] [t]
 | list {ini : List Fr} {its : List Tr} (s : List Tr) (want : Nat) (h : Held D ini its) (hd : ∀ t ∈ s, t.sized.depth + ini.length + 1 ≤ D) (hw : want = 0 ∨ want = 1 ∨ want = 5) : Stand D want (ini ++ [.list s.length]) (its ++ s)
 | object {ini : List Fr} {its : List Tr} (k : List (List UInt8)) (s : List Tr) (want : Nat) (h : Held D ini its) (hd : ∀ t ∈ s, t.sized.depth + ini.length + 1 ≤ D)
  (hk : ((want = 2 ∨ want = 3 ∨ want = 5) ∧ k.length = s.length) ∨ ((want = 4 ∨ want = 0) ∧ k.length = s.length + 1)) : Stand D want (ini ++ [.object k]) (its ++ s)
theorem Stand.held {D want : Nat} {pile : List Fr} {items : List Tr} (h : Stand D want pile items) (hw : want = 0 ∨ want = 1) : Held D pile items := by
 cases h with
 | new => exact .nil
 | done t hd => omega
 | list s _ h hd _ => exact .list s h hd
 | object k s _ h hd hk => exact .object k s h hd (by omega)
theorem more_list (ini : List Fr) (n : Nat) : more (ini ++ [.list n]) = ini ++ [.list (n + 1)] := by unfold more; simp
theorem more_object (ini : List Fr) (k : List (List UInt8)) : more (ini ++ [.object k]) = ini ++ [.object k] := by unfold more; simp
theorem Held.put {D : Nat} {pile : List Fr} {items : List Tr} {t : Tr} (h : Held D pile items) (ht : t.sized.depth + pile.length ≤ D) : Stand D (if pile = [] then 6 else 5) (more pile) (items ++ [t]) := by
 cases h with
 | nil => exact .done t (by simpa using ht)
 | @list ini its s h hd =>
  rw [if_neg (by simp), more_list, List.append_assoc]
  have := Stand.list (D := D) (s ++ [t]) 5 h (by
   intro u hu;rcases List.mem_append.1 hu with hu | hu
   ·exact hd u hu
   ·simp at hu; subst hu; simp at ht; omega) (.inr (.inr rfl))
  simpa using this
 | @object ini its k s h hd hk =>
  rw [if_neg (by simp), more_object, List.append_assoc]
  exact .object k (s ++ [t]) 5 h (by
   intro u hu;rcases List.mem_append.1 hu with hu | hu
   ·exact hd u hu
   ·simp at hu; subst hu; simp at ht; omega) (.inl ⟨.inr (.inr rfl), by simp; omega⟩)
theorem Held.low {D : Nat} {pile : List Fr} {items : List Tr} (h : Held D pile items) : (∀ t ∈ items, t.sized.depth ≤ D) ∧ (∀ m, Fr.list m ∈ pile → m ≤ items.length) := by
 induction h with
 | nil => exact ⟨fun t h => by simp at h, fun m h => by simp at h⟩
 | list s h hd ih =>
  refine ⟨fun t ht => ?_, fun m hm => ?_⟩
  ·rcases List.mem_append.1 ht with ht | ht
   ·exact ih.1 t ht
   ·have := hd t ht; omega
  ·rcases List.mem_append.1 hm with hm | hm
   ·have := ih.2 m hm; rw [List.length_append]; omega
   ·simp at hm; rw [List.length_append]; omega
 | object k s h hd hk ih =>
  refine ⟨fun t ht => ?_, fun m hm => ?_⟩
  ·rcases List.mem_append.1 ht with ht | ht
   ·exact ih.1 t ht
   ·have := hd t ht; omega
  ·rcases List.mem_append.1 hm with hm | hm
   ·have := ih.2 m hm; rw [List.length_append]; omega
   ·simp at hm
theorem Stand.low {D want : Nat} {pile : List Fr} {items : List Tr} (h : Stand D want pile items) : (∀ t ∈ items, t.sized.depth ≤ D) ∧ (∀ m, Fr.list m ∈ pile → m ≤ items.length) := by
 cases h with
 | new => exact ⟨fun t h => by simp at h, fun m h => by simp at h⟩
 | done t hd => exact ⟨fun u h => by simp at h; subst h; exact hd, fun m h => by simp at h⟩
 | list s _ h hd _ => exact (Held.list s h hd).low
 | object k s _ h hd hk =>
  have ih := h.low;refine ⟨fun t ht => ?_, fun m hm => ?_⟩
  ·rcases List.mem_append.1 ht with ht | ht
   ·exact ih.1 t ht
   ·have := hd t ht; omega
  ·rcases List.mem_append.1 hm with hm | hm
   ·have := ih.2 m hm; rw [List.length_append]; omega
   ·simp at hm
theorem Stand.top {D want : Nat} {pile : List Fr} {items : List Tr} (h : Stand D want pile items) : (want = 2 ∨ want = 3 ∨ want = 4 → isObj pile = true) ∧ (want = 5 → pile ≠ []) ∧ want ≤ 6 ∧ (want = 6 → pile = [] ∧ ∃ t, items = [t]) := by
 cases h with
 | new => exact ⟨by omega, by omega, by omega, by omega⟩
 | done t hd => exact ⟨by omega, by omega, by omega, fun _ => ⟨rfl, t, rfl⟩⟩
 | list s _ h hd hw => exact ⟨by omega, fun _ => by simp, by omega, by omega⟩
 | object k s _ h hd hk => exact ⟨fun _ => by unfold isObj; simp, fun _ => by simp, by omega, by omega⟩
structure PsOk (x : Ps) (q : Nat) : Prop where
 depth : x.depth ≤ 512
 room : x.pile.length + q ≤ x.depth
 nodes : x.nodes ≤ 65536
 bytes : x.bytes ≤ 2097152
 cnt : sumN x.items + x.pile.length + q ≤ x.nodes
 byt : sumB x.items + keysB x.pile ≤ x.bytes
 stand : Stand x.depth x.want x.pile x.items
 keys : ∀ k, Fr.object k ∈ x.pile → k.Nodup ∧ ∀ s ∈ k, rightOf s = true
 pend : q = 0 ∨ (q = 1 ∧ (x.want = 0 ∨ x.want = 1))
section
variable {x y : Ps} {q : Nat}
theorem PsOk.items (h : PsOk x q) : x.items.length ≤ 65536 := by
 have := len_le_sumN x.items;have := h.cnt;have := h.nodes;omega
theorem PsOk.inside (h : PsOk x q) : ∀ t ∈ x.items, t.sized.within = true := by
 intro t ht;have h1 := mem_le_sum ht;have h2 := h.stand.low.1 t ht;have := h.cnt;have := h.nodes;have := h.byt;have := h.bytes;have := h.depth;unfold Sz.within;simp only [Bool.and_eq_true, decide_eq_true_eq];omega
theorem PsOk.many (h : PsOk x q) : ∀ m, Fr.list m ∈ x.pile → m ≤ 65536 := fun m hm => Nat.le_trans (h.stand.low.2 m hm) h.items
theorem PsOk.right (h : PsOk x q) {k : List (List UInt8)} (hk : Fr.object k ∈ x.pile) : RightKeys k ∧ k.Nodup ∧ keysLen k ≤ x.bytes := by
 have h1 := h.keys k hk;have h2 : keysLen k ≤ keysB x.pile := mem_keysB hk;have := h.byt;have := h.bytes;refine ⟨fun s hs => ⟨h1.2 s hs, ?_⟩, h1.1, by omega⟩;have h3 := key_le_keysLen (a := 0) hs;have h4 : s.length ≤ keysLen k := by unfold keysLen; omega
 omega
theorem more_len (l : List Fr) : (more l).length = l.length := by
 rcases List.eq_nil_or_concat l with rfl | ⟨i, fr, rfl⟩
 ·rfl
 ·cases fr with
  | list n => rw [List.concat_eq_append, more_list]; simp
  | object k => rw [List.concat_eq_append, more_object]
theorem more_keysB (l : List Fr) : keysB (more l) = keysB l := by
 rcases List.eq_nil_or_concat l with rfl | ⟨i, fr, rfl⟩
 ·rfl
 ·cases fr with
  | list n => rw [List.concat_eq_append, more_list, keysB_append, keysB_append]; rfl
  | object k => rw [List.concat_eq_append, more_object]
theorem more_object_mem {l : List Fr} {k : List (List UInt8)} (h : Fr.object k ∈ more l) : Fr.object k ∈ l := by
 rcases List.eq_nil_or_concat l with rfl | ⟨i, fr, rfl⟩
 ·exact h
 ·rw [List.concat_eq_append] at h ⊢;cases fr with
  | list n =>
   rw [more_list] at h;rcases List.mem_append.1 h with h | h
   ·exact List.mem_append_left _ h
   ·simp at h
  | object k => rwa [more_object] at h
theorem PsOk.put (hD : x.depth ≤ 512) (hn : x.nodes ≤ 65536) (hb : x.bytes ≤ 2097152) {t : Tr} (hr : x.pile.length ≤ x.depth) (ht : t.sized.depth + x.pile.length ≤ x.depth) (hc : sumN x.items + t.sized.nodes + x.pile.length ≤ x.nodes) (hy : sumB x.items + t.sized.bytes + keysB x.pile ≤ x.bytes) (hh : Held x.depth x.pile x.items)
 (hk : ∀ k, Fr.object k ∈ x.pile → k.Nodup ∧ ∀ s ∈ k, rightOf s = true) : PsOk (Ps.put { x with items := x.items ++ [t] }) 0 := by
 refine ⟨hD, ?_, hn, hb, ?_, ?_, hh.put ht, fun k hm => hk k (more_object_mem hm), .inl rfl⟩
 ·show (more x.pile).length + 0 ≤ x.depth
  rw [more_len]; omega
 ·show sumN (x.items ++ [t]) + (more x.pile).length + 0 ≤ x.nodes
  rw [more_len, sumN_append, sumN_one]; omega
 ·show sumB (x.items ++ [t]) + keysB (more x.pile) ≤ x.bytes
  rw [more_keysB, sumB_append, sumB_one]; omega
theorem PsOk.scalar (h : PsOk x 1) {t : Tr} {b : Nat} (ht : t.sized = ⟨1, b, 1⟩) (hb : sumB x.items + b + keysB x.pile ≤ x.bytes) : putScalar x.items t = x.items ++ [t] ∧ PsOk (Ps.put { x with items := x.items ++ [t] }) 0 := by
 have h1 := h.cnt;have h2 := h.nodes;have h3 := len_le_sumN x.items;have h4 := h.room;have h5 := h.bytes;have h6 := h.depth;refine ⟨?_, PsOk.put h.depth h.nodes h.bytes (by omega) (by rw [ht]; show 1 + _ ≤ _; omega) (by rw [ht]; show _ + 1 + _ ≤ _; omega) (by rw [ht]; exact hb) (h.stand.held (by have := h.pend; omega)) h.keys⟩;unfold putScalar putItem;rw [if_neg (by omega), if_pos (by rw [ht]; unfold Sz.within; simp; omega)]
theorem PsOk.value {at_ : Nat} (h : PsOk x 0) (hv : x.value at_ = .ok y) : PsOk y 1 ∧ (x.want = 0 ∨ x.want = 1) ∧ y = { x with nodes := x.nodes + 1 } := by
 unfold Ps.value at hv;split at hv
 ·cases hv
 ·rename_i h1;split at hv
  ·cases hv
  ·rename_i h2;split at hv
   ·cases hv
   ·rename_i h3;cases hv;have h4 := h.room;have h5 := h.nodes;have h6 := h.cnt;exact ⟨⟨h.depth, by show x.pile.length + 1 ≤ x.depth; omega, by show x.nodes + 1 ≤ 65536; omega, h.bytes, by show sumN x.items + x.pile.length + 1 ≤ x.nodes + 1; omega, h.byt, h.stand, h.keys, .inr ⟨rfl, by show x.want = 0 ∨ x.want = 1; omega⟩⟩, by omega, rfl⟩
theorem PsOk.push (h : PsOk x 1) (f : Fr) (hf : f = .list 0 ∧ y.want = 1 ∨ f = .object [] ∧ y.want = 2) (hy : y = { x with pile := x.pile ++ [f], want := y.want }) : PsOk y 0 := by
 have h1 := h.cnt;have h2 := h.room;have hh := h.stand.held (by have := h.pend; omega);have e1 : y.depth = x.depth := by rw [hy]
 have e2 : y.pile = x.pile ++ [f] := by rw [hy]
 have e3 : y.items = x.items := by rw [hy]
 have e4 : y.nodes = x.nodes := by rw [hy]
 have e5 : y.bytes = x.bytes := by rw [hy]
 refine ⟨by rw [e1]; exact h.depth, by rw [e1, e2]; simp; omega, by rw [e4]; exact h.nodes, by rw [e5]; exact h.bytes, by rw [e2, e3, e4]; simp; omega, ?_, ?_, ?_, .inl rfl⟩
 ·rw [e2, e3, e5, keysB_append];have := h.byt;rcases hf with ⟨rfl, _⟩ | ⟨rfl, _⟩
  ·show _ + (_ + 0) ≤ _; omega
  ·show _ + (_ + 0) ≤ _; omega
 ·rw [e1, e2, e3];rcases hf with ⟨rfl, hw⟩ | ⟨rfl, hw⟩
  ·have := Stand.list (D := x.depth) [] y.want hh (fun t h => by simp at h) (by omega)
   simpa using this
  ·have := Stand.object (D := x.depth) [] [] y.want hh (fun t h => by simp at h) (.inl ⟨by omega, rfl⟩)
   simpa using this
 ·rw [e2];intro k hk;rcases List.mem_append.1 hk with hk | hk
  ·exact h.keys k hk
  ·rcases hf with ⟨rfl, _⟩ | ⟨rfl, _⟩
   ·simp at hk
   ·simp at hk; subst hk; exact ⟨List.nodup_nil, fun s hs => by simp at hs⟩
theorem PsOk.close (h : PsOk x 0) {sign : UInt8} (he : x.ends sign = true) : PsOk (x.finishOpen po) 0 := by
 have hD := h.depth;have hr := h.room;have hN := h.nodes;have hB := h.bytes;have hc := h.cnt;have hy := h.byt;have hs := h.stand;have hk := h.keys;obtain ⟨D, place, lex, items, pile, want, nodes, bytes⟩ := x;simp only at hD hr hN hB hc hy hs hk;cases hs with
 | new => simp [Ps.ends] at he
 | done t hd => simp [Ps.ends] at he
 | @list ini its s _ hh hd hw =>
  have hfo : (Ps.finishOpen po ⟨D, place, lex, its ++ s, ini ++ [.list s.length], want, nodes, bytes⟩) = Ps.put ⟨D, place, lex, putList (its ++ s) s.length, ini, want, nodes, bytes⟩ := by
   unfold Ps.finishOpen; simp
  obtain ⟨z1, z2, z3⟩ := sumSz_sum 0 s;rw [sumN_append] at hc;rw [sumB_append, keysB_append, keysB_one] at hy;simp only [List.length_append, List.length_cons, List.length_nil] at hc hr;have z4 := z3 (D - ini.length - 1) (fun t ht => by have := hd t ht; omega);rw [← sized_list_eq] at z1 z2 z4
  have hpl : putList (its ++ s) s.length = its ++ [.list s] := by
   unfold putList putGroup;rw [if_neg (by simp), List.length_append, Nat.add_sub_cancel, List.drop_left, List.take_left, if_pos];unfold Sz.within;simp only [Bool.and_eq_true, decide_eq_true_eq];omega
  rw [hfo, hpl];have := PsOk.put (x := ⟨D, place, lex, its, ini, want, nodes, bytes⟩) (t := .list s) hD hN hB (by show ini.length ≤ D; omega) (by show _ + ini.length ≤ D; omega) (by show sumN its + _ + ini.length ≤ nodes; omega) (by show sumB its + _ + keysB ini ≤ bytes; rw [z2]; have : frB (.list s.length) = 0 := rfl; omega) hh (fun k hk2 => hk k (List.mem_append_left _ hk2));exact this
 | @object ini its k s _ hh hd hw =>
  have hk2 : k.length = s.length := by
   rcases hw with hw | hw
   ·exact hw.2
   ·unfold Ps.ends at he;simp at he;omega
  have hfo : (Ps.finishOpen po ⟨D, place, lex, its ++ s, ini ++ [.object k], want, nodes, bytes⟩) = Ps.put ⟨D, place, lex, po (its ++ s) k, ini, want, nodes, bytes⟩ := by
   unfold Ps.finishOpen; simp
  obtain ⟨hnd, hrt⟩ := hk k (by simp);obtain ⟨z1, z2, z3⟩ := sumSz_sum (keysLen k) s;rw [sumN_append] at hc;rw [sumB_append, keysB_append, keysB_one] at hy;simp only [List.length_append, List.length_cons, List.length_nil] at hc hr;have z4 := z3 (D - ini.length - 1) (fun t ht => by have := hd t ht; omega);rw [← object_sized hnd hk2.symm] at z1 z2 z4
  have hpl : po (its ++ s) k = its ++ [.object (sortT k) (besides k s)] := by
   unfold po putGroup;rw [if_neg (by simp; omega), List.length_append, hk2, Nat.add_sub_cancel, List.drop_left, List.take_left, if_pos];unfold Sz.within;simp only [Bool.and_eq_true, decide_eq_true_eq];have : frB (.object k) = keysLen k := rfl;omega
  rw [hfo, hpl];have := PsOk.put (x := ⟨D, place, lex, its, ini, want, nodes, bytes⟩) (t := .object (sortT k) (besides k s)) hD hN hB (by show ini.length ≤ D; omega) (by show _ + ini.length ≤ D; omega) (by show sumN its + _ + ini.length ≤ nodes; omega) (by show sumB its + _ + keysB ini ≤ bytes; rw [z2]; have : frB (.object k) = keysLen k := rfl; omega) hh (fun k hk2 => hk k (List.mem_append_left _ hk2));exact this
end
end
end Go.Proofs.YtakkmiomhackiaaGreatDoor
