/-
  The program, one part of its walk: Rn0, Lx13, Lx15, Lx16, Lx4, Lx21, Dc5. Conditions: none.
-/
import Derived.Test.YtakkmiomhackiaaGreatDoorPa03
import Derived.Test.YtakkmiomhackiaaGreatDoorPa11
import Derived.Test.YtakkmiomhackiaaGreatDoorPa12
import Derived.Test.YtakkmiomhackiaaGreatDoorPa17
import Derived.Test.YtakkmiomhackiaaGreatDoorPa09
import Derived.Laws.Runes
import Derived.Test.YtakkmiomhackiaaGreatDoorPa07
import Derived.Test.YtakkmiomhackiaaGreatDoorPa00
set_option linter.all false
set_option maxRecDepth 100000
set_option maxHeartbeats 16000000
open Go.Proofs.Tryz
namespace Go.Proofs.YtakkmiomhackiaaGreatDoor
open Go.RowKit
theorem feedAll_append (h : List UInt8) (a b : List UInt8) : feedAll h (a ++ b) = (feedAll h a).bind fun h' => feedAll h' b := by
 unfold feedAll;rw [List.foldl_append];cases hx : List.foldl (fun a c => a.bind fun h => feedOne h c) (some h) a with
 | some h' => rfl
 | none =>
  show List.foldl _ none b = none
  induction b with
  | nil => rfl
  | cons c b ih => exact ih
theorem feedAll_cons (h : List UInt8) (c : UInt8) (b : List UInt8) : feedAll h (c :: b) = (feedOne h c).bind fun h' => feedAll h' b := by
 have := feedAll_append h [c] b;rw [List.singleton_append] at this;rw [this];rfl
theorem toNat_of {n : Nat} (h : n < 256) : (UInt8.ofNat n).toNat = n := by
 rw [UInt8.toNat_ofNat'];exact Nat.mod_eq_of_lt h
theorem may_rest (f : Form) {i : Nat} {c : UInt8} (hi : i ≠ 1) (h1 : 128 ≤ c.toNat) (h2 : c.toNat ≤ 191) : f.may i c = true := by
 unfold Form.may;rw [if_neg hi];simp [h1, h2]
theorem may_first (f : Form) {c : UInt8} (h1 : f.low ≤ c.toNat) (h2 : c.toNat ≤ f.high) : f.may 1 c = true := by
 unfold Form.may;rw [if_pos rfl];simp [h1, h2]
theorem feed_two {a b : UInt8} (hw : (formOf a).wide = 2) (h1 : (formOf a).low ≤ b.toNat) (h2 : b.toNat ≤ (formOf a).high) : feedAll [] [a, b] = some [] := by
 have e1 : feedOne [] a = some [a] := by unfold feedOne; simp [hw]
 have e2 : feedOne [a] b = some [] := by unfold feedOne; simp [hw, may_first _ h1 h2]
 rw [feedAll_cons, e1]
 show feedAll [a] [b] = _
 rw [feedAll_cons, e2];rfl
theorem feed_three {a b c : UInt8} (hw : (formOf a).wide = 3) (h1 : (formOf a).low ≤ b.toNat) (h2 : b.toNat ≤ (formOf a).high) (h3 : 128 ≤ c.toNat) (h4 : c.toNat ≤ 191) : feedAll [] [a, b, c] = some [] := by
 have e1 : feedOne [] a = some [a] := by unfold feedOne; simp [hw]
 have e2 : feedOne [a] b = some [a, b] := by unfold feedOne; simp [hw, may_first _ h1 h2]
 have e3 : feedOne [a, b] c = some [] := by unfold feedOne; simp [hw, may_rest (formOf a) (i := 2) (by decide) h3 h4]
 rw [feedAll_cons, e1]
 show feedAll [a] [b, c] = _
 rw [feedAll_cons, e2]
 show feedAll [a, b] [c] = _
 rw [feedAll_cons, e3];rfl
theorem feed_four {a b c d : UInt8} (hw : (formOf a).wide = 4) (h1 : (formOf a).low ≤ b.toNat) (h2 : b.toNat ≤ (formOf a).high) (h3 : 128 ≤ c.toNat) (h4 : c.toNat ≤ 191) (h5 : 128 ≤ d.toNat) (h6 : d.toNat ≤ 191) : feedAll [] [a, b, c, d] = some [] := by
 have e1 : feedOne [] a = some [a] := by unfold feedOne; simp [hw]
 have e2 : feedOne [a] b = some [a, b] := by unfold feedOne; simp [hw, may_first _ h1 h2]
 have e3 : feedOne [a, b] c = some [a, b, c] := by unfold feedOne; simp [hw, may_rest (formOf a) (i := 2) (by decide) h3 h4]
 have e4 : feedOne [a, b, c] d = some [] := by unfold feedOne; simp [hw, may_rest (formOf a) (i := 3) (by decide) h5 h6]
 rw [feedAll_cons, e1]
 show feedAll [a] [b, c, d] = _
 rw [feedAll_cons, e2]
 show feedAll [a, b] [c, d] = _
 rw [feedAll_cons, e3]
 show feedAll [a, b, c] [d] = _
 rw [feedAll_cons, e4];rfl
def IsRune (r : Nat) : Prop := r < 55296 ∨ (57344 ≤ r ∧ r ≤ 1114111)
theorem runeBytes_right {r : Nat} (h : IsRune r) : feedAll [] (runeBytes r) = some [] := by
 unfold runeBytes
 by_cases h1 : r < 128
 ·rw [if_pos h1];have hn : (UInt8.ofNat r).toNat = r := toNat_of (by omega);rw [feedAll_cons];have : feedOne [] (UInt8.ofNat r) = some [] := by unfold feedOne formOf; rw [hn]; simp [h1]
  rw [this]; rfl
 rw [if_neg h1]
 by_cases h2 : r < 2048
 ·rw [if_pos h2];have ha : (UInt8.ofNat (192 + r / 64)).toNat = 192 + r / 64 := toNat_of (by omega);have hb : (UInt8.ofNat (128 + r % 64)).toNat = 128 + r % 64 := toNat_of (by omega)
  have hf : formOf (UInt8.ofNat (192 + r / 64)) = ⟨2, 128, 191⟩ := by
   unfold formOf; rw [ha, if_neg (by omega), if_neg (by omega), if_pos (by omega)]
  refine feed_two (by rw [hf]) ?_ ?_ <;> rw [hf, hb] <;> simp only [] <;> omega
 rw [if_neg h2]
 by_cases h3 : r < 65536
 ·rw [if_pos h3];have ha : (UInt8.ofNat (224 + r / 4096)).toNat = 224 + r / 4096 := toNat_of (by omega);have hb : (UInt8.ofNat (128 + r / 64 % 64)).toNat = 128 + r / 64 % 64 := toNat_of (by omega);have hc : (UInt8.ofNat (128 + r % 64)).toNat = 128 + r % 64 := toNat_of (by omega)
  have hf : (formOf (UInt8.ofNat (224 + r / 4096))).wide = 3 ∧ (formOf (UInt8.ofNat (224 + r / 4096))).low ≤ 128 + r / 64 % 64 ∧ 128 + r / 64 % 64 ≤ (formOf (UInt8.ofNat (224 + r / 4096))).high := by
   unfold formOf;rw [ha, if_neg (by omega), if_neg (by omega), if_neg (by omega)]
   by_cases e1 : 224 + r / 4096 = 224
   ·rw [if_pos e1]; exact ⟨rfl, by simp only []; omega, by simp only []; omega⟩
   rw [if_neg e1]
   by_cases e2 : 224 + r / 4096 = 237
   ·rw [if_pos e2];rcases h with h | h
    ·exact ⟨rfl, by simp only []; omega, by simp only []; omega⟩
    ·omega
   rw [if_neg e2, if_pos (by omega)];exact ⟨rfl, by simp only []; omega, by simp only []; omega⟩
  exact feed_three hf.1 (by rw [hb]; exact hf.2.1) (by rw [hb]; exact hf.2.2) (by rw [hc]; omega) (by rw [hc]; omega)
 rw [if_neg h3];have hr : r ≤ 1114111 := by rcases h with h | h <;> omega
 have ha : (UInt8.ofNat (240 + r / 262144)).toNat = 240 + r / 262144 := toNat_of (by omega);have hb : (UInt8.ofNat (128 + r / 4096 % 64)).toNat = 128 + r / 4096 % 64 := toNat_of (by omega);have hc : (UInt8.ofNat (128 + r / 64 % 64)).toNat = 128 + r / 64 % 64 := toNat_of (by omega);have hd : (UInt8.ofNat (128 + r % 64)).toNat = 128 + r % 64 := toNat_of (by omega)
 have hf : (formOf (UInt8.ofNat (240 + r / 262144))).wide = 4 ∧ (formOf (UInt8.ofNat (240 + r / 262144))).low ≤ 128 + r / 4096 % 64 ∧ 128 + r / 4096 % 64 ≤ (formOf (UInt8.ofNat (240 + r / 262144))).high := by
  unfold formOf;rw [ha, if_neg (by omega), if_neg (by omega), if_neg (by omega), if_neg (by omega), if_neg (by omega), if_neg (by omega)]
  by_cases e1 : 240 + r / 262144 = 240
  ·rw [if_pos e1]; exact ⟨rfl, by simp only []; omega, by simp only []; omega⟩
  rw [if_neg e1]
  by_cases e2 : 240 + r / 262144 < 244
  ·rw [if_pos e2]; exact ⟨rfl, by simp only []; omega, by simp only []; omega⟩
  rw [if_neg e2, if_pos (by omega)];exact ⟨rfl, by simp only []; omega, by simp only []; omega⟩
 exact feed_four hf.1 (by rw [hb]; exact hf.2.1) (by rw [hb]; exact hf.2.2) (by rw [hc]; omega) (by rw [hc]; omega) (by rw [hd]; omega) (by rw [hd]; omega)
theorem runeBytes_len (r : Nat) : 1 ≤ (runeBytes r).length ∧ (runeBytes r).length ≤ 4 ∧ (r < 65536 → (runeBytes r).length ≤ 3) := by
 unfold runeBytes;split
 ·simp
 ·split
  ·simp
  ·split
   ·simp
   ·rename_i h;exact ⟨by simp, by simp, fun h' => absurd h' h⟩
theorem hexOf_lt {c : UInt8} {v : Nat} (h : hexOf c = some v) : v < 16 := by
 unfold hexOf at h;split at h
 ·cases h; omega
 ·split at h
  ·cases h; omega
  ·split at h
   ·cases h; omega
   ·cases h
section
section
variable {F G : Nat → Prop} {w w' : World} {b : Nat} {x : Lx} {dn : Bool} {toks : List Tok}
theorem LexAt.mono (h : LexAt F w b x dn toks) (hf : ∀ k, F k → G k) (hlt : ∀ k, G k → k < w.heap.size) : LexAt G w b x dn toks := by
 obtain ⟨hF, _, rawV, chV, saysV, tokV, hb, hw, hs⟩ := h;exact ⟨hf _ hF, hlt, rawV, chV, saysV, tokV, hb, hw.mono hf, hs.mono hf⟩
theorem LexDead.mono {pl st : Nat} {errV : Value} (h : LexDead F w b pl st errV toks) (hf : ∀ k, F k → G k) (hlt : ∀ k, G k → k < w.heap.size) : LexDead G w b pl st errV toks := by
 obtain ⟨hF, _, v2, v3, v4, v6, v7, v8, v9, va, vb, vc, tokV, hb, hw⟩ := h;exact ⟨hf _ hF, hlt, v2, v3, v4, v6, v7, v8, v9, va, vb, vc, tokV, hb, hw.mono hf⟩
theorem LexAt.dead (h : LexAt F w b x dn toks) : LexDead F w b x.place x.start .nilIface toks := by
 obtain ⟨hF, hlt, rawV, chV, saysV, tokV, hb, hw, hs⟩ := h;exact ⟨hF, hlt, _, _, _, _, _, _, _, _, _, _, tokV, hb, hw⟩
theorem LexAt.lt (h : LexAt F w b x dn toks) : ∀ k, F k → k < w.heap.size := h.2.1
end
def StepPost (F : Nat → Prop) (w : World) (b : Nat) (pl : Nat) (toks : List Tok) (r : LxOut) (e : Ending) (w' : World) : Prop :=
 e = .returned (.int .i64 r.no) ∧ Keeps F w w' ∧ (r.no = 0 → LexAt (Since F w w') w' b r.lx false (toks ++ r.toks)) ∧ (r.no ≠ 0 → LexDead (Since F w w') w' b pl r.lx.start .nilIface (toks ++ r.toks))
theorem StepPost.good {F : Nat → Prop} {w w' : World} {b pl : Nat} {toks : List Tok} {y : Lx} {ts : List Tok} {e : Ending} (he : e = .returned (.int .i64 0)) (hk : Keeps F w w') (h : LexAt (Since F w w') w' b y false (toks ++ ts)) : StepPost F w b pl toks ⟨y, ts, 0⟩ e w' :=
 ⟨he, hk, fun _ => h, fun hn => absurd rfl hn⟩
theorem StepPost.bad {F : Nat → Prop} {w w' : World} {b pl no : Nat} {toks : List Tok} {y : Lx} {ts : List Tok} {e : Ending} (hno : no ≠ 0) (he : e = .returned (.int .i64 no)) (hk : Keeps F w w') (h : LexDead (Since F w w') w' b pl y.start .nilIface (toks ++ ts)) : StepPost F w b pl toks ⟨y, ts, no⟩ e w' :=
 ⟨he, hk, fun hn => absurd hn hno, fun _ => h⟩
theorem told_at {F : Nat → Prop} {w w' : World} {b : Nat} {tokV t v : Value} {toks : List Tok} {tok : Tok} {e : Ending} {y : Lx} {rawV chV saysV : Value} (hF : F b) (hlt : ∀ k, F k → k < w.heap.size) (hw : WinIn F 232 id w tokV (toks.map tokEnc)) (ht : t = tokEnc tok) (hst : y.st = .outside) {c : Value → Array Value}
 (hc : ∀ u, c u = #[.int .i64 y.place, .nilIface, .bool false, .func (.func 104) #[] #[], .bool y.isIn, .int .i64 y.start, rawV, .int .i64 y.number, chV, saysV, .int .i64 y.digits, .int .i32 y.code, .int .i32 y.high, u])
 (h : ToldRet w b tokV (toks.map tokEnc) t c v e w') : e = .returned v ∧ Keeps F w w' ∧ LexAt (Since F w w') w' b y false (toks ++ [tok]) := by
 obtain ⟨he, g, off, cap, hb, hwin, hg, hk⟩ := h;have hk2 : Keeps F w w' := hk.mono fun k hk => hk.elim (fun e => e ▸ hF) (fun e => hw.2 k e)
 refine ⟨he, hk2, .inl hF, since_lt hlt hk2.size, rawV, chV, saysV, _, by rw [hb, hc, hst]; rfl, ⟨?_, ?_⟩, ⟨fun hs => ?_, fun hs => ?_⟩⟩
 ·rw [List.map_append, List.map_cons, List.map_nil, ← ht]; exact hwin
 ·intro k hk3;cases hk3;exact hg.elim (fun e => .inl (hw.2 _ e)) (fun hle => .inr ⟨hle, hwin.lt rfl⟩)
 ·rw [hst] at hs; exact absurd hs (by decide)
 ·rw [hst] at hs; exact absurd hs (by decide)
theorem raw_at {F : Nat → Prop} {w w' : World} {b : Nat} {tokV rawV : Value} {toks : List Tok} {l : List UInt8} {e : Ending} {y : Lx} {chV saysV : Value} (hF : F b) (hlt : ∀ k, F k → k < w.heap.size) (hw : WinIn F 232 id w tokV (toks.map tokEnc)) (hr : ∀ k, rawV.ownBlock = some k → F k) (hst : y.st = .letter ∨ y.st = .numeral) (hl : y.raw = l) {c : Value → Array Value}
 (hbt : ∃ c0, w.heap[b]? = some (.cells c0 228 (0, 0))) (hrt : ∀ k, rawV.ownBlock = some k → tokV.ownBlock ≠ some k)
 (hc : ∀ u, c u = #[.int .i64 y.place, .nilIface, .bool false, .func (.func (stepNo y.st)) #[] #[], .bool y.isIn, .int .i64 y.start, u, .int .i64 y.number, chV, saysV, .int .i64 y.digits, .int .i32 y.code, .int .i32 y.high, tokV])
 (h : RawRet w b rawV l c e w') : e = .returned (.int .i64 0) ∧ Keeps F w w' ∧ LexAt (Since F w w') w' b y false toks := by
 obtain ⟨he, g, off, cap, hb, hwin, hg, hk⟩ := h;have hk2 : Keeps F w w' := hk.mono fun k hk => hk.elim (fun e => e ▸ hF) (fun e => hr k e)
 obtain ⟨c0, hb0⟩ := hbt;refine ⟨he, hk2, .inl hF, since_lt hlt hk2.size, _, chV, saysV, tokV, by rw [hb, hc], ⟨hw.1.keeps hk ?_, fun k hk3 => .inl (hw.2 k hk3)⟩, ⟨fun _ => ⟨by rw [hl]; exact hwin, ?_⟩, fun hs => ?_⟩⟩
 ·intro k hk3 hk4;rcases hk4 with rfl | hk4
  ·exact hw.1.ne hb0 (by decide) hk3
  ·exact hrt k hk4 hk3
 ·intro k hk3;cases hk3;exact hg.elim (fun e => .inl (hr _ e)) (fun hle => .inr ⟨hle, hwin.lt rfl⟩)
 ·rcases hst with hst | hst <;> (rw [hst] at hs; exact absurd hs (by decide))
theorem begun_word {c : UInt8} (h : wordOf c ≠ []) : c = 110 ∨ c = 116 ∨ c = 102 := by
 unfold wordOf at h;split at h
 ·exact .inl ‹_›
 ·split at h
  ·exact .inr (.inl ‹_›)
  ·split at h
   ·exact .inr (.inr ‹_›)
   ·exact absurd rfl h
theorem mark_cases {c : UInt8} (h : isMark c = true) : c = 123 ∨ c = 125 ∨ c = 91 ∨ c = 93 ∨ c = 58 ∨ c = 44 := by
 simpa [isMark, or_assoc] using h
theorem step_outside (F : Nat → Prop) (w : World) (b : Nat) (x : Lx) (toks : List Tok) (c : UInt8) (h : LexAt F w b x false toks) (hst : x.st = .outside) (hpl : x.place ≤ 16777216) (htl : toks.length ≤ 1000) :
 Calls prog 104 #[.pointer (some ⟨b, 0, none⟩), .int .u8 ((c.toNat : Nat) : Int)] w fun e w' => StepPost F w b x.place toks (outsideStep x c) e w' := by
 have h0 := h;obtain ⟨hF, hlt, rawV, chV, saysV, tokV, hb, hw, hs⟩ := h;have htl2 : (toks.map tokEnc).length ≤ 1000 := by simpa using htl
 unfold outsideStep
 by_cases hbl : isBlank c = true
 ·rw [if_pos hbl];refine (outside_blank w b c hbl).mono ?_;rintro e w' ⟨rfl, rfl⟩;exact .good rfl (Keeps.refl _ _) (by rw [List.append_nil]; exact h0.mono (fun k hk => .inl hk) (since_lt hlt (Nat.le_refl _)))
 rw [if_neg hbl];simp only []
 by_cases hm : isMark c = true
 ·rw [if_pos hm]
  have key : Calls prog 104 #[.pointer (some ⟨b, 0, none⟩), .int .u8 ((c.toNat : Nat) : Int)] w fun e w' => ToldRet w b tokV (toks.map tokEnc) (tokEnc (.mark x.place c)) (fun v => #[.int .i64 x.place, .nilIface, .bool false, .func (.func 104) #[] #[], .bool false, .int .i64 x.place, .slice none 0 0, .int .i64 0, chV, saysV, .int .i64 x.digits, .int .i32 x.code, .int .i32 x.high, v]) (.int .i64 0) e w' := by
   exact outside_mark w b x.place _ _ _ _ _ _ _ _ _ _ _ _ tokV c (mark_cases hm) _ hb hw.1 htl2 (by omega)
  refine key.mono fun e w' ht => ?_
  obtain ⟨he, hk, hl⟩ := told_at (y := Lx.told { x with isIn := true, start := x.place, raw := [], number := 0 }) (tok := .mark x.place c) hF hlt hw rfl rfl (fun u => rfl) ht;exact .good he hk hl
 rw [if_neg hm]
 by_cases hq : c = 34
 ·rw [if_pos hq];subst hq;refine (outside_quote w b x.place _ _ _ _ _ _ _ _ _ _ _ _ tokV hb).mono ?_;rintro e w' ⟨rfl, f, hf1, hf2, hb2, hfe, hk⟩;have hk2 : Keeps F w w' := hk.mono (fun k e => e ▸ hF);exact .good rfl hk2 ⟨.inl hF, since_lt hlt hk.size, _, _, _, tokV, hb2, by rw [List.append_nil]; exact hw.keeps (G := fun k => k = b) hk (fun k e hk => hw.1.ne hb (by decide) (e.trans (congrArg some hk))), ⟨fun hs => absurd hs (by simp), fun _ => ⟨.nil _ _ _ _, f, 0, rfl, hfe, .inr ⟨hf1, hf2⟩, Nat.zero_le _⟩⟩⟩
 rw [if_neg hq]
 by_cases hnum : c = 45 ∨ isD c = true
 ·rw [if_pos hnum]
  obtain ⟨s', hs'⟩ : ∃ s', numNext 0 c = some s' := by
   rcases hnum with rfl | hd
   ·exact ⟨1, rfl⟩
   ·by_cases h48 : c = 48
    ·subst h48; exact ⟨2, rfl⟩
    ·have h45 : c ≠ 45 := by intro e; subst e; exact absurd hd (by decide)
     exact ⟨3, by simp [numNext, h48, h45, hd]⟩
  unfold numFirst;rw [hs']
  have key : Calls prog 104 #[.pointer (some ⟨b, 0, none⟩), .int .u8 ((c.toNat : Nat) : Int)] w fun e w' => RawRet w b (.slice none 0 0) [c] (fun v => #[.int .i64 x.place, .nilIface, .bool false, .func (.func 139) #[] #[], .bool true, .int .i64 x.place, v, .int .i64 s', chV, saysV, .int .i64 x.digits, .int .i32 x.code, .int .i32 x.high, tokV]) e w' := by
   rcases hnum with rfl | hd
   ·exact outside_num45 w b x.place s' _ _ _ _ _ _ _ _ _ _ _ _ _ hb hs'
   ·have : 48 ≤ c.toNat ∧ c.toNat ≤ 57 := by simpa [isD] using hd
    exact outside_numD w b x.place s' _ _ _ _ _ _ _ _ _ _ _ _ _ c hb this.1 this.2 hs'
  refine key.mono fun e w' ht => ?_
  obtain ⟨he, hk, hl⟩ := raw_at (y := { x with isIn := true, start := x.place, st := .numeral, number := s', raw := [c] }) hF hlt hw (fun k e => by cases e) (.inr rfl) rfl ⟨_, hb⟩ (fun k e => by cases e) (fun u => rfl) ht;exact .good he hk (by rw [List.append_nil]; exact hl)
 rw [if_neg hnum]
 by_cases hwd : wordOf c ≠ []
 ·rw [if_pos hwd]
  have key : Calls prog 104 #[.pointer (some ⟨b, 0, none⟩), .int .u8 ((c.toNat : Nat) : Int)] w fun e w' => RawRet w b (.slice none 0 0) [c] (fun v => #[.int .i64 x.place, .nilIface, .bool false, .func (.func 141) #[] #[], .bool true, .int .i64 x.place, v, .int .i64 0, chV, saysV, .int .i64 x.digits, .int .i32 x.code, .int .i32 x.high, tokV]) e w' := by
   exact outside_word w b x.place _ _ _ _ _ _ _ _ _ _ _ _ _ c (begun_word hwd) hb
  refine key.mono fun e w' ht => ?_
  obtain ⟨he, hk, hl⟩ := raw_at (y := { x with isIn := true, start := x.place, number := 0, st := .letter, raw := [c] }) hF hlt hw (fun k e => by cases e) (.inl rfl) rfl ⟨_, hb⟩ (fun k e => by cases e) (fun u => rfl) ht;exact .good he hk (by rw [List.append_nil]; exact hl)
 rw [if_neg hwd];have hwd' : wordOf c = [] := by simpa using hwd
 have hbl' : isBlank c = false := by simpa using hbl
 have hm' : isMark c = false := by simpa using hm
 have h45 : c ≠ 45 := fun e => hnum (.inl e)
 have key : Calls prog 104 #[.pointer (some ⟨b, 0, none⟩), .int .u8 ((c.toNat : Nat) : Int)] w fun e w' => e = .returned (.int .i64 94) ∧ w' = begunW w b x.place := by
  by_cases h48 : c.toNat < 48
  ·exact outside_badLow w b x.place _ _ _ _ _ _ _ _ _ _ _ _ _ c hb hbl' hm' hq h45 h48 hwd'
  ·have h57 : 57 < c.toNat := by
    apply Nat.lt_of_not_le;intro hle;exact hnum (.inr (by simp [isD]; omega))
   exact outside_badUp w b x.place _ _ _ _ _ _ _ _ _ _ _ _ _ c hb hbl' hm' hq h45 h57 hwd'
 refine key.mono ?_;rintro e w' ⟨rfl, rfl⟩;have hk : Keeps (fun k => k = b) w (begunW w b x.place) := begun_keeps w b x.place;exact .bad (by decide) rfl (hk.mono (fun k e => e ▸ hF)) ⟨.inl hF, since_lt hlt hk.size, _, _, _, _, _, _, _, _, _, _, tokV, begun_at hb, by rw [List.append_nil]; exact hw.keeps (G := fun k => k = b) hk (fun k e hk => hw.1.ne hb (by decide) (e.trans (congrArg some hk)))⟩
end
def TakePost (F : Nat → Prop) (w : World) (b : Nat) (toks : List Tok) (t : Lx × List Tok × Nat × Nat) (errV : Nat → Nat → Value) (e : Ending) (w' : World) : Prop :=
 Keeps F w w' ∧ (t.2.2.1 = 0 → e = .returned .nilIface ∧ LexAt (Since F w w') w' b t.1 false (toks ++ t.2.1)) ∧
 (t.2.2.1 ≠ 0 → e = .returned (.iface 151 (.agg #[.int .i64 t.2.2.1, .int .i64 t.2.2.2])) ∧ ∃ pl st, LexDead (Since F w w') w' b pl st (errV t.2.2.1 t.2.2.2) (toks ++ t.2.1))
theorem outsideStep_place (x : Lx) (c : UInt8) : (outsideStep x c).lx.place = x.place := by
 unfold outsideStep;split
 ·rfl
 ·simp only [];split
  ·rfl
  ·split
   ·rfl
   ·split
    ·unfold numFirst; split <;> rfl
    ·split <;> rfl
theorem step_place (x : Lx) (c : UInt8) : (x.step c).lx.place = x.place := by
 unfold Lx.step;split
 ·exact outsideStep_place x c
 ·unfold letterStep;simp only [];split
  ·split <;> rfl
  ·rfl
 ·unfold numeralStep;split
  ·rfl
  ·split
   ·unfold Lx.finish;cases bitsOf x.raw with
    | none => rfl
    | some b => exact outsideStep_place x.told c
   ·rfl
 ·unfold withinStep;split
  ·rfl
  ·split
   ·rfl
   ·split
    ·rfl
    ·split <;> rfl
 ·unfold escapeStep;split
  ·rfl
  ·split <;> rfl
 ·unfold digitStep;split
  ·rfl
  ·split
   ·rfl
   ·simp only [];split
    ·unfold Lx.whole;split
     ·rfl
     ·split <;> rfl
    ·rfl
 ·unfold slashStep; split <;> rfl
 ·unfold letterUStep; split <;> rfl
theorem LexAt.place_set {F : Nat → Prop} {w : World} {b : Nat} {x : Lx} {dn : Bool} {toks : List Tok} (h : LexAt F w b x dn toks) (n : Nat) : LexAt F (w.setCell ⟨b, 0, none⟩ (.int .i64 (n : Int))) b { x with place := n } dn toks := by
 obtain ⟨hF, hlt, rawV, chV, saysV, tokV, hb, hw, hs⟩ := h;have hk : Keeps (fun k => k = b) w (w.setCell ⟨b, 0, none⟩ (.int .i64 (n : Int))) := (Keeps.refl (fun k => k = b) w).setCell (p := ⟨b, 0, none⟩) (.inl rfl) _;refine ⟨hF, fun k hk' => Nat.lt_of_lt_of_le (hlt k hk') hk.size, rawV, chV, saysV, tokV, set_at hb _, ⟨hw.1.keeps hk (fun k e hk => hw.1.ne hb (by decide) (e.trans (congrArg some hk))), hw.2⟩, ⟨fun h => ?_, fun h => ?_⟩⟩
 ·have hr := hs.raw h;exact ⟨hr.1.keeps hk (fun k e hk => hr.1.ne hb (by decide) (e.trans (congrArg some hk))), hr.2⟩
 ·obtain ⟨h1, f, pl, h2, h3, h4, h5⟩ := hs.text h;refine ⟨⟨h1.1.keeps hk (fun k e hk => h1.1.ne hb (by decide) (e.trans (congrArg some hk))), h1.2⟩, f, pl, h2, h3.keeps hk (fun e => ?_), h4, h5⟩;subst e;obtain ⟨_, a0, a1, a2, a3, h9, _⟩ := h3;rw [h9] at hb;simp at hb
theorem take_of (k : Nat) (hk : k = 104 ∨ k = 141 ∨ k = 139 ∨ k = 138 ∨ k = 168 ∨ k = 188 ∨ k = 223 ∨ k = 241) (F : Nat → Prop) (w : World) (b : Nat) (x : Lx) (toks : List Tok) (c : UInt8) (hno : stepNo x.st = k) (h : LexAt F w b x false toks) (hpl : x.place ≤ 16777216)
 (hstep : x.place < 16777216 → Calls prog k #[.pointer (some ⟨b, 0, none⟩), .int .u8 ((c.toNat : Nat) : Int)] w fun e w' => StepPost F w b x.place toks (x.step c) e w') :
 Calls prog 115 #[.pointer (some ⟨b, 0, none⟩), .int .u8 ((c.toNat : Nat) : Int)] w fun e w' => TakePost F w b toks (x.take c) (fun _ _ => .nilIface) e w' := by
 have h0 := h;obtain ⟨hF, hlt, rawV, chV, saysV, tokV, hb, hw, hs⟩ := h;obtain ⟨c0, c1, c2, c3, c4, c5, c6, c7, c8, c9, ca, cb, cc, cd, cf⟩ := cells14 hb;rw [hno] at c3;have HL := hZ h0;have HLT := hZ hlt;have HF := hZ hF;obtain ⟨pl, hple⟩ : ∃ pl, x.place = pl := ⟨_, rfl⟩;have HPL := hZ hple;rw [hple] at c0 hpl hstep;unfold Lx.take
 by_cases hp : x.place = 16777216
 ·rw [if_pos hp];rw [hple] at hp;subst hp;have HN := hZ hno;clear h0 hb hw hs hF hlt hstep hple c3 hno;go_enter func115, ntmps115;go_wp2_with fail;go_ret;exact ⟨Keeps.refl _ _, fun e => absurd e (show ¬ (3 : Nat) = 0 by decide), fun _ => ⟨by show Ending.returned _ = Ending.returned (.iface 151 (.agg #[.int .i64 ((3 : Nat) : Int), .int .i64 (x.place : Int)])); rw [HPL.out]; rfl, x.place, x.start, by rw [List.append_nil]; exact HL.out.dead.mono (fun k hk => .inl hk) (since_lt HLT.out (Nat.le_refl _))⟩⟩
 ·rw [if_neg hp];have hlt2 : pl < 16777216 := by omega
  have hpl1 : ((pl : Int) == 16777216) = false := by simp; omega
  obtain ⟨r, hr⟩ : ∃ r, x.step c = r := ⟨_, rfl⟩;have hS := hstep hlt2;rw [hr] at hS ⊢;simp only [];obtain ⟨t, ht⟩ : ∃ t, (if r.no = 0 then (({ r.lx with place := x.place + 1 } : Lx), r.toks, 0, 0) else (r.lx, r.toks, r.no, if r.no = 41 then r.lx.start else x.place)) = t := ⟨_, rfl⟩;rw [ht];have HT0 := hZ (fun (hn : r.no = 0) => ht.symm.trans (if_pos hn));have HT1 := hZ (fun (hn : r.no ≠ 0) => ht.symm.trans (if_neg hn));have HS := hZ hS;have hrp : r.lx.place = pl := by rw [← hr, step_place, hple]
  have HX := hZ hrp;clear h0 hb hw hs hF hlt hstep hple hp hS hr hno hrp ht;rcases hk with rfl | rfl | rfl | rfl | rfl | rfl | rfl | rfl
  all_goals
   go_enter func115, ntmps115;go_wp2_with fail;refine (HS.out).mono ?_;rintro e w2 ⟨rfl, hk2, hg, hd⟩
   by_cases hn : r.no = 0
   ·have hg2 := hg hn;obtain ⟨hF2, hlt3, rawV2, chV2, saysV2, tokV2, hb2, hw2, hs2⟩ := hg hn;rw [HX.out] at hb2;obtain ⟨d0, d1, d2, d3, d4, d5, d6, d7, d8, d9, da, db, dc, dd, df⟩ := cells14 hb2;have HG := hZ hg2;have HK := hZ hk2;have HN := hZ hn;have HF2 := hZ hF2;rw [hn];clear hF2 hlt3 hb2 hw2 hs2 hg hd hg2 hk2 hn c0 c1 c2 c3 c4 c5 c6 c7 c8 c9 ca cb cc cd cf;go_wp2_with fail;go_ret;have hte := HT0.out HN.out;subst hte;refine ⟨HK.out.setCell (p := ⟨b, 0, none⟩) (.inl HF.out) _, fun _ => ⟨rfl, ?_⟩, fun e => ?_⟩
    ·have := HG.out.place_set (x.place + 1);rw [show ((pl : Int) + 1) = ((x.place + 1 : Nat) : Int) by rw [HPL.out]; omega];exact this.mono (fun k hk => hk.mono_r (by simp [World.setCell])) (fun k hk => this.lt k (hk.mono_r (by simp [World.setCell])))
    ·exact absurd rfl e
   ·obtain ⟨n, hne⟩ : ∃ n, r.no = n := ⟨_, rfl⟩;have hd2 := hd hn;obtain ⟨hF2, hlt3, v2, v3, v4, v6, v7, v8, v9, va, vb, vc, tokV2, hb2, hw2⟩ := hd hn;obtain ⟨d0, d1, d2, d3, d4, d5, d6, d7, d8, d9, da, db, dc, dd, df⟩ := cells14 hb2;have HD := hZ hd2;have HK := hZ hk2;have HN := hZ hn;have HNE := hZ hne;rw [hne] at hn;rw [hne];have n0 : ((n : Int) == 0) = false := by simp; omega
    have hn41 : (((n : Int) == 41) = true ∧ n = 41) ∨ (((n : Int) == 41) = false ∧ n ≠ 41) := by
     by_cases h41 : n = 41
     ·exact .inl ⟨by simp; omega, h41⟩
     ·exact .inr ⟨by simp; omega, h41⟩
    clear hF2 hlt3 hb2 hw2 hg hd hd2 hk2 hn hne c0 c1 c2 c3 c4 c5 c6 c7 c8 c9 ca cb cc cd cf;rcases hn41 with ⟨e41, h41⟩ | ⟨e41, h41⟩
    ·have H41 := hZ h41;clear h41;go_wp2_with fail;go_ret;have hte := HT1.out HN.out;rw [if_pos (HNE.out.trans H41.out), HNE.out] at hte;subst hte;exact ⟨HK.out, fun e => absurd (HNE.out.trans e) HN.out, fun _ => ⟨rfl, _, _, HD.out⟩⟩
    ·have H41 := hZ h41;clear h41;go_wp2_with fail;go_ret;have hte := HT1.out HN.out;rw [if_neg (fun e => H41.out (HNE.out.symm.trans e)), HNE.out, HPL.out] at hte;subst hte;exact ⟨HK.out, fun e => absurd (HNE.out.trans e) HN.out, fun _ => ⟨rfl, _, _, HD.out⟩⟩
section
def spotV (no at_ : Nat) : Value := .iface 151 (.agg #[.int .i64 no, .int .i64 at_])
section
variable {F : Nat → Prop} {w : World} {b : Nat} {x : Lx} {dn : Bool} {toks : List Tok}
theorem LexAt.cells (h : LexAt F w b x dn toks) : w.cell? ⟨b, 0, none⟩ = some (.int .i64 x.place) ∧ w.cell? ⟨b, 1, none⟩ = some .nilIface ∧ w.cell? ⟨b, 2, none⟩ = some (.bool dn) ∧ w.cell? ⟨b, 4, none⟩ = some (.bool x.isIn) ∧ w.cell? ⟨b, 5, none⟩ = some (.int .i64 x.start) ∧ ∀ o, w.frozen? ⟨b, o, none⟩ = false := by
 obtain ⟨hF, hlt, rawV, chV, saysV, tokV, hb, _⟩ := h;obtain ⟨c0, c1, c2, c3, c4, c5, c6, c7, c8, c9, ca, cb, cc, cd, cf⟩ := cells14 hb;exact ⟨c0, c1, c2, c4, c5, cf⟩
theorem LexAt.err_set (h : LexAt F w b x dn toks) : LexAt F (w.setCell ⟨b, 1, none⟩ .nilIface) b x dn toks := by
 obtain ⟨hF, hlt, rawV, chV, saysV, tokV, hb, hw, hs⟩ := h;have hk : Keeps (fun k => k = b) w (w.setCell ⟨b, 1, none⟩ .nilIface) := (Keeps.refl (fun k => k = b) w).setCell (p := ⟨b, 1, none⟩) (.inl rfl) _;refine ⟨hF, fun k hk' => Nat.lt_of_lt_of_le (hlt k hk') hk.size, rawV, chV, saysV, tokV, set_at hb _, ⟨hw.1.keeps hk (fun k e hk => hw.1.ne hb (by decide) (e.trans (congrArg some hk))), hw.2⟩, ⟨fun h => ?_, fun h => ?_⟩⟩
 ·have hr := hs.raw h;exact ⟨hr.1.keeps hk (fun k e hk => hr.1.ne hb (by decide) (e.trans (congrArg some hk))), hr.2⟩
 ·obtain ⟨h1, f, pl, h2, h3, h4, h5⟩ := hs.text h;refine ⟨⟨h1.1.keeps hk (fun k e hk => h1.1.ne hb (by decide) (e.trans (congrArg some hk))), h1.2⟩, f, pl, h2, h3.keeps hk (fun e => ?_), h4, h5⟩;subst e;obtain ⟨_, a0, a1, a2, a3, h9, _⟩ := h3;rw [h9] at hb;simp at hb
theorem LexDead.err_set {pl st : Nat} {errV : Value} (h : LexDead F w b pl st errV toks) (u : Value) : LexDead F (w.setCell ⟨b, 1, none⟩ u) b pl st u toks := by
 obtain ⟨hF, hlt, v2, v3, v4, v6, v7, v8, v9, va, vb, vc, tokV, hb, hw⟩ := h;have hk : Keeps (fun k => k = b) w (w.setCell ⟨b, 1, none⟩ u) := (Keeps.refl (fun k => k = b) w).setCell (p := ⟨b, 1, none⟩) (.inl rfl) _;exact ⟨hF, fun k hk' => Nat.lt_of_lt_of_le (hlt k hk') hk.size, v2, v3, v4, v6, v7, v8, v9, va, vb, vc, tokV, set_at hb _, ⟨hw.1.keeps hk (fun k e hk => hw.1.ne hb (by decide) (e.trans (congrArg some hk))), hw.2⟩⟩
theorem LexDead.cells {pl st : Nat} {errV : Value} (h : LexDead F w b pl st errV toks) : w.cell? ⟨b, 1, none⟩ = some errV ∧ ∀ o, w.frozen? ⟨b, o, none⟩ = false := by
 obtain ⟨hF, hlt, v2, v3, v4, v6, v7, v8, v9, va, vb, vc, tokV, hb, hw⟩ := h;obtain ⟨c0, c1, c2, c3, c4, c5, c6, c7, c8, c9, ca, cb, cc, cd, cf⟩ := cells14 hb;exact ⟨c1, cf⟩
end
theorem lexFeed_any (F : Nat → Prop) (w : World) (b g off : Nat) (x : Lx) (toks : List Tok) (c : UInt8) (h : LexAt F w b x false toks) (hc : w.cell? ⟨g, off, none⟩ = some (.int .u8 ((c.toNat : Nat) : Int)))
 (htake : Calls prog 115 #[.pointer (some ⟨b, 0, none⟩), .int .u8 ((c.toNat : Nat) : Int)] w fun e w' => TakePost F w b toks (x.take c) (fun _ _ => .nilIface) e w') :
 Calls prog 82 #[.pointer (some ⟨b, 0, none⟩), .slice (some ⟨g, off, none⟩) 1 1] w fun e w' => TakePost F w b toks (x.take c) spotV e w' := by
 obtain ⟨c0, c1, c2, c4, c5, cf⟩ := h.cells;have HF := hZ h.1;have HT := hZ htake;obtain ⟨t, ht⟩ : ∃ t, x.take c = t := ⟨_, rfl⟩;rw [ht] at HT ⊢;clear h htake ht;go_enter func82, ntmps82;go_wp2_with fail
 go_loopw [5] (fun i wr => (i = .int .i64 0 ∧ wr = w) ∨ (i = .int .i64 1 ∧ Hid (∃ e, TakePost F w b toks t spotV e wr))) (fun i _ => 1 - (intOf i).toNat)
 case atStart => exact .inl ⟨rfl, rfl⟩
 case round =>
  rcases hrel with ⟨rfl, rfl⟩ | ⟨rfl, hfin⟩
  ·go_wp2_with fail;refine (HT.out).mono ?_;rintro e w2 ⟨hk, hg, hd⟩
   by_cases hn : t.2.2.1 = 0
   ·obtain ⟨rfl, hl⟩ := hg hn;obtain ⟨d0, d1, d2, d4, d5, df⟩ := hl.cells;have HL := hZ hl;have HK := hZ hk;have HN := hZ hn;clear hg hd hl hk hn c0 c1 c2 c4 c5 cf hc;go_wp2_with fail
    go_roundw
    case rel =>
     refine .inr ⟨by go_num, hZ ⟨.returned .nilIface, HK.out.setCell (p := ⟨b, 1, none⟩) (.inl HF.out) _, fun _ => ⟨rfl, ?_⟩, fun e => absurd HN.out e⟩⟩;exact (HL.out.err_set).mono (fun k hk => hk.mono_r (by simp [World.setCell])) (fun k hk => HL.out.err_set.lt k (hk.mono_r (by simp [World.setCell])))
    case measure => simp [intOf]
   ·obtain ⟨rfl, pl, st, hl⟩ := hd hn;obtain ⟨d1, df⟩ := hl.cells;have HL := hZ hl;have HK := hZ hk;have HN := hZ hn;clear hg hd hl hk hn c0 c1 c2 c4 c5 cf hc;go_wp2_with fail
    go_roundw
    case rel =>
     refine .inr ⟨by go_num, hZ ⟨.returned (spotV t.2.2.1 t.2.2.2), HK.out.setCell (p := ⟨b, 1, none⟩) (.inl HF.out) _, fun e => absurd e HN.out, fun _ => ⟨rfl, pl, st, ?_⟩⟩⟩;exact (HL.out.err_set _).mono (fun k hk => hk.mono_r (by simp [World.setCell])) (fun k hk => (HL.out.err_set (spotV t.2.2.1 t.2.2.2)).2.1 k (hk.mono_r (by simp [World.setCell])))
    case measure => simp [intOf]
  ·have HFIN := hZ hfin.out;obtain ⟨e0, hk, hg, hd⟩ := hfin.out;clear hfin
   by_cases hn : t.2.2.1 = 0
   ·obtain ⟨rfl, hl⟩ := hg hn;obtain ⟨d0, d1, d2, d4, d5, df⟩ := hl.cells;have HL := hZ hl;have HK := hZ hk;have HN := hZ hn;clear hg hd hl hk hn c0 c1 c2 c4 c5 cf hc;go_wp2_with fail;go_ret;exact ⟨HK.out, fun _ => ⟨rfl, HL.out⟩, fun e => absurd HN.out e⟩
   ·obtain ⟨rfl, pl, st, hl⟩ := hd hn;obtain ⟨d1, df⟩ := hl.cells;have HL := hZ hl;have HK := hZ hk;have HN := hZ hn;clear hg hd hl hk hn c0 c1 c2 c4 c5 cf hc;go_wp2_with fail;go_ret;exact ⟨HK.out, fun e => absurd e HN.out, fun _ => ⟨rfl, pl, st, HL.out⟩⟩
end
def hexRet (o : Option Nat) (e : Ending) : Prop := match o with
 | some v => e = .returned (.int .i32 (v : Int))
 | none => e = .returned (.int .i32 (-1))
theorem value_any (c : UInt8) (w : World) : Calls prog 202 #[.int .u8 ((c.toNat : Nat) : Int)] w fun e w' => hexRet (hexOf c) e ∧ w' = w := by
 obtain ⟨n, hn⟩ : ∃ n, c.toNat = n := ⟨_, rfl⟩;have hx : hexOf c = if 48 ≤ n ∧ n ≤ 57 then some (n - 48) else if 97 ≤ n ∧ n ≤ 102 then some (n - 87) else if 65 ≤ n ∧ n ≤ 70 then some (n - 55) else none := by unfold hexOf; rw [hn]
 have hn2 : n < 256 := by rw [← hn]; exact c.toNat_lt
 rw [hn, hx];clear hn hx;have hc : (n < 48) ∨ (48 ≤ n ∧ n ≤ 57) ∨ (57 < n ∧ n < 65) ∨ (65 ≤ n ∧ n ≤ 70) ∨ (70 < n ∧ n < 97) ∨ (97 ≤ n ∧ n ≤ 102) ∨ (102 < n) := by omega
 rcases hc with h | h | h | h | h | h | h
 ·rw [if_neg (by omega), if_neg (by omega), if_neg (by omega)];have f48 : ¬ (48 : Int) ≤ (n : Int) := by omega
  have g48 : (n : Int) ≤ 57 := by omega
  have f97 : ¬ (97 : Int) ≤ (n : Int) := by omega
  have g97 : (n : Int) ≤ 102 := by omega
  have f65 : ¬ (65 : Int) ≤ (n : Int) := by omega
  have g65 : (n : Int) ≤ 70 := by omega
  clear h;go_enter func202, ntmps202;go_wp2;go_ret;exact ⟨rfl, rfl⟩
 ·rw [if_pos (by omega)];have f48 : (48 : Int) ≤ (n : Int) := by omega
  have g48 : (n : Int) ≤ 57 := by omega
  have f97 : ¬ (97 : Int) ≤ (n : Int) := by omega
  have g97 : (n : Int) ≤ 102 := by omega
  have f65 : ¬ (65 : Int) ≤ (n : Int) := by omega
  have g65 : (n : Int) ≤ 70 := by omega
  have hr : IntKind.u8.wrap ((n : Int) - 48) = (n : Int) - 48 := by rw [IntKind.wrap_u8]; omega
  have hr2 : IntKind.i32.wrap ((n : Int) - 48) = (n : Int) - 48 := by rw [IntKind.wrap_i32]; omega
  have hv : Hid (((n - 48 : Nat) : Int) = (n : Int) - 48) := hZ (by omega);clear h;go_enter func202, ntmps202;go_wp2;go_ret;exact ⟨by show Ending.returned _ = Ending.returned _; rw [hv.out]; rfl, rfl⟩
 ·rw [if_neg (by omega), if_neg (by omega), if_neg (by omega)];have f48 : (48 : Int) ≤ (n : Int) := by omega
  have g48 : ¬ (n : Int) ≤ 57 := by omega
  have f97 : ¬ (97 : Int) ≤ (n : Int) := by omega
  have g97 : (n : Int) ≤ 102 := by omega
  have f65 : ¬ (65 : Int) ≤ (n : Int) := by omega
  have g65 : (n : Int) ≤ 70 := by omega
  clear h;go_enter func202, ntmps202;go_wp2;go_ret;exact ⟨rfl, rfl⟩
 ·rw [if_neg (by omega), if_neg (by omega), if_pos (by omega)];have f48 : (48 : Int) ≤ (n : Int) := by omega
  have g48 : ¬ (n : Int) ≤ 57 := by omega
  have f97 : ¬ (97 : Int) ≤ (n : Int) := by omega
  have g97 : (n : Int) ≤ 102 := by omega
  have f65 : (65 : Int) ≤ (n : Int) := by omega
  have g65 : (n : Int) ≤ 70 := by omega
  have hr : IntKind.u8.wrap ((n : Int) - 65) = (n : Int) - 65 := by rw [IntKind.wrap_u8]; omega
  have hr2 : IntKind.i32.wrap ((n : Int) - 65) = (n : Int) - 65 := by rw [IntKind.wrap_i32]; omega
  have hr3 : IntKind.i32.wrap ((n : Int) - 65 + 10) = (n : Int) - 65 + 10 := by rw [IntKind.wrap_i32]; omega
  have hv : Hid (((n - 55 : Nat) : Int) = (n : Int) - 65 + 10) := hZ (by omega);clear h;go_enter func202, ntmps202;go_wp2;go_ret;exact ⟨by show Ending.returned _ = Ending.returned _; rw [hv.out]; rfl, rfl⟩
 ·rw [if_neg (by omega), if_neg (by omega), if_neg (by omega)];have f48 : (48 : Int) ≤ (n : Int) := by omega
  have g48 : ¬ (n : Int) ≤ 57 := by omega
  have f97 : ¬ (97 : Int) ≤ (n : Int) := by omega
  have g97 : (n : Int) ≤ 102 := by omega
  have f65 : (65 : Int) ≤ (n : Int) := by omega
  have g65 : ¬ (n : Int) ≤ 70 := by omega
  clear h;go_enter func202, ntmps202;go_wp2;go_ret;exact ⟨rfl, rfl⟩
 ·rw [if_neg (by omega), if_pos (by omega)];have f48 : (48 : Int) ≤ (n : Int) := by omega
  have g48 : ¬ (n : Int) ≤ 57 := by omega
  have f97 : (97 : Int) ≤ (n : Int) := by omega
  have g97 : (n : Int) ≤ 102 := by omega
  have f65 : (65 : Int) ≤ (n : Int) := by omega
  have g65 : ¬ (n : Int) ≤ 70 := by omega
  have hr : IntKind.u8.wrap ((n : Int) - 97) = (n : Int) - 97 := by rw [IntKind.wrap_u8]; omega
  have hr2 : IntKind.i32.wrap ((n : Int) - 97) = (n : Int) - 97 := by rw [IntKind.wrap_i32]; omega
  have hr3 : IntKind.i32.wrap ((n : Int) - 97 + 10) = (n : Int) - 97 + 10 := by rw [IntKind.wrap_i32]; omega
  have hv : Hid (((n - 87 : Nat) : Int) = (n : Int) - 97 + 10) := hZ (by omega);clear h;go_enter func202, ntmps202;go_wp2;go_ret;exact ⟨by show Ending.returned _ = Ending.returned _; rw [hv.out]; rfl, rfl⟩
 ·rw [if_neg (by omega), if_neg (by omega), if_neg (by omega)];have f48 : (48 : Int) ≤ (n : Int) := by omega
  have g48 : ¬ (n : Int) ≤ 57 := by omega
  have f97 : (97 : Int) ≤ (n : Int) := by omega
  have g97 : ¬ (n : Int) ≤ 102 := by omega
  have f65 : (65 : Int) ≤ (n : Int) := by omega
  have g65 : ¬ (n : Int) ≤ 70 := by omega
  clear h;go_enter func202, ntmps202;go_wp2;go_ret;exact ⟨rfl, rfl⟩
theorem nat_ne3 {n : Nat} {k : Int} (h : ¬ (n : Int) = k) : ¬ ((n : Int) = k) ∧ ((n : Int) == k) = false ∧ ((n : Int) != k) = true := ⟨h, by simpa using h, by simpa using h⟩
def loneOf (high digits code v : Nat) : Bool :=
 if high ≠ 0 ∧ digits = 0 then v ≠ 13 else if high ≠ 0 ∧ digits = 1 then v < 12 else high = 0 && digits = 1 && code = 13 && 12 ≤ v
theorem textCells {w : World} {b : Nat} {v0 v1 v2 v3 v4 v5 v6 v7 v8 v9 va vb vc vd : Value} {T : TypeId} (h : w.heap[b]? = some (.cells #[v0, v1, v2, v3, v4, v5, v6, v7, v8, v9, va, vb, vc, vd] T (0, 0))) :
 w.cell? ⟨b, 8, none⟩ = some v8 ∧ w.cell? ⟨b, 9, none⟩ = some v9 ∧ w.cell? ⟨b, 10, none⟩ = some va ∧ w.cell? ⟨b, 11, none⟩ = some vb ∧ w.cell? ⟨b, 12, none⟩ = some vc := ⟨cell_at h, cell_at h, cell_at h, cell_at h, cell_at h⟩
theorem lone_any (w : World) (b dg cd' hi v : Nat) (v0 v1 v2 v3 v4 v5 v6 v7 v8 v9 vd : Value) (h : w.heap[b]? = some (.cells #[v0, v1, v2, v3, v4, v5, v6, v7, v8, v9, .int .i64 dg, .int .i32 cd', .int .i32 hi, vd] 228 (0, 0))) :
 Calls prog 203 #[.pointer (some ⟨b, 8, none⟩), .int .i32 v] w fun e w' => e = .returned (.bool (loneOf hi dg cd' v)) ∧ w' = w := by
 obtain ⟨c8, c9, ca, cb, cc⟩ := textCells h;clear h
 by_cases h0 : hi = 0
 ·subst h0
  by_cases h1 : dg = 1
  ·subst h1
   by_cases h2 : cd' = 13
   ·subst h2
    by_cases h3 : 12 ≤ v
    ·have e3 : (12 : Int) ≤ (v : Int) := by omega
     rw [show loneOf 0 1 13 v = true by simp [loneOf, h3]];go_enter func203, ntmps203;go_wp2_with fail;go_ret;exact ⟨rfl, rfl⟩
    ·have e3 : ¬ (12 : Int) ≤ (v : Int) := by omega
     rw [show loneOf 0 1 13 v = false by simp [loneOf, h3]];go_enter func203, ntmps203;go_wp2_with fail;go_ret;exact ⟨rfl, rfl⟩
   ·obtain ⟨n1, n2, n3⟩ := nat_ne3 (n := cd') (k := 13) (by omega);rw [show loneOf 0 1 cd' v = false by simp [loneOf, h2]];clear h2;go_enter func203, ntmps203;go_wp2_with fail;go_ret;exact ⟨rfl, rfl⟩
  ·obtain ⟨n1, n2, n3⟩ := nat_ne3 (n := dg) (k := 1) (by omega);rw [show loneOf 0 dg cd' v = false by simp [loneOf, h1]];clear h1;go_enter func203, ntmps203;go_wp2_with fail;go_ret;exact ⟨rfl, rfl⟩
 ·obtain ⟨m1, m2, m3⟩ := nat_ne3 (n := hi) (k := 0) (by omega)
  by_cases h1 : dg = 0
  ·subst h1
   by_cases h2 : v = 13
   ·subst h2;rw [show loneOf hi 0 cd' 13 = false by simp [loneOf, h0]];clear h0;go_enter func203, ntmps203;go_wp2_with fail;go_ret;exact ⟨rfl, rfl⟩
   ·obtain ⟨n1, n2, n3⟩ := nat_ne3 (n := v) (k := 13) (by omega);rw [show loneOf hi 0 cd' v = true by simp [loneOf, h0, h2]];clear h0 h2;go_enter func203, ntmps203;go_wp2_with fail;go_ret;exact ⟨rfl, rfl⟩
  ·obtain ⟨k1, k2, k3⟩ := nat_ne3 (n := dg) (k := 0) (by omega)
   by_cases h4 : dg = 1
   ·subst h4
    by_cases h3 : v < 12
    ·have e3 : (v : Int) < 12 := by omega
     rw [show loneOf hi 1 cd' v = true by simp [loneOf, h0, h3]];clear h0;go_enter func203, ntmps203;go_wp2_with fail;go_ret;exact ⟨rfl, rfl⟩
    ·have e3 : ¬ (v : Int) < 12 := by omega
     rw [show loneOf hi 1 cd' v = false by simp [loneOf, h0, h3]];clear h0;go_enter func203, ntmps203;go_wp2_with fail;go_ret;exact ⟨rfl, rfl⟩
   ·obtain ⟨n1, n2, n3⟩ := nat_ne3 (n := dg) (k := 1) (by omega);rw [show loneOf hi dg cd' v = false by simp [loneOf, h0, h1, h4]];clear h0 h1 h4;go_enter func203, ntmps203;go_wp2_with fail;go_ret;exact ⟨rfl, rfl⟩
theorem character_any (r : Nat) (hr : IsRune r) (w : World) : Calls prog 242 #[.int .i32 r] w fun e w' => e = .returned (.bool true) ∧ w' = w := by
 have e0 : (0 : Int) ≤ (r : Int) := by omega
 rcases hr with h | ⟨h1, h2⟩
 ·have e1 : (r : Int) < 55296 := by omega
  go_enter func242, ntmps242;go_wp2_with fail;go_ret;exact ⟨rfl, rfl⟩
 ·have e1 : ¬ (r : Int) < 55296 := by omega
  have e2 : (57343 : Int) < (r : Int) := by omega
  have e3 : (r : Int) ≤ 1114111 := by omega
  go_enter func242, ntmps242;go_wp2_with fail;go_ret;exact ⟨rfl, rfl⟩
theorem encode_rune {r : Nat} (hr : IsRune r) : (Utf8.encode (r : Int)) = ⟨(runeBytes r).toArray⟩ := by
 have hv : Utf8.valid (r : Int) = true := by
  unfold Utf8.valid;rcases hr with h | ⟨h1, h2⟩
  ·have h3 : (r : Int) < 0xD800 := by omega
   simp [h3]
  ·have h3 : (0xE000 : Int) ≤ (r : Int) := by omega
   have h4 : (r : Int) ≤ 0x10FFFF := by omega
   simp [h3, h4]
 unfold Utf8.encode runeBytes;simp only [hv, if_true, Int.toNat_natCast];split
 ·rfl
 ·split
  ·rfl
  ·split
   ·rfl
   ·rfl
def dmlV (d : Dml) : Value := .agg #[.bool d.neg, .string ⟨d.digits.toArray⟩, .int .i64 d.exp]
theorem stripped_any (neg : Bool) (ds : ByteArray) (e : Int) (w : World) (hs : ds.size ≤ 1073741824) (he : -4611686018427387904 ≤ e) (he2 : e ≤ 4611686018427387904) :
 Calls prog 229 #[.agg #[.bool neg, .string ds, .int .i64 e]] w fun r w' => r = .returned (dmlV (stripOf neg ds.data.toList e)) ∧ Below w.heap.size w w' := by
 have C1 := fun w => Tryz.strings_TrimLeft_one ds 48 (by decide) w
 have hl1 : (Lib.trimLeftB ds.data.toList 48).length ≤ ds.size := by
  have := (List.dropWhile_sublist (fun x : UInt8 => x == 48) (l := ds.data.toList)).length_le;rw [Array.length_toList] at this; exact this
 unfold stripOf;generalize Lib.trimLeftB ds.data.toList 48 = T at *;obtain ⟨t, ht⟩ : ∃ t : ByteArray, (⟨T.toArray⟩ : ByteArray) = t := ⟨_, rfl⟩;have htT : T = t.data.toList := by rw [← ht]
 simp only [ht] at C1;clear ht;subst htT;have hts : t.data.toList.length = t.size := Array.length_toList;have htl : t.size ≤ ds.size := by omega
 have C2 := fun w => Tryz.strings_TrimRight_one t 48 (by decide) w (by omega)
 have hl2 : (Lib.trimRightB t.data.toList 48).length ≤ t.size := by
  unfold Lib.trimRightB;rw [List.length_reverse];have := (List.dropWhile_sublist (fun x : UInt8 => x == 48) (l := t.data.toList.reverse)).length_le;rw [List.length_reverse, Array.length_toList] at this; exact this
 generalize Lib.trimRightB t.data.toList 48 = U at *;obtain ⟨u, hu⟩ : ∃ u : ByteArray, (⟨U.toArray⟩ : ByteArray) = u := ⟨_, rfl⟩;have huU : U = u.data.toList := by rw [← hu]
 simp only [hu] at C2;clear hu;subst huU;have hus : u.data.toList.length = u.size := Array.length_toList;have hul : u.size ≤ t.size := by omega
 rw [hts, hus];have D1 := hZ C1;have D2 := hZ C2;clear hus hts hl1 hl2 C1 C2;obtain ⟨g1, g2, hb⟩ := new2 w (.cells #[.bool neg, .string ds, .int .i64 e] 339) (.cells #[.bool false, .string ⟨#[]⟩, .int .i64 0] 339);have HB := hZ hb;clear hb g1 g2
 by_cases hu0 : u.data.toList = []
 ·have hie : u.toList.isEmpty = true := by rw [Lib.toList_data, hu0]; rfl
  rw [if_pos hu0];clear hu0;go_enter func229, ntmps229;go_wp2_with fail;refine (D1.out _).mono ?_;rintro r w1 ⟨rfl, rfl⟩;go_wp2_with fail;refine (D2.out _).mono ?_;rintro r w1 ⟨rfl, rfl⟩;go_wp2_with fail;exact bodyPost_ret (v := dmlV ⟨false, [], 0⟩) (by simp [results, results229, go_sem, dmlV]) rfl ⟨rfl, (HB.out)⟩
 ·have hie : u.toList.isEmpty = false := by
   rw [Lib.toList_data];cases hc : u.data.toList with
   | nil => exact absurd hc hu0
   | cons x r => rfl
  rw [if_neg hu0];clear hu0;have hw1 : IntKind.i64.wrap (e + (t.size : Int)) = e + (t.size : Int) := by rw [IntKind.wrap_i64]; omega
  have hw2 : IntKind.i64.wrap (e + (t.size : Int) - (u.size : Int)) = e + (t.size : Int) - (u.size : Int) := by rw [IntKind.wrap_i64]; omega
  go_enter func229, ntmps229;go_wp2_with fail;refine (D1.out _).mono ?_;rintro r w1 ⟨rfl, rfl⟩;go_wp2_with fail;refine (D2.out _).mono ?_;rintro r w1 ⟨rfl, rfl⟩;go_wp2_with fail;exact bodyPost_ret (v := dmlV ⟨neg, u.data.toList, e + t.size - u.size⟩) (by simp [results, results229, go_sem, dmlV]) rfl ⟨rfl, (new2 _ _ _).2.2⟩
theorem exp_far {a : Nat} (h : 35184372088832 ≤ a) (l : List UInt8) : l.foldl expStep a = a := by
 induction l with
 | nil => rfl
 | cons c l ih => rw [List.foldl_cons, show expStep a c = a from if_neg (by omega)]; exact ih
theorem exp_bound {a : Nat} {l : List UInt8} (ha : a ≤ 351843720888329) (hl : ∀ c ∈ l, c.toNat ≤ 57) : l.foldl expStep a ≤ 351843720888329 := by
 induction l generalizing a with
 | nil => exact ha
 | cons c l ih =>
  rw [List.foldl_cons];refine ih ?_ (fun x hx => hl x (by simp [hx]));have := hl c (by simp);unfold expStep; split <;> omega
theorem exp_take {l : List UInt8} {i : Nat} (h : i < l.length) : (l.take (i + 1)).foldl expStep 0 = expStep ((l.take i).foldl expStep 0) l[i] := by
 rw [List.take_add_one, List.getElem?_eq_getElem h, List.foldl_append]; rfl
theorem bare_any (neg under : Bool) (wh be ex : ByteArray) (w : World) (hs : wh.size + be.size ≤ 1073741824) (hx : ∀ c ∈ ex.data.toList, 48 ≤ c.toNat ∧ c.toNat ≤ 57) (hxl : ex.size ≤ 1073741824) :
 Calls prog 209 #[.agg #[.bool neg, .string wh, .string be, .bool under, .string ex]] w fun r w' => r = .returned (dmlV (bareOf ⟨neg, wh.data.toList, be.data.toList, under, ex.data.toList⟩)) ∧ Below w.heap.size w w' := by
 have HX := hZ hx;clear hx;go_enter func209, ntmps209;go_wp2_with fail
 go_loop [3, 4] (fun a i => ∃ k : Nat, k ≤ ex.size ∧ i = .int .i64 k ∧ a = .int .i64 ((ex.data.toList.take k).foldl expStep 0 : Nat)) (fun _ i => ex.size - (intOf i).toNat)
 case atStart => exact ⟨0, by omega, rfl, rfl⟩
 case round =>
  obtain ⟨k, hk, rfl, rfl⟩ := hrel;have hb := exp_bound (a := 0) (l := ex.data.toList.take k) (by omega) (fun c hc => (HX.out c (List.mem_of_mem_take hc)).2)
  by_cases hk2 : k < ex.size
  ·by_cases hfar : (ex.data.toList.take k).foldl expStep 0 < 35184372088832
   ·have hd := HX.out ex[k] (Array.getElem_mem_toList hk2)
    have hst : (((ex.data.toList.take (k + 1)).foldl expStep 0 : Nat) : Int) = 10 * (((ex.data.toList.take k).foldl expStep 0 : Nat) : Int) + (((ex[k].toNat : Nat) : Int) - 48) := by
     rw [exp_take (by rw [Array.length_toList]; exact hk2), expStep, if_pos hfar];have : (ex.data.toList[k]'(by rw [Array.length_toList]; exact hk2)) = ex[k] := rfl;rw [this]; omega
    have HST := hZ hst;clear hst;obtain ⟨a, ha⟩ : ∃ a, (ex.data.toList.take k).foldl expStep 0 = a := ⟨_, rfl⟩;simp only [ha] at *;clear ha;have hfar2 : (a : Int) < 35184372088832 := by omega
    obtain ⟨dg, hdg⟩ : ∃ d, ex[k].toNat = d := ⟨_, rfl⟩;simp only [hdg] at hd HST;go_wp2_with fail;refine ⟨⟨k + 1, by omega, by go_num, congrArg (Value.int .i64) HST.out.symm⟩, by simp [intOf]; omega⟩
   ·have hE : expOf ex.data.toList = (ex.data.toList.take k).foldl expStep 0 := by
     unfold expOf
     conv => lhs; rw [← List.take_append_drop k ex.data.toList, List.foldl_append]
     exact exp_far (by omega) _
    have HE := hZ hE;clear hE;obtain ⟨a, ha⟩ : ∃ a, (ex.data.toList.take k).foldl expStep 0 = a := ⟨_, rfl⟩;simp only [ha] at *;clear ha;have hfar2 : ¬ (a : Int) < 35184372088832 := by omega
    cases under with
    | false =>
     have hw1 : IntKind.i64.wrap ((a : Int) - (be.size : Int)) = (a : Int) - (be.size : Int) := by rw [IntKind.wrap_i64]; omega
     go_wp2_with fail;have hcat : (wh ++ be).data.toList = wh.data.toList ++ be.data.toList := by simp
     have hres : stripOf neg (wh ++ be).data.toList ((a : Int) - (be.size : Int)) = bareOf ⟨neg, wh.data.toList, be.data.toList, false, ex.data.toList⟩ := by
      rw [hcat]; unfold bareOf; simp only [HE.out, Array.length_toList]; rfl
     have HC := fun w => (stripped_any neg (wh ++ be) ((a : Int) - (be.size : Int)) w (by rw [ByteArray.size_append]; omega) (by omega) (by omega))
     simp only [hres] at HC;clear hcat hres;obtain ⟨⟨dn, dd, de⟩, hD⟩ : ∃ d, bareOf ⟨neg, wh.data.toList, be.data.toList, false, ex.data.toList⟩ = d := ⟨_, rfl⟩;simp only [hD] at HC;have HD := hZ hD;clear hD;refine (HC _).mono ?_;rintro r w2 ⟨rfl, hb⟩;obtain ⟨h1, h2, hbw, hsz⟩ := after2 hb;obtain ⟨c0, c1, c2, cf⟩ := cells3 h2;clear h1 h2 hb;unfold dmlV;go_wp2_with fail;exact bodyPost_ret (v := dmlV ⟨dn, dd, de⟩) (by simp [results, results209, go_sem, dmlV, c0, c1, c2]) rfl ⟨by rw [HD.out], ((hbw.setCell (Nat.le_succ _) _).setCell (Nat.le_succ _) _).setCell (Nat.le_succ _) _⟩
    | true =>
     have hw0 : IntKind.i64.wrap (-(a : Int)) = -(a : Int) := by rw [IntKind.wrap_i64]; omega
     have hw1 : IntKind.i64.wrap (-(a : Int) - (be.size : Int)) = -(a : Int) - (be.size : Int) := by rw [IntKind.wrap_i64]; omega
     go_wp2_with fail;have hcat : (wh ++ be).data.toList = wh.data.toList ++ be.data.toList := by simp
     have hres : stripOf neg (wh ++ be).data.toList (-(a : Int) - (be.size : Int)) = bareOf ⟨neg, wh.data.toList, be.data.toList, true, ex.data.toList⟩ := by
      rw [hcat]; unfold bareOf; simp only [HE.out, Array.length_toList]; rfl
     have HC := fun w => (stripped_any neg (wh ++ be) (-(a : Int) - (be.size : Int)) w (by rw [ByteArray.size_append]; omega) (by omega) (by omega))
     simp only [hres] at HC;clear hcat hres;obtain ⟨⟨dn, dd, de⟩, hD⟩ : ∃ d, bareOf ⟨neg, wh.data.toList, be.data.toList, true, ex.data.toList⟩ = d := ⟨_, rfl⟩;simp only [hD] at HC;have HD := hZ hD;clear hD;refine (HC _).mono ?_;rintro r w2 ⟨rfl, hb⟩;obtain ⟨h1, h2, hbw, hsz⟩ := after2 hb;obtain ⟨c0, c1, c2, cf⟩ := cells3 h2;clear h1 h2 hb;unfold dmlV;go_wp2_with fail;exact bodyPost_ret (v := dmlV ⟨dn, dd, de⟩) (by simp [results, results209, go_sem, dmlV, c0, c1, c2]) rfl ⟨by rw [HD.out], ((hbw.setCell (Nat.le_succ _) _).setCell (Nat.le_succ _) _).setCell (Nat.le_succ _) _⟩
  ·have hE : expOf ex.data.toList = (ex.data.toList.take k).foldl expStep 0 := by
    rw [List.take_of_length_le (by rw [Array.length_toList]; exact Nat.not_lt.1 hk2)]; rfl
   have HE := hZ hE;clear hE;obtain ⟨a, ha⟩ : ∃ a, (ex.data.toList.take k).foldl expStep 0 = a := ⟨_, rfl⟩;simp only [ha] at *;clear ha;cases under with
   | false =>
    have hw1 : IntKind.i64.wrap ((a : Int) - (be.size : Int)) = (a : Int) - (be.size : Int) := by rw [IntKind.wrap_i64]; omega
    go_wp2_with fail;have hcat : (wh ++ be).data.toList = wh.data.toList ++ be.data.toList := by simp
    have hres : stripOf neg (wh ++ be).data.toList ((a : Int) - (be.size : Int)) = bareOf ⟨neg, wh.data.toList, be.data.toList, false, ex.data.toList⟩ := by
     rw [hcat]; unfold bareOf; simp only [HE.out, Array.length_toList]; rfl
    have HC := fun w => (stripped_any neg (wh ++ be) ((a : Int) - (be.size : Int)) w (by rw [ByteArray.size_append]; omega) (by omega) (by omega))
    simp only [hres] at HC;clear hcat hres;obtain ⟨⟨dn, dd, de⟩, hD⟩ : ∃ d, bareOf ⟨neg, wh.data.toList, be.data.toList, false, ex.data.toList⟩ = d := ⟨_, rfl⟩;simp only [hD] at HC;have HD := hZ hD;clear hD;refine (HC _).mono ?_;rintro r w2 ⟨rfl, hb⟩;obtain ⟨h1, h2, hbw, hsz⟩ := after2 hb;obtain ⟨c0, c1, c2, cf⟩ := cells3 h2;clear h1 h2 hb;unfold dmlV;go_wp2_with fail;exact bodyPost_ret (v := dmlV ⟨dn, dd, de⟩) (by simp [results, results209, go_sem, dmlV, c0, c1, c2]) rfl ⟨by rw [HD.out], ((hbw.setCell (Nat.le_succ _) _).setCell (Nat.le_succ _) _).setCell (Nat.le_succ _) _⟩
   | true =>
    have hw0 : IntKind.i64.wrap (-(a : Int)) = -(a : Int) := by rw [IntKind.wrap_i64]; omega
    have hw1 : IntKind.i64.wrap (-(a : Int) - (be.size : Int)) = -(a : Int) - (be.size : Int) := by rw [IntKind.wrap_i64]; omega
    go_wp2_with fail;have hcat : (wh ++ be).data.toList = wh.data.toList ++ be.data.toList := by simp
    have hres : stripOf neg (wh ++ be).data.toList (-(a : Int) - (be.size : Int)) = bareOf ⟨neg, wh.data.toList, be.data.toList, true, ex.data.toList⟩ := by
     rw [hcat]; unfold bareOf; simp only [HE.out, Array.length_toList]; rfl
    have HC := fun w => (stripped_any neg (wh ++ be) (-(a : Int) - (be.size : Int)) w (by rw [ByteArray.size_append]; omega) (by omega) (by omega))
    simp only [hres] at HC;clear hcat hres;obtain ⟨⟨dn, dd, de⟩, hD⟩ : ∃ d, bareOf ⟨neg, wh.data.toList, be.data.toList, true, ex.data.toList⟩ = d := ⟨_, rfl⟩;simp only [hD] at HC;have HD := hZ hD;clear hD;refine (HC _).mono ?_;rintro r w2 ⟨rfl, hb⟩;obtain ⟨h1, h2, hbw, hsz⟩ := after2 hb;obtain ⟨c0, c1, c2, cf⟩ := cells3 h2;clear h1 h2 hb;unfold dmlV;go_wp2_with fail;exact bodyPost_ret (v := dmlV ⟨dn, dd, de⟩) (by simp [results, results209, go_sem, dmlV, c0, c1, c2]) rfl ⟨by rw [HD.out], ((hbw.setCell (Nat.le_succ _) _).setCell (Nat.le_succ _) _).setCell (Nat.le_succ _) _⟩
end Go.Proofs.YtakkmiomhackiaaGreatDoor
