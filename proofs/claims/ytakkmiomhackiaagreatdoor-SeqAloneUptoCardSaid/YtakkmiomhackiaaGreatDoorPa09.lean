/-
  Package dec, first part: digit, read.
-/
import Derived.Test.YtakkmiomhackiaaGreatDoorPa01
import Derived.Test.YtakkmiomhackiaaGreatDoorPa02
import Derived.Test.YtakkmiomhackiaaGreatDoorPa03
import Derived.Test.YtakkmiomhackiaaGreatDoorPa00
set_option linter.all false
set_option maxRecDepth 100000
set_option maxHeartbeats 16000000
open Go.Proofs.Tryz
namespace Go.Proofs.YtakkmiomhackiaaGreatDoor
open Go.RowKit
abbrev encB (c : UInt8) : Value := .int .u8 ((c.toNat : Nat) : Int)
theorem digit_any (c : UInt8) (w : World) : Calls prog 228 #[encB c] w fun e w' => e = .returned (.bool (isD c)) ∧ w' = w := by
 by_cases h1 : 48 ≤ c.toNat
 ·have h3 : ¬ ((c.toNat : Nat) : Int) < 48 := by omega
  have h5 : (48 : Int) ≤ ((c.toNat : Nat) : Int) := by omega
  by_cases h2 : c.toNat ≤ 57
  ·have hd : isD c = true := by simp [isD, h1, h2]
   have h4 : ((c.toNat : Nat) : Int) ≤ 57 := by omega
   rw [hd];clear hd;go_enter func228, ntmps228;go_wp2;go_ret;exact ⟨rfl, rfl⟩
  ·have hd : isD c = false := by simp [isD, h2]
   have h4 : ¬ ((c.toNat : Nat) : Int) ≤ 57 := by omega
   rw [hd];clear hd;go_enter func228, ntmps228;go_wp2;go_ret;exact ⟨rfl, rfl⟩
 ·have hd : isD c = false := by simp [isD, h1]
  have h3 : ¬ (48 : Int) ≤ ((c.toNat : Nat) : Int) := by omega
  rw [hd];clear hd;go_enter func228, ntmps228;go_wp2;go_ret;exact ⟨rfl, rfl⟩
def litV (l : Lit) : Value := .agg #[.bool l.neg, .string ⟨l.whole.toArray⟩, .string ⟨l.behind.toArray⟩, .bool l.under, .string ⟨l.exp.toArray⟩]
def noLit : Value := .agg #[.bool false, .string ⟨#[]⟩, .string ⟨#[]⟩, .bool false, .string ⟨#[]⟩]
def readRet (o : Option Lit) (e : Ending) : Prop := match o with
 | some l => e = .returned (.tuple #[litV l, .int .i64 (-1)])
 | none => ∃ i : Nat, e = .returned (.tuple #[noLit, .int .i64 i])
def actOf (n : Nat) (x : Nat → Value) : Act := { tmps := ((List.range n).map x).toArray, defers := [] }
theorem actOf_of (a : Act) (n : Nat) (hn : a.tmps.size = n) (hd : a.defers = []) : a = actOf n (fun i => a.tmps.getD i undef) := by
 subst hn;rcases a with ⟨t, d⟩;simp only at hd;subst hd;unfold actOf;congr 1;apply Array.ext
 ·simp
 ·intro i h1 h2;simp [Array.getD, h1]
theorem actOf_158 (x : Nat → Value) : actOf 158 x = { tmps := #[x 0, x 1, x 2, x 3, x 4, x 5, x 6, x 7, x 8, x 9, x 10, x 11, x 12, x 13, x 14, x 15, x 16, x 17, x 18, x 19, x 20, x 21, x 22, x 23, x 24, x 25, x 26, x 27, x 28, x 29, x 30, x 31, x 32, x 33, x 34, x 35, x 36, x 37, x 38, x 39, x 40, x 41, x 42, x 43, x 44, x 45, x 46, x 47, x 48, x 49, x 50, x 51, x 52, x 53, x 54, x 55, x 56, x 57, x 58, x 59, x 60, x 61, x 62, x 63, x 64, x 65, x 66, x 67, x 68, x 69, x 70, x 71, x 72, x 73, x 74, x 75, x 76, x 77, x 78, x 79, x 80, x 81, x 82, x 83, x 84, x 85, x 86, x 87, x 88, x 89, x 90, x 91, x 92, x 93, x 94, x 95, x 96, x 97, x 98, x 99, x 100, x 101, x 102, x 103, x 104, x 105, x 106, x 107, x 108, x 109, x 110, x 111, x 112, x 113, x 114, x 115, x 116, x 117, x 118, x 119, x 120, x 121, x 122, x 123, x 124, x 125, x 126, x 127, x 128, x 129, x 130, x 131, x 132, x 133, x 134, x 135, x 136, x 137, x 138, x 139, x 140, x 141, x 142, x 143, x 144, x 145, x 146, x 147, x 148, x 149, x 150, x 151, x 152, x 153, x 154, x 155, x 156, x 157], defers := [] } := rfl
theorem cells5 {w : World} {b : Nat} {v0 v1 v2 v3 v4 : Value} {T : TypeId} (h : w.heap[b]? = some (.cells #[v0, v1, v2, v3, v4] T (0, 0))) : w.cell? ⟨b, 0, none⟩ = some v0 ∧ w.cell? ⟨b, 1, none⟩ = some v1 ∧ w.cell? ⟨b, 2, none⟩ = some v2 ∧ w.cell? ⟨b, 3, none⟩ = some v3 ∧ w.cell? ⟨b, 4, none⟩ = some v4 ∧ ∀ o, w.frozen? ⟨b, o, none⟩ = false :=
 ⟨cell_at h, cell_at h, cell_at h, cell_at h, cell_at h, free_at h⟩
theorem drop_at {s : ByteArray} {i : Nat} (h : i < s.size) : s.data.toList.drop i = s[i] :: s.data.toList.drop (i + 1) := by
 rw [List.drop_eq_getElem_cons (by rw [Array.length_toList]; exact h)]; rfl
def AllD (s : ByteArray) (f k : Nat) : Prop := ∀ j (h : j < s.size), f ≤ j → j < k → isD s[j] = true
theorem AllD.succ {s : ByteArray} {f k : Nat} (h : AllD s f k) (hk : k < s.size) (hd : isD s[k] = true) : AllD s f (k + 1) := fun j hj a b => by
 by_cases hjk : j = k
 ·subst hjk; exact hd
 ·exact h j hj a (by omega)
theorem AllD.nil (s : ByteArray) (f : Nat) : AllD s f f := fun j hj a b => by omega
theorem span_at {s : ByteArray} {f k : Nat} (hfk : f ≤ k) (hk : k ≤ s.size) (hall : ∀ j (h : j < s.size), f ≤ j → j < k → isD s[j] = true) (hstop : ∀ h : k < s.size, isD s[k] = false) :
 (s.data.toList.drop f).takeWhile isD = (s.data.toList.drop f).take (k - f) ∧ (s.data.toList.drop f).dropWhile isD = s.data.toList.drop k := by
 obtain ⟨n, rfl⟩ : ∃ n, k = f + n := ⟨k - f, by omega⟩
 induction n generalizing f with
 | zero =>
  rw [Nat.add_zero, Nat.sub_self, List.take_zero]
  by_cases h : f < s.size
  ·rw [drop_at h, List.takeWhile_cons_of_neg (by simpa using hstop h), List.dropWhile_cons_of_neg (by simpa using hstop h)]; exact ⟨rfl, rfl⟩
  ·have : s.data.toList.drop f = [] := List.drop_eq_nil_of_le (by rw [Array.length_toList]; exact Nat.not_lt.1 h);rw [this]; exact ⟨rfl, rfl⟩
 | succ n ih =>
  have h : f < s.size := by omega
  have h1 := hall f h (Nat.le_refl _) (by omega);have e : f + (n + 1) = f + 1 + n := by omega
  obtain ⟨i1, i2⟩ := ih (f := f + 1) (by omega) (by omega) (fun j hj a b => hall j hj (by omega) (by omega)) (fun hh => by simpa only [e] using hstop (by omega));rw [drop_at h, List.takeWhile_cons_of_pos h1, List.dropWhile_cons_of_pos h1, i1, i2, e];exact ⟨by rw [show f + 1 + n - f = n + 1 by omega, List.take_succ_cons]; congr 2; omega, rfl⟩
def rankR (l : Nat) : Nat := if l = 0 then 0 else if l = 2 then 1 else 2
def readJ (s : ByteArray) (w0 : World) (l : Nat) (a : Act) (w : World) : Prop := ∃ (x : Nat → Value) (i : Nat), a = actOf 158 x ∧ x 0 = .string s ∧ x 2 = .pointer (some ⟨w0.heap.size, 0, none⟩) ∧ x 3 = .int .i64 0 ∧
 x 4 = .pointer (some ⟨w0.heap.size + 1, 0, none⟩) ∧ x 5 = .int .i64 i ∧ i ≤ s.size ∧ Below w0.heap.size w0 w ∧ w.heap[w0.heap.size]? = some (.cells #[.bool false, .string ⟨#[]⟩, .string ⟨#[]⟩, .bool false, .string ⟨#[]⟩] 354 (0, 0)) ∧
 ((l = 0 ∧ readOf s.data.toList = none) ∨
  (l = 2 ∧ ∃ neg whole behind, w.heap[w0.heap.size + 1]? = some (.cells #[.bool neg, .string ⟨whole.toArray⟩, .string ⟨behind.toArray⟩, .bool false, .string ⟨#[]⟩] 354 (0, 0)) ∧ readOf s.data.toList = readTen neg whole behind (s.data.toList.drop i)) ∨
  (l = 1 ∧ ∃ (neg : Bool) (from_ : Nat), x 6 = .int .i64 from_ ∧ from_ ≤ i ∧ w.heap[w0.heap.size + 1]? = some (.cells #[.bool neg, .string ⟨#[]⟩, .string ⟨#[]⟩, .bool false, .string ⟨#[]⟩] 354 (0, 0)) ∧
   readOf s.data.toList = readPoint neg ((s.data.toList.drop from_).take (i - from_)) (s.data.toList.drop i)))
theorem digit_zero (w : World) : Calls prog 228 #[.int .u8 48] w fun e w' => e = .returned (.bool true) ∧ w' = w := digit_any 48 w
theorem byte_ne3 {c d : UInt8} {n : Int} (h : c ≠ d) (hn : ((d.toNat : Nat) : Int) = n) : ¬ ((c.toNat : Nat) : Int) = n ∧ (((c.toNat : Nat) : Int) == n) = false ∧ (((c.toNat : Nat) : Int) != n) = true := by
 subst hn;have h1 : ¬ ((c.toNat : Nat) : Int) = ((d.toNat : Nat) : Int) := fun e => h (UInt8.toNat_inj.1 (Int.ofNat.inj e))
 exact ⟨h1, by simpa using h1, by simpa using h1⟩
theorem retLit (neg u : Bool) (whole behind : List UInt8) (b : ByteArray) : readRet (some ⟨neg, whole, behind, u, b.data.toList⟩) (.returned (.tuple #[.agg #[.bool neg, .string ⟨whole.toArray⟩, .string ⟨behind.toArray⟩, .bool u, .string b], .int .i64 (-1)])) := by
 simp [readRet, litV]
theorem readTen_none {neg : Bool} {whole behind : List UInt8} {c : UInt8} {t : List UInt8} (hc : c = 101 ∨ c = 69) (h : (readSign t).2.takeWhile isD = [] ∨ (readSign t).2.dropWhile isD ≠ []) : readTen neg whole behind (c :: t) = none := by
 simp only [readTen]; rw [if_pos hc, if_pos h]
theorem readTen_some {neg u : Bool} {whole behind r d : List UInt8} {c : UInt8} {t : List UInt8} (hc : c = 101 ∨ c = 69) (hs : readSign t = (u, r)) (h1 : r.takeWhile isD = d) (h0 : d ≠ []) (h2 : r.dropWhile isD = []) : readTen neg whole behind (c :: t) = some ⟨neg, whole, behind, u, d⟩ := by
 simp only [readTen]; rw [if_pos hc, hs, if_neg (by simp [h1, h0, h2]), h1]
theorem readTen_wrong {neg : Bool} {whole behind : List UInt8} {c : UInt8} {t : List UInt8} (h1 : c ≠ 101) (h2 : c ≠ 69) : readTen neg whole behind (c :: t) = none := by
 simp only [readTen]; rw [if_neg (by simp [h1, h2])]
theorem readSign_plus {c : UInt8} {t : List UInt8} (h : c = 43) : readSign (c :: t) = (false, t) := by subst h; rfl
theorem readSign_minus {c : UInt8} {t : List UInt8} (h : c = 45) : readSign (c :: t) = (true, t) := by subst h; rfl
theorem readSign_none {c : UInt8} {t : List UInt8} (h : c ≠ 43) (h' : c ≠ 45) : readSign (c :: t) = (false, c :: t) := by simp [readSign, h, h']
theorem readWhole_zero {neg : Bool} {c : UInt8} {t : List UInt8} {k f : Nat} (h : c = 48) (hk : k - f = 1) : readWhole neg (c :: t) = readPoint neg ((c :: t).take (k - f)) t := by
 subst h; rw [hk]; rfl
theorem readWhole_some {neg : Bool} {c : UInt8} {t d r : List UInt8} (h : isD c = true) (hz : c ≠ 48) (hd : (c :: t).takeWhile isD = d) (hr : (c :: t).dropWhile isD = r) : readWhole neg (c :: t) = readPoint neg d r := by
 simp only [readWhole]; rw [if_pos h, if_neg hz, hd, hr]
theorem readWhole_none {neg : Bool} {c : UInt8} {t : List UInt8} (h : isD c = false) : readWhole neg (c :: t) = none := by
 simp only [readWhole]; rw [h]; rfl
theorem readOf_plain {c : UInt8} {t : List UInt8} (h : c ≠ 45) : readOf (c :: t) = readWhole false (c :: t) := by
 simp only [readOf]; rw [if_neg h]
theorem readPoint_else {neg : Bool} {whole : List UInt8} {c : UInt8} {t : List UInt8} (h : c ≠ 46) : readPoint neg whole (c :: t) = readTen neg whole [] (c :: t) := by
 simp only [readPoint]; rw [if_neg h]
theorem readPoint_none {neg : Bool} {whole : List UInt8} {c : UInt8} {t : List UInt8} (h : c = 46) (hd : t.takeWhile isD = []) : readPoint neg whole (c :: t) = none := by
 simp only [readPoint]; rw [if_pos h, if_pos hd]
theorem readPoint_some {neg : Bool} {whole d r : List UInt8} {c : UInt8} {t : List UInt8} (h : c = 46) (hd : t.takeWhile isD = d) (h0 : d ≠ []) (hr : t.dropWhile isD = r) : readPoint neg whole (c :: t) = readTen neg whole d r := by
 simp only [readPoint]; rw [if_pos h, hd, if_neg h0, hr]
theorem readJ_ten {s : ByteArray} {w0 : World} {r : Nat} (a : Act) (w : World) (i : Nat) (neg : Bool) (b : ByteArray) (behind : List UInt8) (ha : a.tmps.size = 158) (hd : a.defers = []) (h0 : a.tmps.getD 0 undef = .string s) (h2 : a.tmps.getD 2 undef = .pointer (some ⟨w0.heap.size, 0, none⟩))
 (h3 : a.tmps.getD 3 undef = .int .i64 0) (h4 : a.tmps.getD 4 undef = .pointer (some ⟨w0.heap.size + 1, 0, none⟩)) (h5 : a.tmps.getD 5 undef = .int .i64 i) (hi : i ≤ s.size) (hb : Below w0.heap.size w0 w)
 (hr : w.heap[w0.heap.size]? = some (.cells #[.bool false, .string ⟨#[]⟩, .string ⟨#[]⟩, .bool false, .string ⟨#[]⟩] 354 (0, 0)))
 (hc : w.heap[w0.heap.size + 1]? = some (.cells #[.bool neg, .string b, .string ⟨behind.toArray⟩, .bool false, .string ⟨#[]⟩] 354 (0, 0)))
 (hn : readOf s.data.toList = readTen neg b.data.toList behind (s.data.toList.drop i)) (hk : rankR 2 < r) : readJ s w0 2 a w ∧ rankR 2 < r :=
 ⟨⟨_, i, actOf_of a 158 ha hd, h0, h2, h3, h4, h5, hi, hb, hr, .inr (.inl ⟨rfl, neg, b.data.toList, behind, by simpa using hc, hn⟩)⟩, hk⟩
theorem readJ_point {s : ByteArray} {w0 : World} (a : Act) (w : World) (i from_ : Nat) (neg : Bool) (ha : a.tmps.size = 158) (hd : a.defers = []) (h0 : a.tmps.getD 0 undef = .string s) (h2 : a.tmps.getD 2 undef = .pointer (some ⟨w0.heap.size, 0, none⟩))
 (h3 : a.tmps.getD 3 undef = .int .i64 0) (h4 : a.tmps.getD 4 undef = .pointer (some ⟨w0.heap.size + 1, 0, none⟩)) (h5 : a.tmps.getD 5 undef = .int .i64 i) (h6 : a.tmps.getD 6 undef = .int .i64 from_) (hfi : from_ ≤ i) (hi : i ≤ s.size) (hb : Below w0.heap.size w0 w)
 (hr : w.heap[w0.heap.size]? = some (.cells #[.bool false, .string ⟨#[]⟩, .string ⟨#[]⟩, .bool false, .string ⟨#[]⟩] 354 (0, 0)))
 (hc : w.heap[w0.heap.size + 1]? = some (.cells #[.bool neg, .string ⟨#[]⟩, .string ⟨#[]⟩, .bool false, .string ⟨#[]⟩] 354 (0, 0)))
 (hn : readOf s.data.toList = readPoint neg ((s.data.toList.drop from_).take (i - from_)) (s.data.toList.drop i)) : readJ s w0 1 a w :=
 ⟨_, i, actOf_of a 158 ha hd, h0, h2, h3, h4, h5, hi, hb, hr, .inr (.inr ⟨rfl, neg, from_, h6, hfi, hc, hn⟩)⟩
theorem readJ_wrong0 {s : ByteArray} {w0 : World} (a : Act) (w : World) (i : Nat) (ha : a.tmps.size = 158) (hd : a.defers = []) (h0 : a.tmps.getD 0 undef = .string s) (h2 : a.tmps.getD 2 undef = .pointer (some ⟨w0.heap.size, 0, none⟩))
 (h3 : a.tmps.getD 3 undef = .int .i64 0) (h4 : a.tmps.getD 4 undef = .pointer (some ⟨w0.heap.size + 1, 0, none⟩)) (h5 : a.tmps.getD 5 undef = .int .i64 i) (hi : i ≤ s.size) (hb : Below w0.heap.size w0 w)
 (hr : w.heap[w0.heap.size]? = some (.cells #[.bool false, .string ⟨#[]⟩, .string ⟨#[]⟩, .bool false, .string ⟨#[]⟩] 354 (0, 0))) (hn : readOf s.data.toList = none) : readJ s w0 0 a w :=
 ⟨_, i, actOf_of a 158 ha hd, h0, h2, h3, h4, h5, hi, hb, hr, .inl ⟨rfl, hn⟩⟩
theorem new2 (w : World) (o1 o2 : Obj) : ((w.alloc o1).alloc o2).heap[w.heap.size]? = some o1 ∧ ((w.alloc o1).alloc o2).heap[w.heap.size + 1]? = some o2 ∧ Below w.heap.size w ((w.alloc o1).alloc o2) := by
 refine ⟨(Below.heap_alloc _ _ _ (by simp)).trans (heap_alloc_new w _), ?_, ((Below.refl _ _).alloc (Nat.le_refl _) _).alloc (by simp) _⟩;have := heap_alloc_new (w.alloc o1) o2
 simpa using this
theorem readJ_wrong {s : ByteArray} {w0 : World} {r : Nat} (a : Act) (w : World) (i : Nat) (ha : a.tmps.size = 158) (hd : a.defers = []) (h0 : a.tmps.getD 0 undef = .string s) (h2 : a.tmps.getD 2 undef = .pointer (some ⟨w0.heap.size, 0, none⟩))
 (h3 : a.tmps.getD 3 undef = .int .i64 0) (h4 : a.tmps.getD 4 undef = .pointer (some ⟨w0.heap.size + 1, 0, none⟩)) (h5 : a.tmps.getD 5 undef = .int .i64 i) (hi : i ≤ s.size) (hb : Below w0.heap.size w0 w)
 (hr : w.heap[w0.heap.size]? = some (.cells #[.bool false, .string ⟨#[]⟩, .string ⟨#[]⟩, .bool false, .string ⟨#[]⟩] 354 (0, 0))) (hn : readOf s.data.toList = none) (hk : rankR 0 < r) : readJ s w0 0 a w ∧ rankR 0 < r :=
 ⟨⟨_, i, actOf_of a 158 ha hd, h0, h2, h3, h4, h5, hi, hb, hr, .inl ⟨rfl, hn⟩⟩, hk⟩
theorem read_any (s : ByteArray) (w : World) (hs : s.size ≤ 1073741824) : Calls prog 208 #[.string s] w fun e w' => readRet (readOf s.data.toList) e ∧ Below w.heap.size w w' := by
 go_enter func208, ntmps208;go_wp2_with fail;refine wp_scope_order (readJ s w) rankR ?_ ?_
 ·rintro l low a w1 ⟨x, i, rfl, h0, h2, h3, h4, h5, hi, hbel, hres, hl⟩;rcases hl with ⟨rfl, hnone⟩ | ⟨rfl, neg, whole, behind, hcell, hten⟩ | ⟨rfl, neg, from_, h6, hfrom, hcell, hpoint⟩
  ·refine ⟨_, rfl, ?_⟩;rw [actOf_158];have HN := hZ hnone;clear hnone;obtain ⟨c0, c1, c2, c3, c4, cf⟩ := cells5 hres;go_wp2_with fail;rw [Exit.jumps_ret];exact bodyPost_ret (v := .tuple #[noLit, .int .i64 i]) (by simp [results, results208, go_sem, c0, c1, c2, c3, c4, noLit, h2, h5]) rfl ⟨by rw [HN.out]; exact ⟨i, rfl⟩, ((((hbel.setCell (Nat.le_refl _) _).setCell (Nat.le_refl _) _).setCell (Nat.le_refl _) _).setCell (Nat.le_refl _) _).setCell (Nat.le_refl _) _⟩
  ·refine ⟨_, rfl, ?_⟩;rw [actOf_158];obtain ⟨c0, c1, c2, c3, c4, cf⟩ := cells5 hres;obtain ⟨d0, d1, d2, d3, d4, df⟩ := cells5 hcell;have HT := hZ hten;have HRES := hZ hres;have HCELL := hZ hcell;clear hten hres hcell
   by_cases hie : i = s.size
   ·subst hie;have hd : s.data.toList.drop s.size = [] := List.drop_eq_nil_of_le (by rw [Array.length_toList]; exact Nat.le_refl _);have HD := hZ hd;clear hd;go_wp2_with fail;rw [Exit.jumps_ret];exact bodyPost_ret (v := .tuple #[litV ⟨neg, whole, behind, false, []⟩, .int .i64 (-1)]) (by simp [results, results208, go_sem, c0, c1, c2, c3, c4, litV, h2, h5]) rfl ⟨by rw [HT.out, HD.out]; rfl, ((((hbel.setCell (Nat.le_refl _) _).setCell (Nat.le_refl _) _).setCell (Nat.le_refl _) _).setCell (Nat.le_refl _) _).setCell (Nat.le_refl _) _⟩
   ·have hlt : i < s.size := by omega
    have hne : ¬ (i : Int) = (s.size : Int) := by omega
    have hda := hZ (drop_at hlt)
    have hE : (s[i] ≠ 101 ∧ s[i] ≠ 69) ∨ s[i] = 101 ∨ s[i] = 69 := by
     by_cases h1 : s[i] = 101
     ·exact .inr (.inl h1)
     ·by_cases h2 : s[i] = 69
      ·exact .inr (.inr h2)
      ·exact .inl ⟨h1, h2⟩
    rcases hE with ⟨he, he'⟩ | he | he
    ·obtain ⟨he2, he2b, he2c⟩ := byte_ne3 (c := s[i]) (n := 101) he rfl;obtain ⟨he3, he3b, he3c⟩ := byte_ne3 (c := s[i]) (n := 69) he' rfl
     have hN : readOf s.data.toList = none := by
      rw [HT.out, hda.out];exact readTen_wrong he he'
     have HN := hZ hN;clear hN he he';go_wp2_with fail
     all_goals (try go_step3)
     show readJ s w 0 _ _ ∧ rankR 0 < rankR 2
     exact readJ_wrong _ _ i rfl rfl (by first | exact h0 | rfl) (by first | exact h2 | rfl) (by first | exact h3 | rfl) (by first | exact h4 | rfl) (by first | exact h5 | rfl) hi hbel HRES.out HN.out (by decide)
    all_goals
     have HE : Hid (s[i] = 101 ∨ s[i] = 69) := hZ (by first | exact .inl he | exact .inr he)
     first
     | have he2 : ((s[i].toNat : Nat) : Int) = 101 := by rw [he]; rfl
     | have he2 : ((s[i].toNat : Nat) : Int) = 69 := by rw [he]; rfl
     clear he
     by_cases hi1 : i + 1 < s.size
     ·have hdb := hZ (drop_at hi1)
      by_cases hp : s[i + 1] = 43 ∨ s[i + 1] = 45
      ·obtain ⟨u, hu, HP⟩ : ∃ u, (s[i + 1] = 43 ∧ u = false ∨ s[i + 1] = 45 ∧ u = true) ∧ Hid (readSign (s[i + 1] :: s.data.toList.drop (i + 1 + 1)) = (u, s.data.toList.drop (i + 1 + 1))) := hp.elim (fun h => ⟨false, .inl ⟨h, rfl⟩, hZ (readSign_plus h)⟩) (fun h => ⟨true, .inr ⟨h, rfl⟩, hZ (readSign_minus h)⟩);clear hp;rcases hu with ⟨hp, hu⟩ | ⟨hp, hu⟩
       all_goals
        first
        | have hp2 : ((s[i + 1].toNat : Nat) : Int) = 43 := by rw [hp]; rfl
        | have hp2 : ((s[i + 1].toNat : Nat) : Int) = 45 := by rw [hp]; rfl
        clear hp;go_wp2_with fail
        go_loop [5] (fun v => ∃ k : Nat, i + 1 + 1 ≤ k ∧ k ≤ s.size ∧ v = .int .i64 k ∧ Hid (AllD s (i + 1 + 1) k)) (fun v => s.size - (intOf v).toNat)
        case atStart => exact ⟨i + 1 + 1, by omega, by omega, by go_num, hZ (AllD.nil s _)⟩
        case round =>
         obtain ⟨k, hk1, hk2, rfl, hall⟩ := hrel
         by_cases hk3 : k < s.size
         ·by_cases hdg : isD s[k] = true
          ·go_wp2_with fail;refine (digit_any s[k] _).mono ?_;rintro e w2 ⟨rfl, rfl⟩;rw [hdg];go_wp2_with fail;refine ⟨⟨k + 1, by omega, by omega, by go_num, hZ (hall.out.succ hk3 hdg)⟩, by simp [intOf]; omega⟩
          ·go_wp2_with fail;refine (digit_any s[k] _).mono ?_;rintro e w2 ⟨rfl, rfl⟩;have hdf : isD s[k] = false := by simpa using hdg
           rw [hdf];have hsp := span_at (s := s) (f := i + 1 + 1) (k := k) hk1 hk2 hall.out (fun _ => hdf)
           have hN : readOf s.data.toList = none := by
            rw [HT.out, hda.out, hdb.out];refine readTen_none HE.out (.inr ?_);rw [HP.out, hsp.2, drop_at hk3];simp
           have HN := hZ hN;clear hN hsp hdg hdf;go_wp2_with fail
           all_goals (try go_step3)
           all_goals (show readJ s w 0 _ _ ∧ rankR 0 < rankR 2)
           all_goals (first | exact readJ_wrong _ _ k rfl rfl (by first | exact h0 | rfl) (by first | exact h2 | rfl) (by first | exact h3 | rfl) (by first | exact h4 | rfl) (by first | exact h5 | rfl) hk2 ((hbel.setCell (Nat.le_succ _) _).setCell (Nat.le_succ _) _) ((set_else _ (by simp)).trans ((set_else _ (by simp)).trans HRES.out)) HN.out (by decide) | exact readJ_wrong _ _ (i + 1 + 1) rfl rfl (by first | exact h0 | rfl) (by first | exact h2 | rfl) (by first | exact h3 | rfl) (by first | exact h4 | rfl) rfl (by omega) ((hbel.setCell (Nat.le_succ _) _).setCell (Nat.le_succ _) _) ((set_else _ (by simp)).trans ((set_else _ (by simp)).trans HRES.out)) HN.out (by decide))
         ·have hke : k = s.size := by omega
          subst hke;have hsp := hZ (span_at (s := s) (f := i + 1 + 1) (k := s.size) hk1 hk2 hall.out (fun h => absurd h hk3))
          by_cases hkf : s.size = i + 1 + 1
          ·have hN : readOf s.data.toList = none := by
            rw [HT.out, hda.out, hdb.out];refine readTen_none HE.out (.inl ?_);rw [HP.out, hsp.out.1, hkf, Nat.sub_self, List.take_zero]
           have HN := hZ hN;have hkf2 : (s.size : Int) = (i : Int) + 1 + 1 := by omega
           clear hN;go_wp2_with fail
           all_goals (try go_step3)
           all_goals (show readJ s w 0 _ _ ∧ rankR 0 < rankR 2)
           all_goals (first | exact readJ_wrong _ _ k rfl rfl (by first | exact h0 | rfl) (by first | exact h2 | rfl) (by first | exact h3 | rfl) (by first | exact h4 | rfl) (by first | exact h5 | rfl) hk2 ((hbel.setCell (Nat.le_succ _) _).setCell (Nat.le_succ _) _) ((set_else _ (by simp)).trans ((set_else _ (by simp)).trans HRES.out)) HN.out (by decide) | exact readJ_wrong _ _ (i + 1 + 1) rfl rfl (by first | exact h0 | rfl) (by first | exact h2 | rfl) (by first | exact h3 | rfl) (by first | exact h4 | rfl) rfl (by omega) ((hbel.setCell (Nat.le_succ _) _).setCell (Nat.le_succ _) _) ((set_else _ (by simp)).trans ((set_else _ (by simp)).trans HRES.out)) HN.out (by decide))
          ·have hkf2 : ¬ (s.size : Int) = (i : Int) + 1 + 1 := by omega
           have hkf3 : ((s.size : Int) == (i : Int) + 1 + 1) = false := by simpa using hkf2
           have hN : readOf s.data.toList = some ⟨neg, whole, behind, u, (s.extract (i + 1 + 1) s.size).data.toList⟩ := by
            have hex : (s.extract (i + 1 + 1) s.size).data.toList = (s.data.toList.drop (i + 1 + 1)).take (s.size - (i + 1 + 1)) := by simp
            rw [HT.out, hda.out, hdb.out, hex];refine readTen_some HE.out HP.out ?_ ?_ ?_
            ·exact hsp.out.1
            ·intro h0;have := congrArg List.length h0;simp at this; omega
            ·rw [hsp.out.2]; exact List.drop_eq_nil_of_le (by rw [Array.length_toList]; exact Nat.le_refl _)
           have HN := hZ hN;clear hN;go_wp2_with fail
           all_goals (try rw [Exit.jumps_ret])
           exact bodyPost_ret (v := .tuple #[.agg #[.bool neg, .string ⟨whole.toArray⟩, .string ⟨behind.toArray⟩, .bool u, .string (s.extract (i + 1 + 1) s.size)], .int .i64 (-1)]) (by simp [results, results208, go_sem, c0, c1, c2, c3, c4, h2, hu]) rfl ⟨by rw [HN.out]; exact retLit _ _ _ _ _, ((((((hbel.setCell (Nat.le_succ _) _).setCell (Nat.le_succ _) _).setCell (Nat.le_refl _) _).setCell (Nat.le_refl _) _).setCell (Nat.le_refl _) _).setCell (Nat.le_refl _) _).setCell (Nat.le_refl _) _⟩
      ·obtain ⟨hp, hm⟩ := not_or.1 hp;obtain ⟨hp2, hp2b, hp2c⟩ := byte_ne3 (c := s[i + 1]) (n := 43) hp rfl;obtain ⟨hp3, hp3b, hp3c⟩ := byte_ne3 (c := s[i + 1]) (n := 45) hm rfl;have HP := hZ hp;have HM := hZ hm;clear hp hm;go_wp2_with fail
       go_loop [5] (fun v => ∃ k : Nat, i + 1 ≤ k ∧ k ≤ s.size ∧ v = .int .i64 k ∧ Hid (AllD s (i + 1) k)) (fun v => s.size - (intOf v).toNat)
       case atStart => exact ⟨i + 1, by omega, by omega, by go_num, hZ (AllD.nil s _)⟩
       case round =>
        obtain ⟨k, hk1, hk2, rfl, hall⟩ := hrel
        by_cases hk3 : k < s.size
        ·by_cases hdg : isD s[k] = true
         ·go_wp2_with fail;refine (digit_any s[k] _).mono ?_;rintro e w2 ⟨rfl, rfl⟩;rw [hdg];go_wp2_with fail;refine ⟨⟨k + 1, by omega, by omega, by go_num, hZ (hall.out.succ hk3 hdg)⟩, by simp [intOf]; omega⟩
         ·go_wp2_with fail;refine (digit_any s[k] _).mono ?_;rintro e w2 ⟨rfl, rfl⟩;have hdf : isD s[k] = false := by simpa using hdg
          rw [hdf];have hsp := span_at (s := s) (f := i + 1) (k := k) hk1 hk2 hall.out (fun _ => hdf)
          have hN : readOf s.data.toList = none := by
           rw [HT.out, hda.out];refine readTen_none HE.out (.inr ?_);rw [(show readSign (s.data.toList.drop (i + 1)) = (false, s.data.toList.drop (i + 1)) from by rw [hdb.out]; exact readSign_none HP.out HM.out), hsp.2, drop_at hk3];simp
          have HN := hZ hN;clear hN hsp hdg hdf;go_wp2_with fail
          all_goals (try go_step3)
          all_goals (show readJ s w 0 _ _ ∧ rankR 0 < rankR 2)
          all_goals (first | exact readJ_wrong _ _ k rfl rfl (by first | exact h0 | rfl) (by first | exact h2 | rfl) (by first | exact h3 | rfl) (by first | exact h4 | rfl) (by first | exact h5 | rfl) hk2 (hbel.setCell (Nat.le_succ _) _) ((set_else _ (by simp)).trans HRES.out) HN.out (by decide) | exact readJ_wrong _ _ (i + 1) rfl rfl (by first | exact h0 | rfl) (by first | exact h2 | rfl) (by first | exact h3 | rfl) (by first | exact h4 | rfl) rfl (by omega) (hbel.setCell (Nat.le_succ _) _) ((set_else _ (by simp)).trans HRES.out) HN.out (by decide))
        ·have hke : k = s.size := by omega
         subst hke;have hsp := hZ (span_at (s := s) (f := i + 1) (k := s.size) hk1 hk2 hall.out (fun h => absurd h hk3))
         by_cases hkf : s.size = i + 1
         ·exfalso; omega
         ·have hkf2 : ¬ (s.size : Int) = (i : Int) + 1 := by omega
          have hkf3 : ((s.size : Int) == (i : Int) + 1) = false := by simpa using hkf2
          have hN : readOf s.data.toList = some ⟨neg, whole, behind, false, (s.extract (i + 1) s.size).data.toList⟩ := by
           have hex : (s.extract (i + 1) s.size).data.toList = (s.data.toList.drop (i + 1)).take (s.size - (i + 1)) := by simp
           rw [HT.out, hda.out, hex];refine readTen_some HE.out (show readSign (s.data.toList.drop (i + 1)) = (false, s.data.toList.drop (i + 1)) from by rw [hdb.out]; exact readSign_none HP.out HM.out) ?_ ?_ ?_
           ·exact hsp.out.1
           ·intro h0;have := congrArg List.length h0;simp at this; omega
           ·rw [hsp.out.2]; exact List.drop_eq_nil_of_le (by rw [Array.length_toList]; exact Nat.le_refl _)
          have HN := hZ hN;clear hN;go_wp2_with fail
          all_goals (try rw [Exit.jumps_ret])
          exact bodyPost_ret (v := .tuple #[.agg #[.bool neg, .string ⟨whole.toArray⟩, .string ⟨behind.toArray⟩, .bool false, .string (s.extract (i + 1) s.size)], .int .i64 (-1)]) (by simp [results, results208, go_sem, c0, c1, c2, c3, c4, h2]) rfl ⟨by rw [HN.out]; exact retLit _ _ _ _ _, (((((hbel.setCell (Nat.le_succ _) _).setCell (Nat.le_refl _) _).setCell (Nat.le_refl _) _).setCell (Nat.le_refl _) _).setCell (Nat.le_refl _) _).setCell (Nat.le_refl _) _⟩
     ·have hdb : s.data.toList.drop (i + 1) = [] := List.drop_eq_nil_of_le (by rw [Array.length_toList]; exact Nat.not_lt.1 hi1);have HDB := hZ hdb;clear hdb;go_wp2_with fail
      go_loop [5] (fun v => ∃ k : Nat, i + 1 ≤ k ∧ k ≤ s.size ∧ v = .int .i64 k ∧ Hid (AllD s (i + 1) k)) (fun v => s.size - (intOf v).toNat)
      case atStart => exact ⟨i + 1, by omega, by omega, by go_num, hZ (AllD.nil s _)⟩
      case round =>
       obtain ⟨k, hk1, hk2, rfl, hall⟩ := hrel
       by_cases hk3 : k < s.size
       ·exfalso; omega
       ·have hke : k = s.size := by omega
        subst hke;have hsp := hZ (span_at (s := s) (f := i + 1) (k := s.size) hk1 hk2 hall.out (fun h => absurd h hk3))
        by_cases hkf : s.size = i + 1
        ·have hN : readOf s.data.toList = none := by
          rw [HT.out, hda.out];refine readTen_none HE.out (.inl ?_);rw [(show readSign (s.data.toList.drop (i + 1)) = (false, s.data.toList.drop (i + 1)) from by rw [HDB.out]; rfl), hsp.out.1, hkf, Nat.sub_self, List.take_zero]
         have HN := hZ hN;have hkf2 : (s.size : Int) = (i : Int) + 1 := by omega
         clear hN;go_wp2_with fail
         all_goals (try go_step3)
         all_goals (show readJ s w 0 _ _ ∧ rankR 0 < rankR 2)
         all_goals (first | exact readJ_wrong _ _ k rfl rfl (by first | exact h0 | rfl) (by first | exact h2 | rfl) (by first | exact h3 | rfl) (by first | exact h4 | rfl) (by first | exact h5 | rfl) hk2 (hbel.setCell (Nat.le_succ _) _) ((set_else _ (by simp)).trans HRES.out) HN.out (by decide) | exact readJ_wrong _ _ (i + 1) rfl rfl (by first | exact h0 | rfl) (by first | exact h2 | rfl) (by first | exact h3 | rfl) (by first | exact h4 | rfl) rfl (by omega) (hbel.setCell (Nat.le_succ _) _) ((set_else _ (by simp)).trans HRES.out) HN.out (by decide))
        ·exfalso; omega
  ·have LOW := hZ low;clear low;obtain ⟨c0, c1, c2, c3, c4, cf⟩ := cells5 hres;obtain ⟨d0, d1, d2, d3, d4, df⟩ := cells5 hcell;have HP := hZ hpoint;have HRES := hZ hres;have HCELL := hZ hcell;clear hpoint hres hcell;have hex : (s.extract from_ i).data.toList = (s.data.toList.drop from_).take (i - from_) := by simp
   have hw : (⟨((s.data.toList.drop from_).take (i - from_)).toArray⟩ : ByteArray) = s.extract from_ i := by rw [← hex]
   have HEX := hZ hex;have HW := hZ hw;clear hex hw;refine ⟨_, rfl, ?_⟩;rw [actOf_158]
   by_cases hie : i = s.size
   ·subst hie
    have hN : readOf s.data.toList = readTen neg (s.extract from_ s.size).data.toList [] (s.data.toList.drop s.size) := by
     have hd : s.data.toList.drop s.size = [] := List.drop_eq_nil_of_le (by rw [Array.length_toList]; exact Nat.le_refl _);rw [HP.out, hd, HEX.out]; rfl
    have HN := hZ hN;clear hN;go_wp2_with fail
    all_goals (try go_step3)
    show readJ s w 2 _ _ ∧ rankR 2 < rankR 1
    exact readJ_ten _ _ s.size neg _ [] rfl rfl (by first | exact h0 | rfl) (by first | exact h2 | rfl) (by first | exact h3 | rfl) (by first | exact h4 | rfl) (by first | exact h5 | rfl) hi (hbel.setCell (Nat.le_succ _) _) ((set_else _ (by simp)).trans HRES.out) (set_at HCELL.out _) HN.out (by decide)
   ·have hlt : i < s.size := by omega
    have hne : ¬ (i : Int) = (s.size : Int) := by omega
    have hneb : ((i : Int) == (s.size : Int)) = false := by simpa using hne
    have hda := hZ (drop_at hlt)
    by_cases he : s[i] = 46
    ·have he2 : ((s[i].toNat : Nat) : Int) = 46 := by rw [he]; rfl
     have HE := hZ he;clear he;go_wp2_with fail
     go_loop [5] (fun v => ∃ k : Nat, i + 1 ≤ k ∧ k ≤ s.size ∧ v = .int .i64 k ∧ Hid (AllD s (i + 1) k)) (fun v => s.size - (intOf v).toNat)
     case atStart => exact ⟨i + 1, by omega, by omega, by go_num, hZ (AllD.nil s _)⟩
     case round =>
      obtain ⟨k, hk1, hk2, rfl, hall⟩ := hrel
      by_cases hk3 : k < s.size
      ·by_cases hdg : isD s[k] = true
       ·go_wp2_with fail;refine (digit_any s[k] _).mono ?_;rintro e w2 ⟨rfl, rfl⟩;rw [hdg];go_wp2_with fail;refine ⟨⟨k + 1, by omega, by omega, by go_num, hZ (hall.out.succ hk3 hdg)⟩, by simp [intOf]; omega⟩
       ·have hdf : isD s[k] = false := by simpa using hdg
        have hsp := span_at (s := s) (f := i + 1) (k := k) hk1 hk2 hall.out (fun _ => hdf);go_wp2_with fail;refine (digit_any s[k] _).mono ?_;rintro e w2 ⟨rfl, rfl⟩;rw [hdf]
        have hend : (k = i + 1 → readOf s.data.toList = none) ∧ (k ≠ i + 1 → readOf s.data.toList = readTen neg (s.extract from_ i).data.toList (s.extract (i + 1) k).data.toList (s.data.toList.drop k)) := by
         have hex2 : (s.extract (i + 1) k).data.toList = (s.data.toList.drop (i + 1)).take (k - (i + 1)) := by simp
         rw [HP.out, hda.out, HEX.out];refine ⟨fun h => ?_, fun h => ?_⟩
         ·refine readPoint_none HE.out ?_;rw [hsp.1, h, Nat.sub_self, List.take_zero]
         ·refine readPoint_some HE.out (by rw [hsp.1, hex2]) ?_ hsp.2;intro h0;have := congrArg List.length h0;simp at this; omega
        have HEND := hZ hend;clear hend hsp hdg hdf
        by_cases hkf : k = i + 1
        ·have HN := hZ (HEND.out.1 hkf);have hkf2 : (k : Int) = (i : Int) + 1 := by omega
         go_wp2_with fail
         all_goals (try go_step3)
         all_goals (show readJ s w 0 _ _ ∧ rankR 0 < rankR 1)
         first | exact readJ_wrong _ _ k rfl rfl (by first | exact h0 | rfl) (by first | exact h2 | rfl) (by first | exact h3 | rfl) (by first | exact h4 | rfl) rfl hk2 (hbel.setCell (Nat.le_succ _) _) ((set_else _ (by simp)).trans HRES.out) HN.out (by decide) | exact readJ_wrong _ _ (i + 1) rfl rfl (by first | exact h0 | rfl) (by first | exact h2 | rfl) (by first | exact h3 | rfl) (by first | exact h4 | rfl) rfl (by omega) (hbel.setCell (Nat.le_succ _) _) ((set_else _ (by simp)).trans HRES.out) HN.out (by decide)
        ·have HN := hZ (HEND.out.2 hkf);have hkf2 : ¬ (k : Int) = (i : Int) + 1 := by omega
         have hkf3 : ((k : Int) == (i : Int) + 1) = false := by simpa using hkf2
         go_wp2_with fail
         all_goals (try go_step3)
         simp only [Exit.then]
         apply_assumption
         refine LOW.out 2 _ _ _ (by decide) rfl ?_;exact (readJ_ten (r := 5) _ _ k neg (s.extract from_ i) (s.extract (i + 1) k).data.toList rfl rfl (by first | exact h0 | rfl) (by first | exact h2 | rfl) (by first | exact h3 | rfl) (by first | exact h4 | rfl) rfl hk2 ((hbel.setCell (Nat.le_succ _) _).setCell (Nat.le_succ _) _) ((set_else _ (by simp)).trans ((set_else _ (by simp)).trans HRES.out)) (set_at (set_at HCELL.out _) _) HN.out (by decide)).1
      ·have hke : k = s.size := by omega
       subst hke;have hsp := span_at (s := s) (f := i + 1) (k := s.size) hk1 hk2 hall.out (fun h => absurd h hk3)
       have hend : (s.size = i + 1 → readOf s.data.toList = none) ∧ (s.size ≠ i + 1 → readOf s.data.toList = readTen neg (s.extract from_ i).data.toList (s.extract (i + 1) s.size).data.toList (s.data.toList.drop s.size)) := by
        have hex2 : (s.extract (i + 1) s.size).data.toList = (s.data.toList.drop (i + 1)).take (s.size - (i + 1)) := by simp
        rw [HP.out, hda.out, HEX.out];refine ⟨fun h => ?_, fun h => ?_⟩
        ·refine readPoint_none HE.out ?_;rw [hsp.1, h, Nat.sub_self, List.take_zero]
        ·refine readPoint_some HE.out (by rw [hsp.1, hex2]) ?_ hsp.2;intro h0;have := congrArg List.length h0;simp at this; omega
       have HEND := hZ hend;clear hend hsp
       by_cases hkf : s.size = i + 1
       ·have HN := hZ (HEND.out.1 hkf);have hkf2 : (s.size : Int) = (i : Int) + 1 := by omega
        go_wp2_with fail
        all_goals (try go_step3)
        all_goals (show readJ s w 0 _ _ ∧ rankR 0 < rankR 1)
        first | exact readJ_wrong _ _ s.size rfl rfl (by first | exact h0 | rfl) (by first | exact h2 | rfl) (by first | exact h3 | rfl) (by first | exact h4 | rfl) rfl hk2 (hbel.setCell (Nat.le_succ _) _) ((set_else _ (by simp)).trans HRES.out) HN.out (by decide) | exact readJ_wrong _ _ (i + 1) rfl rfl (by first | exact h0 | rfl) (by first | exact h2 | rfl) (by first | exact h3 | rfl) (by first | exact h4 | rfl) rfl (by omega) (hbel.setCell (Nat.le_succ _) _) ((set_else _ (by simp)).trans HRES.out) HN.out (by decide)
       ·have HN := hZ (HEND.out.2 hkf);have hkf2 : ¬ (s.size : Int) = (i : Int) + 1 := by omega
        have hkf3 : ((s.size : Int) == (i : Int) + 1) = false := by simpa using hkf2
        go_wp2_with fail
        all_goals (try go_step3)
        simp only [Exit.then]
        apply_assumption
        refine LOW.out 2 _ _ _ (by decide) rfl ?_;exact (readJ_ten (r := 5) _ _ s.size neg (s.extract from_ i) (s.extract (i + 1) s.size).data.toList rfl rfl (by first | exact h0 | rfl) (by first | exact h2 | rfl) (by first | exact h3 | rfl) (by first | exact h4 | rfl) rfl hk2 ((hbel.setCell (Nat.le_succ _) _).setCell (Nat.le_succ _) _) ((set_else _ (by simp)).trans ((set_else _ (by simp)).trans HRES.out)) (set_at (set_at HCELL.out _) _) HN.out (by decide)).1
    ·obtain ⟨he2, he2b, he2c⟩ := byte_ne3 (c := s[i]) (n := 46) he rfl
     have hN : readOf s.data.toList = readTen neg (s.extract from_ i).data.toList [] (s.data.toList.drop i) := by
      rw [HP.out, hda.out, HEX.out]; exact readPoint_else he
     have HN := hZ hN;clear hN he;go_wp2_with fail
     all_goals (try go_step3)
     show readJ s w 2 _ _ ∧ rankR 2 < rankR 1
     exact readJ_ten _ _ i neg _ [] rfl rfl (by first | exact h0 | rfl) (by first | exact h2 | rfl) (by first | exact h3 | rfl) (by first | exact h4 | rfl) (by first | exact h5 | rfl) hi (hbel.setCell (Nat.le_succ _) _) ((set_else _ (by simp)).trans HRES.out) (set_at HCELL.out _) HN.out (by decide)
 ·intro fall;have FALL := hZ fall;clear fall
  by_cases h0 : 0 < s.size
  ·have hd0 := hZ (drop_at h0)
   by_cases hm : s[0] = 45
   ·have hm2 : ((s[0].toNat : Nat) : Int) = 45 := by rw [hm]; rfl
    have HR : Hid (readOf s.data.toList = readWhole true (s.data.toList.drop 1)) := hZ (by
     have := hd0.out; rw [List.drop_zero] at this; rw [this, hm]; rfl)
    clear hm
    by_cases hfs : 1 < s.size
    ·have hdF := hZ (drop_at hfs);have hFF : ¬ (1 : Int) = (s.size : Int) := by omega
     have hFF2 : ((1 : Int) == (s.size : Int)) = false := by simpa using hFF
     by_cases hdg0 : isD s[1] = true
     ·by_cases hz : s[1] = 48
      ·have hz2 : ((s[1].toNat : Nat) : Int) = 48 := by rw [hz]; rfl
       have hN : readOf s.data.toList = readPoint true ((s.data.toList.drop 1).take (2 - 1)) (s.data.toList.drop 2) := by
        rw [HR.out, hdF.out];exact readWhole_zero hz (by omega)
       have HN := hZ hN;clear hN hz hdg0;go_wp2_with fail;refine (digit_zero _).mono ?_;rintro e w2 ⟨rfl, rfl⟩;go_wp2_with fail
       all_goals (try go_step3)
       show readJ s w 1 _ _
       exact readJ_point _ _ 2 1 true rfl rfl rfl rfl rfl rfl rfl rfl (by omega) (by omega) ((new2 _ _ _).2.2) (new2 _ _ _).1 (new2 _ _ _).2.1 HN.out
      ·obtain ⟨hz2, hz3, hz4⟩ := byte_ne3 (c := s[1]) (n := 48) hz rfl;have hz := hZ hz;go_wp2_with fail;refine (digit_any s[1] _).mono ?_;rintro e w2 ⟨rfl, rfl⟩;rw [hdg0];have hdg0 := hZ hdg0;go_wp2_with fail
       go_loop [5] (fun v => ∃ k : Nat, 1 ≤ k ∧ k ≤ s.size ∧ v = .int .i64 k ∧ Hid (AllD s 1 k)) (fun v => s.size - (intOf v).toNat)
       case atStart => exact ⟨1, by omega, by omega, by go_num, hZ (AllD.nil s _)⟩
       case round =>
        obtain ⟨k, hk1, hk2, rfl, hall⟩ := hrel
        by_cases hk3 : k < s.size
        ·by_cases hdg : isD s[k] = true
         ·go_wp2_with fail;refine (digit_any s[k] _).mono ?_;rintro e w2 ⟨rfl, rfl⟩;rw [hdg];go_wp2_with fail;refine ⟨⟨k + 1, by omega, by omega, by go_num, hZ (hall.out.succ hk3 hdg)⟩, by simp [intOf]; omega⟩
         ·have hdf : isD s[k] = false := by simpa using hdg
          have hsp := span_at (s := s) (f := 1) (k := k) hk1 hk2 hall.out (fun _ => hdf);go_wp2_with fail;refine (digit_any s[k] _).mono ?_;rintro e w2 ⟨rfl, rfl⟩;rw [hdf]
          have HN := hZ (show readOf s.data.toList = readPoint true ((s.data.toList.drop 1).take (k - 1)) (s.data.toList.drop k) by
           rw [HR.out, ← hsp.1, ← hsp.2, hdF.out];exact readWhole_some hdg0.out hz.out rfl rfl)
          clear hsp hdg hdf;go_wp2_with fail
          all_goals (try go_step3)
          simp only [Exit.then]
          apply_assumption
          refine FALL.out 1 _ _ _ rfl ?_;exact readJ_point _ _ k 1 true rfl rfl rfl rfl rfl rfl rfl rfl (by omega) hk2 ((new2 _ _ _).2.2) (new2 _ _ _).1 (new2 _ _ _).2.1 HN.out
        ·have hke : k = s.size := by omega
         subst hke;have hsp := span_at (s := s) (f := 1) (k := s.size) hk1 hk2 hall.out (fun h => absurd h hk3)
         have HN := hZ (show readOf s.data.toList = readPoint true ((s.data.toList.drop 1).take (s.size - 1)) (s.data.toList.drop s.size) by
          rw [HR.out, ← hsp.1, ← hsp.2, hdF.out];exact readWhole_some hdg0.out hz.out rfl rfl)
         clear hsp;go_wp2_with fail
         all_goals (try go_step3)
         simp only [Exit.then]
         apply_assumption
         refine FALL.out 1 _ _ _ rfl ?_;exact readJ_point _ _ s.size 1 true rfl rfl rfl rfl rfl rfl rfl rfl (by omega) hk2 ((new2 _ _ _).2.2) (new2 _ _ _).1 (new2 _ _ _).2.1 HN.out
     ·have hdg1 : isD s[1] = false := by simpa using hdg0
      have hN : readOf s.data.toList = none := by
       rw [HR.out, hdF.out];exact readWhole_none hdg1
      have HN := hZ hN;clear hN;go_wp2_with fail;refine (digit_any s[1] _).mono ?_;rintro e w2 ⟨rfl, rfl⟩;rw [hdg1];clear hdg0 hdg1;go_wp2_with fail
      all_goals (try go_step3)
      show readJ s w 0 _ _
      exact readJ_wrong0 _ _ 1 rfl rfl rfl rfl rfl rfl rfl (by omega) ((new2 _ _ _).2.2) (new2 _ _ _).1 HN.out
    ·have hFF : ((1 : Int) == (s.size : Int)) = true := by simp; omega
     have hFF2 : (1 : Int) = (s.size : Int) := by omega
     have hN : readOf s.data.toList = none := by
      rw [HR.out, List.drop_eq_nil_of_le (by rw [Array.length_toList]; exact Nat.not_lt.1 hfs)]; rfl
     have HN := hZ hN;clear hN;go_wp2_with fail
     all_goals (try go_step3)
     show readJ s w 0 _ _
     exact readJ_wrong0 _ _ s.size rfl rfl rfl rfl rfl rfl rfl (by omega) ((new2 _ _ _).2.2) (new2 _ _ _).1 HN.out
   ·obtain ⟨hm2, hm3, hm4⟩ := byte_ne3 (c := s[0]) (n := 45) hm rfl
    have HR : Hid (readOf s.data.toList = readWhole false (s.data.toList.drop 0)) := hZ (by
     have := hd0.out; rw [List.drop_zero] at this; rw [List.drop_zero, this]; exact readOf_plain hm)
    clear hm
    by_cases hfs : 0 < s.size
    ·have hdF := hZ (drop_at hfs);have hFF : ¬ (0 : Int) = (s.size : Int) := by omega
     have hFF2 : ((0 : Int) == (s.size : Int)) = false := by simpa using hFF
     by_cases hdg0 : isD s[0] = true
     ·by_cases hz : s[0] = 48
      ·have hz2 : ((s[0].toNat : Nat) : Int) = 48 := by rw [hz]; rfl
       have hN : readOf s.data.toList = readPoint false ((s.data.toList.drop 0).take (1 - 0)) (s.data.toList.drop 1) := by
        rw [HR.out, hdF.out];exact readWhole_zero hz (by omega)
       have HN := hZ hN;clear hN hz hdg0;go_wp2_with fail;refine (digit_zero _).mono ?_;rintro e w2 ⟨rfl, rfl⟩;go_wp2_with fail
       all_goals (try go_step3)
       show readJ s w 1 _ _
       exact readJ_point _ _ 1 0 false rfl rfl rfl rfl rfl rfl rfl rfl (by omega) (by omega) (((new2 _ _ _).2.2)) (new2 _ _ _).1 (new2 _ _ _).2.1 HN.out
      ·obtain ⟨hz2, hz3, hz4⟩ := byte_ne3 (c := s[0]) (n := 48) hz rfl;have hz := hZ hz;go_wp2_with fail;refine (digit_any s[0] _).mono ?_;rintro e w2 ⟨rfl, rfl⟩;rw [hdg0];have hdg0 := hZ hdg0;go_wp2_with fail
       go_loop [5] (fun v => ∃ k : Nat, 0 ≤ k ∧ k ≤ s.size ∧ v = .int .i64 k ∧ Hid (AllD s 0 k)) (fun v => s.size - (intOf v).toNat)
       case atStart => exact ⟨0, by omega, by omega, by go_num, hZ (AllD.nil s _)⟩
       case round =>
        obtain ⟨k, hk1, hk2, rfl, hall⟩ := hrel
        by_cases hk3 : k < s.size
        ·by_cases hdg : isD s[k] = true
         ·go_wp2_with fail;refine (digit_any s[k] _).mono ?_;rintro e w2 ⟨rfl, rfl⟩;rw [hdg];go_wp2_with fail;refine ⟨⟨k + 1, by omega, by omega, by go_num, hZ (hall.out.succ hk3 hdg)⟩, by simp [intOf]; omega⟩
         ·have hdf : isD s[k] = false := by simpa using hdg
          have hsp := span_at (s := s) (f := 0) (k := k) hk1 hk2 hall.out (fun _ => hdf);go_wp2_with fail;refine (digit_any s[k] _).mono ?_;rintro e w2 ⟨rfl, rfl⟩;rw [hdf]
          have HN := hZ (show readOf s.data.toList = readPoint false ((s.data.toList.drop 0).take (k - 0)) (s.data.toList.drop k) by
           rw [HR.out, ← hsp.1, ← hsp.2, hdF.out];exact readWhole_some hdg0.out hz.out rfl rfl)
          clear hsp hdg hdf;go_wp2_with fail
          all_goals (try go_step3)
          simp only [Exit.then]
          apply_assumption
          refine FALL.out 1 _ _ _ rfl ?_;exact readJ_point _ _ k 0 false rfl rfl rfl rfl rfl rfl rfl rfl (by omega) hk2 (((new2 _ _ _).2.2)) (new2 _ _ _).1 (new2 _ _ _).2.1 HN.out
        ·have hke : k = s.size := by omega
         subst hke;have hsp := span_at (s := s) (f := 0) (k := s.size) hk1 hk2 hall.out (fun h => absurd h hk3)
         have HN := hZ (show readOf s.data.toList = readPoint false ((s.data.toList.drop 0).take (s.size - 0)) (s.data.toList.drop s.size) by
          rw [HR.out, ← hsp.1, ← hsp.2, hdF.out];exact readWhole_some hdg0.out hz.out rfl rfl)
         clear hsp;go_wp2_with fail
         all_goals (try go_step3)
         simp only [Exit.then]
         apply_assumption
         refine FALL.out 1 _ _ _ rfl ?_;exact readJ_point _ _ s.size 0 false rfl rfl rfl rfl rfl rfl rfl rfl (by omega) hk2 (((new2 _ _ _).2.2)) (new2 _ _ _).1 (new2 _ _ _).2.1 HN.out
     ·have hdg1 : isD s[0] = false := by simpa using hdg0
      have hN : readOf s.data.toList = none := by
       rw [HR.out, hdF.out];exact readWhole_none hdg1
      have HN := hZ hN;clear hN;go_wp2_with fail;refine (digit_any s[0] _).mono ?_;rintro e w2 ⟨rfl, rfl⟩;rw [hdg1];clear hdg0 hdg1;go_wp2_with fail
      all_goals (try go_step3)
      show readJ s w 0 _ _
      exact readJ_wrong0 _ _ 0 rfl rfl rfl rfl rfl rfl rfl (by omega) (((new2 _ _ _).2.2)) (new2 _ _ _).1 HN.out
    ·have hFF : ((0 : Int) == (s.size : Int)) = true := by simp; omega
     have hFF2 : (0 : Int) = (s.size : Int) := by omega
     have hN : readOf s.data.toList = none := by
      rw [HR.out, List.drop_eq_nil_of_le (by rw [Array.length_toList]; exact Nat.not_lt.1 hfs)]; rfl
     have HN := hZ hN;clear hN;go_wp2_with fail
     all_goals (try go_step3)
     show readJ s w 0 _ _
     exact readJ_wrong0 _ _ 0 rfl rfl rfl rfl rfl rfl rfl (by omega) (((new2 _ _ _).2.2)) (new2 _ _ _).1 HN.out
  ·have hnil : s.data.toList = [] := by
    have : s.data.toList.length = 0 := by rw [Array.length_toList]; exact Nat.eq_zero_of_not_pos h0
    exact List.eq_nil_of_length_eq_zero this
   have hN : readOf s.data.toList = none := by rw [hnil]; rfl
   have HN := hZ hN;have hs0 : ((0 : Int) == (s.size : Int)) = true := by simp; omega
   have hs1 : ¬ (0 : Int) < (s.size : Int) := by omega
   have hs2 : (s.size : Int) = 0 := by omega
   clear hN hnil;go_wp2_with fail
   all_goals (try go_step3)
   show readJ s w 0 _ _
   exact readJ_wrong0 _ _ 0 rfl rfl rfl rfl rfl rfl rfl (by omega) ((new2 _ _ _).2.2) (new2 _ _ _).1 HN.out
end Go.Proofs.YtakkmiomhackiaaGreatDoor
