/-
  The program, one part of its walk: Lx1, Lx9, Lx7, Lx4, Lx21. Conditions: none.
-/
import Derived.Test.YtakkmiomhackiaaGreatDoorPc11
import Derived.Test.YtakkmiomhackiaaGreatDoorPc03
import Derived.Test.YtakkmiomhackiaaGreatDoorPc14
import Derived.Test.YtakkmiomhackiaaGreatDoorPc10
import Derived.Laws.Runes
set_option linter.all false
set_option maxRecDepth 100000
set_option maxHeartbeats 16000000
namespace Go.Proofs.YtakkmiomhackiaaGreatDoor
open Go.RowKit
def nextRet (s : Nat) (o : Option Nat) (e : Ending) : Prop := match o with
 | some t => e = .returned (.tuple #[.int .i64 (t : Int), .bool true])
 | none => e = .returned (.tuple #[.int .i64 (s : Int), .bool false])
theorem next_const (s : Nat) (hs : s ≤ 8) (c : UInt8) (h : c = 45 ∨ c = 46 ∨ c = 48 ∨ c = 101 ∨ c = 69 ∨ c = 43) (w : World) : Calls Tryz.prog 170 #[.int .i64 (s : Int), .int .u8 ((c.toNat : Nat) : Int)] w fun e w' => nextRet s (numNext s c) e ∧ w' = w := by
 obtain ⟨o, hn⟩ : ∃ o, numNext s c = o := ⟨_, rfl⟩;rw [hn];have hc : s = 0 ∨ s = 1 ∨ s = 2 ∨ s = 3 ∨ s = 4 ∨ s = 5 ∨ s = 6 ∨ s = 7 ∨ s = 8 := by omega
 rcases h with rfl | rfl | rfl | rfl | rfl | rfl <;> rcases hc with rfl | rfl | rfl | rfl | rfl | rfl | rfl | rfl | rfl
 all_goals
  subst hn;simp only [Int.natCast_zero, Int.natCast_one, Int.cast_ofNat_Int, UInt8.reduceToNat];go_enter Tryz.func170, Tryz.ntmps170;go_wp2;exact bodyPost_ret (by simp [results, Tryz.results170, go_sem]) rfl ⟨rfl, rfl⟩
theorem next_else (s : Nat) (hs : s ≤ 8) (c : UInt8) (h45 : c ≠ 45) (h46 : c ≠ 46) (h48 : c ≠ 48) (h101 : c ≠ 101) (h69 : c ≠ 69) (h43 : c ≠ 43) (w : World) : Calls Tryz.prog 170 #[.int .i64 (s : Int), .int .u8 ((c.toNat : Nat) : Int)] w fun e w' => nextRet s (numNext s c) e ∧ w' = w := by
 obtain ⟨n45, m45, k45⟩ := byte_ne3 (c := c) (n := 45) h45 rfl;obtain ⟨n46, m46, k46⟩ := byte_ne3 (c := c) (n := 46) h46 rfl;obtain ⟨n48, m48, k48⟩ := byte_ne3 (c := c) (n := 48) h48 rfl;obtain ⟨n101, m101, k101⟩ := byte_ne3 (c := c) (n := 101) h101 rfl;obtain ⟨n69, m69, k69⟩ := byte_ne3 (c := c) (n := 69) h69 rfl;obtain ⟨n43, m43, k43⟩ := byte_ne3 (c := c) (n := 43) h43 rfl;obtain ⟨o, hn⟩ : ∃ o, numNext s c = o := ⟨_, rfl⟩;rw [hn];have hc : s = 0 ∨ s = 1 ∨ s = 2 ∨ s = 3 ∨ s = 4 ∨ s = 5 ∨ s = 6 ∨ s = 7 ∨ s = 8 := by omega
 by_cases f1 : (48 : Int) ≤ ((c.toNat : Nat) : Int)
 by_cases f2 : ((c.toNat : Nat) : Int) ≤ 57
 all_goals
  first
  | have hd : isD c = true := by simp [isD]; omega
  | have hd : isD c = false := by simp [isD]; omega
  rcases hc with rfl | rfl | rfl | rfl | rfl | rfl | rfl | rfl | rfl
  all_goals
   simp [numNext, hd, h45, h46, h48, h101, h69, h43] at hn;subst hn;clear hd;simp only [Int.natCast_zero, Int.natCast_one, Int.cast_ofNat_Int];go_enter Tryz.func170, Tryz.ntmps170;go_wp2;exact bodyPost_ret (by simp [results, Tryz.results170, go_sem]) rfl ⟨rfl, rfl⟩
theorem next_any (s : Nat) (hs : s ≤ 8) (c : UInt8) (w : World) : Calls Tryz.prog 170 #[.int .i64 (s : Int), .int .u8 ((c.toNat : Nat) : Int)] w fun e w' => nextRet s (numNext s c) e ∧ w' = w := by
 by_cases h : c = 45 ∨ c = 46 ∨ c = 48 ∨ c = 101 ∨ c = 69 ∨ c = 43
 ·exact next_const s hs c h w
 ·simp only [not_or] at h;exact next_else s hs c h.1 h.2.1 h.2.2.1 h.2.2.2.1 h.2.2.2.2.1 h.2.2.2.2.2 w
def RawRet (w : World) (b : Nat) (rawV : Value) (l : List UInt8) (c : Value → Array Value) (e : Ending) (w' : World) : Prop := e = .returned (.int .i64 0) ∧ ∃ g off cap, w'.heap[b]? = some (.cells (c (.slice (some ⟨g, off, none⟩) l.length cap)) 228 (0, 0)) ∧
 Win 5 encB w' (.slice (some ⟨g, off, none⟩) l.length cap) l ∧ (rawV.ownBlock = some g ∨ w.heap.size ≤ g) ∧ Keeps (fun k => k = b ∨ rawV.ownBlock = some k) w w'
theorem numeral_bad (w : World) (b s : Nat) (v0 v1 v2 v3 v4 v5 v6 v8 v9 va vb vc vd : Value) (ch : UInt8) (h : w.heap[b]? = some (.cells #[v0, v1, v2, v3, v4, v5, v6, .int .i64 s, v8, v9, va, vb, vc, vd] 228 (0, 0))) (hs : s ≤ 8)
 (hn : numNext s ch = none) (he : numEnds s = false) :
 Calls Tryz.prog 139 #[.pointer (some ⟨b, 0, none⟩), .int .u8 ((ch.toNat : Nat) : Int)] w fun e w' => e = .returned (.int .i64 94) ∧ w' = w := by
 obtain ⟨c0, c1, c2, c3, c4, c5, c6, c7, c8, c9, ca, cb, cc, cd, cf⟩ := cells14 h;have HN := Lib.hid (next_any s hs ch);have HE := Lib.hid (numEnds_any s hs);rw [hn] at HN;rw [he] at HE;clear h hn he hs;go_enter Tryz.func139, Tryz.ntmps139;go_wp2_with fail;refine (HN.out _).mono ?_;rintro e w1 ⟨rfl, rfl⟩;go_wp2_with fail;refine (HE.out _).mono ?_;rintro e w1 ⟨rfl, rfl⟩;go_wp2_with fail;go_ret;exact ⟨rfl, rfl⟩
theorem numeral_on (w : World) (b s s' : Nat) (v0 v1 v2 v3 v4 v5 v8 v9 va vb vc vd rawV : Value) (ch : UInt8) (l : List UInt8) (h : w.heap[b]? = some (.cells #[v0, v1, v2, v3, v4, v5, rawV, .int .i64 s, v8, v9, va, vb, vc, vd] 228 (0, 0))) (hs : s ≤ 8)
 (hn : numNext s ch = some s') (hr : Win 5 encB w rawV l) (hl : l.length ≤ 1073741824) :
 Calls Tryz.prog 139 #[.pointer (some ⟨b, 0, none⟩), .int .u8 ((ch.toNat : Nat) : Int)] w fun e w' => RawRet w b rawV (l ++ [ch]) (fun v => #[v0, v1, v2, v3, v4, v5, v, .int .i64 s', v8, v9, va, vb, vc, vd]) e w' := by
 obtain ⟨c0, c1, c2, c3, c4, c5, c6, c7, c8, c9, ca, cb, cc, cd, cf⟩ := cells14 h;have HN := Lib.hid (next_any s hs ch);rw [hn] at HN;have HNE := Lib.hid (hr.ne h (by decide));have h' := set_at h (o := 7) (.int .i64 s');simp only [List.setIfInBounds_toArray, List.set_cons_zero, List.set_cons_succ] at h';have H := Lib.hid h';have hlt := lt_of_block h;obtain ⟨ta, tc, htv⟩ := hr.shape;have hr2 : Win 5 encB ((w.setCell ⟨b, 7, none⟩ (.int .i64 s')).alloc (.cells #[encB ch] 5)) rawV l := hr.keeps (F := fun k => k = b) (((Keeps.refl (fun k => k = b) w).setCell (p := ⟨b, 7, none⟩) (.inl rfl) _).alloc _) (fun k e hk => HNE.out (e.trans (congrArg some hk)));have HR := Lib.hid hr2;clear h h' hn hs hr hr2;subst htv;go_enter Tryz.func139, Tryz.ntmps139;go_wp2_with fail;refine (HN.out _).mono ?_;rintro e w1 ⟨rfl, rfl⟩
 go_wp2_with (at_builtin; refine append_win elemB rfl _ _ rfl rfl HR.out ⟨w1.heap.size, 0, none⟩ 1 ch rfl ?_ rfl ?_ ?_ ?_)
 ·exact cell_new (set_size _ _ _).symm
 ·omega
 ·unfold maxLen; omega
 intro g off cap w' hrow hgb0 hgr;have hb' := (hgr.block b (by simp; omega) (fun e => HNE.out e.symm)).trans ((Below.heap_alloc _ _ _ (lt_of_block H.out)).trans H.out);have HNG := Lib.hid (hrow.ne hb' (by decide));have hgb : (Value.slice ta l.length tc).ownBlock = some g ∨ w1.heap.size ≤ g := hgb0.elim .inl (fun h => .inr (Nat.le_trans (by first | exact Nat.le_refl _ | simp [World.setCell]) h.1));have HGB := Lib.hid hgb;have HK := Lib.hid ((((Keeps.refl (fun k => k = b ∨ (Value.slice ta l.length tc).ownBlock = some k) w1).setCell (p := ⟨b, 7, none⟩) (.inl (.inl rfl)) (.int .i64 s')).alloc (.cells #[encB ch] 5)).grown hgr (fun k e => .inl (.inr e)));have HROW := Lib.hid hrow;obtain ⟨d0, d1, d2, d3, d4, d5, d6, d7, d8, d9, da, db, dc, dd, df⟩ := cells14 hb';have HB := Lib.hid hb';clear hb' hrow hgb hgb0 hgr c0 c1 c2 c3 c4 c5 c6 c7 c8 c9 ca cb cc cd cf;go_wp2_with fail;go_ret;refine ⟨rfl, g, off, cap, ?_, ?_, HGB.out, HK.out.setCell (p := ⟨b, 6, none⟩) (.inl (.inl rfl)) _⟩
 ·rw [List.length_append];exact set_at HB.out _
 ·rw [List.length_append];exact HROW.out.keeps ((Keeps.refl (fun k => k = b) w').setCell (p := ⟨b, 6, none⟩) (.inl rfl) _) (fun k e hk => HNG.out (e.trans (congrArg some hk)))
theorem next_none (w : World) (b : Nat) (v0 v1 v2 v3 v4 v5 v6 v7 v8 v9 va vb vc : Value) (a : Option Addr) (cap : Nat) (h : w.heap[b]? = some (.cells #[v0, v1, v2, v3, v4, v5, v6, v7, v8, v9, va, vb, vc, .slice a 0 cap] 228 (0, 0))) :
 Calls Tryz.prog 111 #[.pointer (some ⟨b, 0, none⟩)] w fun e w' => e = .returned (.tuple #[.nilIface, .bool false]) ∧ w' = w := by
 obtain ⟨c0, c1, c2, c3, c4, c5, c6, c7, c8, c9, ca, cb, cc, cd, cf⟩ := cells14 h;clear h;go_enter Tryz.func111, Tryz.ntmps111;go_wp2_with fail;exact bodyPost_ret (v := .tuple #[.nilIface, .bool false]) (by simp [results, Tryz.results111, go_sem]) rfl ⟨rfl, rfl⟩
theorem next_some (w : World) (b : Nat) (v0 v1 v2 v3 v4 v5 v6 v7 v8 v9 va vb vc tokV : Value) (T : TypeId) (tv : Value) (toks : List Value) (h : w.heap[b]? = some (.cells #[v0, v1, v2, v3, v4, v5, v6, v7, v8, v9, va, vb, vc, tokV] 228 (0, 0)))
 (hw : Win 232 id w tokV (.iface T tv :: toks)) (hl : toks.length ≤ 1000) :
 Calls Tryz.prog 111 #[.pointer (some ⟨b, 0, none⟩)] w fun e w' => e = .returned (.tuple #[.iface T tv, .bool true]) ∧ ∃ g off cap, w'.heap[b]? = some (.cells #[v0, v1, v2, v3, v4, v5, v6, v7, v8, v9, va, vb, vc, .slice (some ⟨g, off, none⟩) toks.length cap] 228 (0, 0)) ∧
  Win 232 id w' (.slice (some ⟨g, off, none⟩) toks.length cap) toks ∧ tokV.ownBlock = some g ∧ Keeps (fun k => k = b) w w' := by
 obtain ⟨c0, c1, c2, c3, c4, c5, c6, c7, c8, c9, ca, cb, cc, cd, cf⟩ := cells14 h;have HNE := Lib.hid (hw.ne h (by decide));have H := Lib.hid h;clear h;rcases hw with ⟨_, hn⟩ | ⟨g, off, cap, cur, rfl, hg, hc, ho, hm, hi⟩
 ·cases hn
 ·have hcell : w.cell? ⟨g, off, none⟩ = some (.iface T tv) := by
   have := hi 0 (.iface T tv) rfl;rw [cell_at hg]; simpa using this
  have hwin : Win 232 id w (.slice (some ⟨g, off + 1, none⟩) toks.length (cap - 1)) toks :=
   Win.tail (x := .iface T tv) (.inr ⟨g, off, cap, cur, rfl, hg, hc, ho, hm, hi⟩)
  have HW := Lib.hid hwin
  have h0 : cap = 1 → Win 232 id w (.slice (some ⟨g, off, none⟩) toks.length 0) toks := fun hc1 => by
   have hl0 : toks = [] := List.eq_nil_of_length_eq_zero (by simp at hc; omega);subst hl0;exact .inr ⟨g, off, 0, cur, rfl, hg, Nat.le_refl _, by omega, Nat.zero_le _, fun i x hx => by cases hx⟩
  have HW0 := Lib.hid h0;clear h0;have hgb : g ≠ b := fun e => HNE.out (by rw [e]; rfl)
  have HGB := Lib.hid hgb;simp only [List.length_cons] at *;have hle : toks.length + 1 ≤ cap := hc;have hcap : cap ≤ 9223372036854775807 := by unfold maxLen at hm; omega
  clear hg hc ho hm hi hwin hgb;go_enter Tryz.func111, Tryz.ntmps111;go_wp2_with fail
  ·exact bodyPost_ret (v := .tuple #[.iface T tv, .bool true]) (by simp [results, Tryz.results111, go_sem]) rfl ⟨rfl, g, off, 0, set_at H.out _, (HW0.out (by first | rfl | omega)).keeps ((Keeps.refl (fun k => k = b) w).setCell (p := ⟨b, 13, none⟩) (.inl rfl) _) (fun k e hk => HGB.out ((Option.some.inj e).trans hk)), rfl, (Keeps.refl (fun k => k = b) w).setCell (p := ⟨b, 13, none⟩) (.inl rfl) _⟩
  ·exact bodyPost_ret (v := .tuple #[.iface T tv, .bool true]) (by simp [results, Tryz.results111, go_sem]) rfl ⟨rfl, g, off + 1, cap - 1, set_at H.out _, HW.out.keeps ((Keeps.refl (fun k => k = b) w).setCell (p := ⟨b, 13, none⟩) (.inl rfl) _) (fun k e hk => HGB.out ((Option.some.inj e).trans hk)), rfl, (Keeps.refl (fun k => k = b) w).setCell (p := ⟨b, 13, none⟩) (.inl rfl) _⟩
theorem heldNow_any (w : World) (b pl st : Nat) (isIn : Bool) (v3 v6 v7 v8 v9 va vb vc vd : Value) (h : w.heap[b]? = some (.cells #[.int .i64 pl, .nilIface, .bool false, v3, .bool isIn, .int .i64 st, v6, v7, v8, v9, va, vb, vc, vd] 228 (0, 0))) (hle : st ≤ pl) (hpl : pl ≤ 1073741824) :
 Calls Tryz.prog 83 #[.pointer (some ⟨b, 0, none⟩)] w fun e w' => e = .returned (.int .i64 ((if isIn then pl - st else 0 : Nat) : Int)) ∧ Below w.heap.size w w' := by
 have HH := Lib.hid (held2_any w b pl st isIn _ h rfl rfl rfl hle hpl);obtain ⟨n, hn⟩ : ∃ n, (if isIn then pl - st else 0 : Nat) = n := ⟨_, rfl⟩;rw [hn] at HH ⊢;obtain ⟨c0, c1, c2, c3, c4, c5, c6, c7, c8, c9, ca, cb, cc, cd, cf⟩ := cells14 h;clear h hn;go_enter Tryz.func83, Tryz.ntmps83;go_wp2_with fail;refine (HH.out).mono ?_;rintro e w1 ⟨rfl, hb⟩;go_wp2_with fail;go_ret;exact ⟨rfl, hb⟩
def hexRet (o : Option Nat) (e : Ending) : Prop := match o with
 | some v => e = .returned (.int .i32 (v : Int))
 | none => e = .returned (.int .i32 (-1))
theorem value_any (c : UInt8) (w : World) : Calls Tryz.prog 202 #[.int .u8 ((c.toNat : Nat) : Int)] w fun e w' => hexRet (hexOf c) e ∧ w' = w := by
 obtain ⟨n, hn⟩ : ∃ n, c.toNat = n := ⟨_, rfl⟩;have hx : hexOf c = if 48 ≤ n ∧ n ≤ 57 then some (n - 48) else if 97 ≤ n ∧ n ≤ 102 then some (n - 87) else if 65 ≤ n ∧ n ≤ 70 then some (n - 55) else none := by unfold hexOf; rw [hn]
 have hn2 : n < 256 := by rw [← hn]; exact c.toNat_lt
 rw [hn, hx];clear hn hx;have hc : (n < 48) ∨ (48 ≤ n ∧ n ≤ 57) ∨ (57 < n ∧ n < 65) ∨ (65 ≤ n ∧ n ≤ 70) ∨ (70 < n ∧ n < 97) ∨ (97 ≤ n ∧ n ≤ 102) ∨ (102 < n) := by omega
 rcases hc with h | h | h | h | h | h | h
 ·rw [if_neg (by omega), if_neg (by omega), if_neg (by omega)];have f48 : ¬ (48 : Int) ≤ (n : Int) := by omega
  have g48 : (n : Int) ≤ 57 := by omega
  have f97 : ¬ (97 : Int) ≤ (n : Int) := by omega
  have g97 : (n : Int) ≤ 102 := by omega
  have f65 : ¬ (65 : Int) ≤ (n : Int) := by omega
  have g65 : (n : Int) ≤ 70 := by omega
  clear h;go_enter Tryz.func202, Tryz.ntmps202;go_wp2;go_ret;exact ⟨rfl, rfl⟩
 ·rw [if_pos (by omega)];have f48 : (48 : Int) ≤ (n : Int) := by omega
  have g48 : (n : Int) ≤ 57 := by omega
  have f97 : ¬ (97 : Int) ≤ (n : Int) := by omega
  have g97 : (n : Int) ≤ 102 := by omega
  have f65 : ¬ (65 : Int) ≤ (n : Int) := by omega
  have g65 : (n : Int) ≤ 70 := by omega
  have hr : IntKind.u8.wrap ((n : Int) - 48) = (n : Int) - 48 := by rw [IntKind.wrap_u8]; omega
  have hr2 : IntKind.i32.wrap ((n : Int) - 48) = (n : Int) - 48 := by rw [IntKind.wrap_i32]; omega
  have hv : Hid (((n - 48 : Nat) : Int) = (n : Int) - 48) := Lib.hid (by omega);clear h;go_enter Tryz.func202, Tryz.ntmps202;go_wp2;go_ret;exact ⟨by show Ending.returned _ = Ending.returned _; rw [hv.out]; rfl, rfl⟩
 ·rw [if_neg (by omega), if_neg (by omega), if_neg (by omega)];have f48 : (48 : Int) ≤ (n : Int) := by omega
  have g48 : ¬ (n : Int) ≤ 57 := by omega
  have f97 : ¬ (97 : Int) ≤ (n : Int) := by omega
  have g97 : (n : Int) ≤ 102 := by omega
  have f65 : ¬ (65 : Int) ≤ (n : Int) := by omega
  have g65 : (n : Int) ≤ 70 := by omega
  clear h;go_enter Tryz.func202, Tryz.ntmps202;go_wp2;go_ret;exact ⟨rfl, rfl⟩
 ·rw [if_neg (by omega), if_neg (by omega), if_pos (by omega)];have f48 : (48 : Int) ≤ (n : Int) := by omega
  have g48 : ¬ (n : Int) ≤ 57 := by omega
  have f97 : ¬ (97 : Int) ≤ (n : Int) := by omega
  have g97 : (n : Int) ≤ 102 := by omega
  have f65 : (65 : Int) ≤ (n : Int) := by omega
  have g65 : (n : Int) ≤ 70 := by omega
  have hr : IntKind.u8.wrap ((n : Int) - 65) = (n : Int) - 65 := by rw [IntKind.wrap_u8]; omega
  have hr2 : IntKind.i32.wrap ((n : Int) - 65) = (n : Int) - 65 := by rw [IntKind.wrap_i32]; omega
  have hr3 : IntKind.i32.wrap ((n : Int) - 65 + 10) = (n : Int) - 65 + 10 := by rw [IntKind.wrap_i32]; omega
  have hv : Hid (((n - 55 : Nat) : Int) = (n : Int) - 65 + 10) := Lib.hid (by omega);clear h;go_enter Tryz.func202, Tryz.ntmps202;go_wp2;go_ret;exact ⟨by show Ending.returned _ = Ending.returned _; rw [hv.out]; rfl, rfl⟩
 ·rw [if_neg (by omega), if_neg (by omega), if_neg (by omega)];have f48 : (48 : Int) ≤ (n : Int) := by omega
  have g48 : ¬ (n : Int) ≤ 57 := by omega
  have f97 : ¬ (97 : Int) ≤ (n : Int) := by omega
  have g97 : (n : Int) ≤ 102 := by omega
  have f65 : (65 : Int) ≤ (n : Int) := by omega
  have g65 : ¬ (n : Int) ≤ 70 := by omega
  clear h;go_enter Tryz.func202, Tryz.ntmps202;go_wp2;go_ret;exact ⟨rfl, rfl⟩
 ·rw [if_neg (by omega), if_pos (by omega)];have f48 : (48 : Int) ≤ (n : Int) := by omega
  have g48 : ¬ (n : Int) ≤ 57 := by omega
  have f97 : (97 : Int) ≤ (n : Int) := by omega
  have g97 : (n : Int) ≤ 102 := by omega
  have f65 : (65 : Int) ≤ (n : Int) := by omega
  have g65 : ¬ (n : Int) ≤ 70 := by omega
  have hr : IntKind.u8.wrap ((n : Int) - 97) = (n : Int) - 97 := by rw [IntKind.wrap_u8]; omega
  have hr2 : IntKind.i32.wrap ((n : Int) - 97) = (n : Int) - 97 := by rw [IntKind.wrap_i32]; omega
  have hr3 : IntKind.i32.wrap ((n : Int) - 97 + 10) = (n : Int) - 97 + 10 := by rw [IntKind.wrap_i32]; omega
  have hv : Hid (((n - 87 : Nat) : Int) = (n : Int) - 97 + 10) := Lib.hid (by omega);clear h;go_enter Tryz.func202, Tryz.ntmps202;go_wp2;go_ret;exact ⟨by show Ending.returned _ = Ending.returned _; rw [hv.out]; rfl, rfl⟩
 ·rw [if_neg (by omega), if_neg (by omega), if_neg (by omega)];have f48 : (48 : Int) ≤ (n : Int) := by omega
  have g48 : ¬ (n : Int) ≤ 57 := by omega
  have f97 : (97 : Int) ≤ (n : Int) := by omega
  have g97 : ¬ (n : Int) ≤ 102 := by omega
  have f65 : (65 : Int) ≤ (n : Int) := by omega
  have g65 : ¬ (n : Int) ≤ 70 := by omega
  clear h;go_enter Tryz.func202, Tryz.ntmps202;go_wp2;go_ret;exact ⟨rfl, rfl⟩
theorem nat_ne3 {n : Nat} {k : Int} (h : ¬ (n : Int) = k) : ¬ ((n : Int) = k) ∧ ((n : Int) == k) = false ∧ ((n : Int) != k) = true := ⟨h, by simpa using h, by simpa using h⟩
def loneOf (high digits code v : Nat) : Bool :=
 if high ≠ 0 ∧ digits = 0 then v ≠ 13 else if high ≠ 0 ∧ digits = 1 then v < 12 else high = 0 && digits = 1 && code = 13 && 12 ≤ v
theorem textCells {w : World} {b : Nat} {v0 v1 v2 v3 v4 v5 v6 v7 v8 v9 va vb vc vd : Value} {T : TypeId} (h : w.heap[b]? = some (.cells #[v0, v1, v2, v3, v4, v5, v6, v7, v8, v9, va, vb, vc, vd] T (0, 0))) :
 w.cell? ⟨b, 8, none⟩ = some v8 ∧ w.cell? ⟨b, 9, none⟩ = some v9 ∧ w.cell? ⟨b, 10, none⟩ = some va ∧ w.cell? ⟨b, 11, none⟩ = some vb ∧ w.cell? ⟨b, 12, none⟩ = some vc := ⟨cell_at h, cell_at h, cell_at h, cell_at h, cell_at h⟩
theorem lone_any (w : World) (b dg cd' hi v : Nat) (v0 v1 v2 v3 v4 v5 v6 v7 v8 v9 vd : Value) (h : w.heap[b]? = some (.cells #[v0, v1, v2, v3, v4, v5, v6, v7, v8, v9, .int .i64 dg, .int .i32 cd', .int .i32 hi, vd] 228 (0, 0))) :
 Calls Tryz.prog 203 #[.pointer (some ⟨b, 8, none⟩), .int .i32 v] w fun e w' => e = .returned (.bool (loneOf hi dg cd' v)) ∧ w' = w := by
 obtain ⟨c8, c9, ca, cb, cc⟩ := textCells h;clear h
 by_cases h0 : hi = 0
 ·subst h0
  by_cases h1 : dg = 1
  ·subst h1
   by_cases h2 : cd' = 13
   ·subst h2
    by_cases h3 : 12 ≤ v
    ·have e3 : (12 : Int) ≤ (v : Int) := by omega
     rw [show loneOf 0 1 13 v = true by simp [loneOf, h3]];go_enter Tryz.func203, Tryz.ntmps203;go_wp2_with fail;go_ret;exact ⟨rfl, rfl⟩
    ·have e3 : ¬ (12 : Int) ≤ (v : Int) := by omega
     rw [show loneOf 0 1 13 v = false by simp [loneOf, h3]];go_enter Tryz.func203, Tryz.ntmps203;go_wp2_with fail;go_ret;exact ⟨rfl, rfl⟩
   ·obtain ⟨n1, n2, n3⟩ := nat_ne3 (n := cd') (k := 13) (by omega);rw [show loneOf 0 1 cd' v = false by simp [loneOf, h2]];clear h2;go_enter Tryz.func203, Tryz.ntmps203;go_wp2_with fail;go_ret;exact ⟨rfl, rfl⟩
  ·obtain ⟨n1, n2, n3⟩ := nat_ne3 (n := dg) (k := 1) (by omega);rw [show loneOf 0 dg cd' v = false by simp [loneOf, h1]];clear h1;go_enter Tryz.func203, Tryz.ntmps203;go_wp2_with fail;go_ret;exact ⟨rfl, rfl⟩
 ·obtain ⟨m1, m2, m3⟩ := nat_ne3 (n := hi) (k := 0) (by omega)
  by_cases h1 : dg = 0
  ·subst h1
   by_cases h2 : v = 13
   ·subst h2;rw [show loneOf hi 0 cd' 13 = false by simp [loneOf, h0]];clear h0;go_enter Tryz.func203, Tryz.ntmps203;go_wp2_with fail;go_ret;exact ⟨rfl, rfl⟩
   ·obtain ⟨n1, n2, n3⟩ := nat_ne3 (n := v) (k := 13) (by omega);rw [show loneOf hi 0 cd' v = true by simp [loneOf, h0, h2]];clear h0 h2;go_enter Tryz.func203, Tryz.ntmps203;go_wp2_with fail;go_ret;exact ⟨rfl, rfl⟩
  ·obtain ⟨k1, k2, k3⟩ := nat_ne3 (n := dg) (k := 0) (by omega)
   by_cases h4 : dg = 1
   ·subst h4
    by_cases h3 : v < 12
    ·have e3 : (v : Int) < 12 := by omega
     rw [show loneOf hi 1 cd' v = true by simp [loneOf, h0, h3]];clear h0;go_enter Tryz.func203, Tryz.ntmps203;go_wp2_with fail;go_ret;exact ⟨rfl, rfl⟩
    ·have e3 : ¬ (v : Int) < 12 := by omega
     rw [show loneOf hi 1 cd' v = false by simp [loneOf, h0, h3]];clear h0;go_enter Tryz.func203, Tryz.ntmps203;go_wp2_with fail;go_ret;exact ⟨rfl, rfl⟩
   ·obtain ⟨n1, n2, n3⟩ := nat_ne3 (n := dg) (k := 1) (by omega);rw [show loneOf hi dg cd' v = false by simp [loneOf, h0, h1, h4]];clear h0 h1 h4;go_enter Tryz.func203, Tryz.ntmps203;go_wp2_with fail;go_ret;exact ⟨rfl, rfl⟩
theorem character_any (r : Nat) (hr : IsRune r) (w : World) : Calls Tryz.prog 242 #[.int .i32 r] w fun e w' => e = .returned (.bool true) ∧ w' = w := by
 have e0 : (0 : Int) ≤ (r : Int) := by omega
 rcases hr with h | ⟨h1, h2⟩
 ·have e1 : (r : Int) < 55296 := by omega
  go_enter Tryz.func242, Tryz.ntmps242;go_wp2_with fail;go_ret;exact ⟨rfl, rfl⟩
 ·have e1 : ¬ (r : Int) < 55296 := by omega
  have e2 : (57343 : Int) < (r : Int) := by omega
  have e3 : (r : Int) ≤ 1114111 := by omega
  go_enter Tryz.func242, Tryz.ntmps242;go_wp2_with fail;go_ret;exact ⟨rfl, rfl⟩
theorem encode_rune {r : Nat} (hr : IsRune r) : (Utf8.encode (r : Int)) = ⟨(runeBytes r).toArray⟩ := by
 have hv : Utf8.valid (r : Int) = true := by
  unfold Utf8.valid;rcases hr with h | ⟨h1, h2⟩
  ·have h3 : (r : Int) < 0xD800 := by omega
   simp [h3]
  ·have h3 : (0xE000 : Int) ≤ (r : Int) := by omega
   have h4 : (r : Int) ≤ 0x10FFFF := by omega
   simp [h3, h4]
 unfold Utf8.encode runeBytes;simp only [hv, if_true, Int.toNat_natCast];split
 ·rfl
 ·split
  ·rfl
  ·split
   ·rfl
   ·rfl
end Go.Proofs.YtakkmiomhackiaaGreatDoor
