/-
  The program, one part of its walk: Pa1, Pa2, Lx8f, Lx9f. Conditions: none.
-/
import Derived.Test.YtakkmiomhackiaaGreatDoorPa15
import Derived.Test.YtakkmiomhackiaaGreatDoorPa18
import Derived.Test.YtakkmiomhackiaaGreatDoorPa20
import Derived.Test.YtakkmiomhackiaaGreatDoorPa11
import Derived.Test.YtakkmiomhackiaaGreatDoorPa21
import Derived.Test.YtakkmiomhackiaaGreatDoorPa12
import Derived.Test.YtakkmiomhackiaaGreatDoorPa00
set_option linter.all false
set_option maxRecDepth 100000
set_option maxHeartbeats 16000000
open Go.Proofs.Tryz
namespace Go.Proofs.YtakkmiomhackiaaGreatDoor
open Go.RowKit
def failE (no at_ : Nat) : Ending := .panicked [{ v := spotV no at_, recovered := false }]
theorem fail_any (w : World) (no at_ : Nat) : Calls prog 81 #[.int .i64 no, .int .i64 at_] w fun e w' => e = failE no at_ ∧ w' = w := by
 go_enter func81, ntmps81;go_wp2;exact ⟨rfl, rfl, rfl⟩
theorem cells10 {w : World} {b : Nat} {v0 v1 v2 v3 v4 v5 v6 v7 v8 v9 : Value} {T : TypeId} (h : w.heap[b]? = some (.cells #[v0, v1, v2, v3, v4, v5, v6, v7, v8, v9] T (0, 0))) :
 w.cell? ⟨b, 0, none⟩ = some v0 ∧ w.cell? ⟨b, 1, none⟩ = some v1 ∧ w.cell? ⟨b, 2, none⟩ = some v2 ∧ w.cell? ⟨b, 3, none⟩ = some v3 ∧ w.cell? ⟨b, 4, none⟩ = some v4 ∧ w.cell? ⟨b, 5, none⟩ = some v5 ∧ w.cell? ⟨b, 6, none⟩ = some v6 ∧ w.cell? ⟨b, 7, none⟩ = some v7 ∧
 w.cell? ⟨b, 8, none⟩ = some v8 ∧ w.cell? ⟨b, 9, none⟩ = some v9 ∧ ∀ o, w.frozen? ⟨b, o, none⟩ = false :=
 ⟨cell_at h, cell_at h, cell_at h, cell_at h, cell_at h, cell_at h, cell_at h, cell_at h, cell_at h, cell_at h, free_at h⟩
theorem lexed_nil (w : World) : Calls prog 80 #[.nilIface] w fun e w' => e = .returned (.tuple #[]) ∧ w' = w := by
 go_enter func80, ntmps80;go_wp2
 first
  | (go_end0; exact ⟨rfl, rfl⟩)
  | exact bodyPost_ret (results_none rfl _ _ _) rfl ⟨rfl, rfl⟩
theorem lexed_spot (w : World) (no at_ : Nat) : Calls prog 80 #[spotV no at_] w fun e w' => e = failE (lexNo no) at_ ∧ Below w.heap.size w w' := by
 have hta : ∀ w : World, (Instr.typeAssert (.iface 151 (.agg #[.int .i64 no, .int .i64 at_])) 26 151 false).run prog w = .ok (.agg #[.int .i64 no, .int .i64 at_]) w := fun _ => by kernel_rfl
 unfold spotV
 by_cases h : no = 94
 ·subst h;simp only [Int.cast_ofNat_Int] at hta ⊢;go_enter func80, ntmps80;go_wp2;exact ⟨rfl, rfl, (Below.refl _ _).alloc (Nat.le_refl _) _⟩
 ·have hn : ((no : Int) == 94) = false := by simp; omega
  have hl : lexNo no = no := if_neg h;rw [hl];clear hl h;go_enter func80, ntmps80;go_wp2;exact ⟨rfl, rfl, (Below.refl _ _).alloc (Nat.le_refl _) _⟩
theorem value_ok (w : World) (p d want nodes at_ n cap : Nat) (a : Option Addr) (v1 v2 v3 v7 v8 v9 : Value) (h : w.heap[p]? = some (.cells #[.int .i64 d, v1, v2, v3, .slice a n cap, .int .i64 want, .int .i64 nodes, v7, v8, v9] 136 (0, 0))) (hw : want = 0 ∨ want = 1) (hn : n ≠ d) (hno : nodes < 65536) :
 Calls prog 117 #[.pointer (some ⟨p, 0, none⟩), .int .i64 at_] w fun e w' => e = .returned (.tuple #[]) ∧ w'.heap[p]? = some (.cells #[.int .i64 d, v1, v2, v3, .slice a n cap, .int .i64 want, .int .i64 (nodes + 1 : Nat), v7, v8, v9] 136 (0, 0)) ∧ Keeps (fun k => k = p) w w' := by
 obtain ⟨c0, c1, c2, c3, c4, c5, c6, c7, c8, c9, cf⟩ := cells10 h;have H := hZ h;have e1 : ((n : Int) == (d : Int)) = false := by simp; omega
 have e1n : (n == d) = false := by simpa using hn
 have e2 : ((nodes : Int) == 65536) = false := by simp; omega
 clear h hn;rcases hw with rfl | rfl
 all_goals
  go_enter func117, ntmps117;go_wp2_with fail;go_region;go_wp2_with fail
  go_end0
  exact ⟨rfl, set_at (w := w.drew) H.out _, ((Keeps.refl (fun k => k = p) w).drew).setCell (p := ⟨p, 6, none⟩) (.inl rfl) _⟩
theorem value_syntax (w : World) (p want at_ : Nat) (v0 v1 v2 v3 v4 v6 v7 v8 v9 : Value) (h : w.heap[p]? = some (.cells #[v0, v1, v2, v3, v4, .int .i64 want, v6, v7, v8, v9] 136 (0, 0))) (hw : want ≠ 0 ∧ want ≠ 1) :
 Calls prog 117 #[.pointer (some ⟨p, 0, none⟩), .int .i64 at_] w fun e w' => e = failE 120 at_ ∧ Below w.heap.size w w' := by
 obtain ⟨c0, c1, c2, c3, c4, c5, c6, c7, c8, c9, cf⟩ := cells10 h;have e1 : ((want : Int) == 0) = false := by simp; omega
 have e2 : ((want : Int) == 1) = false := by simp; omega
 have e3 : ((want : Int) != 0) = true := by simp; omega
 have e4 : ((want : Int) != 1) = true := by simp; omega
 have HF := hZ (fun w => fail_any w 120 at_);clear h hw;go_enter func117, ntmps117;go_wp2_with fail;refine (HF.out _).mono ?_;rintro e w1 ⟨he, rfl⟩;unfold failE at he;subst he;go_wp2_with fail;exact ⟨rfl, rfl, Below.refl _ _⟩
theorem value_depth (w : World) (p d want at_ cap : Nat) (a : Option Addr) (v1 v2 v3 v6 v7 v8 v9 : Value) (h : w.heap[p]? = some (.cells #[.int .i64 d, v1, v2, v3, .slice a d cap, .int .i64 want, v6, v7, v8, v9] 136 (0, 0))) (hw : want = 0 ∨ want = 1) :
 Calls prog 117 #[.pointer (some ⟨p, 0, none⟩), .int .i64 at_] w fun e w' => e = failE 121 at_ ∧ Below w.heap.size w w' := by
 obtain ⟨c0, c1, c2, c3, c4, c5, c6, c7, c8, c9, cf⟩ := cells10 h;have HF := hZ (fun w => fail_any w 121 at_);clear h;rcases hw with rfl | rfl
 all_goals
  go_enter func117, ntmps117;go_wp2_with fail;go_region;go_wp2_with fail;refine (HF.out _).mono ?_;rintro e w1 ⟨he, rfl⟩;unfold failE at he;subst he;go_wp2_with fail;exact ⟨rfl, rfl, (Below.refl _ _).drew⟩
theorem value_long (w : World) (p d want at_ n cap : Nat) (a : Option Addr) (v1 v2 v3 v7 v8 v9 : Value) (h : w.heap[p]? = some (.cells #[.int .i64 d, v1, v2, v3, .slice a n cap, .int .i64 want, .int .i64 65536, v7, v8, v9] 136 (0, 0))) (hw : want = 0 ∨ want = 1) (hn : n ≠ d) :
 Calls prog 117 #[.pointer (some ⟨p, 0, none⟩), .int .i64 at_] w fun e w' => e = failE 3 at_ ∧ Below w.heap.size w w' := by
 obtain ⟨c0, c1, c2, c3, c4, c5, c6, c7, c8, c9, cf⟩ := cells10 h;have e1 : ((n : Int) == (d : Int)) = false := by simp; omega
 have e1n : (n == d) = false := by simpa using hn
 have HF := hZ (fun w => fail_any w 3 at_);clear h hn;rcases hw with rfl | rfl
 all_goals
  go_enter func117, ntmps117;go_wp2_with fail;go_region;go_wp2_with fail;refine (HF.out _).mono ?_;rintro e w1 ⟨he, rfl⟩;unfold failE at he;subst he;go_wp2_with fail;exact ⟨rfl, rfl, (Below.refl _ _).drew⟩
theorem weigh_any (w : World) (p bytes at_ : Nat) (s : ByteArray) (v0 v1 v2 v3 v4 v5 v6 v8 v9 : Value) (h : w.heap[p]? = some (.cells #[v0, v1, v2, v3, v4, v5, v6, .int .i64 bytes, v8, v9] 136 (0, 0))) (hb : bytes ≤ 1073741824) (hs : s.size ≤ 1073741824) :
 Calls prog 149 #[.pointer (some ⟨p, 0, none⟩), .string s, .int .i64 at_] w fun e w' => (bytes + s.size ≤ 2097152 → e = .returned (.tuple #[])) ∧ (2097152 < bytes + s.size → e = failE 3 at_) ∧ w'.heap[p]? = some (.cells #[v0, v1, v2, v3, v4, v5, v6, .int .i64 (bytes + s.size : Nat), v8, v9] 136 (0, 0)) ∧ Keeps (fun k => k = p) w w' := by
 obtain ⟨c0, c1, c2, c3, c4, c5, c6, c7, c8, c9, cf⟩ := cells10 h;have H := hZ h;have HF := hZ (fun w => fail_any w 3 at_);obtain ⟨n, hn⟩ : ∃ n, s.size = n := ⟨_, rfl⟩;rw [hn] at hs;have HN := hZ hn;have hset := set_at (o := 7) h (.int .i64 ((bytes + n : Nat) : Int));simp only [List.setIfInBounds_toArray, List.set_cons_zero, List.set_cons_succ] at hset;have HS := hZ hset;clear h hset
 by_cases hf : bytes + n ≤ 2097152
 ·have e1 : (bytes : Int) + (n : Int) ≤ 2097152 := by omega
  have HFF := hZ hf;clear hf;go_enter func149, ntmps149;go_wp2_with fail
  go_end0
  rw [HN.out];exact ⟨fun _ => rfl, fun h => absurd HFF.out (Nat.not_le.2 h), HS.out, (Keeps.refl (fun k => k = p) w).setCell (p := ⟨p, 7, none⟩) (.inl rfl) _⟩
 ·have e1 : ¬ (bytes : Int) + (n : Int) ≤ 2097152 := by omega
  have HFF := hZ hf;clear hf;go_enter func149, ntmps149;go_wp2_with fail;refine (HF.out _).mono ?_;rintro e w1 ⟨he, rfl⟩;unfold failE at he;subst he;go_wp2_with fail;rw [HN.out];exact ⟨rfl, fun h => absurd h HFF.out, fun _ => rfl, HS.out, (Keeps.refl (fun k => k = p) w).setCell (p := ⟨p, 7, none⟩) (.inl rfl) _⟩
def Plainly (e : Ending) : Prop := e = .returned (.tuple #[]) ∨ ∃ no at_, e = failE no at_
theorem begins_value (w : World) (p pl want : Nat) (v0 v2 v3 v4 v6 v7 v8 v9 : Value) (c : UInt8) (Q : Ending → World → Prop) (h : w.heap[p]? = some (.cells #[v0, .int .i64 pl, v2, v3, v4, .int .i64 want, v6, v7, v8, v9] 136 (0, 0))) (hc : c ≠ 34 ∨ (want ≠ 2 ∧ want ≠ 3))
 (hv : Calls prog 117 #[.pointer (some ⟨p, 0, none⟩), .int .i64 pl] w fun e w' => Plainly e ∧ Q e w') :
 Calls prog 84 #[.pointer (some ⟨p, 0, none⟩), .int .u8 ((c.toNat : Nat) : Int)] w Q := by
 obtain ⟨c0, c1, c2, c3, c4, c5, c6, c7, c8, c9, cf⟩ := cells10 h;have HV := hZ hv
 have hway : ¬ c = 34 ∨ (c = 34 ∧ ((want : Int) == 2) = false ∧ ((want : Int) == 3) = false) := by
  by_cases h34 : c = 34
  ·right;have := hc.resolve_left (fun h => h h34);exact ⟨h34, by simp; omega, by simp; omega⟩
  ·exact .inl h34
 clear h hv hc;rcases hway with h34 | ⟨h34, e2, e3⟩
 ·obtain ⟨n1, n2, n3⟩ := byte_ne3 (c := c) (d := 34) (n := 34) h34 rfl;clear h34;go_enter func84, ntmps84;go_wp2_with fail;refine (HV.out).mono ?_;rintro e w1 ⟨rfl | ⟨no, at_, he⟩, hq⟩
  ·have HQ := hZ hq;clear hq;go_wp2_with fail
   first
    | (go_end0; exact HQ.out)
    | exact HQ.out
  ·have HQ := hZ hq;clear hq;have HE := hZ he;unfold failE at he;subst he;go_wp2_with fail;exact ⟨rfl, HQ.out⟩
 ·have hv : ((c.toNat : Nat) : Int) = 34 := by rw [h34]; rfl
  clear h34;go_enter func84, ntmps84;go_wp2_with fail;refine (HV.out).mono ?_;rintro e w1 ⟨rfl | ⟨no, at_, he⟩, hq⟩
  ·have HQ := hZ hq;clear hq;go_wp2_with fail
   first
    | (go_end0; exact HQ.out)
    | exact HQ.out
  ·have HQ := hZ hq;clear hq;unfold failE at he;subst he;go_wp2_with fail;exact ⟨rfl, HQ.out⟩
theorem put_empty (w : World) (p cap : Nat) (a : Option Addr) (v0 v1 v2 v3 v5 v6 v7 v8 v9 : Value) (h : w.heap[p]? = some (.cells #[v0, v1, v2, v3, .slice a 0 cap, v5, v6, v7, v8, v9] 136 (0, 0))) :
 Calls prog 151 #[.pointer (some ⟨p, 0, none⟩)] w fun e w' => e = .returned (.tuple #[]) ∧ w'.heap[p]? = some (.cells #[v0, v1, v2, v3, .slice a 0 cap, .int .i64 6, v6, v7, v8, v9] 136 (0, 0)) ∧ Keeps (fun k => k = p) w w' := by
 obtain ⟨c0, c1, c2, c3, c4, c5, c6, c7, c8, c9, cf⟩ := cells10 h;have H := hZ h;clear h;go_enter func151, ntmps151;go_wp2_with fail
 first
  | (go_end0; exact ⟨rfl, set_at (set_at H.out _) _, ((Keeps.refl (fun k => k = p) w).setCell (p := ⟨p, 5, none⟩) (.inl rfl) _).setCell (p := ⟨p, 5, none⟩) (.inl rfl) _⟩)
  | exact bodyPost_ret (results_none rfl _ _ _) rfl ⟨rfl, set_at (set_at H.out _) _, ((Keeps.refl (fun k => k = p) w).setCell (p := ⟨p, 5, none⟩) (.inl rfl) _).setCell (p := ⟨p, 5, none⟩) (.inl rfl) _⟩
theorem put_list (w : World) (p g off n cap fb m : Nat) (v0 v1 v2 v3 v5 v6 v7 v8 v9 : Value) (h : w.heap[p]? = some (.cells #[v0, v1, v2, v3, .slice (some ⟨g, off, none⟩) (n + 1) cap, v5, v6, v7, v8, v9] 136 (0, 0)))
 (hg : w.cell? ⟨g, off + n, none⟩ = some (.iface 272 (.pointer (some ⟨fb, 0, none⟩)))) (hgp : g ≠ p) (hf : w.heap[fb]? = some (.cells #[.int .i64 m] 274 (0, 0))) (hn : n ≤ 1048576) (hm : m ≤ 1073741824) :
 Calls prog 151 #[.pointer (some ⟨p, 0, none⟩)] w fun e w' => e = .returned (.tuple #[]) ∧ w'.heap[p]? = some (.cells #[v0, v1, v2, v3, .slice (some ⟨g, off, none⟩) (n + 1) cap, .int .i64 5, v6, v7, v8, v9] 136 (0, 0)) ∧ w'.heap[fb]? = some (.cells #[.int .i64 (m + 1 : Nat)] 274 (0, 0)) ∧ Keeps (fun k => k = p ∨ k = fb) w w' := by
 have hta : ∀ w : World, (Instr.typeAssert (.iface 272 (.pointer (some ⟨fb, 0, none⟩))) 281 272 true).run prog w = .ok (.tuple #[.pointer (some ⟨fb, 0, none⟩), .bool true]) w := fun _ => by kernel_rfl
 obtain ⟨c0, c1, c2, c3, c4, c5, c6, c7, c8, c9, cf⟩ := cells10 h
 have hpf : p ≠ fb := by
  intro e; subst e;rw [h] at hf;simp at hf
 have hp2 : (w.setCell ⟨p, 5, none⟩ (.int .i64 5)).heap[p]? = _ := set_at h _;have hf2 : (w.setCell ⟨p, 5, none⟩ (.int .i64 5)).heap[fb]? = _ := (set_else _ (fun e => hpf e.symm)).trans hf;have hg2 : (w.setCell ⟨p, 5, none⟩ (.int .i64 5)).cell? ⟨g, off + n, none⟩ = _ := ((Keeps.refl (fun k => k = p) w).setCell (p := ⟨p, 5, none⟩) (.inl rfl) _).cell hg hgp;have HK := hZ ((Keeps.refl (fun k => k = p ∨ k = fb) w).setCell (p := ⟨p, 5, none⟩) (.inl (.inl rfl)) (.int .i64 5));simp only [List.setIfInBounds_toArray, List.set_cons_zero, List.set_cons_succ] at hp2;have HP2 := hZ hp2;have HF2 := hZ hf2;have HG2 := hZ hg2;have HPF := hZ hpf;clear h hg hf hp2 hf2 hg2 hpf;go_enter func151, ntmps151;go_wp2_with fail;obtain ⟨w2, hw2⟩ : ∃ w2, w.setCell ⟨p, 5, none⟩ (.int .i64 5) = w2 := ⟨_, rfl⟩;rw [hw2] at HK HP2 HF2 HG2 ⊢;obtain ⟨d0, d1, d2, d3, d4, d5, d6, d7, d8, d9, df⟩ := cells10 HP2.out;have hg3 := HG2.out;have hf3 := cell_of_one HF2.out;have hff := free_of_one HF2.out;have hr1 : IntKind.i64.wrap ((n : Int) + 1 - 1) = (n : Int) := by rw [IntKind.wrap_i64]; omega
 clear hw2 c0 c1 c2 c3 c4 c5 c6 c7 c8 c9 cf;go_region;go_wp2_with fail
 go_end0
 exact ⟨rfl, (set_else (w := w2.drew) _ HPF.out).trans HP2.out, set_at (w := w2.drew) HF2.out _, (HK.out.drew).setCell (p := ⟨fb, 0, none⟩) (.inl (.inr rfl)) _⟩
theorem put_object (w : World) (p g off n cap fb : Nat) (v0 v1 v2 v3 v5 v6 v7 v8 v9 : Value) (h : w.heap[p]? = some (.cells #[v0, v1, v2, v3, .slice (some ⟨g, off, none⟩) (n + 1) cap, v5, v6, v7, v8, v9] 136 (0, 0)))
 (hg : w.cell? ⟨g, off + n, none⟩ = some (.iface 275 (.pointer (some ⟨fb, 0, none⟩)))) (hgp : g ≠ p) (hn : n ≤ 1048576) :
 Calls prog 151 #[.pointer (some ⟨p, 0, none⟩)] w fun e w' => e = .returned (.tuple #[]) ∧ w'.heap[p]? = some (.cells #[v0, v1, v2, v3, .slice (some ⟨g, off, none⟩) (n + 1) cap, .int .i64 5, v6, v7, v8, v9] 136 (0, 0)) ∧ Keeps (fun k => k = p) w w' := by
 have hta : ∀ w : World, (Instr.typeAssert (.iface 275 (.pointer (some ⟨fb, 0, none⟩))) 281 272 true).run prog w = .ok (.tuple #[.pointer none, .bool false]) w := fun _ => by kernel_rfl
 obtain ⟨c0, c1, c2, c3, c4, c5, c6, c7, c8, c9, cf⟩ := cells10 h;have hp2 : (w.setCell ⟨p, 5, none⟩ (.int .i64 5)).heap[p]? = _ := set_at h _;have hg2 : (w.setCell ⟨p, 5, none⟩ (.int .i64 5)).cell? ⟨g, off + n, none⟩ = _ := ((Keeps.refl (fun k => k = p) w).setCell (p := ⟨p, 5, none⟩) (.inl rfl) _).cell hg hgp;have HK := hZ ((Keeps.refl (fun k => k = p) w).setCell (p := ⟨p, 5, none⟩) (.inl rfl) (.int .i64 5));simp only [List.setIfInBounds_toArray, List.set_cons_zero, List.set_cons_succ] at hp2;have HP2 := hZ hp2;have HG2 := hZ hg2;clear h hg hp2 hg2;go_enter func151, ntmps151;go_wp2_with fail;obtain ⟨w2, hw2⟩ : ∃ w2, w.setCell ⟨p, 5, none⟩ (.int .i64 5) = w2 := ⟨_, rfl⟩;rw [hw2] at HK HP2 HG2 ⊢;obtain ⟨d0, d1, d2, d3, d4, d5, d6, d7, d8, d9, df⟩ := cells10 HP2.out;have hg3 := HG2.out;have hr1 : IntKind.i64.wrap ((n : Int) + 1 - 1) = (n : Int) := by rw [IntKind.wrap_i64]; omega
 clear hw2 c0 c1 c2 c3 c4 c5 c6 c7 c8 c9 cf;go_region;go_wp2_with fail
 go_end0
 exact ⟨rfl, HP2.out, HK.out.drew⟩
theorem begins_key (w : World) (p want : Nat) (v0 v1 v2 v3 v4 v6 v7 v8 v9 : Value) (c : UInt8) (h : w.heap[p]? = some (.cells #[v0, v1, v2, v3, v4, .int .i64 want, v6, v7, v8, v9] 136 (0, 0))) (hc : c = 34) (hw : want = 2 ∨ want = 3) :
 Calls prog 84 #[.pointer (some ⟨p, 0, none⟩), .int .u8 ((c.toNat : Nat) : Int)] w fun e w' => e = .returned (.tuple #[]) ∧ Below w.heap.size w w' := by
 obtain ⟨c0, c1, c2, c3, c4, c5, c6, c7, c8, c9, cf⟩ := cells10 h;have hv : ((c.toNat : Nat) : Int) = 34 := by rw [hc]; rfl
 rw [hv];clear h hc hv;rcases hw with rfl | rfl
 all_goals
  go_enter func84, ntmps84;go_wp2_with fail
  first
   | (go_end0; exact ⟨rfl, Below.refl _ _⟩)
   | exact bodyPost_ret (results_none rfl _ _ _) rfl ⟨rfl, Below.refl _ _⟩
theorem finish_none (w : World) (b : Nat) (v0 v1 v2 v3 v4 v5 v7 v8 v9 va vb vc vd rawV : Value) (raw : List UInt8) (h : w.heap[b]? = some (.cells #[v0, v1, v2, v3, v4, v5, rawV, v7, v8, v9, va, vb, vc, vd] 228 (0, 0)))
 (hr : Win 5 encB w rawV raw) (hl : raw.length ≤ 1073741824) (hn : bitsOf raw = none) :
 Calls prog 110 #[.pointer (some ⟨b, 0, none⟩)] w fun e w' => e = .returned (.bool false) ∧ Below w.heap.size w w' := by
 obtain ⟨c0, c1, c2, c3, c4, c5, c6, c7, c8, c9, ca, cb, cc, cd, cf⟩ := cells14 h;have hconv := win_string hr;have HB := hZ (bits_any ⟨raw.toArray⟩ w (by show raw.toArray.size ≤ _; simpa using hl));rw [show (⟨raw.toArray⟩ : ByteArray).data.toList = raw by simp, hn] at HB;clear h hr hn hl;go_enter func110, ntmps110;go_wp2_with fail;refine (HB.out).mono ?_;rintro e w1 ⟨⟨T, v, rfl⟩, hb⟩;have HB2 := hZ hb;clear hb;go_wp2_with fail;go_ret;exact ⟨rfl, HB2.out⟩
theorem finish_some (w : World) (b pl st : Nat) (v1 v2 v3 v4 v7 v8 v9 va vb vc rawV tokV : Value) (raw : List UInt8) (toks : List Value) (bits : Nat) (h : w.heap[b]? = some (.cells #[.int .i64 pl, v1, v2, v3, v4, .int .i64 st, rawV, v7, v8, v9, va, vb, vc, tokV] 228 (0, 0)))
 (hr : Win 5 encB w rawV raw) (hl : raw.length ≤ 1073741824) (hn : bitsOf raw = some bits) (hw : Win 232 id w tokV toks) (htl : toks.length ≤ 1000) (hle : st ≤ pl) (hpl : pl ≤ 1073741824) :
 Calls prog 110 #[.pointer (some ⟨b, 0, none⟩)] w fun e w' => ToldRet w b tokV toks (tokEnc (.num st (pl - st) bits)) (fun v => #[.int .i64 pl, v1, v2, .func (.func 104) #[] #[], .bool false, .int .i64 st, rawV, v7, v8, v9, va, vb, vc, v]) (.bool true) e w' := by
 obtain ⟨c0, c1, c2, c3, c4, c5, c6, c7, c8, c9, ca, cb, cc, cd, cf⟩ := cells14 h;have hconv := win_string hr;have HB := hZ (bits_any ⟨raw.toArray⟩ w (by show raw.toArray.size ≤ _; simpa using hl));rw [show (⟨raw.toArray⟩ : ByteArray).data.toList = raw by simp, hn] at HB;have H := hZ h;have HW := hZ hw;have hlt := lt_of_block h
 have htb : ∀ k, tokV.ownBlock = some k → k < w.heap.size := by
  intro k hk;rcases hw with ⟨rfl, _⟩ | ⟨g, off, cap, cur, rfl, hg, _⟩
  ·cases hk
  ·cases hk; exact lt_of_block hg
 have HTB := hZ htb;clear h hr hn hl hw htb;go_enter func110, ntmps110;go_wp2_with fail;refine (HB.out).mono ?_;rintro e w1 ⟨rfl, hb⟩;have h1 := keep H.out hb;have hw1 : Win 232 id w1 tokV toks := HW.out.keeps (Keeps.of_below (fun _ => False) hb) (fun _ _ => id);obtain ⟨d0, d1, d2, d3, d4, d5, d6, d7, d8, d9, da, db, dc, dd, df⟩ := cells14 h1;have H1 := hZ h1;have HW1 := hZ hw1;have HB1 := hZ hb;clear h1 hw1 hb c0 c1 c2 c3 c4 c5 c6 c7 c8 c9 ca cb cc cd cf hconv;go_wp2_with fail;refine (span_any w1 b _ st pl H1.out rfl hle hpl).mono ?_;rintro e w2 ⟨rfl, hb2⟩;have h2 := keep H1.out hb2;have hw2 : Win 232 id w2 tokV toks := HW1.out.keeps (Keeps.of_below (fun _ => False) hb2) (fun _ _ => id);have HB2 := hZ (chain HB1.out hb2);clear d0 d1 d2 d3 d4 d5 d6 d7 d8 d9 da db dc dd df hb2;have HT := hZ (tell_any w2 b _ _ _ _ _ _ _ _ _ _ _ _ _ tokV 271 (.agg #[.int .i64 st, .int .i64 ((pl - st : Nat) : Int), .int .u64 bits]) toks h2 hw2 htl);clear h2 hw2;go_wp2_with fail;refine (HT.out).mono ?_;rintro e w3 ⟨rfl, g, off, cap, h3, hw3, hg3, hk3⟩;have H3 := hZ h3;have HW3 := hZ hw3;have HG3 := hZ hg3;have HK3 := hZ hk3;clear h3 hw3 hg3 hk3;go_wp2_with fail;go_ret;exact ⟨rfl, g, off, cap, H3.out, HW3.out, HG3.out.elim .inl (fun h => .inr (Nat.le_trans HB2.out.size h)), (Keeps.of_below _ HB2.out).same HK3.out⟩
theorem numeral_range (w : World) (b s : Nat) (v0 v1 v2 v3 v4 v5 v8 v9 va vb vc vd rawV : Value) (ch : UInt8) (l : List UInt8) (h : w.heap[b]? = some (.cells #[v0, v1, v2, v3, v4, v5, rawV, .int .i64 s, v8, v9, va, vb, vc, vd] 228 (0, 0))) (hs : s ≤ 8)
 (hn : numNext s ch = none) (he : numEnds s = true) (hr : Win 5 encB w rawV l) (hl : l.length ≤ 1073741824) (hb : bitsOf l = none) :
 Calls prog 139 #[.pointer (some ⟨b, 0, none⟩), .int .u8 ((ch.toNat : Nat) : Int)] w fun e w' => e = .returned (.int .i64 41) ∧ Below w.heap.size w w' := by
 have HF := hZ (finish_none w b _ _ _ _ _ _ _ _ _ _ _ _ _ rawV l h hr hl hb);obtain ⟨c0, c1, c2, c3, c4, c5, c6, c7, c8, c9, ca, cb, cc, cd, cf⟩ := cells14 h;have HN := hZ (next_any s hs ch);have HE := hZ (numEnds_any s hs);rw [hn] at HN;rw [he] at HE;clear h hn he hs hr hl hb;go_enter func139, ntmps139;go_wp2_with fail;refine (HN.out _).mono ?_;rintro e w1 ⟨rfl, rfl⟩;go_wp2_with fail;refine (HE.out _).mono ?_;rintro e w1 ⟨rfl, rfl⟩;go_wp2_with fail;refine (HF.out).mono ?_;rintro e w2 ⟨rfl, hb2⟩;have HB := hZ hb2;clear hb2;go_wp2_with fail;go_ret;exact ⟨rfl, HB.out⟩
theorem numeral_ends (w : World) (b s pl st : Nat) (v1 v2 v3 v4 v8 v9 va vb vc rawV tokV : Value) (ch : UInt8) (l : List UInt8) (toks : List Value) (bits : Nat) (Q : Ending → World → Prop) (h : w.heap[b]? = some (.cells #[.int .i64 pl, v1, v2, v3, v4, .int .i64 st, rawV, .int .i64 s, v8, v9, va, vb, vc, tokV] 228 (0, 0))) (hs : s ≤ 8)
 (hn : numNext s ch = none) (he : numEnds s = true) (hr : Win 5 encB w rawV l) (hl : l.length ≤ 1073741824) (hb : bitsOf l = some bits) (hw : Win 232 id w tokV toks) (htl : toks.length ≤ 1000) (hle : st ≤ pl) (hpl : pl ≤ 1073741824)
 (hout : ∀ w', ToldRet w b tokV toks (tokEnc (.num st (pl - st) bits)) (fun v => #[.int .i64 pl, v1, v2, .func (.func 104) #[] #[], .bool false, .int .i64 st, rawV, .int .i64 s, v8, v9, va, vb, vc, v]) (.bool true) (.returned (.bool true)) w' →
  Calls prog 104 #[.pointer (some ⟨b, 0, none⟩), .int .u8 ((ch.toNat : Nat) : Int)] w' fun e w2 => (∃ n, e = .returned (.int .i64 n)) ∧ Q e w2) :
 Calls prog 139 #[.pointer (some ⟨b, 0, none⟩), .int .u8 ((ch.toNat : Nat) : Int)] w Q := by
 have HF := hZ (finish_some w b pl st _ _ _ _ _ _ _ _ _ _ rawV tokV l toks bits h hr hl hb hw htl hle hpl);obtain ⟨c0, c1, c2, c3, c4, c5, c6, c7, c8, c9, ca, cb, cc, cd, cf⟩ := cells14 h;have HN := hZ (next_any s hs ch);have HE := hZ (numEnds_any s hs);rw [hn] at HN;rw [he] at HE;have HO := hZ hout;clear h hn he hs hr hl hb hw htl hle hpl hout;go_enter func139, ntmps139;go_wp2_with fail;refine (HN.out _).mono ?_;rintro e w1 ⟨rfl, rfl⟩;go_wp2_with fail;refine (HE.out _).mono ?_;rintro e w1 ⟨rfl, rfl⟩;go_wp2_with fail;refine (HF.out).mono ?_;intro e w2 ht;obtain rfl := ht.1;have HO2 := hZ (HO.out w2 ht);clear ht;go_wp2_with fail;refine (HO2.out).mono ?_;rintro e w3 ⟨⟨n, rfl⟩, hq⟩;have HQ := hZ hq;clear hq;go_wp2_with fail
 first
  | exact HQ.out
  | (go_ret; exact HQ.out)
end Go.Proofs.YtakkmiomhackiaaGreatDoor
