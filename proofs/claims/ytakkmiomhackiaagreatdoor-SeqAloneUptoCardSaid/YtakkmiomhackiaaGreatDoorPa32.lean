/-
  The program, one part of its walk: Sm2, Sm3. Conditions: none.
-/
import Derived.Test.YtakkmiomhackiaaGreatDoorPa19
import Derived.Test.YtakkmiomhackiaaGreatDoorPa31
import Derived.Deep.RegionHeld3
import Derived.StillTailTactics
import Derived.Test.YtakkmiomhackiaaGreatDoorPa00
set_option linter.all false
set_option maxRecDepth 100000
set_option maxHeartbeats 16000000
open Go.Proofs.Tryz
namespace Go.Proofs.YtakkmiomhackiaaGreatDoor
open Go.RowKit
theorem strsEqual_any (w : World) (n c c' : Nat) (a a' : Option Addr) (keys : List (List UInt8)) (h1 : Win 9 encS w (.slice a n c) keys) (h2 : Win 9 encS w (.slice a' n c') keys) (hl : keys.length ≤ 9223372036854775807) :
 Calls prog 123 #[.slice a n c, .slice a' n c'] w fun e w' => e = .returned (.bool true) ∧ Below w.heap.size w w' := by
 have hn : n = keys.length := by
  obtain ⟨x, y, e⟩ := h1.shape;cases e; rfl
 subst hn
 have HC := hZ (fun (wr : World) (hb : Below w.heap.size w wr) (i : Nat) (k : List UInt8) (hk : keys[i]? = some k) => (show ∃ g off g' off', a = some ⟨g, off, none⟩ ∧ a' = some ⟨g', off', none⟩ ∧ wr.cell? ⟨g, off + i, none⟩ = some (encS k) ∧ wr.cell? ⟨g', off' + i, none⟩ = some (encS k) from by
  rcases h1 with ⟨_, e⟩ | ⟨g, off, cap, cur, e1, hg, hc, ho, hm, hi⟩
  ·rw [e] at hk; simp at hk
  rcases h2 with ⟨_, e⟩ | ⟨g', off', cap', cur', e2, hg', hc', ho', hm', hi'⟩
  ·rw [e] at hk; simp at hk
  cases e1;cases e2;exact ⟨g, off, g', off', rfl, rfl, by rw [cell_at (keep hg hb)]; exact hi i k hk, by rw [cell_at (keep hg' hb)]; exact hi' i k hk⟩))
 clear h1 h2;go_enter func123, ntmps123;go_wp2_with fail
 go_loopw [13] (fun v wr => ∃ i : Nat, v = .int .i64 i ∧ i ≤ keys.length ∧ Hid (Below w.heap.size w wr)) (fun v _ => keys.length - (intOf v).toNat)
 case atStart => exact ⟨0, rfl, Nat.zero_le _, hZ (Below.refl _ _)⟩
 case round =>
  obtain ⟨i, rfl, hik, HB⟩ := hrel
  by_cases hi : i < keys.length
  ·obtain ⟨k, hk⟩ : ∃ k, keys[i]? = some k := ⟨_, List.getElem?_eq_getElem hi⟩;obtain ⟨g, off, g', off', rfl, rfl, hc1, hc2⟩ := HC.out wr HB.out i k hk;unfold encS at hc1 hc2;obtain ⟨s, hs⟩ : ∃ s : ByteArray, (⟨k.toArray⟩ : ByteArray) = s := ⟨_, rfl⟩;rw [hs] at hc1 hc2;clear hk hs;go_wp2_with fail;go_region;go_wp2_with fail;exact ⟨⟨i + 1, by go_num, by omega, hZ HB.out.drew⟩, by simp [intOf]; omega⟩
  ·have hie : i = keys.length := by omega
   subst hie;go_wp2_with fail;go_ret;exact ⟨rfl, HB.out⟩
theorem ba_self (s : ByteArray) : (s == s) = true := by
 rcases s with ⟨d⟩
 show (d == d) = true
 simp
theorem eql97_null (w : World) : (binOp .eql 97 (.iface 177 (.agg #[])) (.iface 177 (.agg #[]))).run prog w = .ok (.bool true) w := by kernel_rfl
theorem eql97_flag (w : World) (c : Bool) : (binOp .eql 97 (.iface 178 (.bool c)) (.iface 178 (.bool c))).run prog w = .ok (.bool true) w := by cases c <;> kernel_rfl
theorem eql97_text (w : World) (s : ByteArray) : (binOp .eql 97 (.iface 180 (.string s)) (.iface 180 (.string s))).run prog w = .ok (.bool true) w := by
 have hc : (prog.info? 180).map (·.comparable) = some true := by kernel_rfl
 cases hi : prog.info? 180 with
 | none => simp [hi] at hc
 | some i =>
  have hcc : i.comparable = true := by simpa [hi] using hc
  have h : ∀ d : Nat, (Op.equalIn (d + 2) 97 (.iface 180 (.string s)) (.iface 180 (.string s))).run prog w = .ok true w := fun d => by
   simp [Op.equalIn, run_underlying underlying97, run_underlying underlying180, typeInfo, hi, hcc, ba_self]
  simp only [binOp];simp [Op.equal, Op.maxDepth, h 9998]
theorem eql97_num (w : World) (x : Nat) (hx : Finite x) : (binOp .eql 97 (.iface 179 (.float .f64 x)) (.iface 179 (.float .f64 x))).run prog w = .ok (.bool true) w := by
 have hself := order_self (b := x) (by unfold Finite most at *; omega);have hc : (prog.info? 179).map (·.comparable) = some true := by kernel_rfl
 cases hi : prog.info? 179 with
 | none => simp [hi] at hc
 | some i =>
  have hcc : i.comparable = true := by simpa [hi] using hc
  have h : ∀ d : Nat, (Op.equalIn (d + 2) 97 (.iface 179 (.float .f64 x)) (.iface 179 (.float .f64 x))).run prog w = .ok true w := fun d => by
   simp [Op.equalIn, run_underlying underlying97, run_underlying underlying179, typeInfo, hi, hcc, Op.floatEq, hself]
  simp only [binOp];simp [Op.equal, Op.maxDepth, h 9998]
theorem boxes_on {w0 wa wb : World} {b1 b2 : Nat} {v1 v2 : Value} (h : Below w0.heap.size w0 wa ∧ wa.cell? ⟨b1, 0, none⟩ = some v1 ∧ wa.cell? ⟨b2, 0, none⟩ = some v2) (hb : Below wa.heap.size wa wb) : Below w0.heap.size w0 wb ∧ wb.cell? ⟨b1, 0, none⟩ = some v1 ∧ wb.cell? ⟨b2, 0, none⟩ = some v2 :=
 ⟨chain h.1 hb, (hb.cell (World.block_lt_of_cell? _ _ h.2.1)).trans h.2.1, (hb.cell (World.block_lt_of_cell? _ _ h.2.2)).trans h.2.2⟩
def SameYes (t : Tr) : Prop := ∀ (F G : Nat → Prop) (w : World) (v v' : Value), TreeAt F w v t → TreeAt G w v' t → Calls prog 100 #[.agg #[v], .agg #[v']] w fun e w' => e = .returned (.bool true) ∧ Below w.heap.size w w'
theorem same_null (w : World) : Calls prog 100 #[.agg #[.iface 177 (.agg #[])], .agg #[.iface 177 (.agg #[])]] w fun e w' => e = .returned (.bool true) ∧ Below w.heap.size w w' := by
 have ta1 : ∀ w : World, (Instr.typeAssert (.iface 177 (.agg #[])) 97 181 true).run prog w = .ok (.tuple #[.pointer none, .bool false]) w := fun _ => by kernel_rfl
 have ta2 : ∀ w : World, (Instr.typeAssert (.iface 177 (.agg #[])) 97 187 true).run prog w = .ok (.tuple #[.pointer none, .bool false]) w := fun _ => by kernel_rfl
 have heq := fun w => eql97_null w
 have HB := hZ (((Below.refl w.heap.size w).alloc (Nat.le_refl _) (.cells #[.iface 177 (.agg #[])] 99)).alloc (by simp) (.cells #[.iface 177 (.agg #[])] 99));have hn1 : ((w.alloc (.cells #[.iface 177 (.agg #[])] 99)).alloc (.cells #[.iface 177 (.agg #[])] 99)).cell? ⟨w.heap.size, 0, none⟩ = some (.iface 177 (.agg #[])) := cell_of_one ((Below.heap_alloc _ _ _ (by simp)).trans (heap_alloc_new w _))
 have hn2 : ((w.alloc (.cells #[.iface 177 (.agg #[])] 99)).alloc (.cells #[.iface 177 (.agg #[])] 99)).cell? ⟨w.heap.size + 1, 0, none⟩ = some (.iface 177 (.agg #[])) := by
  have := heap_alloc_new (w.alloc (.cells #[.iface 177 (.agg #[])] 99)) (.cells #[.iface 177 (.agg #[])] 99);rw [World.size_alloc] at this;exact cell_of_one this
 have HS := hZ (fun w => refSort_null w);have HL := hZ (fun w => refLen_null w);have HK := hZ (fun w => refKeys_null w);have HE := hZ (fun w => strsEqual_any w 0 0 0 none none [] (.nil _ _ _) (.nil _ _ _) (by decide));go_enter func100, ntmps100;go_wp2_with fail;have hb0 := HB.out;obtain ⟨w2, hw2⟩ : ∃ w2, ((w.alloc (.cells #[.iface 177 (.agg #[])] 99)).alloc (.cells #[.iface 177 (.agg #[])] 99)) = w2 := ⟨_, rfl⟩;rw [hw2] at hb0 hn1 hn2 ⊢;have hb1 := hb0.drew;clear HB hw2
 go_region_held3 (fun w' => Below w.heap.size w w' ∧ w'.cell? ⟨w.heap.size, 0, none⟩ = some (.iface 177 (.agg #[])) ∧ w'.cell? ⟨w.heap.size + 1, 0, none⟩ = some (.iface 177 (.agg #[]))) (first | exact hS | exact ⟨hb0.drew, hn1, hn2⟩ | go_keep)
  (first
   | (go_at_call 124; (with_reducible refine (HS.out _).mono ?_); rintro e wx ⟨rfl, hbx⟩; have hS := boxes_on (w0 := w) (b1 := w.heap.size) (b2 := w.heap.size + 1) (v1 := .iface 177 (.agg #[])) (v2 := .iface 177 (.agg #[])) (by assumption) hbx)
   | (go_at_call 125; (with_reducible refine (HL.out _).mono ?_); rintro e wx ⟨rfl, hbx⟩; have hS := boxes_on (w0 := w) (b1 := w.heap.size) (b2 := w.heap.size + 1) (v1 := .iface 177 (.agg #[])) (v2 := .iface 177 (.agg #[])) (by assumption) hbx)
   | (go_at_call 126; (with_reducible refine (HK.out _).mono ?_); rintro e wx ⟨rfl, hbx⟩; have hS := boxes_on (w0 := w) (b1 := w.heap.size) (b2 := w.heap.size + 1) (v1 := .iface 177 (.agg #[])) (v2 := .iface 177 (.agg #[])) (by assumption) hbx)
   | (go_at_call 123; (with_reducible refine (HE.out _).mono ?_); rintro e wx ⟨rfl, hbx⟩; have hS := boxes_on (w0 := w) (b1 := w.heap.size) (b2 := w.heap.size + 1) (v1 := .iface 177 (.agg #[])) (v2 := .iface 177 (.agg #[])) (by assumption) hbx))
 all_goals
  obtain ⟨z0, z1, z2⟩ := hS;have HZ := hZ z0;clear z0 hn1 hn2 hb0 hb1;go_wp2_with fail;go_ret;exact ⟨rfl, HZ.out⟩
theorem same_flag (w : World) (c : Bool) : Calls prog 100 #[.agg #[.iface 178 (.bool c)], .agg #[.iface 178 (.bool c)]] w fun e w' => e = .returned (.bool true) ∧ Below w.heap.size w w' := by
 have ta1 : ∀ w : World, (Instr.typeAssert (.iface 178 (.bool c)) 97 181 true).run prog w = .ok (.tuple #[.pointer none, .bool false]) w := fun _ => by kernel_rfl
 have ta2 : ∀ w : World, (Instr.typeAssert (.iface 178 (.bool c)) 97 187 true).run prog w = .ok (.tuple #[.pointer none, .bool false]) w := fun _ => by kernel_rfl
 have heq := fun w => eql97_flag w c
 have HB := hZ (((Below.refl w.heap.size w).alloc (Nat.le_refl _) (.cells #[.iface 178 (.bool c)] 99)).alloc (by simp) (.cells #[.iface 178 (.bool c)] 99));have hn1 : ((w.alloc (.cells #[.iface 178 (.bool c)] 99)).alloc (.cells #[.iface 178 (.bool c)] 99)).cell? ⟨w.heap.size, 0, none⟩ = some (.iface 178 (.bool c)) := cell_of_one ((Below.heap_alloc _ _ _ (by simp)).trans (heap_alloc_new w _))
 have hn2 : ((w.alloc (.cells #[.iface 178 (.bool c)] 99)).alloc (.cells #[.iface 178 (.bool c)] 99)).cell? ⟨w.heap.size + 1, 0, none⟩ = some (.iface 178 (.bool c)) := by
  have := heap_alloc_new (w.alloc (.cells #[.iface 178 (.bool c)] 99)) (.cells #[.iface 178 (.bool c)] 99);rw [World.size_alloc] at this;exact cell_of_one this
 have HS := hZ (fun w => refSort_flag w c);have HL := hZ (fun w => refLen_flag w c);have HK := hZ (fun w => refKeys_flag w c);have HE := hZ (fun w => strsEqual_any w 0 0 0 none none [] (.nil _ _ _) (.nil _ _ _) (by decide));go_enter func100, ntmps100;go_wp2_with fail;have hb0 := HB.out;obtain ⟨w2, hw2⟩ : ∃ w2, ((w.alloc (.cells #[.iface 178 (.bool c)] 99)).alloc (.cells #[.iface 178 (.bool c)] 99)) = w2 := ⟨_, rfl⟩;rw [hw2] at hb0 hn1 hn2 ⊢;have hb1 := hb0.drew;clear HB hw2
 go_region_held3 (fun w' => Below w.heap.size w w' ∧ w'.cell? ⟨w.heap.size, 0, none⟩ = some (.iface 178 (.bool c)) ∧ w'.cell? ⟨w.heap.size + 1, 0, none⟩ = some (.iface 178 (.bool c))) (first | exact hS | exact ⟨hb0.drew, hn1, hn2⟩ | go_keep)
  (first
   | (go_at_call 124; (with_reducible refine (HS.out _).mono ?_); rintro e wx ⟨rfl, hbx⟩; have hS := boxes_on (w0 := w) (b1 := w.heap.size) (b2 := w.heap.size + 1) (v1 := .iface 178 (.bool c)) (v2 := .iface 178 (.bool c)) (by assumption) hbx)
   | (go_at_call 125; (with_reducible refine (HL.out _).mono ?_); rintro e wx ⟨rfl, hbx⟩; have hS := boxes_on (w0 := w) (b1 := w.heap.size) (b2 := w.heap.size + 1) (v1 := .iface 178 (.bool c)) (v2 := .iface 178 (.bool c)) (by assumption) hbx)
   | (go_at_call 126; (with_reducible refine (HK.out _).mono ?_); rintro e wx ⟨rfl, hbx⟩; have hS := boxes_on (w0 := w) (b1 := w.heap.size) (b2 := w.heap.size + 1) (v1 := .iface 178 (.bool c)) (v2 := .iface 178 (.bool c)) (by assumption) hbx)
   | (go_at_call 123; (with_reducible refine (HE.out _).mono ?_); rintro e wx ⟨rfl, hbx⟩; have hS := boxes_on (w0 := w) (b1 := w.heap.size) (b2 := w.heap.size + 1) (v1 := .iface 178 (.bool c)) (v2 := .iface 178 (.bool c)) (by assumption) hbx))
 all_goals
  obtain ⟨z0, z1, z2⟩ := hS;have HZ := hZ z0;clear z0 hn1 hn2 hb0 hb1;go_wp2_with fail;go_ret;exact ⟨rfl, HZ.out⟩
theorem same_num (w : World) (x : Nat) (hx : Finite x) : Calls prog 100 #[.agg #[.iface 179 (.float .f64 x)], .agg #[.iface 179 (.float .f64 x)]] w fun e w' => e = .returned (.bool true) ∧ Below w.heap.size w w' := by
 have ta1 : ∀ w : World, (Instr.typeAssert (.iface 179 (.float .f64 x)) 97 181 true).run prog w = .ok (.tuple #[.pointer none, .bool false]) w := fun _ => by kernel_rfl
 have ta2 : ∀ w : World, (Instr.typeAssert (.iface 179 (.float .f64 x)) 97 187 true).run prog w = .ok (.tuple #[.pointer none, .bool false]) w := fun _ => by kernel_rfl
 have heq := fun w => eql97_num w x hx
 have HB := hZ (((Below.refl w.heap.size w).alloc (Nat.le_refl _) (.cells #[.iface 179 (.float .f64 x)] 99)).alloc (by simp) (.cells #[.iface 179 (.float .f64 x)] 99));have hn1 : ((w.alloc (.cells #[.iface 179 (.float .f64 x)] 99)).alloc (.cells #[.iface 179 (.float .f64 x)] 99)).cell? ⟨w.heap.size, 0, none⟩ = some (.iface 179 (.float .f64 x)) := cell_of_one ((Below.heap_alloc _ _ _ (by simp)).trans (heap_alloc_new w _))
 have hn2 : ((w.alloc (.cells #[.iface 179 (.float .f64 x)] 99)).alloc (.cells #[.iface 179 (.float .f64 x)] 99)).cell? ⟨w.heap.size + 1, 0, none⟩ = some (.iface 179 (.float .f64 x)) := by
  have := heap_alloc_new (w.alloc (.cells #[.iface 179 (.float .f64 x)] 99)) (.cells #[.iface 179 (.float .f64 x)] 99);rw [World.size_alloc] at this;exact cell_of_one this
 have HS := hZ (fun w => refSort_num w x);have HL := hZ (fun w => refLen_num w x);have HK := hZ (fun w => refKeys_num w x);have HE := hZ (fun w => strsEqual_any w 0 0 0 none none [] (.nil _ _ _) (.nil _ _ _) (by decide));go_enter func100, ntmps100;go_wp2_with fail;have hb0 := HB.out;obtain ⟨w2, hw2⟩ : ∃ w2, ((w.alloc (.cells #[.iface 179 (.float .f64 x)] 99)).alloc (.cells #[.iface 179 (.float .f64 x)] 99)) = w2 := ⟨_, rfl⟩;rw [hw2] at hb0 hn1 hn2 ⊢;have hb1 := hb0.drew;clear HB hw2
 go_region_held3 (fun w' => Below w.heap.size w w' ∧ w'.cell? ⟨w.heap.size, 0, none⟩ = some (.iface 179 (.float .f64 x)) ∧ w'.cell? ⟨w.heap.size + 1, 0, none⟩ = some (.iface 179 (.float .f64 x))) (first | exact hS | exact ⟨hb0.drew, hn1, hn2⟩ | go_keep)
  (first
   | (go_at_call 124; (with_reducible refine (HS.out _).mono ?_); rintro e wx ⟨rfl, hbx⟩; have hS := boxes_on (w0 := w) (b1 := w.heap.size) (b2 := w.heap.size + 1) (v1 := .iface 179 (.float .f64 x)) (v2 := .iface 179 (.float .f64 x)) (by assumption) hbx)
   | (go_at_call 125; (with_reducible refine (HL.out _).mono ?_); rintro e wx ⟨rfl, hbx⟩; have hS := boxes_on (w0 := w) (b1 := w.heap.size) (b2 := w.heap.size + 1) (v1 := .iface 179 (.float .f64 x)) (v2 := .iface 179 (.float .f64 x)) (by assumption) hbx)
   | (go_at_call 126; (with_reducible refine (HK.out _).mono ?_); rintro e wx ⟨rfl, hbx⟩; have hS := boxes_on (w0 := w) (b1 := w.heap.size) (b2 := w.heap.size + 1) (v1 := .iface 179 (.float .f64 x)) (v2 := .iface 179 (.float .f64 x)) (by assumption) hbx)
   | (go_at_call 123; (with_reducible refine (HE.out _).mono ?_); rintro e wx ⟨rfl, hbx⟩; have hS := boxes_on (w0 := w) (b1 := w.heap.size) (b2 := w.heap.size + 1) (v1 := .iface 179 (.float .f64 x)) (v2 := .iface 179 (.float .f64 x)) (by assumption) hbx))
 all_goals
  obtain ⟨z0, z1, z2⟩ := hS;have HZ := hZ z0;clear z0 hn1 hn2 hb0 hb1;go_wp2_with fail;go_ret;exact ⟨rfl, HZ.out⟩
theorem same_text (w : World) (s : ByteArray) : Calls prog 100 #[.agg #[.iface 180 (.string s)], .agg #[.iface 180 (.string s)]] w fun e w' => e = .returned (.bool true) ∧ Below w.heap.size w w' := by
 have ta1 : ∀ w : World, (Instr.typeAssert (.iface 180 (.string s)) 97 181 true).run prog w = .ok (.tuple #[.pointer none, .bool false]) w := fun _ => by kernel_rfl
 have ta2 : ∀ w : World, (Instr.typeAssert (.iface 180 (.string s)) 97 187 true).run prog w = .ok (.tuple #[.pointer none, .bool false]) w := fun _ => by kernel_rfl
 have heq := fun w => eql97_text w s
 have HB := hZ (((Below.refl w.heap.size w).alloc (Nat.le_refl _) (.cells #[.iface 180 (.string s)] 99)).alloc (by simp) (.cells #[.iface 180 (.string s)] 99));have hn1 : ((w.alloc (.cells #[.iface 180 (.string s)] 99)).alloc (.cells #[.iface 180 (.string s)] 99)).cell? ⟨w.heap.size, 0, none⟩ = some (.iface 180 (.string s)) := cell_of_one ((Below.heap_alloc _ _ _ (by simp)).trans (heap_alloc_new w _))
 have hn2 : ((w.alloc (.cells #[.iface 180 (.string s)] 99)).alloc (.cells #[.iface 180 (.string s)] 99)).cell? ⟨w.heap.size + 1, 0, none⟩ = some (.iface 180 (.string s)) := by
  have := heap_alloc_new (w.alloc (.cells #[.iface 180 (.string s)] 99)) (.cells #[.iface 180 (.string s)] 99);rw [World.size_alloc] at this;exact cell_of_one this
 have HS := hZ (fun w => refSort_text w s);have HL := hZ (fun w => refLen_text w s);have HK := hZ (fun w => refKeys_text w s);have HE := hZ (fun w => strsEqual_any w 0 0 0 none none [] (.nil _ _ _) (.nil _ _ _) (by decide));go_enter func100, ntmps100;go_wp2_with fail;have hb0 := HB.out;obtain ⟨w2, hw2⟩ : ∃ w2, ((w.alloc (.cells #[.iface 180 (.string s)] 99)).alloc (.cells #[.iface 180 (.string s)] 99)) = w2 := ⟨_, rfl⟩;rw [hw2] at hb0 hn1 hn2 ⊢;have hb1 := hb0.drew;clear HB hw2
 go_region_held3 (fun w' => Below w.heap.size w w' ∧ w'.cell? ⟨w.heap.size, 0, none⟩ = some (.iface 180 (.string s)) ∧ w'.cell? ⟨w.heap.size + 1, 0, none⟩ = some (.iface 180 (.string s))) (first | exact hS | exact ⟨hb0.drew, hn1, hn2⟩ | go_keep)
  (first
   | (go_at_call 124; (with_reducible refine (HS.out _).mono ?_); rintro e wx ⟨rfl, hbx⟩; have hS := boxes_on (w0 := w) (b1 := w.heap.size) (b2 := w.heap.size + 1) (v1 := .iface 180 (.string s)) (v2 := .iface 180 (.string s)) (by assumption) hbx)
   | (go_at_call 125; (with_reducible refine (HL.out _).mono ?_); rintro e wx ⟨rfl, hbx⟩; have hS := boxes_on (w0 := w) (b1 := w.heap.size) (b2 := w.heap.size + 1) (v1 := .iface 180 (.string s)) (v2 := .iface 180 (.string s)) (by assumption) hbx)
   | (go_at_call 126; (with_reducible refine (HK.out _).mono ?_); rintro e wx ⟨rfl, hbx⟩; have hS := boxes_on (w0 := w) (b1 := w.heap.size) (b2 := w.heap.size + 1) (v1 := .iface 180 (.string s)) (v2 := .iface 180 (.string s)) (by assumption) hbx)
   | (go_at_call 123; (with_reducible refine (HE.out _).mono ?_); rintro e wx ⟨rfl, hbx⟩; have hS := boxes_on (w0 := w) (b1 := w.heap.size) (b2 := w.heap.size + 1) (v1 := .iface 180 (.string s)) (v2 := .iface 180 (.string s)) (by assumption) hbx))
 all_goals
  obtain ⟨z0, z1, z2⟩ := hS;have HZ := hZ z0;clear z0 hn1 hn2 hb0 hb1;go_wp2_with fail;go_ret;exact ⟨rfl, HZ.out⟩
theorem win_item {w : World} {n c : Nat} {a : Option Addr} {vals : List Value} (h : Win 97 id w (.slice a n c) vals) {i : Nat} {v : Value} (hv : vals[i]? = some v) : ∃ g off, a = some ⟨g, off, none⟩ ∧ w.cell? ⟨g, off + i, none⟩ = some v := by
 rcases h with ⟨_, e⟩ | ⟨g, off, cap, cur, e, hg, hc, ho, hm, hi⟩
 ·rw [e] at hv; simp at hv
 ·cases e;exact ⟨g, off, rfl, by rw [cell_at hg]; exact hi i v hv⟩
theorem same_list (w : World) (b b2 n c c2 : Nat) (a a2 : Option Addr) (z0 z1 z2 y0 y1 y2 : Value) (vals vals2 : List Value) (hb : w.heap[b]? = some (.cells #[z0, z1, z2, .slice a n c] 186 (0, 0))) (hb2 : w.heap[b2]? = some (.cells #[y0, y1, y2, .slice a2 n c2] 186 (0, 0)))
 (hw : Win 97 id w (.slice a n c) vals) (hw2 : Win 97 id w (.slice a2 n c2) vals2) (hl : vals.length = n) (hl2 : vals2.length = n) (hn : n ≤ 9223372036854775807) (hif : ∀ v ∈ vals, ∃ T x, v = .iface T x) (hif2 : ∀ v ∈ vals2, ∃ T x, v = .iface T x)
 (ih : ∀ (i : Nat) (v v2 : Value) (wx : World), vals[i]? = some v → vals2[i]? = some v2 → Below w.heap.size w wx → Calls prog 100 #[.agg #[v], .agg #[v2]] wx fun e w' => e = .returned (.bool true) ∧ Below wx.heap.size wx w') :
 Calls prog 100 #[.agg #[.iface 181 (.pointer (some ⟨b, 0, none⟩))], .agg #[.iface 181 (.pointer (some ⟨b2, 0, none⟩))]] w fun e w' => e = .returned (.bool true) ∧ Below w.heap.size w w' := by
 have ta1 : ∀ w : World, (Instr.typeAssert (.iface 181 (.pointer (some ⟨b, 0, none⟩))) 97 181 true).run prog w = .ok (.tuple #[.pointer (some ⟨b, 0, none⟩), .bool true]) w := fun _ => by kernel_rfl
 have ta2 : ∀ w : World, (Instr.typeAssert (.iface 181 (.pointer (some ⟨b, 0, none⟩))) 97 187 true).run prog w = .ok (.tuple #[.pointer none, .bool false]) w := fun _ => by kernel_rfl
 have HB := hZ (((Below.refl w.heap.size w).alloc (Nat.le_refl _) (.cells #[.iface 181 (.pointer (some ⟨b, 0, none⟩))] 99)).alloc (by simp) (.cells #[.iface 181 (.pointer (some ⟨b2, 0, none⟩))] 99));have hn1 : ((w.alloc (.cells #[.iface 181 (.pointer (some ⟨b, 0, none⟩))] 99)).alloc (.cells #[.iface 181 (.pointer (some ⟨b2, 0, none⟩))] 99)).cell? ⟨w.heap.size, 0, none⟩ = some (.iface 181 (.pointer (some ⟨b, 0, none⟩))) := cell_of_one ((Below.heap_alloc _ _ _ (by simp)).trans (heap_alloc_new w _))
 have hn2 : ((w.alloc (.cells #[.iface 181 (.pointer (some ⟨b, 0, none⟩))] 99)).alloc (.cells #[.iface 181 (.pointer (some ⟨b2, 0, none⟩))] 99)).cell? ⟨w.heap.size + 1, 0, none⟩ = some (.iface 181 (.pointer (some ⟨b2, 0, none⟩))) := by
  have := heap_alloc_new (w.alloc (.cells #[.iface 181 (.pointer (some ⟨b, 0, none⟩))] 99)) (.cells #[.iface 181 (.pointer (some ⟨b2, 0, none⟩))] 99);rw [World.size_alloc] at this;exact cell_of_one this
 have HS := hZ (fun w b => refSort_list w b);have HL1 := hZ (fun (wx : World) (hbx : Below w.heap.size w wx) => refLen_list wx b a n c z0 z1 z2 (keep hb hbx));have HL2 := hZ (fun (wx : World) (hbx : Below w.heap.size w wx) => refLen_list wx b2 a2 n c2 y0 y1 y2 (keep hb2 hbx));have HI1 := hZ (fun (wx : World) (hbx : Below w.heap.size w wx) => refItems_list wx b a n c z0 z1 z2 (keep hb hbx));have HI2 := hZ (fun (wx : World) (hbx : Below w.heap.size w wx) => refItems_list wx b2 a2 n c2 y0 y1 y2 (keep hb2 hbx));have HK1 := hZ (fun (wx : World) (_ : Below w.heap.size w wx) => refKeys_list wx b);have HK2 := hZ (fun (wx : World) (_ : Below w.heap.size w wx) => refKeys_list wx b2);have HE := hZ (fun (wx : World) (_ : Below w.heap.size w wx) => strsEqual_any wx 0 0 0 none none [] (.nil _ _ _) (.nil _ _ _) (by decide))
 have HC := hZ (fun (wr : World) (hbr : Below w.heap.size w wr) (i : Nat) (hi : i < n) => (show ∃ g off g2 off2 T x T2 x2, a = some ⟨g, off, none⟩ ∧ a2 = some ⟨g2, off2, none⟩ ∧ vals[i]? = some (.iface T x) ∧ vals2[i]? = some (.iface T2 x2) ∧ wr.cell? ⟨g, off + i, none⟩ = some (.iface T x) ∧ wr.cell? ⟨g2, off2 + i, none⟩ = some (.iface T2 x2) from by
  have e1 : vals[i]? = some (vals[i]'(by omega)) := List.getElem?_eq_getElem _;have e2 : vals2[i]? = some (vals2[i]'(by omega)) := List.getElem?_eq_getElem _;obtain ⟨g, off, h1, h2⟩ := win_item (hw.keeps (Keeps.of_below (fun _ => False) hbr) (fun _ _ => id)) e1;obtain ⟨g2, off2, h3, h4⟩ := win_item (hw2.keeps (Keeps.of_below (fun _ => False) hbr) (fun _ _ => id)) e2;obtain ⟨T, x, hx⟩ := hif _ (List.mem_of_getElem? e1);obtain ⟨T2, x2, hx2⟩ := hif2 _ (List.mem_of_getElem? e2);rw [hx] at e1 h2;rw [hx2] at e2 h4;exact ⟨g, off, g2, off2, T, x, T2, x2, h1, h3, e1, e2, h2, h4⟩))
 have HIH := hZ ih;clear hb hb2 hw hw2 hl hl2 ih hif hif2;go_enter func100, ntmps100;go_wp2_with fail;have hb0 := HB.out;obtain ⟨w2, hw2⟩ : ∃ w2, ((w.alloc (.cells #[.iface 181 (.pointer (some ⟨b, 0, none⟩))] 99)).alloc (.cells #[.iface 181 (.pointer (some ⟨b2, 0, none⟩))] 99)) = w2 := ⟨_, rfl⟩;rw [hw2] at hb0 hn1 hn2 ⊢;have hb1 := hb0.drew;clear HB hw2
 go_region_held3 (fun w' => Below w.heap.size w w' ∧ w'.cell? ⟨w.heap.size, 0, none⟩ = some (.iface 181 (.pointer (some ⟨b, 0, none⟩))) ∧ w'.cell? ⟨w.heap.size + 1, 0, none⟩ = some (.iface 181 (.pointer (some ⟨b2, 0, none⟩)))) (first | exact hS | exact ⟨hb0.drew, hn1, hn2⟩ | go_keep)
  (first
   | (go_at_call 124; (with_reducible refine (HS.out _ _).mono ?_); rintro e wx ⟨rfl, hbx⟩; have hS := boxes_on (w0 := w) (b1 := w.heap.size) (b2 := w.heap.size + 1) (v1 := .iface 181 (.pointer (some ⟨b, 0, none⟩))) (v2 := .iface 181 (.pointer (some ⟨b2, 0, none⟩))) (by assumption) hbx)
   | (go_at_call 125; (with_reducible refine (HL1.out _ ?hb).mono ?_); (case hb => exact (by assumption : Below w.heap.size w _ ∧ _ ∧ _).1); rintro e wx ⟨rfl, hbx⟩; have hS := boxes_on (w0 := w) (b1 := w.heap.size) (b2 := w.heap.size + 1) (v1 := .iface 181 (.pointer (some ⟨b, 0, none⟩))) (v2 := .iface 181 (.pointer (some ⟨b2, 0, none⟩))) (by assumption) hbx)
   | (go_at_call 125; (with_reducible refine (HL2.out _ ?hb).mono ?_); (case hb => exact (by assumption : Below w.heap.size w _ ∧ _ ∧ _).1); rintro e wx ⟨rfl, hbx⟩; have hS := boxes_on (w0 := w) (b1 := w.heap.size) (b2 := w.heap.size + 1) (v1 := .iface 181 (.pointer (some ⟨b, 0, none⟩))) (v2 := .iface 181 (.pointer (some ⟨b2, 0, none⟩))) (by assumption) hbx)
   | (go_at_call 126; (with_reducible refine (HK1.out _ ?hb).mono ?_); (case hb => exact (by assumption : Below w.heap.size w _ ∧ _ ∧ _).1); rintro e wx ⟨rfl, hbx⟩; have hS := boxes_on (w0 := w) (b1 := w.heap.size) (b2 := w.heap.size + 1) (v1 := .iface 181 (.pointer (some ⟨b, 0, none⟩))) (v2 := .iface 181 (.pointer (some ⟨b2, 0, none⟩))) (by assumption) hbx)
   | (go_at_call 126; (with_reducible refine (HK2.out _ ?hb).mono ?_); (case hb => exact (by assumption : Below w.heap.size w _ ∧ _ ∧ _).1); rintro e wx ⟨rfl, hbx⟩; have hS := boxes_on (w0 := w) (b1 := w.heap.size) (b2 := w.heap.size + 1) (v1 := .iface 181 (.pointer (some ⟨b, 0, none⟩))) (v2 := .iface 181 (.pointer (some ⟨b2, 0, none⟩))) (by assumption) hbx)
   | (go_at_call 123; (with_reducible refine (HE.out _ ?hb).mono ?_); (case hb => exact (by assumption : Below w.heap.size w _ ∧ _ ∧ _).1); rintro e wx ⟨rfl, hbx⟩; have hS := boxes_on (w0 := w) (b1 := w.heap.size) (b2 := w.heap.size + 1) (v1 := .iface 181 (.pointer (some ⟨b, 0, none⟩))) (v2 := .iface 181 (.pointer (some ⟨b2, 0, none⟩))) (by assumption) hbx))
 all_goals
  obtain ⟨hb0, hn1, hn2⟩ := hS;have hb1 := hb0.drew;go_wp2_with fail
  go_region_held3 (fun w' => Below w.heap.size w w' ∧ w'.cell? ⟨w.heap.size, 0, none⟩ = some (.iface 181 (.pointer (some ⟨b, 0, none⟩))) ∧ w'.cell? ⟨w.heap.size + 1, 0, none⟩ = some (.iface 181 (.pointer (some ⟨b2, 0, none⟩)))) (first | exact hS2 | exact ⟨hb0.drew, hn1, hn2⟩ | go_keep)
   (first
    | (go_at_call 127; (with_reducible refine (HI1.out _ ?hb).mono ?_); (case hb => exact (by assumption : Below w.heap.size w _ ∧ _ ∧ _).1); rintro e wx ⟨rfl, hbx⟩; have hS2 := boxes_on (w0 := w) (b1 := w.heap.size) (b2 := w.heap.size + 1) (v1 := .iface 181 (.pointer (some ⟨b, 0, none⟩))) (v2 := .iface 181 (.pointer (some ⟨b2, 0, none⟩))) (by assumption) hbx)
    | (go_at_call 127; (with_reducible refine (HI2.out _ ?hb).mono ?_); (case hb => exact (by assumption : Below w.heap.size w _ ∧ _ ∧ _).1); rintro e wx ⟨rfl, hbx⟩; have hS2 := boxes_on (w0 := w) (b1 := w.heap.size) (b2 := w.heap.size + 1) (v1 := .iface 181 (.pointer (some ⟨b, 0, none⟩))) (v2 := .iface 181 (.pointer (some ⟨b2, 0, none⟩))) (by assumption) hbx))
  all_goals
   have HB3 := hZ hS2.1;clear hS2 hb0 hn1 hn2 hb1 ta1 ta2;go_wp2_with fail
   go_loopw [49] (fun v wr => ∃ i : Nat, v = .int .i64 i ∧ i ≤ n ∧ Hid (Below w.heap.size w wr)) (fun v _ => n - (intOf v).toNat)
   case atStart => exact ⟨0, rfl, Nat.zero_le _, HB3⟩
   case round =>
    obtain ⟨i, rfl, hik, HBR⟩ := hrel
    by_cases hi : i < n
    ·obtain ⟨g, off, g2, off2, T, x, T2, x2, rfl, rfl, hv, hv2, hc1, hc2⟩ := HC.out _ HBR.out i hi;have HCALL := hZ (fun wx hbx => HIH.out i _ _ wx hv hv2 hbx);have hbr := HBR.out;clear hv hv2;have hbd := hbr.drew;go_wp2_with fail
     go_region_held3 (fun w' => Below w.heap.size w w' ∧ w'.cell? ⟨g, off + i, none⟩ = some (.iface T x) ∧ w'.cell? ⟨g2, off2 + i, none⟩ = some (.iface T2 x2)) (first | exact ⟨chain (by assumption : Below w.heap.size w _ ∧ _ ∧ _).1 hbx, (hbx.cell (World.block_lt_of_cell? _ _ (by assumption : Below w.heap.size w _ ∧ _ ∧ _).2.1)).trans (by assumption : Below w.heap.size w _ ∧ _ ∧ _).2.1, (hbx.cell (World.block_lt_of_cell? _ _ (by assumption : Below w.heap.size w _ ∧ _ ∧ _).2.2)).trans (by assumption : Below w.heap.size w _ ∧ _ ∧ _).2.2⟩ | exact ⟨hbd, hc1, hc2⟩ | go_keep)
      (first
       | (go_at_call 100; (with_reducible refine (HCALL.out _ ?hb).mono ?_); (case hb => exact (by assumption : Below w.heap.size w _ ∧ _ ∧ _).1); rintro e wx ⟨rfl, hbx⟩; have hbb := chain (by assumption : Below w.heap.size w _ ∧ _ ∧ _).1 hbx))
     all_goals
      go_wp2_with fail;exact ⟨⟨i + 1, by go_num, by omega, hZ hbb⟩, by simp [intOf]; omega⟩
    ·have hie : i = n := by omega
     subst hie;go_wp2_with fail;go_ret;exact ⟨rfl, HBR.out⟩
theorem same_object (w : World) (b b2 n c c2 : Nat) (a a2 : Option Addr) (z0 z1 z2 y0 y1 y2 : Value) (vals vals2 : List Value) (ka ka2 : Option Addr) (kc kc2 : Nat) (keys : List (List UInt8)) (hkl : keys.length ≤ 9223372036854775807) (hk : Win 9 encS w (.slice ka keys.length kc) keys) (hk2 : Win 9 encS w (.slice ka2 keys.length kc2) keys) (hb : w.heap[b]? = some (.cells #[z0, z1, z2, .slice ka keys.length kc, .slice a n c] 189 (0, 0))) (hb2 : w.heap[b2]? = some (.cells #[y0, y1, y2, .slice ka2 keys.length kc2, .slice a2 n c2] 189 (0, 0)))
 (hw : Win 97 id w (.slice a n c) vals) (hw2 : Win 97 id w (.slice a2 n c2) vals2) (hl : vals.length = n) (hl2 : vals2.length = n) (hn : n ≤ 9223372036854775807) (hif : ∀ v ∈ vals, ∃ T x, v = .iface T x) (hif2 : ∀ v ∈ vals2, ∃ T x, v = .iface T x)
 (ih : ∀ (i : Nat) (v v2 : Value) (wx : World), vals[i]? = some v → vals2[i]? = some v2 → Below w.heap.size w wx → Calls prog 100 #[.agg #[v], .agg #[v2]] wx fun e w' => e = .returned (.bool true) ∧ Below wx.heap.size wx w') :
 Calls prog 100 #[.agg #[.iface 187 (.pointer (some ⟨b, 0, none⟩))], .agg #[.iface 187 (.pointer (some ⟨b2, 0, none⟩))]] w fun e w' => e = .returned (.bool true) ∧ Below w.heap.size w w' := by
 have ta1 : ∀ w : World, (Instr.typeAssert (.iface 187 (.pointer (some ⟨b, 0, none⟩))) 97 181 true).run prog w = .ok (.tuple #[.pointer none, .bool false]) w := fun _ => by kernel_rfl
 have ta2 : ∀ w : World, (Instr.typeAssert (.iface 187 (.pointer (some ⟨b, 0, none⟩))) 97 187 true).run prog w = .ok (.tuple #[.pointer (some ⟨b, 0, none⟩), .bool true]) w := fun _ => by kernel_rfl
 have HB := hZ (((Below.refl w.heap.size w).alloc (Nat.le_refl _) (.cells #[.iface 187 (.pointer (some ⟨b, 0, none⟩))] 99)).alloc (by simp) (.cells #[.iface 187 (.pointer (some ⟨b2, 0, none⟩))] 99));have hn1 : ((w.alloc (.cells #[.iface 187 (.pointer (some ⟨b, 0, none⟩))] 99)).alloc (.cells #[.iface 187 (.pointer (some ⟨b2, 0, none⟩))] 99)).cell? ⟨w.heap.size, 0, none⟩ = some (.iface 187 (.pointer (some ⟨b, 0, none⟩))) := cell_of_one ((Below.heap_alloc _ _ _ (by simp)).trans (heap_alloc_new w _))
 have hn2 : ((w.alloc (.cells #[.iface 187 (.pointer (some ⟨b, 0, none⟩))] 99)).alloc (.cells #[.iface 187 (.pointer (some ⟨b2, 0, none⟩))] 99)).cell? ⟨w.heap.size + 1, 0, none⟩ = some (.iface 187 (.pointer (some ⟨b2, 0, none⟩))) := by
  have := heap_alloc_new (w.alloc (.cells #[.iface 187 (.pointer (some ⟨b, 0, none⟩))] 99)) (.cells #[.iface 187 (.pointer (some ⟨b2, 0, none⟩))] 99);rw [World.size_alloc] at this;exact cell_of_one this
 have HS := hZ (fun w b => refSort_object w b);have HL1 := hZ (fun (wx : World) (hbx : Below w.heap.size w wx) => refLen_object wx b a n c ka keys.length kc z0 z1 z2 (keep hb hbx));have HL2 := hZ (fun (wx : World) (hbx : Below w.heap.size w wx) => refLen_object wx b2 a2 n c2 ka2 keys.length kc2 y0 y1 y2 (keep hb2 hbx));have HI1 := hZ (fun (wx : World) (hbx : Below w.heap.size w wx) => refItems_object wx b a n c ka keys.length kc z0 z1 z2 (keep hb hbx));have HI2 := hZ (fun (wx : World) (hbx : Below w.heap.size w wx) => refItems_object wx b2 a2 n c2 ka2 keys.length kc2 y0 y1 y2 (keep hb2 hbx));have HK1 := hZ (fun (wx : World) (hbx : Below w.heap.size w wx) => refKeys_object wx b a n c ka keys.length kc z0 z1 z2 (keep hb hbx));have HK2 := hZ (fun (wx : World) (hbx : Below w.heap.size w wx) => refKeys_object wx b2 a2 n c2 ka2 keys.length kc2 y0 y1 y2 (keep hb2 hbx));have HE := hZ (fun (wx : World) (hbx : Below w.heap.size w wx) => strsEqual_any wx keys.length kc kc2 ka ka2 keys (hk.keeps (Keeps.of_below (fun _ => False) hbx) (fun _ _ => id)) (hk2.keeps (Keeps.of_below (fun _ => False) hbx) (fun _ _ => id)) hkl)
 have HC := hZ (fun (wr : World) (hbr : Below w.heap.size w wr) (i : Nat) (hi : i < n) => (show ∃ g off g2 off2 T x T2 x2, a = some ⟨g, off, none⟩ ∧ a2 = some ⟨g2, off2, none⟩ ∧ vals[i]? = some (.iface T x) ∧ vals2[i]? = some (.iface T2 x2) ∧ wr.cell? ⟨g, off + i, none⟩ = some (.iface T x) ∧ wr.cell? ⟨g2, off2 + i, none⟩ = some (.iface T2 x2) from by
  have e1 : vals[i]? = some (vals[i]'(by omega)) := List.getElem?_eq_getElem _;have e2 : vals2[i]? = some (vals2[i]'(by omega)) := List.getElem?_eq_getElem _;obtain ⟨g, off, h1, h2⟩ := win_item (hw.keeps (Keeps.of_below (fun _ => False) hbr) (fun _ _ => id)) e1;obtain ⟨g2, off2, h3, h4⟩ := win_item (hw2.keeps (Keeps.of_below (fun _ => False) hbr) (fun _ _ => id)) e2;obtain ⟨T, x, hx⟩ := hif _ (List.mem_of_getElem? e1);obtain ⟨T2, x2, hx2⟩ := hif2 _ (List.mem_of_getElem? e2);rw [hx] at e1 h2;rw [hx2] at e2 h4;exact ⟨g, off, g2, off2, T, x, T2, x2, h1, h3, e1, e2, h2, h4⟩))
 have HIH := hZ ih;clear hb hb2 hw hw2 hl hl2 ih hif hif2 hk hk2 hkl;go_enter func100, ntmps100;go_wp2_with fail;have hb0 := HB.out;obtain ⟨w2, hw2⟩ : ∃ w2, ((w.alloc (.cells #[.iface 187 (.pointer (some ⟨b, 0, none⟩))] 99)).alloc (.cells #[.iface 187 (.pointer (some ⟨b2, 0, none⟩))] 99)) = w2 := ⟨_, rfl⟩;rw [hw2] at hb0 hn1 hn2 ⊢;have hb1 := hb0.drew;clear HB hw2
 go_region_held3 (fun w' => Below w.heap.size w w' ∧ w'.cell? ⟨w.heap.size, 0, none⟩ = some (.iface 187 (.pointer (some ⟨b, 0, none⟩))) ∧ w'.cell? ⟨w.heap.size + 1, 0, none⟩ = some (.iface 187 (.pointer (some ⟨b2, 0, none⟩)))) (first | exact hS | exact ⟨hb0.drew, hn1, hn2⟩ | go_keep)
  (first
   | (go_at_call 124; (with_reducible refine (HS.out _ _).mono ?_); rintro e wx ⟨rfl, hbx⟩; have hS := boxes_on (w0 := w) (b1 := w.heap.size) (b2 := w.heap.size + 1) (v1 := .iface 187 (.pointer (some ⟨b, 0, none⟩))) (v2 := .iface 187 (.pointer (some ⟨b2, 0, none⟩))) (by assumption) hbx)
   | (go_at_call 125; (with_reducible refine (HL1.out _ ?hb).mono ?_); (case hb => exact (by assumption : Below w.heap.size w _ ∧ _ ∧ _).1); rintro e wx ⟨rfl, hbx⟩; have hS := boxes_on (w0 := w) (b1 := w.heap.size) (b2 := w.heap.size + 1) (v1 := .iface 187 (.pointer (some ⟨b, 0, none⟩))) (v2 := .iface 187 (.pointer (some ⟨b2, 0, none⟩))) (by assumption) hbx)
   | (go_at_call 125; (with_reducible refine (HL2.out _ ?hb).mono ?_); (case hb => exact (by assumption : Below w.heap.size w _ ∧ _ ∧ _).1); rintro e wx ⟨rfl, hbx⟩; have hS := boxes_on (w0 := w) (b1 := w.heap.size) (b2 := w.heap.size + 1) (v1 := .iface 187 (.pointer (some ⟨b, 0, none⟩))) (v2 := .iface 187 (.pointer (some ⟨b2, 0, none⟩))) (by assumption) hbx)
   | (go_at_call 126; (with_reducible refine (HK1.out _ ?hb).mono ?_); (case hb => exact (by assumption : Below w.heap.size w _ ∧ _ ∧ _).1); rintro e wx ⟨rfl, hbx⟩; have hS := boxes_on (w0 := w) (b1 := w.heap.size) (b2 := w.heap.size + 1) (v1 := .iface 187 (.pointer (some ⟨b, 0, none⟩))) (v2 := .iface 187 (.pointer (some ⟨b2, 0, none⟩))) (by assumption) hbx)
   | (go_at_call 126; (with_reducible refine (HK2.out _ ?hb).mono ?_); (case hb => exact (by assumption : Below w.heap.size w _ ∧ _ ∧ _).1); rintro e wx ⟨rfl, hbx⟩; have hS := boxes_on (w0 := w) (b1 := w.heap.size) (b2 := w.heap.size + 1) (v1 := .iface 187 (.pointer (some ⟨b, 0, none⟩))) (v2 := .iface 187 (.pointer (some ⟨b2, 0, none⟩))) (by assumption) hbx)
   | (go_at_call 123; (with_reducible refine (HE.out _ ?hb).mono ?_); (case hb => exact (by assumption : Below w.heap.size w _ ∧ _ ∧ _).1); rintro e wx ⟨rfl, hbx⟩; have hS := boxes_on (w0 := w) (b1 := w.heap.size) (b2 := w.heap.size + 1) (v1 := .iface 187 (.pointer (some ⟨b, 0, none⟩))) (v2 := .iface 187 (.pointer (some ⟨b2, 0, none⟩))) (by assumption) hbx))
 all_goals
  obtain ⟨hb0, hn1, hn2⟩ := hS;have hb1 := hb0.drew;go_wp2_with fail
  go_region_held3 (fun w' => Below w.heap.size w w' ∧ w'.cell? ⟨w.heap.size, 0, none⟩ = some (.iface 187 (.pointer (some ⟨b, 0, none⟩))) ∧ w'.cell? ⟨w.heap.size + 1, 0, none⟩ = some (.iface 187 (.pointer (some ⟨b2, 0, none⟩)))) (first | exact hS2 | exact ⟨hb0.drew, hn1, hn2⟩ | go_keep)
   (first
    | (go_at_call 127; (with_reducible refine (HI1.out _ ?hb).mono ?_); (case hb => exact (by assumption : Below w.heap.size w _ ∧ _ ∧ _).1); rintro e wx ⟨rfl, hbx⟩; have hS2 := boxes_on (w0 := w) (b1 := w.heap.size) (b2 := w.heap.size + 1) (v1 := .iface 187 (.pointer (some ⟨b, 0, none⟩))) (v2 := .iface 187 (.pointer (some ⟨b2, 0, none⟩))) (by assumption) hbx)
    | (go_at_call 127; (with_reducible refine (HI2.out _ ?hb).mono ?_); (case hb => exact (by assumption : Below w.heap.size w _ ∧ _ ∧ _).1); rintro e wx ⟨rfl, hbx⟩; have hS2 := boxes_on (w0 := w) (b1 := w.heap.size) (b2 := w.heap.size + 1) (v1 := .iface 187 (.pointer (some ⟨b, 0, none⟩))) (v2 := .iface 187 (.pointer (some ⟨b2, 0, none⟩))) (by assumption) hbx))
  all_goals
   have HB3 := hZ hS2.1;clear hS2 hb0 hn1 hn2 hb1 ta1 ta2;go_wp2_with fail
   go_loopw [49] (fun v wr => ∃ i : Nat, v = .int .i64 i ∧ i ≤ n ∧ Hid (Below w.heap.size w wr)) (fun v _ => n - (intOf v).toNat)
   case atStart => exact ⟨0, rfl, Nat.zero_le _, HB3⟩
   case round =>
    obtain ⟨i, rfl, hik, HBR⟩ := hrel
    by_cases hi : i < n
    ·obtain ⟨g, off, g2, off2, T, x, T2, x2, rfl, rfl, hv, hv2, hc1, hc2⟩ := HC.out _ HBR.out i hi;have HCALL := hZ (fun wx hbx => HIH.out i _ _ wx hv hv2 hbx);have hbr := HBR.out;clear hv hv2;have hbd := hbr.drew;go_wp2_with fail
     go_region_held3 (fun w' => Below w.heap.size w w' ∧ w'.cell? ⟨g, off + i, none⟩ = some (.iface T x) ∧ w'.cell? ⟨g2, off2 + i, none⟩ = some (.iface T2 x2)) (first | exact ⟨chain (by assumption : Below w.heap.size w _ ∧ _ ∧ _).1 hbx, (hbx.cell (World.block_lt_of_cell? _ _ (by assumption : Below w.heap.size w _ ∧ _ ∧ _).2.1)).trans (by assumption : Below w.heap.size w _ ∧ _ ∧ _).2.1, (hbx.cell (World.block_lt_of_cell? _ _ (by assumption : Below w.heap.size w _ ∧ _ ∧ _).2.2)).trans (by assumption : Below w.heap.size w _ ∧ _ ∧ _).2.2⟩ | exact ⟨hbd, hc1, hc2⟩ | go_keep)
      (first
       | (go_at_call 100; (with_reducible refine (HCALL.out _ ?hb).mono ?_); (case hb => exact (by assumption : Below w.heap.size w _ ∧ _ ∧ _).1); rintro e wx ⟨rfl, hbx⟩; have hbb := chain (by assumption : Below w.heap.size w _ ∧ _ ∧ _).1 hbx))
     all_goals
      go_wp2_with fail;exact ⟨⟨i + 1, by go_num, by omega, hZ hbb⟩, by simp [intOf]; omega⟩
    ·have hie : i = n := by omega
     subst hie;go_wp2_with fail;go_ret;exact ⟨rfl, HBR.out⟩
theorem Win.len_le {α : Type} {e : Nat} {enc : α → Value} {w : World} {v : Value} {l : List α} (h : Win e enc w v l) : l.length ≤ 9223372036854775807 := by
 rcases h with ⟨_, rfl⟩ | ⟨g, off, cap, cur, _, _, hc, _, hm, _⟩
 ·exact Nat.zero_le _
 ·exact Nat.le_trans hc (Nat.le_trans hm (by unfold maxLen; omega))
theorem TreeAt.ifaces {F : Nat → Prop} {w : World} {vals : List Value} {l : List Tr} (hlen : vals.length = l.length) (ht : ∀ (i : Nat) (v : Value) (t : Tr), vals[i]? = some v → l[i]? = some t → TreeAt F w v t) : ∀ v ∈ vals, ∃ T x, v = .iface T x := by
 intro v hv;obtain ⟨i, hi, rfl⟩ := List.mem_iff_getElem.1 hv;exact (ht i _ _ (List.getElem?_eq_getElem hi) (List.getElem?_eq_getElem (by omega))).iface
theorem same_any {t : Tr} (h : FinT t) : SameYes t := by
 induction h with
 | null =>
  intro F G w v v' h h';cases h;cases h';exact same_null w
 | flag b =>
  intro F G w v v' h h';cases h;cases h';exact same_flag w b
 | num b hb =>
  intro F G w v v' h h';cases h;cases h';exact same_num w b hb
 | text s =>
  intro F G w v v' h h';cases h;cases h';exact same_text w _
 | list l hl ih =>
  intro F G w v v' h h';cases h with
  | list b itemsV vals _ hb hblk hw hlen ht =>
  cases h' with
  | list b2 itemsV2 vals2 _ hb2 hblk2 hw2 hlen2 ht2 =>
  obtain ⟨a, c, rfl⟩ := hw.1.shape;obtain ⟨a2, c2, rfl⟩ := hw2.1.shape;have e : vals2.length = vals.length := by omega
  rw [e] at hblk2 hw2;refine same_list w b b2 vals.length c c2 a a2 _ _ _ _ _ _ vals vals2 hblk hblk2 hw.1 hw2.1 rfl e hw.1.len_le (TreeAt.ifaces hlen ht) (TreeAt.ifaces hlen2 ht2) ?_;intro i v v2 wx hv hv2 hbx;obtain ⟨t, hti⟩ : ∃ t, l[i]? = some t := ⟨_, List.getElem?_eq_getElem (by have := (List.getElem?_eq_some_iff.1 hv).1; omega)⟩;exact ih t (List.mem_of_getElem? hti) F G wx v v2 ((ht i v t hv hti).keeps (Keeps.of_below (fun _ => False) hbx) (fun _ _ => id)) ((ht2 i v2 t hv2 hti).keeps (Keeps.of_below (fun _ => False) hbx) (fun _ _ => id))
 | object keys l hl ih =>
  intro F G w v v' h h';cases h with
  | object b keysV itemsV vals _ _ hb hblk hk hw hlen ht =>
  cases h' with
  | object b2 keysV2 itemsV2 vals2 _ _ hb2 hblk2 hk2 hw2 hlen2 ht2 =>
  obtain ⟨a, c, rfl⟩ := hw.1.shape;obtain ⟨a2, c2, rfl⟩ := hw2.1.shape;obtain ⟨ka, kc, rfl⟩ := hk.1.shape;obtain ⟨ka2, kc2, rfl⟩ := hk2.1.shape;have e : vals2.length = vals.length := by omega
  rw [e] at hblk2 hw2;refine same_object w b b2 vals.length c c2 a a2 _ _ _ _ _ _ vals vals2 ka ka2 kc kc2 keys hk.1.len_le hk.1 hk2.1 hblk hblk2 hw.1 hw2.1 rfl e hw.1.len_le (TreeAt.ifaces hlen ht) (TreeAt.ifaces hlen2 ht2) ?_;intro i v v2 wx hv hv2 hbx;obtain ⟨t, hti⟩ : ∃ t, l[i]? = some t := ⟨_, List.getElem?_eq_getElem (by have := (List.getElem?_eq_some_iff.1 hv).1; omega)⟩;exact ih t (List.mem_of_getElem? hti) F G wx v v2 ((ht i v t hv hti).keeps (Keeps.of_below (fun _ => False) hbx) (fun _ _ => id)) ((ht2 i v2 t hv2 hti).keeps (Keeps.of_below (fun _ => False) hbx) (fun _ _ => id))
end Go.Proofs.YtakkmiomhackiaaGreatDoor
