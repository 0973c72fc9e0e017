/-
  slices.EqualFunc of two rows of records, by the law's own function same.
-/
import Derived.Test.YtakkmiomhackiaaGreatDoorPc44
set_option linter.all false
set_option maxRecDepth 100000
set_option maxHeartbeats 16000000
namespace Go.Proofs.YtakkmiomhackiaaGreatDoor
open Go.RowKit
theorem elemItm : ElemN 81 85 2 24 := ⟨Tryz.underlying81, by decide, by
 have h : (Tryz.prog.info? 85).map (fun i => (i.zero, i.size, i.bytes)) = some (some (.agg #[.pointer none, .nilIface]), 2, 24) := by kernel_rfl
 obtain ⟨i, h1, h2, h3, h4⟩ := info_parts h;exact ⟨i, _, h1, h2, h3, h4, rfl⟩⟩
theorem shiftOf_zero (rec : Except (Nat × Nat) Tr) : shiftOf 0 rec = rec := by
 cases rec with
 | error e => rfl
 | ok t => rfl
theorem RecAt.parts {w : World} {a b : Value} {rc : Except (Nat × Nat) Tr} (h : RecAt w a b rc) : ∃ q, a = .pointer q ∧ (b = .nilIface ∨ ∃ T v, b = .iface T v) := by
 cases rc with
 | error er => obtain ⟨h1, h2⟩ := h; exact ⟨_, h1, .inr ⟨_, _, h2⟩⟩
 | ok t => obtain ⟨h1, T, v, h2, _⟩ := h; exact ⟨_, h2, .inl h1⟩
theorem same2_any (w : World) (a b a2 b2 : Value) (rec : Except (Nat × Nat) Tr) (hr : RecOk rec) (h : RecAt w a b rec) (h2 : RecAt w a2 b2 rec) :
 Calls Tryz.prog 42 #[.agg #[a, b], .agg #[a2, b2]] w fun e w' => e = .returned (.bool true) ∧ Below w.heap.size w w' := by
 have hb := ((Below.refl w.heap.size w).alloc (Nat.le_refl _) (.cells #[a, b] 85)).alloc (by simp) (.cells #[a2, b2] 85);have HS := Lib.hid (same_rec ((w.alloc (.cells #[a, b] 85)).alloc (.cells #[a2, b2] 85)) a b a2 b2 rec 0 hr (by decide) (fun no at_ e => by subst e; exact hr.2.2) (h.keeps (Keeps.of_below (fun _ => False) hb) (fun _ _ _ _ _ => id)) (by rw [shiftOf_zero]; exact h2.keeps (Keeps.of_below (fun _ => False) hb) (fun _ _ _ _ _ => id)));obtain ⟨q, rfl, hs⟩ := h.parts;obtain ⟨q2, rfl, hs2⟩ := h2.parts;have HB := Lib.hid hb;clear hb h h2 hr;rcases hs with rfl | ⟨T, v, rfl⟩
 all_goals
  rcases hs2 with rfl | ⟨T2, v2, rfl⟩
  all_goals
   go_enter Tryz.func42, Tryz.ntmps42;go_wp2_with fail;refine (HS.out).mono ?_;rintro e w1 ⟨rfl, hb1⟩;have HB1 := Lib.hid (chain HB.out hb1);clear hb1;go_wp2_with fail;go_ret;exact ⟨rfl, HB1.out⟩
theorem WinN.at2 {w : World} {a : Option Addr} {n c : Nat} {cs : List Value} (h : WinN 2 85 w (.slice a n c) n cs) {i : Nat} {x y : Value} (hx : cs[2 * i]? = some x) (hy : cs[2 * i + 1]? = some y) : ∃ g off, a = some ⟨g, off, none⟩ ∧ w.cell? ⟨g, off + i * 2, none⟩ = some x ∧ w.cell? ⟨g, off + i * 2 + 1, none⟩ = some y := by
 rcases h.2 with ⟨e, h0⟩ | ⟨g, off, cap, cur, e, hg, hc, ho, hm, hi⟩
 ·cases e;have := h.1;have h3 := (List.getElem?_eq_some_iff.1 hx).1;omega
 ·cases e;refine ⟨g, off, rfl, ?_, ?_⟩
  ·rw [cell_at hg, show off + i * 2 = off + 2 * i by omega]; exact hi _ x hx
  ·rw [cell_at hg, show off + i * 2 + 1 = off + (2 * i + 1) by omega]; exact hi _ y hy
theorem equalRecs_any (w : World) (n c c2 : Nat) (a a2 : Option Addr) (cs cs2 : List Value) (recs : List (Except (Nat × Nat) Tr)) (h1 : WinN 2 85 w (.slice a n c) n cs) (hr1 : Recs w cs recs) (h2 : WinN 2 85 w (.slice a2 n c2) n cs2) (hr2 : Recs w cs2 recs) (hl : recs.length = n) (hn : n ≤ 1073741824) (hok : ∀ r ∈ recs, RecOk r) :
 Calls Tryz.prog 41 #[.slice a n c, .slice a2 n c2, .func (.func 42) #[] #[]] w fun e w' => e = .returned (.bool true) ∧ Below w.heap.size w w' := by
 have HC := Lib.hid (fun (wr : World) (hb : Below w.heap.size w wr) (i : Nat) (hi : i < n) => (show ∃ g off g2 off2 q e q2 e2, a = some ⟨g, off, none⟩ ∧ a2 = some ⟨g2, off2, none⟩ ∧ wr.cell? ⟨g, off + i * 2, none⟩ = some (.pointer q) ∧ wr.cell? ⟨g, off + i * 2 + 1, none⟩ = some e ∧ wr.cell? ⟨g2, off2 + i * 2, none⟩ = some (.pointer q2) ∧ wr.cell? ⟨g2, off2 + i * 2 + 1, none⟩ = some e2 ∧ (e = .nilIface ∨ ∃ T v, e = .iface T v) ∧ (e2 = .nilIface ∨ ∃ T v, e2 = .iface T v) ∧
  (∀ wx, Below w.heap.size w wx → Calls Tryz.prog 42 #[.agg #[.pointer q, e], .agg #[.pointer q2, e2]] wx fun e w' => e = .returned (.bool true) ∧ Below wx.heap.size wx w') from by
  have hri : recs[i]? = some (recs[i]'(by omega)) := List.getElem?_eq_getElem _;obtain ⟨x, y, hx, hy, hxy⟩ := hr1 i _ hri;obtain ⟨x2, y2, hx2, hy2, hxy2⟩ := hr2 i _ hri;obtain ⟨q, rfl, hs⟩ := hxy.parts;obtain ⟨q2, rfl, hs2⟩ := hxy2.parts;have hk := Keeps.of_below (fun _ => False) hb;obtain ⟨g, off, e1, c0, c1⟩ := WinN.at2 (h1.keeps hk (fun _ _ => id)) hx hy;obtain ⟨g2, off2, e2, d0, d1⟩ := WinN.at2 (h2.keeps hk (fun _ _ => id)) hx2 hy2;exact ⟨g, off, g2, off2, q, y, q2, y2, e1, e2, c0, c1, d0, d1, hs, hs2, fun wx hbx => same2_any wx _ _ _ _ _ (hok _ (List.mem_of_getElem? hri)) (hxy.keeps (Keeps.of_below (fun _ => False) hbx) (fun _ _ _ _ _ => id)) (hxy2.keeps (Keeps.of_below (fun _ => False) hbx) (fun _ _ _ _ _ => id))⟩))
 clear h1 h2 hr1 hr2 hl hok;go_enter Tryz.func41, Tryz.ntmps41;go_wp2_with fail
 go_loopw [17] (fun v wr => ∃ i : Nat, v = .int .i64 i ∧ i ≤ n ∧ Hid (Below w.heap.size w wr)) (fun v _ => n - (intOf v).toNat)
 case atStart => exact ⟨0, rfl, Nat.zero_le _, Lib.hid (Below.refl _ _)⟩
 case round =>
  obtain ⟨i, rfl, hik, HBR⟩ := hrel
  by_cases hi : i < n
  ·obtain ⟨g, off, g2, off2, q, e, q2, e2, rfl, rfl, c0, c1, d0, d1, hs, hs2, hcall⟩ := HC.out _ HBR.out i hi;have HCALL := Lib.hid hcall;clear hcall;rcases hs with rfl | ⟨T, v, rfl⟩
   ·rcases hs2 with rfl | ⟨T2, v2, rfl⟩
    ·skip;have hk1 : ∀ (o : Obj), Keeps (fun _ => False) wr (wr.alloc o) := fun o => (Keeps.refl _ wr).alloc o
     have d0' := fun o => (hk1 o).cell d0 id
     have d1' := fun o => (hk1 o).cell d1 id
     have HNW := Lib.hid (fun (o1 o2 : Obj) => (⟨(Below.heap_alloc _ _ _ (by simp)).trans (heap_alloc_new wr o1), by have := heap_alloc_new (wr.alloc o1) o2; rwa [World.size_alloc] at this, (HBR.out.alloc HBR.out.size o1).alloc (Nat.le_trans HBR.out.size (by simp)) o2⟩ : ((wr.alloc o1).alloc o2).heap[wr.heap.size]? = some o1 ∧ ((wr.alloc o1).alloc o2).heap[wr.heap.size + 1]? = some o2 ∧ Below w.heap.size w ((wr.alloc o1).alloc o2)));have hnw := HNW.out (.cells #[.pointer q, .nilIface] 85) (.cells #[.pointer q2, .nilIface] 85);have t0 : ((wr.alloc (.cells #[.pointer q, .nilIface] 85)).alloc (.cells #[.pointer q2, .nilIface] 85)).cell? ⟨wr.heap.size, 0, none⟩ = some (.pointer q) := cell_at hnw.1;have t1 : ((wr.alloc (.cells #[.pointer q, .nilIface] 85)).alloc (.cells #[.pointer q2, .nilIface] 85)).cell? ⟨wr.heap.size, 1, none⟩ = some .nilIface := cell_at hnw.1;have t2 : ((wr.alloc (.cells #[.pointer q, .nilIface] 85)).alloc (.cells #[.pointer q2, .nilIface] 85)).cell? ⟨wr.heap.size + 1, 0, none⟩ = some (.pointer q2) := cell_at hnw.2.1;have t3 : ((wr.alloc (.cells #[.pointer q, .nilIface] 85)).alloc (.cells #[.pointer q2, .nilIface] 85)).cell? ⟨wr.heap.size + 1, 1, none⟩ = some .nilIface := cell_at hnw.2.1;have HB2 := Lib.hid hnw.2.2;have HCL := Lib.hid (HCALL.out _ hnw.2.2);clear hk1 hnw;go_wp2_with fail;refine (HCL.out).mono ?_;rintro e w1 ⟨rfl, hb1⟩;have HB3 := Lib.hid (chain HB2.out hb1);clear hb1;go_wp2_with fail;exact ⟨⟨i + 1, by go_num, by omega, HB3⟩, by simp [intOf]; omega⟩
    ·skip;have hk1 : ∀ (o : Obj), Keeps (fun _ => False) wr (wr.alloc o) := fun o => (Keeps.refl _ wr).alloc o
     have d0' := fun o => (hk1 o).cell d0 id
     have d1' := fun o => (hk1 o).cell d1 id
     have HNW := Lib.hid (fun (o1 o2 : Obj) => (⟨(Below.heap_alloc _ _ _ (by simp)).trans (heap_alloc_new wr o1), by have := heap_alloc_new (wr.alloc o1) o2; rwa [World.size_alloc] at this, (HBR.out.alloc HBR.out.size o1).alloc (Nat.le_trans HBR.out.size (by simp)) o2⟩ : ((wr.alloc o1).alloc o2).heap[wr.heap.size]? = some o1 ∧ ((wr.alloc o1).alloc o2).heap[wr.heap.size + 1]? = some o2 ∧ Below w.heap.size w ((wr.alloc o1).alloc o2)));have hnw := HNW.out (.cells #[.pointer q, .nilIface] 85) (.cells #[.pointer q2, (.iface T2 v2)] 85);have t0 : ((wr.alloc (.cells #[.pointer q, .nilIface] 85)).alloc (.cells #[.pointer q2, (.iface T2 v2)] 85)).cell? ⟨wr.heap.size, 0, none⟩ = some (.pointer q) := cell_at hnw.1;have t1 : ((wr.alloc (.cells #[.pointer q, .nilIface] 85)).alloc (.cells #[.pointer q2, (.iface T2 v2)] 85)).cell? ⟨wr.heap.size, 1, none⟩ = some .nilIface := cell_at hnw.1;have t2 : ((wr.alloc (.cells #[.pointer q, .nilIface] 85)).alloc (.cells #[.pointer q2, (.iface T2 v2)] 85)).cell? ⟨wr.heap.size + 1, 0, none⟩ = some (.pointer q2) := cell_at hnw.2.1;have t3 : ((wr.alloc (.cells #[.pointer q, .nilIface] 85)).alloc (.cells #[.pointer q2, (.iface T2 v2)] 85)).cell? ⟨wr.heap.size + 1, 1, none⟩ = some (.iface T2 v2) := cell_at hnw.2.1;have HB2 := Lib.hid hnw.2.2;have HCL := Lib.hid (HCALL.out _ hnw.2.2);clear hk1 hnw;go_wp2_with fail;refine (HCL.out).mono ?_;rintro e w1 ⟨rfl, hb1⟩;have HB3 := Lib.hid (chain HB2.out hb1);clear hb1;go_wp2_with fail;exact ⟨⟨i + 1, by go_num, by omega, HB3⟩, by simp [intOf]; omega⟩
   ·rcases hs2 with rfl | ⟨T2, v2, rfl⟩
    ·skip;have hk1 : ∀ (o : Obj), Keeps (fun _ => False) wr (wr.alloc o) := fun o => (Keeps.refl _ wr).alloc o
     have d0' := fun o => (hk1 o).cell d0 id
     have d1' := fun o => (hk1 o).cell d1 id
     have HNW := Lib.hid (fun (o1 o2 : Obj) => (⟨(Below.heap_alloc _ _ _ (by simp)).trans (heap_alloc_new wr o1), by have := heap_alloc_new (wr.alloc o1) o2; rwa [World.size_alloc] at this, (HBR.out.alloc HBR.out.size o1).alloc (Nat.le_trans HBR.out.size (by simp)) o2⟩ : ((wr.alloc o1).alloc o2).heap[wr.heap.size]? = some o1 ∧ ((wr.alloc o1).alloc o2).heap[wr.heap.size + 1]? = some o2 ∧ Below w.heap.size w ((wr.alloc o1).alloc o2)));have hnw := HNW.out (.cells #[.pointer q, (.iface T v)] 85) (.cells #[.pointer q2, .nilIface] 85);have t0 : ((wr.alloc (.cells #[.pointer q, (.iface T v)] 85)).alloc (.cells #[.pointer q2, .nilIface] 85)).cell? ⟨wr.heap.size, 0, none⟩ = some (.pointer q) := cell_at hnw.1;have t1 : ((wr.alloc (.cells #[.pointer q, (.iface T v)] 85)).alloc (.cells #[.pointer q2, .nilIface] 85)).cell? ⟨wr.heap.size, 1, none⟩ = some (.iface T v) := cell_at hnw.1;have t2 : ((wr.alloc (.cells #[.pointer q, (.iface T v)] 85)).alloc (.cells #[.pointer q2, .nilIface] 85)).cell? ⟨wr.heap.size + 1, 0, none⟩ = some (.pointer q2) := cell_at hnw.2.1;have t3 : ((wr.alloc (.cells #[.pointer q, (.iface T v)] 85)).alloc (.cells #[.pointer q2, .nilIface] 85)).cell? ⟨wr.heap.size + 1, 1, none⟩ = some .nilIface := cell_at hnw.2.1;have HB2 := Lib.hid hnw.2.2;have HCL := Lib.hid (HCALL.out _ hnw.2.2);clear hk1 hnw;go_wp2_with fail;refine (HCL.out).mono ?_;rintro e w1 ⟨rfl, hb1⟩;have HB3 := Lib.hid (chain HB2.out hb1);clear hb1;go_wp2_with fail;exact ⟨⟨i + 1, by go_num, by omega, HB3⟩, by simp [intOf]; omega⟩
    ·skip;have hk1 : ∀ (o : Obj), Keeps (fun _ => False) wr (wr.alloc o) := fun o => (Keeps.refl _ wr).alloc o
     have d0' := fun o => (hk1 o).cell d0 id
     have d1' := fun o => (hk1 o).cell d1 id
     have HNW := Lib.hid (fun (o1 o2 : Obj) => (⟨(Below.heap_alloc _ _ _ (by simp)).trans (heap_alloc_new wr o1), by have := heap_alloc_new (wr.alloc o1) o2; rwa [World.size_alloc] at this, (HBR.out.alloc HBR.out.size o1).alloc (Nat.le_trans HBR.out.size (by simp)) o2⟩ : ((wr.alloc o1).alloc o2).heap[wr.heap.size]? = some o1 ∧ ((wr.alloc o1).alloc o2).heap[wr.heap.size + 1]? = some o2 ∧ Below w.heap.size w ((wr.alloc o1).alloc o2)));have hnw := HNW.out (.cells #[.pointer q, (.iface T v)] 85) (.cells #[.pointer q2, (.iface T2 v2)] 85);have t0 : ((wr.alloc (.cells #[.pointer q, (.iface T v)] 85)).alloc (.cells #[.pointer q2, (.iface T2 v2)] 85)).cell? ⟨wr.heap.size, 0, none⟩ = some (.pointer q) := cell_at hnw.1;have t1 : ((wr.alloc (.cells #[.pointer q, (.iface T v)] 85)).alloc (.cells #[.pointer q2, (.iface T2 v2)] 85)).cell? ⟨wr.heap.size, 1, none⟩ = some (.iface T v) := cell_at hnw.1;have t2 : ((wr.alloc (.cells #[.pointer q, (.iface T v)] 85)).alloc (.cells #[.pointer q2, (.iface T2 v2)] 85)).cell? ⟨wr.heap.size + 1, 0, none⟩ = some (.pointer q2) := cell_at hnw.2.1;have t3 : ((wr.alloc (.cells #[.pointer q, (.iface T v)] 85)).alloc (.cells #[.pointer q2, (.iface T2 v2)] 85)).cell? ⟨wr.heap.size + 1, 1, none⟩ = some (.iface T2 v2) := cell_at hnw.2.1;have HB2 := Lib.hid hnw.2.2;have HCL := Lib.hid (HCALL.out _ hnw.2.2);clear hk1 hnw;go_wp2_with fail;refine (HCL.out).mono ?_;rintro e w1 ⟨rfl, hb1⟩;have HB3 := Lib.hid (chain HB2.out hb1);clear hb1;go_wp2_with fail;exact ⟨⟨i + 1, by go_num, by omega, HB3⟩, by simp [intOf]; omega⟩
  ·have hie : i = n := by omega
   subst hie;go_wp2_with fail;go_ret;exact ⟨rfl, HBR.out⟩
end Go.Proofs.YtakkmiomhackiaaGreatDoor
