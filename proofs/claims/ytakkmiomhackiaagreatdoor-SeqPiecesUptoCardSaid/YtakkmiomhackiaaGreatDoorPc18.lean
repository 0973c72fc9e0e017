/-
  The program, one part of its walk: Nd4, Nd5. Conditions: none.
-/
import Derived.Test.YtakkmiomhackiaaGreatDoorPc17
set_option linter.all false
set_option maxRecDepth 100000
set_option maxHeartbeats 16000000
namespace Go.Proofs.YtakkmiomhackiaaGreatDoor
open Go.RowKit
theorem used_list (w : World) (n : Nat) : Calls Tryz.prog 213 #[.agg #[.int .i64 5, .bool false, .int .u64 0, .string ⟨#[]⟩, .int .i64 n, .slice none 0 0]] w fun e w' => e = .returned (.bool true) ∧ Below w.heap.size w w' := by
 have hb : (((n : Nat) : Int) == 0) = true ∨ (((n : Nat) : Int) == 0) = false := by cases h : (((n : Nat) : Int) == 0) <;> simp
 have h0 : (0 : Int) ≤ (n : Int) := by omega
 rcases hb with hb | hb
 all_goals
  go_enter Tryz.func213, Tryz.ntmps213;go_wp2;go_ret;exact ⟨rfl, (Below.refl _ _).alloc (Nat.le_refl _) _⟩
theorem doCatch_errno (p : Addr) (x : Value) (no : Nat) (older : List PanicEntry) (w : World) (hc : w.cell? p = some x) (hz : w.frozen? p = false) :
 CallsD Tryz.prog 211 #[.pointer (some p)] (.panicking ({ v := .iface 29 (.int .i64 no), recovered := false } :: older)) w fun e u' w' =>
  e = .returned (.tuple #[]) ∧ u' = .panicking ({ v := .iface 29 (.int .i64 no), recovered := true } :: older) ∧ w' = w.setCell p (.iface 29 (.int .i64 no)) := by
 have hta : ∀ w : World, (Instr.typeAssert (.iface 29 (.int .i64 no)) 20 29 false).run Tryz.prog w = .ok (.int .i64 no) w := fun _ => by kernel_rfl
 refine callsD_of_wpS Tryz.func211 rfl fun c₀ cs hu => ?_
 apply wpS_seq;apply wpS_region;simp [wpOpsS, go_sem, recoverD, hu, Tryz.ntmps211, Exit.thenS, Array.replicate];apply wpS_seq;apply wpS_region;simp [wpOpsS, go_sem, recoverD, hu, Exit.thenS];refine wpS_cond (t := true) (by simp [Act.eval]) ?_;simp only [if_true];apply wpS_region;simp [wpOpsS, go_sem, hc, hz, hta, bodyPostS, results, Tryz.results211]
def GroupR (w : World) (b : Nat) (V : Value) (vals : List Value) (k : Nat) (T : TypeId) (v : Value) (R : Nat) (w' : World) : Prop :=
 ∃ g off cap, w'.heap[b]? = some (.cells #[.slice (some ⟨g, off, none⟩) (k + 1) cap] 195 (0, 0)) ∧ Win 97 id w' (.slice (some ⟨g, off, none⟩) (k + 1) cap) (vals.take k ++ [.iface T v]) ∧ (V.ownBlock = some g ∨ w.heap.size ≤ g) ∧ Keeps (fun q => q = b ∨ V.ownBlock = some q ∨ q = R) w w'
theorem GroupRet.close {w w1 w2 : World} {b : Nat} {V : Value} {vals : List Value} {k : Nat} {T : TypeId} {v : Value} {R : Nat} {u0 : Value} (hR : w.heap.size ≤ R) (hr1 : w1.heap[R]? = some (.cells #[u0] 26 (0, 0))) (hwV : ∀ k, V.ownBlock = some k → k < w.heap.size) (hbl : b < w.heap.size) (h : GroupRet w1 b V vals k T v w2) (u : Value) :
 w2.cell? ⟨R, 0, none⟩ = some u0 ∧ w2.frozen? ⟨R, 0, none⟩ = false ∧ GroupR w1 b V vals k T v R (w2.setCell ⟨R, 0, none⟩ u) ∧ (w2.setCell ⟨R, 0, none⟩ u).cell? ⟨R, 0, none⟩ = some u := by
 obtain ⟨g, off, cap, h1, h2, h3, h4⟩ := h
 have hne : ¬ (R = b ∨ V.ownBlock = some R) := by
  rintro (e | e)
  ·omega
  ·have := hwV R e; omega
 have hr2 := h4.blk hr1 hne;have hk : Keeps (fun k => k = R) w2 (w2.setCell ⟨R, 0, none⟩ u) := (Keeps.refl (fun k => k = R) w2).setCell (p := ⟨R, 0, none⟩) (.inl rfl) _;refine ⟨cell_of_one hr2, free_of_one hr2, ⟨g, off, cap, (set_else u (by omega)).trans h1, ?_, h3, (h4.mono fun k e => e.imp id .inl).same (hk.mono fun k e => .inr (.inr e))⟩, ?_⟩
 ·exact h2.keeps hk (fun k e hk => h2.ne hr2 (by decide) (e.trans (congrArg some hk)))
 ·rw [cell_at (set_at hr2 u)]; rfl
def ListDone (w : World) (b : Nat) (V : Value) (vals : List Value) (k : Nat) (z : Sz) (w' : World) : Prop :=
 ∃ (w4 : World) (R p : Nat) (itemsV : Value), Below w.heap.size w w4 ∧ w.heap.size ≤ R ∧ w4.heap[R]? = some (.cells #[.nilIface] 26 (0, 0)) ∧ w.heap.size ≤ p ∧ w4.heap[p]? = some (.cells #[.int .i64 z.nodes, .int .i64 z.bytes, .int .i64 z.depth, itemsV] 186 (0, 0)) ∧
  Win 97 id w4 itemsV (vals.drop k) ∧ (∀ q, itemsV.ownBlock = some q → w.heap.size ≤ q) ∧ GroupR w4 b V vals k 181 (.pointer (some ⟨p, 0, none⟩)) R w'
theorem ListDone.lift {w w1 w' : World} {b : Nat} {V : Value} {vals : List Value} {k : Nat} {z : Sz} (hb : Below w.heap.size w w1) (h : ListDone w1 b V vals k z w') : ListDone w b V vals k z w' := by
 obtain ⟨w4, R, p, itemsV, h1, h2, h3, h4, h5, h6, h7, h8⟩ := h;exact ⟨w4, R, p, itemsV, hb.trans (h1.mono hb.size), Nat.le_trans hb.size h2, h3, Nat.le_trans hb.size h4, h5, h6, fun q e => Nat.le_trans hb.size (h7 q e), h8⟩
theorem sumSz_bound {bytes : Nat} {l : List Sz} (h : ∀ z ∈ l, z.within = true) (hl : l.length ≤ 65536) (hb : bytes ≤ 1073741824) : (sumSz bytes l).nodes ≤ 4611686018427387904 ∧ (sumSz bytes l).bytes ≤ 4611686018427387904 ∧ (sumSz bytes l).depth ≤ 4611686018427387904 := by
 have := partSz_bound (bytes := bytes) h;rw [sumSz_part];exact ⟨by show (partSz bytes l).nodes ≤ _; omega, by show (partSz bytes l).bytes ≤ _; omega, by show (partSz bytes l).depth + 1 ≤ _; omega⟩
theorem do_list_few (w : World) (b n : Nat) (V : Value) (vals : List Value) (h : w.heap[b]? = some (.cells #[V] 195 (0, 0))) (hw : Win 97 id w V vals) (hn : vals.length < n) :
 Calls Tryz.prog 196 #[.pointer (some ⟨b, 0, none⟩), .agg #[.int .i64 5, .bool false, .int .u64 0, .string ⟨#[]⟩, .int .i64 n, .slice none 0 0]] w fun e w' => (∃ v, e = .returned v) ∧ Below w.heap.size w w' := by
 have hmf : ∀ (fn : Fn) (first cap : Array Value) (w : World), (Instr.makeFunc fn first cap).run Tryz.prog w = .ok (.func fn first cap) w := fun _ _ _ _ => rfl
 have HU := Lib.hid (fun w => used_list w n);have HT := Lib.hid (fun w' (hb : Below w.heap.size w w') => take_few w' b n V vals (keep h hb) (hw.keeps (Keeps.of_below (fun _ => False) hb) (fun _ _ => id)) hn);clear h hw hn
 go_enter_defers Tryz.func196, Tryz.ntmps196
 go_wp2_with fail;refine (HU.out _).mono ?_;rintro e w1 ⟨rfl, hb1⟩;obtain ⟨g1, g2, hbw, hsz⟩ := after2 hb1;obtain ⟨q0, q1, q2, q3, q4, q5, qf⟩ := cells6 g1;have G2 := Lib.hid g2;have HBW := Lib.hid hbw;clear hb1 g1 g2 hbw;go_wp2_with fail;refine (refuse_no _ 2).mono ?_;rintro e w2 ⟨rfl, rfl⟩;go_wp2_with fail;refine (HT.out _ HBW.out).mono ?_;rintro e w3 ⟨rfl, rfl⟩;have GE := G2;have HBE := HBW;go_wp2_with fail;refine leaves_cons (f := 211) (args := #[.pointer (some ⟨w.heap.size + 1, 0, none⟩)]) (by simp) (by simp [go_sem]) ?_;refine (doCatch_errno ⟨w.heap.size + 1, 0, none⟩ .nilIface 102 [] _ (cell_of_one GE.out) (free_of_one GE.out)).mono ?_;rintro e u' w'' ⟨rfl, rfl, rfl⟩;have hcs : (w3.setCell ⟨w.heap.size + 1, 0, none⟩ (.iface 29 (.int .i64 102))).cell? ⟨w.heap.size + 1, 0, none⟩ = some (.iface 29 (.int .i64 102)) := by rw [cell_at (set_at GE.out _)]; rfl
 have hend : Below w.heap.size w (w3.setCell ⟨w.heap.size + 1, 0, none⟩ (.iface 29 (.int .i64 102))) := HBE.out.setCell (p := ⟨w.heap.size + 1, 0, none⟩) (Nat.le_succ _) _;simp [Leaves, settle, results, Tryz.results196, go_sem, hcs];exact hend
theorem Trees.oneCell {F : Nat → Prop} {w : World} {vals : List Value} {items : List Tr} (h : Trees F w vals items) : ∀ v ∈ vals, v.oneCell' = true := by
 intro v hv;obtain ⟨i, hi, rfl⟩ := List.mem_iff_getElem.1 hv;have hi2 : i < items.length := by have := h.1; omega
 obtain ⟨T, x, e⟩ := (h.2 i _ _ (List.getElem?_eq_getElem hi) (List.getElem?_eq_getElem hi2)).iface;rw [e]; rfl
theorem Trees.drop {F : Nat → Prop} {w : World} {vals : List Value} {items : List Tr} (h : Trees F w vals items) (k : Nat) : Trees F w (vals.drop k) (items.drop k) := by
 refine ⟨by simp [h.1], fun i v t hv ht => ?_⟩;rw [List.getElem?_drop] at hv ht;exact h.2 _ v t hv ht
theorem Trees.take {F : Nat → Prop} {w : World} {vals : List Value} {items : List Tr} (h : Trees F w vals items) (k : Nat) : Trees F w (vals.take k) (items.take k) := by
 refine ⟨by simp [h.1], fun i v t hv ht => ?_⟩;rw [List.getElem?_take] at hv ht;split at hv
 ·rename_i hk;rw [if_pos hk] at ht;exact h.2 _ v t hv ht
 ·cases hv
theorem do_list_over (w : World) (F : Nat → Prop) (b n : Nat) (V : Value) (vals : List Value) (items : List Tr) (h : w.heap[b]? = some (.cells #[V] 195 (0, 0))) (hw : Win 97 id w V vals) (ht : Trees F w vals items) (hin : ∀ t ∈ items, t.sized.within = true) (hl : items.length ≤ 65536) (hn : n ≤ vals.length) (hz : (sumSz 0 ((items.drop (vals.length - n)).map Tr.sized)).within = false) :
 Calls Tryz.prog 196 #[.pointer (some ⟨b, 0, none⟩), .agg #[.int .i64 5, .bool false, .int .u64 0, .string ⟨#[]⟩, .int .i64 n, .slice none 0 0]] w fun e w' => (∃ v, e = .returned v) ∧ Below w.heap.size w w' := by
 have hmf : ∀ (fn : Fn) (first cap : Array Value) (w : World), (Instr.makeFunc fn first cap).run Tryz.prog w = .ok (.func fn first cap) w := fun _ _ _ _ => rfl
 have HU := Lib.hid (fun w => used_list w n);have HN := Lib.hid hn;have hvl := ht.1;have HT := Lib.hid (fun w' (hb : Below w.heap.size w w') => take_ok w' b n V vals (keep h hb) (hw.keeps (Keeps.of_below (fun _ => False) hb) (fun _ _ => id)) (by omega) ht.oneCell hn);have HS := Lib.hid (fun w' (hb : Below w.heap.size w w') itemsV (hi : Win 97 id w' itemsV (vals.drop (vals.length - n))) => summed_any F w' itemsV (vals.drop (vals.length - n)) (items.drop (vals.length - n)) 0 hi ((ht.keeps (Keeps.of_below (fun _ => False) hb) (fun _ _ => id)).drop _) (fun t m => hin t (List.mem_of_mem_drop m)) (by rw [List.length_drop]; omega) (by decide));have HZB := Lib.hid (sumSz_bound (bytes := 0) (l := (items.drop (vals.length - n)).map Tr.sized) (by intro z hz; obtain ⟨t, ht, rfl⟩ := List.mem_map.1 hz; exact hin t (List.mem_of_mem_drop ht)) (by rw [List.length_map, List.length_drop]; omega) (by decide));have HZW := Lib.hid hz;clear h hw hn ht hin hl hz
 go_enter_defers Tryz.func196, Tryz.ntmps196
 go_wp2_with fail;refine (HU.out _).mono ?_;rintro e w1 ⟨rfl, hb1⟩;obtain ⟨g1, g2, hbw, hsz⟩ := after2 hb1;obtain ⟨q0, q1, q2, q3, q4, q5, qf⟩ := cells6 g1;have G1 := Lib.hid g1;have G2 := Lib.hid g2;have HBW := Lib.hid hbw;clear hb1 g1 g2 hbw;go_wp2_with fail;refine (refuse_no _ 2).mono ?_;rintro e w2 ⟨rfl, rfl⟩;go_wp2_with fail;refine (HT.out _ HBW.out).mono ?_;rintro e w3 ⟨itemsV, rfl, hi1, hi2, hi3⟩;have hb3 := chain HBW.out hi3;obtain ⟨ta, tc, hti⟩ := hi1.shape;obtain ⟨p0, p1, p2, p3, p4, p5, pf⟩ := cells6 (keep G1.out hi3);have G3 := Lib.hid (keep G2.out hi3);have HB3 := Lib.hid hb3;have hdl : (vals.drop (vals.length - n)).length = n := by rw [List.length_drop]; have := HN.out; omega
 rw [hdl] at hti;have HIT := Lib.hid (And.intro hi1 (fun q (e : itemsV.ownBlock = some q) => (⟨Nat.le_trans HBW.out.size (hi2 q e).1, (hi2 q e).2⟩ : w.heap.size ≤ q ∧ q < w3.heap.size)));have HS2 := Lib.hid (HS.out _ HB3.out itemsV hi1);clear hi1 hi2 hi3 hb3 hdl q0 q1 q2 q3 q4 q5 qf;subst hti;go_wp2_with fail;refine (HS2.out).mono ?_;rintro e w4 ⟨rfl, hb4⟩;have hzd : ∀ z : Sz, szV z = .agg #[.int .i64 z.nodes, .int .i64 z.bytes, .int .i64 z.depth] := fun _ => rfl
 obtain ⟨z, hz⟩ : ∃ z : Sz, sumSz 0 ((items.drop (vals.length - n)).map Tr.sized) = z := ⟨_, rfl⟩;have HZ := Lib.hid hz;rw [hz, hzd];have HB4 := Lib.hid (chain HB3.out hb4);have G4 := Lib.hid (keep G3.out hb4);have HI4 := Lib.hid (HIT.out.1.keeps (Keeps.of_below (fun _ => False) hb4) (fun _ _ => id));clear hb4 hz hzd;go_wp2_with fail;have hx := heap_alloc_new w4 (.cells #[.int .i64 z.nodes, .int .i64 z.bytes, .int .i64 z.depth, .slice ta n tc] 186);have hbx := HB4.out.alloc HB4.out.size (.cells #[.int .i64 z.nodes, .int .i64 z.bytes, .int .i64 z.depth, .slice ta n tc] 186);refine (group_over_list _ b n w4.heap.size z.nodes z.bytes z.depth _ _ hx rfl rfl rfl (by have := HZW.out; rw [HZ.out] at this; exact this) (by have := HZB.out; rw [HZ.out] at this; exact this.1) (by have := HZB.out; rw [HZ.out] at this; exact this.2.1) (by have := HZB.out; rw [HZ.out] at this; exact this.2.2)).mono ?_;rintro e w5 ⟨rfl, hb5⟩;have GE := Lib.hid (keep (keep G4.out ((Below.refl _ _).alloc (Nat.le_refl _) _)) hb5);have HBE := Lib.hid (chain hbx hb5);clear hx hbx hb5;go_wp2_with fail;refine leaves_cons (f := 211) (args := #[.pointer (some ⟨w.heap.size + 1, 0, none⟩)]) (by simp) (by simp [go_sem]) ?_;refine (doCatch_errno ⟨w.heap.size + 1, 0, none⟩ .nilIface 3 [] _ (cell_of_one GE.out) (free_of_one GE.out)).mono ?_;rintro e u' w'' ⟨rfl, rfl, rfl⟩;have hcs : (w5.setCell ⟨w.heap.size + 1, 0, none⟩ (.iface 29 (.int .i64 3))).cell? ⟨w.heap.size + 1, 0, none⟩ = some (.iface 29 (.int .i64 3)) := by rw [cell_at (set_at GE.out _)]; rfl
 have hend : Below w.heap.size w (w5.setCell ⟨w.heap.size + 1, 0, none⟩ (.iface 29 (.int .i64 3))) := HBE.out.setCell (p := ⟨w.heap.size + 1, 0, none⟩) (Nat.le_succ _) _;simp [Leaves, settle, results, Tryz.results196, go_sem, hcs];exact hend
theorem do_list_ok (w : World) (F : Nat → Prop) (b n : Nat) (V : Value) (vals : List Value) (items : List Tr) (h : w.heap[b]? = some (.cells #[V] 195 (0, 0))) (hw : Win 97 id w V vals) (ht : Trees F w vals items) (hin : ∀ t ∈ items, t.sized.within = true) (hl : items.length ≤ 65536) (hn : n ≤ vals.length) (hz : (sumSz 0 ((items.drop (vals.length - n)).map Tr.sized)).within = true) :
 Calls Tryz.prog 196 #[.pointer (some ⟨b, 0, none⟩), .agg #[.int .i64 5, .bool false, .int .u64 0, .string ⟨#[]⟩, .int .i64 n, .slice none 0 0]] w fun e w' => e = .returned .nilIface ∧ ListDone w b V vals (vals.length - n) (sumSz 0 ((items.drop (vals.length - n)).map Tr.sized)) w' := by
 have hmf : ∀ (fn : Fn) (first cap : Array Value) (w : World), (Instr.makeFunc fn first cap).run Tryz.prog w = .ok (.func fn first cap) w := fun _ _ _ _ => rfl
 have HU := Lib.hid (fun w => used_list w n);have HN := Lib.hid hn;have hvl := ht.1;have HT := Lib.hid (fun w' (hb : Below w.heap.size w w') => take_ok w' b n V vals (keep h hb) (hw.keeps (Keeps.of_below (fun _ => False) hb) (fun _ _ => id)) (by omega) ht.oneCell hn);have HS := Lib.hid (fun w' (hb : Below w.heap.size w w') itemsV (hi : Win 97 id w' itemsV (vals.drop (vals.length - n))) => summed_any F w' itemsV (vals.drop (vals.length - n)) (items.drop (vals.length - n)) 0 hi ((ht.keeps (Keeps.of_below (fun _ => False) hb) (fun _ _ => id)).drop _) (fun t m => hin t (List.mem_of_mem_drop m)) (by rw [List.length_drop]; omega) (by decide));have HZW := Lib.hid hz;have HV := Lib.hid (fun k (e : V.ownBlock = some k) => hw.lt e);have hb0 := lt_of_block h;have HG := Lib.hid (fun w' p z c S (hb : Below w.heap.size w w') hp h0 h1 h2 hz => group_fits_list w' b n p (Sz.nodes z) (Sz.bytes z) (Sz.depth z) c S V vals hp h0 h1 h2 hz (keep h hb) (hw.keeps (Keeps.of_below (fun _ => False) hb) (fun _ _ => id)) (by omega) hn);clear h hw hn ht hin hl hz
 go_enter_defers Tryz.func196, Tryz.ntmps196
 go_wp2_with fail;refine (HU.out _).mono ?_;rintro e w1 ⟨rfl, hb1⟩;obtain ⟨g1, g2, hbw, hsz⟩ := after2 hb1;obtain ⟨q0, q1, q2, q3, q4, q5, qf⟩ := cells6 g1;have G1 := Lib.hid g1;have G2 := Lib.hid g2;have HBW := Lib.hid hbw;clear hb1 g1 g2 hbw;go_wp2_with fail;refine (refuse_no _ 2).mono ?_;rintro e w2 ⟨rfl, rfl⟩;go_wp2_with fail;refine (HT.out _ HBW.out).mono ?_;rintro e w3 ⟨itemsV, rfl, hi1, hi2, hi3⟩;have hb3 := chain HBW.out hi3;obtain ⟨ta, tc, hti⟩ := hi1.shape;obtain ⟨p0, p1, p2, p3, p4, p5, pf⟩ := cells6 (keep G1.out hi3);have G3 := Lib.hid (keep G2.out hi3);have HB3 := Lib.hid hb3;have hdl : (vals.drop (vals.length - n)).length = n := by rw [List.length_drop]; have := HN.out; omega
 rw [hdl] at hti;have HIT := Lib.hid (And.intro hi1 (fun q (e : itemsV.ownBlock = some q) => (⟨Nat.le_trans HBW.out.size (hi2 q e).1, (hi2 q e).2⟩ : w.heap.size ≤ q ∧ q < w3.heap.size)));have HS2 := Lib.hid (HS.out _ HB3.out itemsV hi1);clear hi1 hi2 hi3 hb3 hdl q0 q1 q2 q3 q4 q5 qf;subst hti;go_wp2_with fail;refine (HS2.out).mono ?_;rintro e w4 ⟨rfl, hb4⟩;have hzd : ∀ z : Sz, szV z = .agg #[.int .i64 z.nodes, .int .i64 z.bytes, .int .i64 z.depth] := fun _ => rfl
 obtain ⟨z, hz⟩ : ∃ z : Sz, sumSz 0 ((items.drop (vals.length - n)).map Tr.sized) = z := ⟨_, rfl⟩;have HZ := Lib.hid hz;rw [hz, hzd];have HB4 := Lib.hid (chain HB3.out hb4);have G4 := Lib.hid (keep G3.out hb4);have HI4 := Lib.hid (HIT.out.1.keeps (Keeps.of_below (fun _ => False) hb4) (fun _ _ => id));clear hb4 hz hzd;go_wp2_with fail;have hx := heap_alloc_new w4 (.cells #[.int .i64 z.nodes, .int .i64 z.bytes, .int .i64 z.depth, .slice ta n tc] 186);have hbx := HB4.out.alloc HB4.out.size (.cells #[.int .i64 z.nodes, .int .i64 z.bytes, .int .i64 z.depth, .slice ta n tc] 186);refine (HG.out _ w4.heap.size z _ _ hbx hx rfl rfl rfl (by have := HZW.out; rw [HZ.out] at this; exact this)).mono ?_;rintro e w5 ⟨rfl, hgr⟩;have ha := (Below.refl w4.heap.size w4).alloc (Nat.le_refl _) (.cells #[.int .i64 z.nodes, .int .i64 z.bytes, .int .i64 z.depth, .slice ta n tc] 186);obtain ⟨r0, rf, hput2, rc⟩ := hgr.close (Nat.le_succ _) (keep G4.out ha) HV.out hb0 .nilIface
 have hdone : ListDone w b V vals (vals.length - n) (sumSz 0 ((items.drop (vals.length - n)).map Tr.sized)) (w5.setCell ⟨w.heap.size + 1, 0, none⟩ .nilIface) := by
  rw [HZ.out];exact ⟨_, _, _, _, hbx, Nat.le_succ _, keep G4.out ha, HB4.out.size, hx, HI4.out.keeps (Keeps.of_below (fun _ => False) ha) (fun _ _ => id), fun q e => (HIT.out.2 q e).1, hput2⟩
 have HPUT := Lib.hid hdone;clear hgr hput2 hx hbx ha hdone;go_wp2_with fail;refine leaves_cons (f := 211) (args := #[.pointer (some ⟨w.heap.size + 1, 0, none⟩)]) (by simp) (by simp [go_sem]) ?_;refine (doCatch_idle ⟨w.heap.size + 1, 0, none⟩ _).mono ?_;rintro e u' w'' ⟨rfl, rfl, rfl⟩;have hend := HPUT.out;rw [List.map_drop] at hend;simp [Leaves, settle, results, Tryz.results196, go_sem, rc];exact hend
theorem ListDone.maker {F : Nat → Prop} {w w' : World} {mb : Nat} {V : Value} {vals : List Value} {items : List Tr} {k : Nat} {z : Sz} (hF : F mb) (hlt : ∀ k, F k → k < w.heap.size) (hw : WinIn F 97 id w V vals) (ht : Trees (fun k => F k ∧ k ≠ mb ∧ V.ownBlock ≠ some k) w vals items)
 (hz : z = (Tr.list (items.drop k)).sized) (h : ListDone w mb V vals k z w') : Keeps F w w' ∧ MakerAt (Since F w w') w' mb (items.take k ++ [.list (items.drop k)]) := by
 obtain ⟨w4, R, p, itemsV, hb, hR, hr, hp, hpb, hi, hio, g, off, cap, h1, h2, h3, h4⟩ := h;have hVlt : ∀ q, V.ownBlock = some q → q < w.heap.size := fun q e => hlt q (hw.2 q e)
 have hk : Keeps F w w' := (Keeps.of_below F hb).trans h4 (fun q e => by
  rcases e with e | e | e
  ·exact .inl (e ▸ hF)
  ·exact .inl (hw.2 q e)
  ·exact .inr (e ▸ hR))
 have hmb := hlt mb hF
 have hpn : ¬ (p = mb ∨ V.ownBlock = some p ∨ p = R) := by
  rintro (e | e | e)
  ·omega
  ·have := hVlt p e; omega
  ·rw [e, hr] at hpb;cases hpb
 have hpb' := h4.blk hpb hpn
 have hgp : g ≠ p := fun e => by
  obtain ⟨c, hc⟩ := h2.typed rfl;rw [e, hpb'] at hc;cases hc
 have hgl : ∀ q, q < w4.heap.size → V.ownBlock ≠ some q → g ≠ q := fun q hq hn e => by
  rcases h3 with h3 | h3
  ·exact hn (e ▸ h3)
  ·omega
 refine ⟨hk, .inl hF, since_lt hlt hk.size, _, _, h1, ⟨h2, ?_⟩, ?_⟩
 ·intro q e;cases e;exact h3.elim (fun e => .inl (hw.2 _ e)) (fun hle => .inr ⟨Nat.le_trans hb.size hle, h2.lt rfl⟩)
 ·have hold : ∀ q, (F q ∧ q ≠ mb ∧ V.ownBlock ≠ some q) → Since F w w' q ∧ q ≠ mb ∧ (Value.slice (some ⟨g, off, none⟩) (k + 1) cap).ownBlock ≠ some q := fun q h => ⟨.inl h.1, h.2.1, fun e => by
   cases e;exact hgl g (Nat.lt_of_lt_of_le (hlt g h.1) hb.size) h.2.2 rfl⟩
  have htk := (ht.keeps (Keeps.of_below (fun _ => False) hb) (fun _ _ => id)).keeps h4 (fun q h => by
   rintro (e | e | e)
   ·exact h.2.1 e
   ·exact h.2.2 e
   ·have := hlt q h.1; omega)
  refine Trees.snoc ((htk.take k).mono hold) ?_;subst hz;refine .list p itemsV (vals.drop k) (items.drop k) ⟨.inr ⟨hp, lt_of_block hpb'⟩, by omega, fun e => hgp (by cases e; rfl)⟩ hpb' ⟨hi.keeps h4 ?_, ?_⟩ ((ht.drop k).1) ?_
  ·intro q e;rintro (e2 | e2 | e2)
   ·have := hio q e; omega
   ·have := hVlt q e2; have := hio q e; omega
   ·exact hi.ne hr (by decide) (e.trans (congrArg some e2))
  ·intro q e;have hq4 := hi.lt e;have hq := hio q e;exact ⟨.inr ⟨hq, Nat.lt_of_lt_of_le hq4 h4.size⟩, by omega, fun e2 => hgl q hq4 (fun e3 => by have := hVlt q e3; omega) (by cases e2; rfl)⟩
  ·intro i v t hv hti;exact ((htk.drop k).mono hold).2 i v t hv hti
theorem list_step (w : World) (b n : Nat) (V : Value) (h : w.heap[b]? = some (.cells #[V] 195 (0, 0))) (P : World → World → Prop) (HD : Hid (∀ w1, Below w.heap.size w w1 → Calls Tryz.prog 196 #[.pointer (some ⟨b, 0, none⟩), .agg #[.int .i64 5, .bool false, .int .u64 0, .string ⟨#[]⟩, .int .i64 n, .slice none 0 0]] w1 fun e w' => (∃ v, e = .returned v) ∧ P w1 w')) :
 Calls Tryz.prog 175 #[.pointer (some ⟨b, 0, none⟩), .agg #[.int .i64 5, .bool false, .int .u64 0, .string ⟨#[]⟩, .int .i64 n, .slice none 0 0]] w fun e w' => (∃ v, e = .returned v) ∧ ∃ w1, Below w.heap.size w w1 ∧ P w1 w' := by
 have hal : Below w.heap.size w (w.alloc (.cells #[.int .i64 5, .bool false, .int .u64 0, .string ⟨#[]⟩, .int .i64 n, .slice none 0 0] 147)) := (Below.refl _ _).alloc (Nat.le_refl _) _;obtain ⟨q0, q1, q2, q3, q4, q5, qf⟩ := cells6 (heap_alloc_new w (.cells #[.int .i64 5, .bool false, .int .u64 0, .string ⟨#[]⟩, .int .i64 n, .slice none 0 0] 147));have hc := cell_of_one h;have hb0 := lt_of_block h;have HAL := Lib.hid hal;clear hal h;go_enter Tryz.func175, Tryz.ntmps175;go_wp2_with fail
 go_region_with (go_at_call 196; refine (HD.out _ HAL.out.drew).mono ?_; rintro e w2 ⟨⟨v, rfl⟩, hp⟩)
 all_goals
  have HP := Lib.hid hp;clear hp;go_wp2_with fail;go_ret;exact ⟨⟨_, rfl⟩, _, HAL.out.drew, HP.out⟩
theorem list_call (w : World) (b n : Nat) (V : Value) (h : w.heap[b]? = some (.cells #[V] 195 (0, 0))) (P : World → World → Prop) (HD : Hid (∀ w1, Below w.heap.size w w1 → Calls Tryz.prog 196 #[.pointer (some ⟨b, 0, none⟩), .agg #[.int .i64 5, .bool false, .int .u64 0, .string ⟨#[]⟩, .int .i64 n, .slice none 0 0]] w1 fun e w' => (∃ v, e = .returned v) ∧ P w1 w')) :
 Calls Tryz.prog 173 #[.pointer (some ⟨b, 0, none⟩), .int .i64 n] w fun e w' => (∃ v, e = .returned v) ∧ ∃ w1, Below w.heap.size w w1 ∧ P w1 w' := by
 have HS := Lib.hid (list_step w b n V h P HD);clear HD h;go_enter Tryz.func173, Tryz.ntmps173;go_wp2_with fail;refine (HS.out).mono ?_;rintro e w2 ⟨⟨v, rfl⟩, hp⟩;have HP := Lib.hid hp;clear hp;go_wp2_with fail;go_ret;exact ⟨⟨_, rfl⟩, HP.out⟩
theorem maker_list (F : Nat → Prop) (w : World) (mb : Nat) (items : List Tr) (n : Nat) (h : MakerAt F w mb items) (hin : ∀ t ∈ items, t.sized.within = true) (hl : items.length ≤ 65536) :
 Calls Tryz.prog 173 #[.pointer (some ⟨mb, 0, none⟩), .int .i64 n] w fun e w' => (∃ v, e = .returned v) ∧ Keeps F w w' ∧ MakerAt (Since F w w') w' mb (putList items n) := by
 have h0 := h;obtain ⟨hF, hlt, V, vals, hb, hw, ht⟩ := h;have hvl := ht.1;have hsame : ∀ w', Below w.heap.size w w' → Keeps F w w' ∧ MakerAt (Since F w w') w' mb items := fun w' hbl => ⟨Keeps.of_below F hbl, (h0.apart (Keeps.of_below (fun _ => False) hbl) (fun _ _ => id)).mono (fun k hk => .inl hk) (since_lt hlt hbl.size)⟩
 have hwk : ∀ w1, Below w.heap.size w w1 → Win 97 id w1 V vals := fun w1 hb1 => hw.1.keeps (Keeps.of_below (fun _ => False) hb1) (fun _ _ => id)
 by_cases hfew : items.length < n
 ·have hpn : putList items n = items := by unfold putList; rw [if_pos hfew]
  rw [hpn];refine (list_call w mb n V hb (fun w1 w' => Below w1.heap.size w1 w') (Lib.hid fun w1 hb1 => do_list_few w1 mb n V vals (keep hb hb1) (hwk w1 hb1) (by omega))).mono ?_;rintro e w' ⟨hv, w1, hb1, hb2⟩;exact ⟨hv, hsame _ (chain hb1 hb2)⟩
 ·have hsz : (Tr.list (items.drop (vals.length - n))).sized = sumSz 0 ((items.drop (vals.length - n)).map Tr.sized) := sized_list_eq _
  by_cases hin2 : (Tr.list (items.drop (vals.length - n))).sized.within = true
  ·have hpn : putList items n = items.take (vals.length - n) ++ [.list (items.drop (vals.length - n))] := by
    unfold putList putGroup;rw [if_neg hfew, ← hvl, if_pos hin2]
   rw [hpn];refine (list_call w mb n V hb (fun w1 w' => ListDone w1 mb V vals (vals.length - n) (sumSz 0 ((items.drop (vals.length - n)).map Tr.sized)) w') (Lib.hid fun w1 hb1 => (do_list_ok w1 _ mb n V vals items (keep hb hb1) (hwk w1 hb1) (ht.keeps (Keeps.of_below (fun _ => False) hb1) (fun _ _ => id)) hin hl (by omega) (by rw [← hsz]; exact hin2)).mono (fun e w' h => ⟨⟨_, h.1⟩, h.2⟩))).mono ?_;rintro e w' ⟨hv, w1, hb1, hd⟩;exact ⟨hv, (hd.lift hb1).maker hF hlt hw ht hsz.symm⟩
  ·have hpn : putList items n = items := by
    unfold putList putGroup;rw [if_neg hfew, ← hvl, if_neg hin2]
   rw [hpn];refine (list_call w mb n V hb (fun w1 w' => Below w1.heap.size w1 w') (Lib.hid fun w1 hb1 => do_list_over w1 _ mb n V vals items (keep hb hb1) (hwk w1 hb1) (ht.keeps (Keeps.of_below (fun _ => False) hb1) (fun _ _ => id)) hin hl (by omega) (by rw [← hsz]; simpa using hin2))).mono ?_;rintro e w' ⟨hv, w1, hb1, hb2⟩;exact ⟨hv, hsame _ (chain hb1 hb2)⟩
end Go.Proofs.YtakkmiomhackiaaGreatDoor
