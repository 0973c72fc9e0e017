/-
  The program, one part of its walk: No3, No4. Conditions: none.
-/
import Derived.Test.YtakkmiomhackiaaGreatDoorPc14
import Derived.Test.YtakkmiomhackiaaGreatDoorPc12
set_option linter.all false
set_option maxRecDepth 100000
set_option maxHeartbeats 16000000
namespace Go.Proofs.YtakkmiomhackiaaGreatDoor
open Go.RowKit
theorem doCatch_idle (p : Addr) (w : World) : CallsD Tryz.prog 211 #[.pointer (some p)] .returning w fun e u' w' => e = .returned (.tuple #[]) ∧ u' = .returning ∧ w' = w := by
 refine callsD_of_wpS Tryz.func211 rfl fun c₀ cs hu => ?_
 apply wpS_seq;apply wpS_region;simp [wpOpsS, go_sem, recoverD, hu, Tryz.ntmps211, Exit.thenS, Array.replicate];apply wpS_seq;apply wpS_region;simp [wpOpsS, go_sem, recoverD, hu, Exit.thenS];refine wpS_cond (t := false) (by simp [Act.eval]) ?_;simp only [Bool.false_eq_true, if_false];refine wpS_of_wp (wp_skip ?_);cases c₀
 simp_all [bodyPostS, results, Tryz.results211]
theorem catch_idle (p : Addr) (w : World) : CallsD Tryz.prog 77 #[.pointer (some p)] .returning w fun e u' w' => e = .returned (.tuple #[]) ∧ u' = .returning ∧ w' = w := by
 refine callsD_of_wpS Tryz.func77 rfl fun c₀ cs hu => ?_
 apply wpS_seq;apply wpS_region;simp [wpOpsS, go_sem, recoverD, hu, Tryz.ntmps77, Exit.thenS, Array.replicate];apply wpS_seq;apply wpS_region;simp [wpOpsS, go_sem, recoverD, hu, Exit.thenS];refine wpS_cond (t := false) (by simp [Act.eval]) ?_;simp only [Bool.false_eq_true, if_false];refine wpS_of_wp (wp_skip ?_);cases c₀
 simp_all [bodyPostS, results, Tryz.results77]
theorem catch_spot (p : Addr) (x : Value) (no at_ : Nat) (older : List PanicEntry) (w : World) (hc : w.cell? p = some x) (hz : w.frozen? p = false) :
 CallsD Tryz.prog 77 #[.pointer (some p)] (.panicking ({ v := .iface 151 (.agg #[.int .i64 no, .int .i64 at_]), recovered := false } :: older)) w fun e u' w' =>
  e = .returned (.tuple #[]) ∧ u' = .panicking ({ v := .iface 151 (.agg #[.int .i64 no, .int .i64 at_]), recovered := true } :: older) ∧ w' = w.setCell p (.iface 151 (.agg #[.int .i64 no, .int .i64 at_])) := by
 have hta : ∀ w : World, (Instr.typeAssert (.iface 151 (.agg #[.int .i64 no, .int .i64 at_])) 20 151 false).run Tryz.prog w = .ok (.agg #[.int .i64 no, .int .i64 at_]) w := fun _ => by kernel_rfl
 refine callsD_of_wpS Tryz.func77 rfl fun c₀ cs hu => ?_
 apply wpS_seq;apply wpS_region;simp [wpOpsS, go_sem, recoverD, hu, Tryz.ntmps77, Exit.thenS, Array.replicate];apply wpS_seq;apply wpS_region;simp [wpOpsS, go_sem, recoverD, hu, Exit.thenS];refine wpS_cond (t := true) (by simp [Act.eval]) ?_;simp only [if_true];apply wpS_region;simp [wpOpsS, go_sem, hc, hz, hta, bodyPostS, results, Tryz.results77]
theorem cells6 {w : World} {b : Nat} {v0 v1 v2 v3 v4 v5 : Value} {T : TypeId} (h : w.heap[b]? = some (.cells #[v0, v1, v2, v3, v4, v5] T (0, 0))) :
 w.cell? ⟨b, 0, none⟩ = some v0 ∧ w.cell? ⟨b, 1, none⟩ = some v1 ∧ w.cell? ⟨b, 2, none⟩ = some v2 ∧ w.cell? ⟨b, 3, none⟩ = some v3 ∧ w.cell? ⟨b, 4, none⟩ = some v4 ∧ w.cell? ⟨b, 5, none⟩ = some v5 ∧ ∀ o, w.frozen? ⟨b, o, none⟩ = false :=
 ⟨cell_at h, cell_at h, cell_at h, cell_at h, cell_at h, cell_at h, free_at h⟩
theorem PutRet.close {w w1 w2 : World} {b : Nat} {V : Value} {vals : List Value} {T : TypeId} {v : Value} {R : Nat} {u0 : Value} (hb : Below w.heap.size w w1) (hR : w.heap.size ≤ R) (hr1 : w1.heap[R]? = some (.cells #[u0] 26 (0, 0))) (hwV : ∀ k, V.ownBlock = some k → k < w.heap.size) (hbl : b < w.heap.size) (h : PutRet w1 b V vals T v w2) (u : Value) :
 w2.cell? ⟨R, 0, none⟩ = some u0 ∧ w2.frozen? ⟨R, 0, none⟩ = false ∧ PutRet w b V vals T v (w2.setCell ⟨R, 0, none⟩ u) ∧ (w2.setCell ⟨R, 0, none⟩ u).cell? ⟨R, 0, none⟩ = some u := by
 obtain ⟨g, off, cap, h1, h2, h3, h4⟩ := h
 have hne : ¬ (R = b ∨ V.ownBlock = some R) := by
  rintro (e | e)
  ·omega
  ·have := hwV R e; omega
 have hr2 := h4.blk hr1 hne;refine ⟨cell_of_one hr2, free_of_one hr2, ⟨g, off, cap, (set_else u (by omega)).trans h1, ?_, h3.elim .inl (fun h => .inr (Nat.le_trans hb.size h)), ((Keeps.of_below _ hb).same h4).setCell (p := ⟨R, 0, none⟩) (.inr hR) _⟩, ?_⟩
 ·have hk : Keeps (fun k => k = R) w2 (w2.setCell ⟨R, 0, none⟩ u) := (Keeps.refl (fun k => k = R) w2).setCell (p := ⟨R, 0, none⟩) (.inl rfl) _;exact h2.keeps hk (fun k e hk => h2.ne hr2 (by decide) (e.trans (congrArg some hk)))
 ·rw [cell_at (set_at hr2 u)]; rfl
theorem do_num (w : World) (b : Nat) (V : Value) (vals : List Value) (x : Nat) (hx : Finite x) (h : w.heap[b]? = some (.cells #[V] 195 (0, 0))) (hw : Win 97 id w V vals) (hl : vals.length ≤ 1048576) :
 Calls Tryz.prog 196 #[.pointer (some ⟨b, 0, none⟩), .agg #[.int .i64 3, .bool false, .int .u64 x, .string ⟨#[]⟩, .int .i64 0, .slice none 0 0]] w fun e w' => e = .returned .nilIface ∧ PutRet w b V vals 179 (.float .f64 (zeroed x)) w' := by
 have hmf : ∀ (fn : Fn) (first cap : Array Value) (w : World), (Instr.makeFunc fn first cap).run Tryz.prog w = .ok (.func fn first cap) w := fun _ _ _ _ => rfl
 have HU := Lib.hid (fun w => used_num w x);have hfr := f64from_run x;have HN := Lib.hid (fun w => isNaN_any x w hx);have HI := Lib.hid (fun w => isInf_any x w hx);have hb0 := lt_of_block h;have HP := Lib.hid (fun w' y (hb : Below w.heap.size w w') => put_num w' b V vals y (keep h hb) (hw.keeps (Keeps.of_below (fun _ => False) hb) (fun _ _ => id)) hl);have HVL := Lib.hid (fun k (hk : V.ownBlock = some k) => hw.lt hk);have hoz := order_zero (finite_mod hx)
 obtain ⟨z, hz, hz2⟩ : ∃ z : Bool, (FloatKind.f64.format.order x 0 == some .eq) = z ∧ zeroed x = (if z then 0 else x) := by
  refine ⟨_, rfl, ?_⟩;rw [hoz];unfold zeroed;unfold Finite most at hx
  by_cases h0 : x % 9223372036854775808 = 0
  ·rw [decide_eq_true h0]; simp; omega
  ·rw [decide_eq_false h0, if_neg (by omega)]; simp
 have HZ2 := Lib.hid hz2;clear h hw hx hoz hz2;cases z
 all_goals
  go_enter_defers Tryz.func196, Tryz.ntmps196
  go_wp2_with fail;refine (HU.out _).mono ?_;rintro e w1 ⟨rfl, hb1⟩;obtain ⟨g1, g2, hbw, hsz⟩ := after2 hb1;obtain ⟨q0, q1, q2, q3, q4, q5, qf⟩ := cells6 g1;have G2 := Lib.hid g2;have HBW := Lib.hid hbw;clear hb1 g1 g2 hbw;go_wp2_with fail;refine (refuse_no _ 2).mono ?_;rintro e w2 ⟨rfl, rfl⟩;go_wp2_with fail;refine (HN.out _).mono ?_;rintro e w3 ⟨rfl, rfl⟩;go_wp2_with fail;refine (HI.out _).mono ?_;rintro e w3 ⟨rfl, rfl⟩;go_wp2_with fail;refine (refuse_no _ 104).mono ?_;rintro e w3 ⟨rfl, rfl⟩;go_wp2_with fail;refine (HP.out _ _ HBW.out).mono ?_;rintro e w4 ⟨rfl, hput⟩;obtain ⟨r0, rf, hput2, rc⟩ := hput.close HBW.out (Nat.le_succ _) G2.out HVL.out hb0 .nilIface;have HPUT := Lib.hid hput2;clear hput hput2;go_wp2_with fail;refine leaves_cons (f := 211) (args := #[.pointer (some ⟨w.heap.size + 1, 0, none⟩)]) (by simp) (by simp [go_sem]) ?_;refine (doCatch_idle ⟨w.heap.size + 1, 0, none⟩ _).mono ?_;rintro e u' w'' ⟨rfl, rfl, rfl⟩;have hend := HPUT.out;have hze := HZ2.out;simp only [Bool.false_eq_true, if_false, if_true] at hze;rw [hze];simp [Leaves, settle, results, Tryz.results196, go_sem, rc];exact hend
theorem do_text (w : World) (b : Nat) (V : Value) (vals : List Value) (s : ByteArray) (hr : rightOf s.data.toList = true) (hs : s.size ≤ 2097152) (h : w.heap[b]? = some (.cells #[V] 195 (0, 0))) (hw : Win 97 id w V vals) (hl : vals.length ≤ 1048576) :
 Calls Tryz.prog 196 #[.pointer (some ⟨b, 0, none⟩), .agg #[.int .i64 4, .bool false, .int .u64 0, .string s, .int .i64 0, .slice none 0 0]] w fun e w' => e = .returned .nilIface ∧ PutRet w b V vals 180 (.string s) w' := by
 have hmf : ∀ (fn : Fn) (first cap : Array Value) (w : World), (Instr.makeFunc fn first cap).run Tryz.prog w = .ok (.func fn first cap) w := fun _ _ _ _ => rfl
 have HU := Lib.hid (fun w => used_text w s);have hri := fun w => right_any s w (by omega)
 rw [hr] at hri;have HRI := Lib.hid hri;have hb0 := lt_of_block h;have HP := Lib.hid (fun w' (hb : Below w.heap.size w w') => put_text w' b V vals s hs (keep h hb) (hw.keeps (Keeps.of_below (fun _ => False) hb) (fun _ _ => id)) hl);have HVL := Lib.hid (fun k (hk : V.ownBlock = some k) => hw.lt hk);clear h hw hr hs hri
 go_enter_defers Tryz.func196, Tryz.ntmps196
 go_wp2_with fail;refine (HU.out _).mono ?_;rintro e w1 ⟨rfl, hb1⟩;obtain ⟨g1, g2, hbw, hsz⟩ := after2 hb1;obtain ⟨q0, q1, q2, q3, q4, q5, qf⟩ := cells6 g1;have G1 := Lib.hid g1;have G2 := Lib.hid g2;have HBW := Lib.hid hbw;clear hb1 g1 g2 hbw;go_wp2_with fail;refine (refuse_no _ 2).mono ?_;rintro e w2 ⟨rfl, rfl⟩;go_wp2_with fail;refine (HRI.out _).mono ?_;rintro e w3 ⟨rfl, hb3⟩;have hbw := chain HBW.out hb3;have g1 := keep G1.out hb3;have g2 := keep G2.out hb3;have HBW3 := Lib.hid hbw;obtain ⟨p0, p1, p2, p3, p4, p5, pf⟩ := cells6 g1;have G3 := Lib.hid g2;clear hb3 hbw g1 g2 q0 q1 q2 q3 q4 q5 qf;go_wp2_with fail;refine (refuse_no _ 100).mono ?_;rintro e w4 ⟨rfl, rfl⟩;go_wp2_with fail;refine (HP.out _ HBW3.out).mono ?_;rintro e w5 ⟨rfl, hput⟩;obtain ⟨r0, rf, hput2, rc⟩ := hput.close HBW3.out (Nat.le_succ _) G3.out HVL.out hb0 .nilIface;have HPUT := Lib.hid hput2;clear hput hput2;go_wp2_with fail;refine leaves_cons (f := 211) (args := #[.pointer (some ⟨w.heap.size + 1, 0, none⟩)]) (by simp) (by simp [go_sem]) ?_;refine (doCatch_idle ⟨w.heap.size + 1, 0, none⟩ _).mono ?_;rintro e u' w'' ⟨rfl, rfl, rfl⟩;have hend := HPUT.out;simp [Leaves, settle, results, Tryz.results196, go_sem, rc];exact hend
theorem step_num (w : World) (b : Nat) (V : Value) (vals : List Value) (x : Nat) (hx : Finite x) (h : w.heap[b]? = some (.cells #[V] 195 (0, 0))) (hw : Win 97 id w V vals) (hl : vals.length ≤ 1048576) (hlt : vals.length < 65536) :
 Calls Tryz.prog 175 #[.pointer (some ⟨b, 0, none⟩), .agg #[.int .i64 3, .bool false, .int .u64 x, .string ⟨#[]⟩, .int .i64 0, .slice none 0 0]] w fun e w' => e = .returned .nilIface ∧ PutRet w b V vals 179 (.float .f64 (zeroed x)) w' := by
 have hal : Below w.heap.size w (w.alloc (.cells #[.int .i64 3, .bool false, .int .u64 x, .string ⟨#[]⟩, .int .i64 0, .slice none 0 0] 147)) := (Below.refl _ _).alloc (Nat.le_refl _) _;have HD := Lib.hid (fun w1 (hb : Below w.heap.size w w1) => do_num w1 b V vals x hx (keep h hb) (hw.keeps (Keeps.of_below (fun _ => False) hb) (fun _ _ => id)) hl);have hc := cell_of_one h;have hb0 := lt_of_block h;obtain ⟨ta, tc, htv⟩ := hw.shape;have hge : decide (65536 ≤ vals.length) = false := decide_eq_false (by omega);have hge2 : ¬ 65536 ≤ vals.length := by omega
 have hge3 : ¬ (65536 : Int) ≤ (vals.length : Int) := by omega
 obtain ⟨q0, q1, q2, q3, q4, q5, qf⟩ := cells6 (heap_alloc_new w (.cells #[.int .i64 3, .bool false, .int .u64 x, .string ⟨#[]⟩, .int .i64 0, .slice none 0 0] 147));have HAL := Lib.hid hal;clear h hw hlt hal;subst htv;go_enter Tryz.func175, Tryz.ntmps175;go_wp2_with fail
 go_region_with (go_at_call 196; refine (HD.out _ HAL.out.drew).mono ?_; rintro e w2 ⟨rfl, hput⟩)
 all_goals
  obtain ⟨g, off, cap, h1, h2, h3, h4⟩ := hput;have H1 := Lib.hid h1;have H2 := Lib.hid h2;have H3 := Lib.hid h3;have H4 := Lib.hid h4;clear h1 h2 h3 h4;go_wp2_with fail;go_ret;exact ⟨rfl, g, off, cap, H1.out, H2.out, H3.out.elim .inl (fun h => .inr (Nat.le_trans (by simp) h)), (Keeps.of_below _ HAL.out.drew).same H4.out⟩
theorem step_num_full (w : World) (b : Nat) (V : Value) (vals : List Value) (x : Nat) (hx : Finite x) (h : w.heap[b]? = some (.cells #[V] 195 (0, 0))) (hw : Win 97 id w V vals) (hlt : 65536 ≤ vals.length) :
 Calls Tryz.prog 175 #[.pointer (some ⟨b, 0, none⟩), .agg #[.int .i64 3, .bool false, .int .u64 x, .string ⟨#[]⟩, .int .i64 0, .slice none 0 0]] w fun e w' => (∃ v, e = .returned v) ∧ Below w.heap.size w w' := by
 have hal : Below w.heap.size w (w.alloc (.cells #[.int .i64 3, .bool false, .int .u64 x, .string ⟨#[]⟩, .int .i64 0, .slice none 0 0] 147)) := (Below.refl _ _).alloc (Nat.le_refl _) _;have hc := cell_of_one h;have hb0 := lt_of_block h;obtain ⟨ta, tc, htv⟩ := hw.shape;have hge : decide (65536 ≤ vals.length) = true := decide_eq_true hlt;have hge3 : (65536 : Int) ≤ (vals.length : Int) := by omega
 obtain ⟨q0, q1, q2, q3, q4, q5, qf⟩ := cells6 (heap_alloc_new w (.cells #[.int .i64 3, .bool false, .int .u64 x, .string ⟨#[]⟩, .int .i64 0, .slice none 0 0] 147));have HAL := Lib.hid hal;clear h hw hal;subst htv;go_enter Tryz.func175, Tryz.ntmps175;go_wp2_with fail;go_ret;exact ⟨⟨_, rfl⟩, HAL.out⟩
theorem step_text (w : World) (b : Nat) (V : Value) (vals : List Value) (s : ByteArray) (hr : rightOf s.data.toList = true) (hs : s.size ≤ 2097152) (h : w.heap[b]? = some (.cells #[V] 195 (0, 0))) (hw : Win 97 id w V vals) (hl : vals.length ≤ 1048576) (hlt : vals.length < 65536) :
 Calls Tryz.prog 175 #[.pointer (some ⟨b, 0, none⟩), .agg #[.int .i64 4, .bool false, .int .u64 0, .string s, .int .i64 0, .slice none 0 0]] w fun e w' => e = .returned .nilIface ∧ PutRet w b V vals 180 (.string s) w' := by
 have hal : Below w.heap.size w (w.alloc (.cells #[.int .i64 4, .bool false, .int .u64 0, .string s, .int .i64 0, .slice none 0 0] 147)) := (Below.refl _ _).alloc (Nat.le_refl _) _;have HD := Lib.hid (fun w1 (hb : Below w.heap.size w w1) => do_text w1 b V vals s hr hs (keep h hb) (hw.keeps (Keeps.of_below (fun _ => False) hb) (fun _ _ => id)) hl);have hc := cell_of_one h;have hb0 := lt_of_block h;obtain ⟨ta, tc, htv⟩ := hw.shape;have hge : decide (65536 ≤ vals.length) = false := decide_eq_false (by omega);have hge2 : ¬ 65536 ≤ vals.length := by omega
 have hge3 : ¬ (65536 : Int) ≤ (vals.length : Int) := by omega
 obtain ⟨q0, q1, q2, q3, q4, q5, qf⟩ := cells6 (heap_alloc_new w (.cells #[.int .i64 4, .bool false, .int .u64 0, .string s, .int .i64 0, .slice none 0 0] 147));have HAL := Lib.hid hal;clear h hw hlt hal;subst htv;go_enter Tryz.func175, Tryz.ntmps175;go_wp2_with fail
 go_region_with (go_at_call 196; refine (HD.out _ HAL.out.drew).mono ?_; rintro e w2 ⟨rfl, hput⟩)
 all_goals
  obtain ⟨g, off, cap, h1, h2, h3, h4⟩ := hput;have H1 := Lib.hid h1;have H2 := Lib.hid h2;have H3 := Lib.hid h3;have H4 := Lib.hid h4;clear h1 h2 h3 h4;go_wp2_with fail;go_ret;exact ⟨rfl, g, off, cap, H1.out, H2.out, H3.out.elim .inl (fun h => .inr (Nat.le_trans (by simp) h)), (Keeps.of_below _ HAL.out.drew).same H4.out⟩
theorem step_text_full (w : World) (b : Nat) (V : Value) (vals : List Value) (s : ByteArray) (hr : rightOf s.data.toList = true) (hs : s.size ≤ 2097152) (h : w.heap[b]? = some (.cells #[V] 195 (0, 0))) (hw : Win 97 id w V vals) (hlt : 65536 ≤ vals.length) :
 Calls Tryz.prog 175 #[.pointer (some ⟨b, 0, none⟩), .agg #[.int .i64 4, .bool false, .int .u64 0, .string s, .int .i64 0, .slice none 0 0]] w fun e w' => (∃ v, e = .returned v) ∧ Below w.heap.size w w' := by
 have hal : Below w.heap.size w (w.alloc (.cells #[.int .i64 4, .bool false, .int .u64 0, .string s, .int .i64 0, .slice none 0 0] 147)) := (Below.refl _ _).alloc (Nat.le_refl _) _;have hc := cell_of_one h;have hb0 := lt_of_block h;obtain ⟨ta, tc, htv⟩ := hw.shape;have hge : decide (65536 ≤ vals.length) = true := decide_eq_true hlt;have hge3 : (65536 : Int) ≤ (vals.length : Int) := by omega
 obtain ⟨q0, q1, q2, q3, q4, q5, qf⟩ := cells6 (heap_alloc_new w (.cells #[.int .i64 4, .bool false, .int .u64 0, .string s, .int .i64 0, .slice none 0 0] 147));have HAL := Lib.hid hal;clear h hw hal;subst htv;go_enter Tryz.func175, Tryz.ntmps175;go_wp2_with fail;go_ret;exact ⟨⟨_, rfl⟩, HAL.out⟩
def encS (k : List UInt8) : Value := .string ⟨k.toArray⟩
inductive TreeAt (F : Nat → Prop) (w : World) : Value → Tr → Prop
 | null : TreeAt F w (.iface 177 (.agg #[])) .null
 | flag (b : Bool) : TreeAt F w (.iface 178 (.bool b)) (.flag b)
 | num (x : Nat) : TreeAt F w (.iface 179 (.float .f64 x)) (.num x)
 | text (s : List UInt8) : TreeAt F w (.iface 180 (.string ⟨s.toArray⟩)) (.text s)
 | list (b : Nat) (itemsV : Value) (vals : List Value) (l : List Tr) (hb : F b) (hblk : w.heap[b]? = some (.cells #[.int .i64 (Tr.list l).sized.nodes, .int .i64 (Tr.list l).sized.bytes, .int .i64 (Tr.list l).sized.depth, itemsV] 186 (0, 0)))
  (hw : WinIn F 97 id w itemsV vals) (hlen : vals.length = l.length) (ht : ∀ (i : Nat) (v : Value) (t : Tr), vals[i]? = some v → l[i]? = some t → TreeAt F w v t) : TreeAt F w (.iface 181 (.pointer (some ⟨b, 0, none⟩))) (.list l)
 | object (b : Nat) (keysV itemsV : Value) (vals : List Value) (keys : List (List UInt8)) (l : List Tr) (hb : F b) (hblk : w.heap[b]? = some (.cells #[.int .i64 (Tr.object keys l).sized.nodes, .int .i64 (Tr.object keys l).sized.bytes, .int .i64 (Tr.object keys l).sized.depth, keysV, itemsV] 189 (0, 0)))
  (hk : WinIn F 9 encS w keysV keys) (hw : WinIn F 97 id w itemsV vals) (hlen : vals.length = l.length) (ht : ∀ (i : Nat) (v : Value) (t : Tr), vals[i]? = some v → l[i]? = some t → TreeAt F w v t) : TreeAt F w (.iface 187 (.pointer (some ⟨b, 0, none⟩))) (.object keys l)
theorem TreeAt.keeps {F G : Nat → Prop} {w w' : World} {v : Value} {t : Tr} (h : TreeAt F w v t) (hkp : Keeps G w w') (hd : ∀ k, F k → ¬ G k) : TreeAt F w' v t := by
 induction h with
 | null => exact .null
 | flag b => exact .flag b
 | num x => exact .num x
 | text s => exact .text s
 | list b itemsV vals l hb hblk hw hlen ht ih => exact .list b itemsV vals l hb (hkp.blk hblk (hd b hb)) ⟨hw.1.keeps hkp (fun k e => hd k (hw.2 k e)), hw.2⟩ hlen ih
 | object b keysV itemsV vals keys l hb hblk hk hw hlen ht ih => exact .object b keysV itemsV vals keys l hb (hkp.blk hblk (hd b hb)) ⟨hk.1.keeps hkp (fun k e => hd k (hk.2 k e)), hk.2⟩ ⟨hw.1.keeps hkp (fun k e => hd k (hw.2 k e)), hw.2⟩ hlen ih
theorem TreeAt.mono {F G : Nat → Prop} {w : World} {v : Value} {t : Tr} (h : TreeAt F w v t) (hf : ∀ k, F k → G k) : TreeAt G w v t := by
 induction h with
 | null => exact .null
 | flag b => exact .flag b
 | num x => exact .num x
 | text s => exact .text s
 | list b itemsV vals l hb hblk hw hlen ht ih => exact .list b itemsV vals l (hf b hb) hblk (hw.mono hf) hlen ih
 | object b keysV itemsV vals keys l hb hblk hk hw hlen ht ih => exact .object b keysV itemsV vals keys l (hf b hb) hblk (hk.mono hf) (hw.mono hf) hlen ih
theorem TreeAt.iface {F : Nat → Prop} {w : World} {v : Value} {t : Tr} (h : TreeAt F w v t) : ∃ T x, v = .iface T x := by
 cases h <;> exact ⟨_, _, rfl⟩
def TreeT (w : World) (k : Nat) : Prop := ∃ (c : Array Value) (T : TypeId), w.heap[k]? = some (.cells c T (0, 0)) ∧ (T = 186 ∨ T = 189 ∨ T = 97 ∨ T = 9)
theorem Win.typed {α : Type} {e : Nat} {enc : α → Value} {w : World} {v : Value} {l : List α} (h : Win e enc w v l) {k : Nat} (hk : v.ownBlock = some k) : ∃ (c : Array Value), w.heap[k]? = some (.cells c e (0, 0)) := by
 rcases h with ⟨rfl, _⟩ | ⟨g, off, cap, cur, rfl, hg, _⟩
 ·cases hk
 ·cases hk; exact ⟨_, hg⟩
theorem TreeAt.typed {F : Nat → Prop} {w : World} {v : Value} {t : Tr} (h : TreeAt F w v t) : TreeAt (fun k => F k ∧ TreeT w k) w v t := by
 induction h with
 | null => exact .null
 | flag b => exact .flag b
 | num x => exact .num x
 | text s => exact .text s
 | list b itemsV vals l hb hblk hw hlen ht ih =>
  exact .list b itemsV vals l ⟨hb, _, _, hblk, .inl rfl⟩ hblk ⟨hw.1, fun k e => ⟨hw.2 k e, by obtain ⟨c, hc⟩ := hw.1.typed e; exact ⟨_, _, hc, .inr (.inr (.inl rfl))⟩⟩⟩ hlen ih
 | object b keysV itemsV vals keys l hb hblk hk hw hlen ht ih =>
  exact .object b keysV itemsV vals keys l ⟨hb, _, _, hblk, .inr (.inl rfl)⟩ hblk ⟨hk.1, fun k e => ⟨hk.2 k e, by obtain ⟨c, hc⟩ := hk.1.typed e; exact ⟨_, _, hc, .inr (.inr (.inr rfl))⟩⟩⟩ ⟨hw.1, fun k e => ⟨hw.2 k e, by obtain ⟨c, hc⟩ := hw.1.typed e; exact ⟨_, _, hc, .inr (.inr (.inl rfl))⟩⟩⟩ hlen ih
def Trees (F : Nat → Prop) (w : World) (vals : List Value) (items : List Tr) : Prop := vals.length = items.length ∧ ∀ (i : Nat) (v : Value) (t : Tr), vals[i]? = some v → items[i]? = some t → TreeAt F w v t
theorem Trees.keeps {F G : Nat → Prop} {w w' : World} {vals : List Value} {items : List Tr} (h : Trees F w vals items) (hk : Keeps G w w') (hd : ∀ k, F k → ¬ G k) : Trees F w' vals items :=
 ⟨h.1, fun i v t hv ht => (h.2 i v t hv ht).keeps hk hd⟩
theorem Trees.mono {F G : Nat → Prop} {w : World} {vals : List Value} {items : List Tr} (h : Trees F w vals items) (hf : ∀ k, F k → G k) : Trees G w vals items :=
 ⟨h.1, fun i v t hv ht => (h.2 i v t hv ht).mono hf⟩
theorem Trees.snoc {F : Nat → Prop} {w : World} {vals : List Value} {items : List Tr} {v : Value} {t : Tr} (h : Trees F w vals items) (ht : TreeAt F w v t) : Trees F w (vals ++ [v]) (items ++ [t]) := by
 refine ⟨by simp [h.1], fun i x y hx hy => ?_⟩
 by_cases hi : i < vals.length
 ·rw [List.getElem?_append_left hi] at hx;rw [List.getElem?_append_left (by have := h.1; omega)] at hy;exact h.2 i x y hx hy
 ·rw [List.getElem?_append_right (by omega)] at hx;rw [List.getElem?_append_right (by have := h.1; omega)] at hy
  have hl : i - vals.length = 0 := by
   have := (List.getElem?_eq_some_iff.1 hx).1;simp at this; omega
  have hl2 : i - items.length = 0 := by have := h.1; omega
  rw [hl] at hx;rw [hl2] at hy;simp at hx hy;subst hx; subst hy;exact ht
def MakerAt (F : Nat → Prop) (w : World) (mb : Nat) (items : List Tr) : Prop :=
 F mb ∧ (∀ k, F k → k < w.heap.size) ∧ ∃ V vals, w.heap[mb]? = some (.cells #[V] 195 (0, 0)) ∧ WinIn F 97 id w V vals ∧ Trees (fun k => F k ∧ k ≠ mb ∧ V.ownBlock ≠ some k) w vals items
theorem MakerAt.apart {F G : Nat → Prop} {w w' : World} {mb : Nat} {items : List Tr} (h : MakerAt F w mb items) (hk : Keeps G w w') (hd : ∀ k, F k → ¬ G k) : MakerAt F w' mb items := by
 obtain ⟨hF, hlt, V, vals, hb, hw, ht⟩ := h;exact ⟨hF, fun k hk' => Nat.lt_of_lt_of_le (hlt k hk') hk.size, V, vals, hk.blk hb (hd mb hF), ⟨hw.1.keeps hk fun k e => hd k (hw.2 k e), hw.2⟩, ht.keeps hk fun k h => hd k h.1⟩
theorem MakerAt.mono {F G : Nat → Prop} {w : World} {mb : Nat} {items : List Tr} (h : MakerAt F w mb items) (hf : ∀ k, F k → G k) (hlt : ∀ k, G k → k < w.heap.size) : MakerAt G w mb items := by
 obtain ⟨hF, _, V, vals, hb, hw, ht⟩ := h;exact ⟨hf _ hF, hlt, V, vals, hb, hw.mono hf, ht.mono fun k h => ⟨hf k h.1, h.2⟩⟩
theorem PutRet.maker {F : Nat → Prop} {w w' : World} {mb : Nat} {V : Value} {vals : List Value} {items : List Tr} {T : TypeId} {v : Value} {t : Tr} (hF : F mb) (hlt : ∀ k, F k → k < w.heap.size) (hw : WinIn F 97 id w V vals) (ht : Trees (fun k => F k ∧ k ≠ mb ∧ V.ownBlock ≠ some k) w vals items)
 (htr : ∀ G w, TreeAt G w (.iface T v) t) (h : PutRet w mb V vals T v w') : Keeps F w w' ∧ MakerAt (Since F w w') w' mb (items ++ [t]) := by
 obtain ⟨g, off, cap, h1, h2, h3, h4⟩ := h;have hk : Keeps F w w' := h4.mono fun k hk => hk.elim (fun e => e ▸ hF) (fun e => hw.2 k e)
 refine ⟨hk, .inl hF, since_lt hlt hk.size, _, vals ++ [.iface T v], h1, ⟨by simpa using h2, ?_⟩, ?_⟩
 ·intro k hk3;cases hk3;exact h3.elim (fun e => .inl (hw.2 _ e)) (fun hle => .inr ⟨hle, h2.lt rfl⟩)
 ·refine Trees.snoc ?_ (htr _ _);refine (ht.keeps h4 fun k h => ?_).mono fun k h => ⟨.inl h.1, h.2.1, ?_⟩
  ·rintro (e | e)
   ·exact h.2.1 e
   ·exact h.2.2 e
  ·intro e;cases e;exact h3.elim (fun e => h.2.2 e) (fun hle => absurd (hlt _ h.1) (Nat.not_lt.2 hle))
theorem maker_num (F : Nat → Prop) (w : World) (mb : Nat) (items : List Tr) (x : Nat) (hx : Finite x) (h : MakerAt F w mb items) (hl : items.length ≤ 1048576) :
 Calls Tryz.prog 154 #[.pointer (some ⟨mb, 0, none⟩), .float .f64 x] w fun e w' => (∃ v, e = .returned v) ∧ Keeps F w w' ∧ MakerAt (Since F w w') w' mb (putNum items x) := by
 have h0 := h;obtain ⟨hF, hlt, V, vals, hb, hw, ht⟩ := h;have hfb := f64bits_run x;have hvl := ht.1
 by_cases hfull : 65536 ≤ items.length
 ·have hpn : putNum items x = items := by unfold putNum putScalar; rw [if_pos hfull]
  rw [hpn];have HS := Lib.hid (step_num_full w mb V vals x hx hb hw.1 (by omega));have H0 := Lib.hid h0;have HLT := Lib.hid hlt;clear h0 hb hw ht hvl hfull hpn hF hlt hx;go_enter Tryz.func154, Tryz.ntmps154;go_wp2_with fail;refine (HS.out).mono ?_;rintro e w1 ⟨⟨v, rfl⟩, hbl⟩;have HB := Lib.hid hbl;clear hbl;go_wp2_with fail;go_ret;exact ⟨⟨_, rfl⟩, Keeps.of_below F HB.out, (H0.out.apart (Keeps.of_below (fun _ => False) HB.out) (fun _ _ => id)).mono (fun k hk => .inl hk) (since_lt HLT.out HB.out.size)⟩
 ·have hpn : putNum items x = items ++ [.num (zeroed x)] := by unfold putNum putScalar putItem; rw [if_neg hfull]; simp [Tr.sized, Sz.within]
  rw [hpn];have HS := Lib.hid (step_num w mb V vals x hx hb hw.1 (by omega) (by omega));have HM := Lib.hid (fun w' (h : PutRet w mb V vals 179 (.float .f64 (zeroed x)) w') => h.maker (t := .num (zeroed x)) hF hlt hw ht (fun _ _ => .num _));clear h0 hb hw ht hvl hfull hpn hF hlt hx;go_enter Tryz.func154, Tryz.ntmps154;go_wp2_with fail;refine (HS.out).mono ?_;rintro e w1 ⟨rfl, hput⟩;have HB := Lib.hid (HM.out _ hput);clear hput;go_wp2_with fail;go_ret;exact ⟨⟨_, rfl⟩, HB.out.1, HB.out.2⟩
theorem maker_text (F : Nat → Prop) (w : World) (mb : Nat) (items : List Tr) (l : List UInt8) (hr : rightOf l = true) (hs : l.length ≤ 2097152) (h : MakerAt F w mb items) (hl : items.length ≤ 1048576) :
 Calls Tryz.prog 150 #[.pointer (some ⟨mb, 0, none⟩), .string ⟨l.toArray⟩] w fun e w' => (∃ v, e = .returned v) ∧ Keeps F w w' ∧ MakerAt (Since F w w') w' mb (putText items l) := by
 have h0 := h;obtain ⟨hF, hlt, V, vals, hb, hw, ht⟩ := h;have hvl := ht.1;have hput0 : putText items l = putScalar items (.text l) := by unfold putText; rw [if_pos hr]
 rw [hput0];have hr' : rightOf (⟨l.toArray⟩ : ByteArray).data.toList = true := by simpa using hr
 have hs' : (⟨l.toArray⟩ : ByteArray).size ≤ 2097152 := by show l.toArray.size ≤ _; simpa using hs
 have htr : ∀ G w, TreeAt G w (.iface 180 (.string ⟨l.toArray⟩)) (.text l) := fun _ _ => .text _
 obtain ⟨s, hse⟩ : ∃ s : ByteArray, (⟨l.toArray⟩ : ByteArray) = s := ⟨_, rfl⟩;rw [hse] at hr' hs' htr ⊢
 by_cases hfull : 65536 ≤ items.length
 ·have hpn : putScalar items (.text l) = items := by unfold putScalar; rw [if_pos hfull]
  rw [hpn];have HS := Lib.hid (step_text_full w mb V vals s hr' hs' hb hw.1 (by omega));have H0 := Lib.hid h0;have HLT := Lib.hid hlt;clear h0 hb hw ht hvl hfull hpn hF hlt hr hs hput0 hr' hs' htr hse;go_enter Tryz.func150, Tryz.ntmps150;go_wp2_with fail;refine (HS.out).mono ?_;rintro e w1 ⟨⟨v, rfl⟩, hbl⟩;have HB := Lib.hid hbl;clear hbl;go_wp2_with fail;go_ret;exact ⟨⟨_, rfl⟩, Keeps.of_below F HB.out, (H0.out.apart (Keeps.of_below (fun _ => False) HB.out) (fun _ _ => id)).mono (fun k hk => .inl hk) (since_lt HLT.out HB.out.size)⟩
 ·have hpn : putScalar items (.text l) = items ++ [.text l] := by unfold putScalar putItem; rw [if_neg hfull]; simp [Tr.sized, Sz.within]; omega
  rw [hpn];have HS := Lib.hid (step_text w mb V vals s hr' hs' hb hw.1 (by omega) (by omega));have HM := Lib.hid (fun w' (h : PutRet w mb V vals 180 (.string s) w') => h.maker (t := .text l) hF hlt hw ht htr);clear h0 hb hw ht hvl hfull hpn hF hlt hr hs hput0 hr' hs' htr hse;go_enter Tryz.func150, Tryz.ntmps150;go_wp2_with fail;refine (HS.out).mono ?_;rintro e w1 ⟨rfl, hput⟩;have HB := Lib.hid (HM.out _ hput);clear hput;go_wp2_with fail;go_ret;exact ⟨⟨_, rfl⟩, HB.out.1, HB.out.2⟩
theorem newMaker_any (w : World) : Calls Tryz.prog 73 #[] w fun e w' => e = .returned (.pointer (some ⟨w.heap.size, 0, none⟩)) ∧ w' = w.alloc (.cells #[.slice none 0 0] 195) := by
 go_enter Tryz.func73, Tryz.ntmps73;go_wp2;go_ret;exact ⟨rfl, rfl⟩
theorem tree_any (F : Nat → Prop) (w : World) (mb : Nat) (t : Tr) (h : MakerAt F w mb [t]) : Calls Tryz.prog 54 #[.pointer (some ⟨mb, 0, none⟩)] w fun e w' => e = .returned (.tuple #[.pointer (some ⟨w.heap.size, 0, none⟩), .nilIface]) ∧ ∃ v, w' = w.alloc (.cells #[v] 176) ∧ TreeAt F w v t := by
 obtain ⟨hF, hlt, V, vals, hb, hw, ht⟩ := h
 obtain ⟨v, rfl⟩ : ∃ v, vals = [v] := by
  have := ht.1
  match vals, this with
  | [v], _ => exact ⟨v, rfl⟩
 have HT := Lib.hid ((ht.2 0 v t rfl rfl).mono (G := F) fun k h => h.1);have hc := cell_of_one hb;rcases hw.1 with ⟨_, hn⟩ | ⟨g, off, cap, cur, rfl, hg, hcp, ho, hm, hi⟩
 ·cases hn
 ·have hcell : w.cell? ⟨g, off, none⟩ = some v := by
   have := hi 0 v rfl;rw [cell_at hg]; simpa using this
  simp only [List.length_cons, List.length_nil, Nat.zero_add] at hc;clear hb hw ht hF hlt hg hcp ho hm hi;obtain ⟨T, x, rfl⟩ := HT.out.iface;go_enter Tryz.func54, Tryz.ntmps54;go_wp2_with fail;exact bodyPost_ret (v := .tuple #[.pointer (some ⟨w.heap.size, 0, none⟩), .nilIface]) (by simp [results, Tryz.results54, go_sem]) rfl ⟨rfl, _, rfl, HT.out⟩
end Go.Proofs.YtakkmiomhackiaaGreatDoor
