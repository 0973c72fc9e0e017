/-
  The program, one part of its walk: No2, No3, No4, Nd1. Conditions: none.
-/
import Derived.Test.YtakkmiomhackiaaGreatDoorPa11
import Derived.Laws.Externs
import Derived.Laws.BitsAllLaws
import Derived.Test.YtakkmiomhackiaaGreatDoorPa14
import Derived.Test.YtakkmiomhackiaaGreatDoorPa00
set_option linter.all false
set_option maxRecDepth 100000
set_option maxHeartbeats 16000000
open Go.Proofs.Tryz
namespace Go.Proofs.YtakkmiomhackiaaGreatDoor
open Go.RowKit
theorem f64bits_run (b : Nat) (w : World) : (callFunc 51 #[.float .f64 b]).run prog w = .ok (.value (.int .u64 b)) w := by
 rw [run_callFunc_extern (e := Extern.MathFloatBits.float64bits) func51 (by kernel_rfl) (by kernel_rfl) (by kernel_rfl) (by kernel_rfl)];rfl
theorem f64from_run (b : Nat) (w : World) : (callFunc 215 #[.int .u64 b]).run prog w = .ok (.value (.float .f64 b)) w := by
 rw [run_callFunc_extern (e := Extern.MathFloatBits.float64frombits) func215 (by kernel_rfl) (by kernel_rfl) (by kernel_rfl) (by kernel_rfl)];rfl
theorem finite_mod {b : Nat} (h : Finite b) : b % 9223372036854775808 ≤ most := by
 unfold Finite most at *;omega
theorem isNaN_any (b : Nat) (w : World) (h : Finite b) : Calls prog 216 #[.float .f64 b] w fun e w' => e = .returned (.bool false) ∧ w' = w := by
 have h1 : (FloatKind.f64.format.order b b != some .eq) = false := by rw [order_self (finite_mod h)]; rfl
 clear h;go_enter func216, ntmps216;go_wp2;go_ret;exact ⟨rfl, rfl⟩
theorem andNot_top {b : Nat} (h : b < 18446744073709551616) : bits BinOp.andNot IntKind.u64 (b : Int) 9223372036854775808 = (b : Int) % 9223372036854775808 := by
 have e := u64_andNot_nat b 9223372036854775808 h (by decide);rw [show (18446744073709551615 - 9223372036854775808 : Nat) = 2 ^ 63 - 1 by decide, Nat.and_two_pow_sub_one_eq_mod] at e;exact e
theorem abs_any (b : Nat) (w : World) (h : Finite b) : Calls prog 236 #[.float .f64 b] w fun e w' => e = .returned (.float .f64 (b % 9223372036854775808)) ∧ w' = w := by
 have h1 := f64bits_run b;have h2 := f64from_run (b % 9223372036854775808);have h3 := andNot_top (b := b) (by unfold Finite most at h; omega);rw [show ((b % 9223372036854775808 : Nat) : Int) = (b : Int) % 9223372036854775808 by omega] at h2;clear h;go_enter func236, ntmps236;go_wp2;go_ret;exact ⟨rfl, rfl⟩
theorem isInf_any (b : Nat) (w : World) (h : Finite b) : Calls prog 217 #[.float .f64 b, .int .i64 0] w fun e w' => e = .returned (.bool false) ∧ w' = w := by
 have HA := hZ (abs_any b w h);have hm := order_most (b := b % 9223372036854775808) (finite_mod h);obtain ⟨a, ha⟩ : ∃ a, b % 9223372036854775808 = a := ⟨_, rfl⟩;rw [ha] at HA hm
 have h1 : (FloatKind.f64.format.order a 9218868437227405311 == some .gt) = false := by
  cases h : FloatKind.f64.format.order a 9218868437227405311 == some .gt with
  | false => rfl
  | true => exact absurd (by simpa [most] using h) hm
 clear h ha hm;go_enter func217, ntmps217;go_wp2_with fail;refine (HA.out).mono ?_;rintro e w1 ⟨rfl, rfl⟩;go_wp2_with fail;go_ret;exact ⟨rfl, rfl⟩
def PutRet (w : World) (b : Nat) (V : Value) (vals : List Value) (T : TypeId) (v : Value) (w' : World) : Prop :=
 ∃ g off cap, w'.heap[b]? = some (.cells #[.slice (some ⟨g, off, none⟩) (vals.length + 1) cap] 195 (0, 0)) ∧ Win 97 id w' (.slice (some ⟨g, off, none⟩) (vals.length + 1) cap) (vals ++ [.iface T v]) ∧ (V.ownBlock = some g ∨ w.heap.size ≤ g) ∧ Keeps (fun k => k = b ∨ V.ownBlock = some k) w w'
theorem put_num (w : World) (b : Nat) (V : Value) (vals : List Value) (x : Nat) (h : w.heap[b]? = some (.cells #[V] 195 (0, 0))) (hw : Win 97 id w V vals) (hl : vals.length ≤ 1048576) :
 Calls prog 214 #[.pointer (some ⟨b, 0, none⟩), .iface 179 (.float .f64 x)] w fun e w' => e = .returned (.tuple #[]) ∧ PutRet w b V vals 179 (.float .f64 x) w' := by
 have hm : ∀ w : World, (method 565 179 (.float .f64 x) "affidavit/node.sized").run prog w = .ok (347, .float .f64 x) w := fun _ => by kernel_rfl
 have HS := hZ (sized_num w x);have HZ := hZ (fun w => size_fits w 1 0 1 (by decide));have HW := hZ hw;have H := hZ h;have HNE := hZ (hw.ne h (by decide));have hlt := lt_of_block h;obtain ⟨ta, tc, htv⟩ := hw.shape;clear h hw;subst htv;go_enter func214, ntmps214;go_wp2_with fail;refine (HS.out).mono ?_;rintro e w1 ⟨rfl, hb1⟩;have HB1 := hZ hb1;clear hb1;go_wp2_with fail;refine (HZ.out _).mono ?_;rintro e w2 ⟨rfl, hb2⟩;have hb := chain HB1.out hb2;have h2 := keep H.out hb;have hc0 := cell_of_one h2;have hf0 := free_of_one h2;have HH2 := hZ h2;have HB := hZ hb;have hlt2 := lt_of_block h2;have hr2 : Win 97 id (w2.alloc (.cells #[.iface 179 (.float .f64 x)] 97)) (.slice ta vals.length tc) vals := (HW.out.keeps (Keeps.of_below (fun _ => False) hb) (fun _ _ => id)).keeps (F := fun _ => False) ((Keeps.refl _ w2).alloc _) (fun _ _ => id);have HR := hZ hr2;clear hb2 hb h2 hr2
 go_wp2_with (at_builtin; refine append_win elemItem rfl _ _ rfl rfl HR.out ⟨w2.heap.size, 0, none⟩ 1 (.iface 179 (.float .f64 x)) rfl ?_ rfl ?_ ?_ ?_)
 ·exact cell_new rfl
 ·omega
 ·unfold maxLen; omega
 intro g off cap w' hrow hgb0 hgr;have hb' := (hgr.block b (by simp; omega) (fun e => HNE.out e.symm)).trans ((Below.heap_alloc w2 _ _ hlt2).trans HH2.out);have HNG := hZ (hrow.ne hb' (by decide));have HGB := hZ (show (Value.slice ta vals.length tc).ownBlock = some g ∨ w.heap.size ≤ g from hgb0.elim .inl (fun h => .inr (Nat.le_trans HB.out.size (Nat.le_trans (by simp) h.1))));have HK := hZ (((Keeps.of_below (fun k => k = b ∨ (Value.slice ta vals.length tc).ownBlock = some k) HB.out).alloc (.cells #[.iface 179 (.float .f64 x)] 97)).grown hgr (fun k e => .inl (.inr e)));have HROW := hZ hrow;have hc1 := cell_of_one hb';have hf1 := free_of_one hb';have HB3 := hZ hb';clear hb' hrow hgb0 hgr hc0 hf0;go_wp2_with fail
 go_end0
 have hks : Keeps (fun k => k = b) w' (w'.setCell ⟨b, 0, none⟩ (.slice (some ⟨g, off, none⟩) (vals.length + 1) cap)) := (Keeps.refl (fun k => k = b) w').setCell (p := ⟨b, 0, none⟩) (.inl rfl) _;exact ⟨rfl, g, off, cap, set_at HB3.out _, HROW.out.keeps hks (fun k e hk => HNG.out (e.trans (congrArg some hk))), HGB.out, HK.out.setCell (p := ⟨b, 0, none⟩) (.inl (.inl rfl)) _⟩
theorem put_text (w : World) (b : Nat) (V : Value) (vals : List Value) (x : ByteArray) (hx : x.size ≤ 2097152) (h : w.heap[b]? = some (.cells #[V] 195 (0, 0))) (hw : Win 97 id w V vals) (hl : vals.length ≤ 1048576) :
 Calls prog 214 #[.pointer (some ⟨b, 0, none⟩), .iface 180 (.string x)] w fun e w' => e = .returned (.tuple #[]) ∧ PutRet w b V vals 180 (.string x) w' := by
 have hm : ∀ w : World, (method 565 180 (.string x) "affidavit/node.sized").run prog w = .ok (349, .string x) w := fun _ => by kernel_rfl
 have HS := hZ (sized_text w x);have HZ := hZ (fun w => size_fits w 1 x.size 1 (by simp [Sz.within]; omega));have HW := hZ hw;have H := hZ h;have HNE := hZ (hw.ne h (by decide));have hlt := lt_of_block h;obtain ⟨ta, tc, htv⟩ := hw.shape;clear h hw;subst htv;go_enter func214, ntmps214;go_wp2_with fail;refine (HS.out).mono ?_;rintro e w1 ⟨rfl, hb1⟩;have HB1 := hZ hb1;clear hb1;go_wp2_with fail;refine (HZ.out _).mono ?_;rintro e w2 ⟨rfl, hb2⟩;have hb := chain HB1.out hb2;have h2 := keep H.out hb;have hc0 := cell_of_one h2;have hf0 := free_of_one h2;have HH2 := hZ h2;have HB := hZ hb;have hlt2 := lt_of_block h2;have hr2 : Win 97 id (w2.alloc (.cells #[.iface 180 (.string x)] 97)) (.slice ta vals.length tc) vals := (HW.out.keeps (Keeps.of_below (fun _ => False) hb) (fun _ _ => id)).keeps (F := fun _ => False) ((Keeps.refl _ w2).alloc _) (fun _ _ => id);have HR := hZ hr2;clear hb2 hb h2 hr2
 go_wp2_with (at_builtin; refine append_win elemItem rfl _ _ rfl rfl HR.out ⟨w2.heap.size, 0, none⟩ 1 (.iface 180 (.string x)) rfl ?_ rfl ?_ ?_ ?_)
 ·exact cell_new rfl
 ·omega
 ·unfold maxLen; omega
 intro g off cap w' hrow hgb0 hgr;have hb' := (hgr.block b (by simp; omega) (fun e => HNE.out e.symm)).trans ((Below.heap_alloc w2 _ _ hlt2).trans HH2.out);have HNG := hZ (hrow.ne hb' (by decide));have HGB := hZ (show (Value.slice ta vals.length tc).ownBlock = some g ∨ w.heap.size ≤ g from hgb0.elim .inl (fun h => .inr (Nat.le_trans HB.out.size (Nat.le_trans (by simp) h.1))));have HK := hZ (((Keeps.of_below (fun k => k = b ∨ (Value.slice ta vals.length tc).ownBlock = some k) HB.out).alloc (.cells #[.iface 180 (.string x)] 97)).grown hgr (fun k e => .inl (.inr e)));have HROW := hZ hrow;have hc1 := cell_of_one hb';have hf1 := free_of_one hb';have HB3 := hZ hb';clear hb' hrow hgb0 hgr hc0 hf0;go_wp2_with fail
 go_end0
 have hks : Keeps (fun k => k = b) w' (w'.setCell ⟨b, 0, none⟩ (.slice (some ⟨g, off, none⟩) (vals.length + 1) cap)) := (Keeps.refl (fun k => k = b) w').setCell (p := ⟨b, 0, none⟩) (.inl rfl) _;exact ⟨rfl, g, off, cap, set_at HB3.out _, HROW.out.keeps hks (fun k e hk => HNG.out (e.trans (congrArg some hk))), HGB.out, HK.out.setCell (p := ⟨b, 0, none⟩) (.inl (.inl rfl)) _⟩
theorem doCatch_idle (p : Addr) (w : World) : CallsD prog 211 #[.pointer (some p)] .returning w fun e u' w' => e = .returned (.tuple #[]) ∧ u' = .returning ∧ w' = w := by
 refine callsD_of_wpS func211 rfl fun c₀ cs hu => ?_
 apply wpS_seq;apply wpS_region;simp [wpOpsS, go_sem, recoverD, hu, ntmps211, Exit.thenS, Array.replicate];apply wpS_seq;apply wpS_region;simp [wpOpsS, go_sem, recoverD, hu, Exit.thenS];refine wpS_cond (t := false) (by simp [Act.eval]) ?_;simp only [Bool.false_eq_true, if_false];refine wpS_of_wp (wp_skip ?_);cases c₀
 simp_all [bodyPostS, results, results211]
theorem catch_idle (p : Addr) (w : World) : CallsD prog 77 #[.pointer (some p)] .returning w fun e u' w' => e = .returned (.tuple #[]) ∧ u' = .returning ∧ w' = w := by
 refine callsD_of_wpS func77 rfl fun c₀ cs hu => ?_
 apply wpS_seq;apply wpS_region;simp [wpOpsS, go_sem, recoverD, hu, ntmps77, Exit.thenS, Array.replicate];apply wpS_seq;apply wpS_region;simp [wpOpsS, go_sem, recoverD, hu, Exit.thenS];refine wpS_cond (t := false) (by simp [Act.eval]) ?_;simp only [Bool.false_eq_true, if_false];refine wpS_of_wp (wp_skip ?_);cases c₀
 simp_all [bodyPostS, results, results77]
theorem catch_spot (p : Addr) (x : Value) (no at_ : Nat) (older : List PanicEntry) (w : World) (hc : w.cell? p = some x) (hz : w.frozen? p = false) :
 CallsD prog 77 #[.pointer (some p)] (.panicking ({ v := .iface 151 (.agg #[.int .i64 no, .int .i64 at_]), recovered := false } :: older)) w fun e u' w' =>
  e = .returned (.tuple #[]) ∧ u' = .panicking ({ v := .iface 151 (.agg #[.int .i64 no, .int .i64 at_]), recovered := true } :: older) ∧ w' = w.setCell p (.iface 151 (.agg #[.int .i64 no, .int .i64 at_])) := by
 have hta : ∀ w : World, (Instr.typeAssert (.iface 151 (.agg #[.int .i64 no, .int .i64 at_])) 20 151 false).run prog w = .ok (.agg #[.int .i64 no, .int .i64 at_]) w := fun _ => by kernel_rfl
 refine callsD_of_wpS func77 rfl fun c₀ cs hu => ?_
 apply wpS_seq;apply wpS_region;simp [wpOpsS, go_sem, recoverD, hu, ntmps77, Exit.thenS, Array.replicate];apply wpS_seq;apply wpS_region;simp [wpOpsS, go_sem, recoverD, hu, Exit.thenS];refine wpS_cond (t := true) (by simp [Act.eval]) ?_;simp only [if_true];apply wpS_region;simp [wpOpsS, go_sem, hc, hz, hta, bodyPostS, results, results77]
theorem cells6 {w : World} {b : Nat} {v0 v1 v2 v3 v4 v5 : Value} {T : TypeId} (h : w.heap[b]? = some (.cells #[v0, v1, v2, v3, v4, v5] T (0, 0))) :
 w.cell? ⟨b, 0, none⟩ = some v0 ∧ w.cell? ⟨b, 1, none⟩ = some v1 ∧ w.cell? ⟨b, 2, none⟩ = some v2 ∧ w.cell? ⟨b, 3, none⟩ = some v3 ∧ w.cell? ⟨b, 4, none⟩ = some v4 ∧ w.cell? ⟨b, 5, none⟩ = some v5 ∧ ∀ o, w.frozen? ⟨b, o, none⟩ = false :=
 ⟨cell_at h, cell_at h, cell_at h, cell_at h, cell_at h, cell_at h, free_at h⟩
theorem PutRet.close {w w1 w2 : World} {b : Nat} {V : Value} {vals : List Value} {T : TypeId} {v : Value} {R : Nat} {u0 : Value} (hb : Below w.heap.size w w1) (hR : w.heap.size ≤ R) (hr1 : w1.heap[R]? = some (.cells #[u0] 26 (0, 0))) (hwV : ∀ k, V.ownBlock = some k → k < w.heap.size) (hbl : b < w.heap.size) (h : PutRet w1 b V vals T v w2) (u : Value) :
 w2.cell? ⟨R, 0, none⟩ = some u0 ∧ w2.frozen? ⟨R, 0, none⟩ = false ∧ PutRet w b V vals T v (w2.setCell ⟨R, 0, none⟩ u) ∧ (w2.setCell ⟨R, 0, none⟩ u).cell? ⟨R, 0, none⟩ = some u := by
 obtain ⟨g, off, cap, h1, h2, h3, h4⟩ := h
 have hne : ¬ (R = b ∨ V.ownBlock = some R) := by
  rintro (e | e)
  ·omega
  ·have := hwV R e; omega
 have hr2 := h4.blk hr1 hne;refine ⟨cell_of_one hr2, free_of_one hr2, ⟨g, off, cap, (set_else u (by omega)).trans h1, ?_, h3.elim .inl (fun h => .inr (Nat.le_trans hb.size h)), ((Keeps.of_below _ hb).same h4).setCell (p := ⟨R, 0, none⟩) (.inr hR) _⟩, ?_⟩
 ·have hk : Keeps (fun k => k = R) w2 (w2.setCell ⟨R, 0, none⟩ u) := (Keeps.refl (fun k => k = R) w2).setCell (p := ⟨R, 0, none⟩) (.inl rfl) _;exact h2.keeps hk (fun k e hk => h2.ne hr2 (by decide) (e.trans (congrArg some hk)))
 ·rw [cell_at (set_at hr2 u)]; rfl
theorem do_num (w : World) (b : Nat) (V : Value) (vals : List Value) (x : Nat) (hx : Finite x) (h : w.heap[b]? = some (.cells #[V] 195 (0, 0))) (hw : Win 97 id w V vals) (hl : vals.length ≤ 1048576) :
 Calls prog 196 #[.pointer (some ⟨b, 0, none⟩), .agg #[.int .i64 3, .bool false, .int .u64 x, .string ⟨#[]⟩, .int .i64 0, .slice none 0 0]] w fun e w' => e = .returned .nilIface ∧ PutRet w b V vals 179 (.float .f64 (zeroed x)) w' := by
 have hmf : ∀ (fn : Fn) (first cap : Array Value) (w : World), (Instr.makeFunc fn first cap).run prog w = .ok (.func fn first cap) w := fun _ _ _ _ => rfl
 have HU := hZ (fun w => used_num w x);have hfr := f64from_run x;have HN := hZ (fun w => isNaN_any x w hx);have HI := hZ (fun w => isInf_any x w hx);have hb0 := lt_of_block h;have HP := hZ (fun w' y (hb : Below w.heap.size w w') => put_num w' b V vals y (keep h hb) (hw.keeps (Keeps.of_below (fun _ => False) hb) (fun _ _ => id)) hl);have HVL := hZ (fun k (hk : V.ownBlock = some k) => hw.lt hk);have hoz := order_zero (finite_mod hx)
 obtain ⟨z, hz, hz2⟩ : ∃ z : Bool, (FloatKind.f64.format.order x 0 == some .eq) = z ∧ zeroed x = (if z then 0 else x) := by
  refine ⟨_, rfl, ?_⟩;rw [hoz];unfold zeroed;unfold Finite most at hx
  by_cases h0 : x % 9223372036854775808 = 0
  ·rw [decide_eq_true h0]; simp; omega
  ·rw [decide_eq_false h0, if_neg (by omega)]; simp
 have HZ2 := hZ hz2;clear h hw hx hoz hz2;cases z
 all_goals
  go_enter_defers func196, ntmps196
  go_wp2_with fail;refine (HU.out _).mono ?_;rintro e w1 ⟨rfl, hb1⟩;obtain ⟨g1, g2, hbw, hsz⟩ := after2 hb1;obtain ⟨q0, q1, q2, q3, q4, q5, qf⟩ := cells6 g1;have G2 := hZ g2;have HBW := hZ hbw;clear hb1 g1 g2 hbw;go_wp2_with fail;refine (refuse_no _ 2).mono ?_;rintro e w2 ⟨rfl, rfl⟩;go_wp2_with fail;refine (HN.out _).mono ?_;rintro e w3 ⟨rfl, rfl⟩;go_wp2_with fail;refine (HI.out _).mono ?_;rintro e w3 ⟨rfl, rfl⟩;go_wp2_with fail;refine (refuse_no _ 104).mono ?_;rintro e w3 ⟨rfl, rfl⟩;go_wp2_with fail;refine (HP.out _ _ HBW.out).mono ?_;rintro e w4 ⟨rfl, hput⟩;obtain ⟨r0, rf, hput2, rc⟩ := hput.close HBW.out (Nat.le_succ _) G2.out HVL.out hb0 .nilIface;have HPUT := hZ hput2;clear hput hput2;go_wp2_with fail;refine leaves_cons (f := 211) (args := #[.pointer (some ⟨w.heap.size + 1, 0, none⟩)]) (by simp) (by simp [go_sem]) ?_;refine (doCatch_idle ⟨w.heap.size + 1, 0, none⟩ _).mono ?_;rintro e u' w'' ⟨rfl, rfl, rfl⟩;have hend := HPUT.out;have hze := HZ2.out;simp only [Bool.false_eq_true, if_false, if_true] at hze;rw [hze];simp [Leaves, settle, results, results196, go_sem, rc];exact hend
theorem do_text (w : World) (b : Nat) (V : Value) (vals : List Value) (s : ByteArray) (hr : rightOf s.data.toList = true) (hs : s.size ≤ 2097152) (h : w.heap[b]? = some (.cells #[V] 195 (0, 0))) (hw : Win 97 id w V vals) (hl : vals.length ≤ 1048576) :
 Calls prog 196 #[.pointer (some ⟨b, 0, none⟩), .agg #[.int .i64 4, .bool false, .int .u64 0, .string s, .int .i64 0, .slice none 0 0]] w fun e w' => e = .returned .nilIface ∧ PutRet w b V vals 180 (.string s) w' := by
 have hmf : ∀ (fn : Fn) (first cap : Array Value) (w : World), (Instr.makeFunc fn first cap).run prog w = .ok (.func fn first cap) w := fun _ _ _ _ => rfl
 have HU := hZ (fun w => used_text w s);have hri := fun w => right_any s w (by omega)
 rw [hr] at hri;have HRI := hZ hri;have hb0 := lt_of_block h;have HP := hZ (fun w' (hb : Below w.heap.size w w') => put_text w' b V vals s hs (keep h hb) (hw.keeps (Keeps.of_below (fun _ => False) hb) (fun _ _ => id)) hl);have HVL := hZ (fun k (hk : V.ownBlock = some k) => hw.lt hk);clear h hw hr hs hri
 go_enter_defers func196, ntmps196
 go_wp2_with fail;refine (HU.out _).mono ?_;rintro e w1 ⟨rfl, hb1⟩;obtain ⟨g1, g2, hbw, hsz⟩ := after2 hb1;obtain ⟨q0, q1, q2, q3, q4, q5, qf⟩ := cells6 g1;have G1 := hZ g1;have G2 := hZ g2;have HBW := hZ hbw;clear hb1 g1 g2 hbw;go_wp2_with fail;refine (refuse_no _ 2).mono ?_;rintro e w2 ⟨rfl, rfl⟩;go_wp2_with fail;refine (HRI.out _).mono ?_;rintro e w3 ⟨rfl, hb3⟩;have hbw := chain HBW.out hb3;have g1 := keep G1.out hb3;have g2 := keep G2.out hb3;have HBW3 := hZ hbw;obtain ⟨p0, p1, p2, p3, p4, p5, pf⟩ := cells6 g1;have G3 := hZ g2;clear hb3 hbw g1 g2 q0 q1 q2 q3 q4 q5 qf;go_wp2_with fail;refine (refuse_no _ 100).mono ?_;rintro e w4 ⟨rfl, rfl⟩;go_wp2_with fail;refine (HP.out _ HBW3.out).mono ?_;rintro e w5 ⟨rfl, hput⟩;obtain ⟨r0, rf, hput2, rc⟩ := hput.close HBW3.out (Nat.le_succ _) G3.out HVL.out hb0 .nilIface;have HPUT := hZ hput2;clear hput hput2;go_wp2_with fail;refine leaves_cons (f := 211) (args := #[.pointer (some ⟨w.heap.size + 1, 0, none⟩)]) (by simp) (by simp [go_sem]) ?_;refine (doCatch_idle ⟨w.heap.size + 1, 0, none⟩ _).mono ?_;rintro e u' w'' ⟨rfl, rfl, rfl⟩;have hend := HPUT.out;simp [Leaves, settle, results, results196, go_sem, rc];exact hend
theorem step_num (w : World) (b : Nat) (V : Value) (vals : List Value) (x : Nat) (hx : Finite x) (h : w.heap[b]? = some (.cells #[V] 195 (0, 0))) (hw : Win 97 id w V vals) (hl : vals.length ≤ 1048576) (hlt : vals.length < 65536) :
 Calls prog 175 #[.pointer (some ⟨b, 0, none⟩), .agg #[.int .i64 3, .bool false, .int .u64 x, .string ⟨#[]⟩, .int .i64 0, .slice none 0 0]] w fun e w' => e = .returned .nilIface ∧ PutRet w b V vals 179 (.float .f64 (zeroed x)) w' := by
 have hal : Below w.heap.size w (w.alloc (.cells #[.int .i64 3, .bool false, .int .u64 x, .string ⟨#[]⟩, .int .i64 0, .slice none 0 0] 147)) := (Below.refl _ _).alloc (Nat.le_refl _) _;have HD := hZ (fun w1 (hb : Below w.heap.size w w1) => do_num w1 b V vals x hx (keep h hb) (hw.keeps (Keeps.of_below (fun _ => False) hb) (fun _ _ => id)) hl);have hc := cell_of_one h;have hb0 := lt_of_block h;obtain ⟨ta, tc, htv⟩ := hw.shape;have hge : decide (65536 ≤ vals.length) = false := decide_eq_false (by omega);have hge2 : ¬ 65536 ≤ vals.length := by omega
 have hge3 : ¬ (65536 : Int) ≤ (vals.length : Int) := by omega
 obtain ⟨q0, q1, q2, q3, q4, q5, qf⟩ := cells6 (heap_alloc_new w (.cells #[.int .i64 3, .bool false, .int .u64 x, .string ⟨#[]⟩, .int .i64 0, .slice none 0 0] 147));have HAL := hZ hal;clear h hw hlt hal;subst htv;go_enter func175, ntmps175;go_wp2_with fail
 go_region_with (go_at_call 196; refine (HD.out _ HAL.out.drew).mono ?_; rintro e w2 ⟨rfl, hput⟩)
 all_goals
  obtain ⟨g, off, cap, h1, h2, h3, h4⟩ := hput;have H1 := hZ h1;have H2 := hZ h2;have H3 := hZ h3;have H4 := hZ h4;clear h1 h2 h3 h4;go_wp2_with fail;go_ret;exact ⟨rfl, g, off, cap, H1.out, H2.out, H3.out.elim .inl (fun h => .inr (Nat.le_trans (by simp) h)), (Keeps.of_below _ HAL.out.drew).same H4.out⟩
theorem step_num_full (w : World) (b : Nat) (V : Value) (vals : List Value) (x : Nat) (hx : Finite x) (h : w.heap[b]? = some (.cells #[V] 195 (0, 0))) (hw : Win 97 id w V vals) (hlt : 65536 ≤ vals.length) :
 Calls prog 175 #[.pointer (some ⟨b, 0, none⟩), .agg #[.int .i64 3, .bool false, .int .u64 x, .string ⟨#[]⟩, .int .i64 0, .slice none 0 0]] w fun e w' => (∃ v, e = .returned v) ∧ Below w.heap.size w w' := by
 have hal : Below w.heap.size w (w.alloc (.cells #[.int .i64 3, .bool false, .int .u64 x, .string ⟨#[]⟩, .int .i64 0, .slice none 0 0] 147)) := (Below.refl _ _).alloc (Nat.le_refl _) _;have hc := cell_of_one h;have hb0 := lt_of_block h;obtain ⟨ta, tc, htv⟩ := hw.shape;have hge : decide (65536 ≤ vals.length) = true := decide_eq_true hlt;have hge3 : (65536 : Int) ≤ (vals.length : Int) := by omega
 obtain ⟨q0, q1, q2, q3, q4, q5, qf⟩ := cells6 (heap_alloc_new w (.cells #[.int .i64 3, .bool false, .int .u64 x, .string ⟨#[]⟩, .int .i64 0, .slice none 0 0] 147));have HAL := hZ hal;clear h hw hal;subst htv;go_enter func175, ntmps175;go_wp2_with fail;go_ret;exact ⟨⟨_, rfl⟩, HAL.out⟩
theorem step_text (w : World) (b : Nat) (V : Value) (vals : List Value) (s : ByteArray) (hr : rightOf s.data.toList = true) (hs : s.size ≤ 2097152) (h : w.heap[b]? = some (.cells #[V] 195 (0, 0))) (hw : Win 97 id w V vals) (hl : vals.length ≤ 1048576) (hlt : vals.length < 65536) :
 Calls prog 175 #[.pointer (some ⟨b, 0, none⟩), .agg #[.int .i64 4, .bool false, .int .u64 0, .string s, .int .i64 0, .slice none 0 0]] w fun e w' => e = .returned .nilIface ∧ PutRet w b V vals 180 (.string s) w' := by
 have hal : Below w.heap.size w (w.alloc (.cells #[.int .i64 4, .bool false, .int .u64 0, .string s, .int .i64 0, .slice none 0 0] 147)) := (Below.refl _ _).alloc (Nat.le_refl _) _;have HD := hZ (fun w1 (hb : Below w.heap.size w w1) => do_text w1 b V vals s hr hs (keep h hb) (hw.keeps (Keeps.of_below (fun _ => False) hb) (fun _ _ => id)) hl);have hc := cell_of_one h;have hb0 := lt_of_block h;obtain ⟨ta, tc, htv⟩ := hw.shape;have hge : decide (65536 ≤ vals.length) = false := decide_eq_false (by omega);have hge2 : ¬ 65536 ≤ vals.length := by omega
 have hge3 : ¬ (65536 : Int) ≤ (vals.length : Int) := by omega
 obtain ⟨q0, q1, q2, q3, q4, q5, qf⟩ := cells6 (heap_alloc_new w (.cells #[.int .i64 4, .bool false, .int .u64 0, .string s, .int .i64 0, .slice none 0 0] 147));have HAL := hZ hal;clear h hw hlt hal;subst htv;go_enter func175, ntmps175;go_wp2_with fail
 go_region_with (go_at_call 196; refine (HD.out _ HAL.out.drew).mono ?_; rintro e w2 ⟨rfl, hput⟩)
 all_goals
  obtain ⟨g, off, cap, h1, h2, h3, h4⟩ := hput;have H1 := hZ h1;have H2 := hZ h2;have H3 := hZ h3;have H4 := hZ h4;clear h1 h2 h3 h4;go_wp2_with fail;go_ret;exact ⟨rfl, g, off, cap, H1.out, H2.out, H3.out.elim .inl (fun h => .inr (Nat.le_trans (by simp) h)), (Keeps.of_below _ HAL.out.drew).same H4.out⟩
theorem step_text_full (w : World) (b : Nat) (V : Value) (vals : List Value) (s : ByteArray) (hr : rightOf s.data.toList = true) (hs : s.size ≤ 2097152) (h : w.heap[b]? = some (.cells #[V] 195 (0, 0))) (hw : Win 97 id w V vals) (hlt : 65536 ≤ vals.length) :
 Calls prog 175 #[.pointer (some ⟨b, 0, none⟩), .agg #[.int .i64 4, .bool false, .int .u64 0, .string s, .int .i64 0, .slice none 0 0]] w fun e w' => (∃ v, e = .returned v) ∧ Below w.heap.size w w' := by
 have hal : Below w.heap.size w (w.alloc (.cells #[.int .i64 4, .bool false, .int .u64 0, .string s, .int .i64 0, .slice none 0 0] 147)) := (Below.refl _ _).alloc (Nat.le_refl _) _;have hc := cell_of_one h;have hb0 := lt_of_block h;obtain ⟨ta, tc, htv⟩ := hw.shape;have hge : decide (65536 ≤ vals.length) = true := decide_eq_true hlt;have hge3 : (65536 : Int) ≤ (vals.length : Int) := by omega
 obtain ⟨q0, q1, q2, q3, q4, q5, qf⟩ := cells6 (heap_alloc_new w (.cells #[.int .i64 4, .bool false, .int .u64 0, .string s, .int .i64 0, .slice none 0 0] 147));have HAL := hZ hal;clear h hw hal;subst htv;go_enter func175, ntmps175;go_wp2_with fail;go_ret;exact ⟨⟨_, rfl⟩, HAL.out⟩
def encS (k : List UInt8) : Value := .string ⟨k.toArray⟩
inductive TreeAt (F : Nat → Prop) (w : World) : Value → Tr → Prop
 | null : TreeAt F w (.iface 177 (.agg #[])) .null
 | flag (b : Bool) : TreeAt F w (.iface 178 (.bool b)) (.flag b)
 | num (x : Nat) : TreeAt F w (.iface 179 (.float .f64 x)) (.num x)
 | text (s : List UInt8) : TreeAt F w (.iface 180 (.string ⟨s.toArray⟩)) (.text s)
 | list (b : Nat) (itemsV : Value) (vals : List Value) (l : List Tr) (hb : F b) (hblk : w.heap[b]? = some (.cells #[.int .i64 (Tr.list l).sized.nodes, .int .i64 (Tr.list l).sized.bytes, .int .i64 (Tr.list l).sized.depth, itemsV] 186 (0, 0)))
  (hw : WinIn F 97 id w itemsV vals) (hlen : vals.length = l.length) (ht : ∀ (i : Nat) (v : Value) (t : Tr), vals[i]? = some v → l[i]? = some t → TreeAt F w v t) : TreeAt F w (.iface 181 (.pointer (some ⟨b, 0, none⟩))) (.list l)
 | object (b : Nat) (keysV itemsV : Value) (vals : List Value) (keys : List (List UInt8)) (l : List Tr) (hb : F b) (hblk : w.heap[b]? = some (.cells #[.int .i64 (Tr.object keys l).sized.nodes, .int .i64 (Tr.object keys l).sized.bytes, .int .i64 (Tr.object keys l).sized.depth, keysV, itemsV] 189 (0, 0)))
  (hk : WinIn F 9 encS w keysV keys) (hw : WinIn F 97 id w itemsV vals) (hlen : vals.length = l.length) (ht : ∀ (i : Nat) (v : Value) (t : Tr), vals[i]? = some v → l[i]? = some t → TreeAt F w v t) : TreeAt F w (.iface 187 (.pointer (some ⟨b, 0, none⟩))) (.object keys l)
theorem TreeAt.keeps {F G : Nat → Prop} {w w' : World} {v : Value} {t : Tr} (h : TreeAt F w v t) (hkp : Keeps G w w') (hd : ∀ k, F k → ¬ G k) : TreeAt F w' v t := by
 induction h with
 | null => exact .null
 | flag b => exact .flag b
 | num x => exact .num x
 | text s => exact .text s
 | list b itemsV vals l hb hblk hw hlen ht ih => exact .list b itemsV vals l hb (hkp.blk hblk (hd b hb)) ⟨hw.1.keeps hkp (fun k e => hd k (hw.2 k e)), hw.2⟩ hlen ih
 | object b keysV itemsV vals keys l hb hblk hk hw hlen ht ih => exact .object b keysV itemsV vals keys l hb (hkp.blk hblk (hd b hb)) ⟨hk.1.keeps hkp (fun k e => hd k (hk.2 k e)), hk.2⟩ ⟨hw.1.keeps hkp (fun k e => hd k (hw.2 k e)), hw.2⟩ hlen ih
theorem TreeAt.mono {F G : Nat → Prop} {w : World} {v : Value} {t : Tr} (h : TreeAt F w v t) (hf : ∀ k, F k → G k) : TreeAt G w v t := by
 induction h with
 | null => exact .null
 | flag b => exact .flag b
 | num x => exact .num x
 | text s => exact .text s
 | list b itemsV vals l hb hblk hw hlen ht ih => exact .list b itemsV vals l (hf b hb) hblk (hw.mono hf) hlen ih
 | object b keysV itemsV vals keys l hb hblk hk hw hlen ht ih => exact .object b keysV itemsV vals keys l (hf b hb) hblk (hk.mono hf) (hw.mono hf) hlen ih
theorem TreeAt.iface {F : Nat → Prop} {w : World} {v : Value} {t : Tr} (h : TreeAt F w v t) : ∃ T x, v = .iface T x := by
 cases h <;> exact ⟨_, _, rfl⟩
def TreeT (w : World) (k : Nat) : Prop := ∃ (c : Array Value) (T : TypeId), w.heap[k]? = some (.cells c T (0, 0)) ∧ (T = 186 ∨ T = 189 ∨ T = 97 ∨ T = 9)
theorem Win.typed {α : Type} {e : Nat} {enc : α → Value} {w : World} {v : Value} {l : List α} (h : Win e enc w v l) {k : Nat} (hk : v.ownBlock = some k) : ∃ (c : Array Value), w.heap[k]? = some (.cells c e (0, 0)) := by
 rcases h with ⟨rfl, _⟩ | ⟨g, off, cap, cur, rfl, hg, _⟩
 ·cases hk
 ·cases hk; exact ⟨_, hg⟩
theorem TreeAt.typed {F : Nat → Prop} {w : World} {v : Value} {t : Tr} (h : TreeAt F w v t) : TreeAt (fun k => F k ∧ TreeT w k) w v t := by
 induction h with
 | null => exact .null
 | flag b => exact .flag b
 | num x => exact .num x
 | text s => exact .text s
 | list b itemsV vals l hb hblk hw hlen ht ih =>
  exact .list b itemsV vals l ⟨hb, _, _, hblk, .inl rfl⟩ hblk ⟨hw.1, fun k e => ⟨hw.2 k e, by obtain ⟨c, hc⟩ := hw.1.typed e; exact ⟨_, _, hc, .inr (.inr (.inl rfl))⟩⟩⟩ hlen ih
 | object b keysV itemsV vals keys l hb hblk hk hw hlen ht ih =>
  exact .object b keysV itemsV vals keys l ⟨hb, _, _, hblk, .inr (.inl rfl)⟩ hblk ⟨hk.1, fun k e => ⟨hk.2 k e, by obtain ⟨c, hc⟩ := hk.1.typed e; exact ⟨_, _, hc, .inr (.inr (.inr rfl))⟩⟩⟩ ⟨hw.1, fun k e => ⟨hw.2 k e, by obtain ⟨c, hc⟩ := hw.1.typed e; exact ⟨_, _, hc, .inr (.inr (.inl rfl))⟩⟩⟩ hlen ih
def Trees (F : Nat → Prop) (w : World) (vals : List Value) (items : List Tr) : Prop := vals.length = items.length ∧ ∀ (i : Nat) (v : Value) (t : Tr), vals[i]? = some v → items[i]? = some t → TreeAt F w v t
theorem Trees.keeps {F G : Nat → Prop} {w w' : World} {vals : List Value} {items : List Tr} (h : Trees F w vals items) (hk : Keeps G w w') (hd : ∀ k, F k → ¬ G k) : Trees F w' vals items :=
 ⟨h.1, fun i v t hv ht => (h.2 i v t hv ht).keeps hk hd⟩
theorem Trees.mono {F G : Nat → Prop} {w : World} {vals : List Value} {items : List Tr} (h : Trees F w vals items) (hf : ∀ k, F k → G k) : Trees G w vals items :=
 ⟨h.1, fun i v t hv ht => (h.2 i v t hv ht).mono hf⟩
theorem Trees.snoc {F : Nat → Prop} {w : World} {vals : List Value} {items : List Tr} {v : Value} {t : Tr} (h : Trees F w vals items) (ht : TreeAt F w v t) : Trees F w (vals ++ [v]) (items ++ [t]) := by
 refine ⟨by simp [h.1], fun i x y hx hy => ?_⟩
 by_cases hi : i < vals.length
 ·rw [List.getElem?_append_left hi] at hx;rw [List.getElem?_append_left (by have := h.1; omega)] at hy;exact h.2 i x y hx hy
 ·rw [List.getElem?_append_right (by omega)] at hx;rw [List.getElem?_append_right (by have := h.1; omega)] at hy
  have hl : i - vals.length = 0 := by
   have := (List.getElem?_eq_some_iff.1 hx).1;simp at this; omega
  have hl2 : i - items.length = 0 := by have := h.1; omega
  rw [hl] at hx;rw [hl2] at hy;simp at hx hy;subst hx; subst hy;exact ht
def MakerAt (F : Nat → Prop) (w : World) (mb : Nat) (items : List Tr) : Prop :=
 F mb ∧ (∀ k, F k → k < w.heap.size) ∧ ∃ V vals, w.heap[mb]? = some (.cells #[V] 195 (0, 0)) ∧ WinIn F 97 id w V vals ∧ Trees (fun k => F k ∧ k ≠ mb ∧ V.ownBlock ≠ some k) w vals items
theorem MakerAt.apart {F G : Nat → Prop} {w w' : World} {mb : Nat} {items : List Tr} (h : MakerAt F w mb items) (hk : Keeps G w w') (hd : ∀ k, F k → ¬ G k) : MakerAt F w' mb items := by
 obtain ⟨hF, hlt, V, vals, hb, hw, ht⟩ := h;exact ⟨hF, fun k hk' => Nat.lt_of_lt_of_le (hlt k hk') hk.size, V, vals, hk.blk hb (hd mb hF), ⟨hw.1.keeps hk fun k e => hd k (hw.2 k e), hw.2⟩, ht.keeps hk fun k h => hd k h.1⟩
theorem MakerAt.mono {F G : Nat → Prop} {w : World} {mb : Nat} {items : List Tr} (h : MakerAt F w mb items) (hf : ∀ k, F k → G k) (hlt : ∀ k, G k → k < w.heap.size) : MakerAt G w mb items := by
 obtain ⟨hF, _, V, vals, hb, hw, ht⟩ := h;exact ⟨hf _ hF, hlt, V, vals, hb, hw.mono hf, ht.mono fun k h => ⟨hf k h.1, h.2⟩⟩
theorem PutRet.maker {F : Nat → Prop} {w w' : World} {mb : Nat} {V : Value} {vals : List Value} {items : List Tr} {T : TypeId} {v : Value} {t : Tr} (hF : F mb) (hlt : ∀ k, F k → k < w.heap.size) (hw : WinIn F 97 id w V vals) (ht : Trees (fun k => F k ∧ k ≠ mb ∧ V.ownBlock ≠ some k) w vals items)
 (htr : ∀ G w, TreeAt G w (.iface T v) t) (h : PutRet w mb V vals T v w') : Keeps F w w' ∧ MakerAt (Since F w w') w' mb (items ++ [t]) := by
 obtain ⟨g, off, cap, h1, h2, h3, h4⟩ := h;have hk : Keeps F w w' := h4.mono fun k hk => hk.elim (fun e => e ▸ hF) (fun e => hw.2 k e)
 refine ⟨hk, .inl hF, since_lt hlt hk.size, _, vals ++ [.iface T v], h1, ⟨by simpa using h2, ?_⟩, ?_⟩
 ·intro k hk3;cases hk3;exact h3.elim (fun e => .inl (hw.2 _ e)) (fun hle => .inr ⟨hle, h2.lt rfl⟩)
 ·refine Trees.snoc ?_ (htr _ _);refine (ht.keeps h4 fun k h => ?_).mono fun k h => ⟨.inl h.1, h.2.1, ?_⟩
  ·rintro (e | e)
   ·exact h.2.1 e
   ·exact h.2.2 e
  ·intro e;cases e;exact h3.elim (fun e => h.2.2 e) (fun hle => absurd (hlt _ h.1) (Nat.not_lt.2 hle))
theorem maker_num (F : Nat → Prop) (w : World) (mb : Nat) (items : List Tr) (x : Nat) (hx : Finite x) (h : MakerAt F w mb items) (hl : items.length ≤ 1048576) :
 Calls prog 154 #[.pointer (some ⟨mb, 0, none⟩), .float .f64 x] w fun e w' => (∃ v, e = .returned v) ∧ Keeps F w w' ∧ MakerAt (Since F w w') w' mb (putNum items x) := by
 have h0 := h;obtain ⟨hF, hlt, V, vals, hb, hw, ht⟩ := h;have hfb := f64bits_run x;have hvl := ht.1
 by_cases hfull : 65536 ≤ items.length
 ·have hpn : putNum items x = items := by unfold putNum putScalar; rw [if_pos hfull]
  rw [hpn];have HS := hZ (step_num_full w mb V vals x hx hb hw.1 (by omega));have H0 := hZ h0;have HLT := hZ hlt;clear h0 hb hw ht hvl hfull hpn hF hlt hx;go_enter func154, ntmps154;go_wp2_with fail;refine (HS.out).mono ?_;rintro e w1 ⟨⟨v, rfl⟩, hbl⟩;have HB := hZ hbl;clear hbl;go_wp2_with fail;go_ret;exact ⟨⟨_, rfl⟩, Keeps.of_below F HB.out, (H0.out.apart (Keeps.of_below (fun _ => False) HB.out) (fun _ _ => id)).mono (fun k hk => .inl hk) (since_lt HLT.out HB.out.size)⟩
 ·have hpn : putNum items x = items ++ [.num (zeroed x)] := by unfold putNum putScalar putItem; rw [if_neg hfull]; simp [Tr.sized, Sz.within]
  rw [hpn];have HS := hZ (step_num w mb V vals x hx hb hw.1 (by omega) (by omega));have HM := hZ (fun w' (h : PutRet w mb V vals 179 (.float .f64 (zeroed x)) w') => h.maker (t := .num (zeroed x)) hF hlt hw ht (fun _ _ => .num _));clear h0 hb hw ht hvl hfull hpn hF hlt hx;go_enter func154, ntmps154;go_wp2_with fail;refine (HS.out).mono ?_;rintro e w1 ⟨rfl, hput⟩;have HB := hZ (HM.out _ hput);clear hput;go_wp2_with fail;go_ret;exact ⟨⟨_, rfl⟩, HB.out.1, HB.out.2⟩
theorem maker_text (F : Nat → Prop) (w : World) (mb : Nat) (items : List Tr) (l : List UInt8) (hr : rightOf l = true) (hs : l.length ≤ 2097152) (h : MakerAt F w mb items) (hl : items.length ≤ 1048576) :
 Calls prog 150 #[.pointer (some ⟨mb, 0, none⟩), .string ⟨l.toArray⟩] w fun e w' => (∃ v, e = .returned v) ∧ Keeps F w w' ∧ MakerAt (Since F w w') w' mb (putText items l) := by
 have h0 := h;obtain ⟨hF, hlt, V, vals, hb, hw, ht⟩ := h;have hvl := ht.1;have hput0 : putText items l = putScalar items (.text l) := by unfold putText; rw [if_pos hr]
 rw [hput0];have hr' : rightOf (⟨l.toArray⟩ : ByteArray).data.toList = true := by simpa using hr
 have hs' : (⟨l.toArray⟩ : ByteArray).size ≤ 2097152 := by show l.toArray.size ≤ _; simpa using hs
 have htr : ∀ G w, TreeAt G w (.iface 180 (.string ⟨l.toArray⟩)) (.text l) := fun _ _ => .text _
 obtain ⟨s, hse⟩ : ∃ s : ByteArray, (⟨l.toArray⟩ : ByteArray) = s := ⟨_, rfl⟩;rw [hse] at hr' hs' htr ⊢
 by_cases hfull : 65536 ≤ items.length
 ·have hpn : putScalar items (.text l) = items := by unfold putScalar; rw [if_pos hfull]
  rw [hpn];have HS := hZ (step_text_full w mb V vals s hr' hs' hb hw.1 (by omega));have H0 := hZ h0;have HLT := hZ hlt;clear h0 hb hw ht hvl hfull hpn hF hlt hr hs hput0 hr' hs' htr hse;go_enter func150, ntmps150;go_wp2_with fail;refine (HS.out).mono ?_;rintro e w1 ⟨⟨v, rfl⟩, hbl⟩;have HB := hZ hbl;clear hbl;go_wp2_with fail;go_ret;exact ⟨⟨_, rfl⟩, Keeps.of_below F HB.out, (H0.out.apart (Keeps.of_below (fun _ => False) HB.out) (fun _ _ => id)).mono (fun k hk => .inl hk) (since_lt HLT.out HB.out.size)⟩
 ·have hpn : putScalar items (.text l) = items ++ [.text l] := by unfold putScalar putItem; rw [if_neg hfull]; simp [Tr.sized, Sz.within]; omega
  rw [hpn];have HS := hZ (step_text w mb V vals s hr' hs' hb hw.1 (by omega) (by omega));have HM := hZ (fun w' (h : PutRet w mb V vals 180 (.string s) w') => h.maker (t := .text l) hF hlt hw ht htr);clear h0 hb hw ht hvl hfull hpn hF hlt hr hs hput0 hr' hs' htr hse;go_enter func150, ntmps150;go_wp2_with fail;refine (HS.out).mono ?_;rintro e w1 ⟨rfl, hput⟩;have HB := hZ (HM.out _ hput);clear hput;go_wp2_with fail;go_ret;exact ⟨⟨_, rfl⟩, HB.out.1, HB.out.2⟩
theorem newMaker_any (w : World) : Calls prog 73 #[] w fun e w' => e = .returned (.pointer (some ⟨w.heap.size, 0, none⟩)) ∧ w' = w.alloc (.cells #[.slice none 0 0] 195) := by
 go_enter func73, ntmps73;go_wp2;go_ret;exact ⟨rfl, rfl⟩
theorem tree_any (F : Nat → Prop) (w : World) (mb : Nat) (t : Tr) (h : MakerAt F w mb [t]) : Calls prog 54 #[.pointer (some ⟨mb, 0, none⟩)] w fun e w' => e = .returned (.tuple #[.pointer (some ⟨w.heap.size, 0, none⟩), .nilIface]) ∧ ∃ v, w' = w.alloc (.cells #[v] 176) ∧ TreeAt F w v t := by
 obtain ⟨hF, hlt, V, vals, hb, hw, ht⟩ := h
 obtain ⟨v, rfl⟩ : ∃ v, vals = [v] := by
  have := ht.1
  match vals, this with
  | [v], _ => exact ⟨v, rfl⟩
 have HT := hZ ((ht.2 0 v t rfl rfl).mono (G := F) fun k h => h.1);have hc := cell_of_one hb;rcases hw.1 with ⟨_, hn⟩ | ⟨g, off, cap, cur, rfl, hg, hcp, ho, hm, hi⟩
 ·cases hn
 ·have hcell : w.cell? ⟨g, off, none⟩ = some v := by
   have := hi 0 v rfl;rw [cell_at hg]; simpa using this
  simp only [List.length_cons, List.length_nil, Nat.zero_add] at hc;clear hb hw ht hF hlt hg hcp ho hm hi;obtain ⟨T, x, rfl⟩ := HT.out.iface;go_enter func54, ntmps54;go_wp2_with fail;exact bodyPost_ret (v := .tuple #[.pointer (some ⟨w.heap.size, 0, none⟩), .nilIface]) (by simp [results, results54, go_sem]) rfl ⟨rfl, _, rfl, HT.out⟩
def szV (z : Sz) : Value := .agg #[.int .i64 z.nodes, .int .i64 z.bytes, .int .i64 z.depth]
theorem sized_null (w : World) : Calls prog 343 #[.agg #[]] w fun e w' => e = .returned (.agg #[.int .i64 1, .int .i64 0, .int .i64 1]) ∧ Below w.heap.size w w' := by
 go_enter func343, ntmps343;go_wp2;exact bodyPost_ret (v := .agg #[.int .i64 1, .int .i64 0, .int .i64 1]) (by simp [results, results343, go_sem]) rfl ⟨rfl, ((Below.refl _ _).alloc (Nat.le_refl _) _).alloc (by simp) _⟩
theorem sized_flag (w : World) (b : Bool) : Calls prog 345 #[.bool b] w fun e w' => e = .returned (.agg #[.int .i64 1, .int .i64 0, .int .i64 1]) ∧ Below w.heap.size w w' := by
 go_enter func345, ntmps345;go_wp2;exact bodyPost_ret (v := .agg #[.int .i64 1, .int .i64 0, .int .i64 1]) (by simp [results, results345, go_sem]) rfl ⟨rfl, (Below.refl _ _).alloc (Nat.le_refl _) _⟩
theorem sized_size (w : World) (n b d : Nat) : Calls prog 351 #[.agg #[.int .i64 n, .int .i64 b, .int .i64 d]] w fun e w' => e = .returned (.agg #[.int .i64 n, .int .i64 b, .int .i64 d]) ∧ Below w.heap.size w w' := by
 go_enter func351, ntmps351;go_wp2;exact bodyPost_ret (v := .agg #[.int .i64 n, .int .i64 b, .int .i64 d]) (by simp [results, results351, go_sem]) rfl ⟨rfl, ((Below.refl _ _).alloc (Nat.le_refl _) _).alloc (by simp) _⟩
theorem follow_181 (w : World) (b : Nat) : (follow [⟨186, 0, true⟩] 181 (.val (.pointer (some ⟨b, 0, none⟩)))).run prog w = .ok (183, .var ⟨b, 0, none⟩) w := by kernel_rfl
theorem info_181 (w : World) : (typeInfo 181).run prog w = .ok Tryz.t181 w := by kernel_rfl
theorem follow_187 (w : World) (b : Nat) : (follow [⟨189, 0, true⟩] 187 (.val (.pointer (some ⟨b, 0, none⟩)))).run prog w = .ok (183, .var ⟨b, 0, none⟩) w := by kernel_rfl
theorem info_187 (w : World) : (typeInfo 187).run prog w = .ok Tryz.t187 w := by kernel_rfl
theorem recv_183 (w : World) (a : Addr) : (receiverAt 183 (.var a) false none).run prog w = (loadVar 183 a).run prog w := by kernel_rfl
theorem load_183 {w : World} {b : Nat} {c : Array Value} {T : TypeId} {v0 v1 v2 : Value} (h : w.heap[b]? = some (.cells c T (0, 0))) (h0 : c[0]? = some v0) (h1 : c[1]? = some v1) (h2 : c[2]? = some v2) : (loadVar 183 ⟨b, 0, none⟩).run prog w = .ok (.agg #[v0, v1, v2]) w := by
 have hl := run_loadCells_list (P := prog) w ⟨b, 0, none⟩ [v0, v1, v2] (fun j v hj => by
  have hp : (⟨b, 0, none⟩ : Addr).add j = ⟨b, j, none⟩ := by unfold Addr.add; split <;> simp_all
  rw [hp, cell_at h]
  match j, hj with
  | 0, hj => cases hj; exact h0
  | 1, hj => cases hj; exact h1
  | 2, hj => cases hj; exact h2
  | j + 3, hj => simp at hj)
 simp [loadVar];simp at hl;rw [hl];rfl
theorem method_181 {w : World} {b : Nat} {c : Array Value} {S : TypeId} {v0 v1 v2 : Value} (h : w.heap[b]? = some (.cells c S (0, 0))) (h0 : c[0]? = some v0) (h1 : c[1]? = some v1) (h2 : c[2]? = some v2) :
 (method 565 181 (.pointer (some ⟨b, 0, none⟩)) "affidavit/node.sized").run prog w = .ok (351, .agg #[v0, v1, v2]) w := by
 have hf : Tryz.t181.methods.find? (·.name == "affidavit/node.sized") = some ⟨ "affidavit/node.sized", 388, #[⟨186, 0, true⟩], some (351, false)⟩ := by kernel_rfl
 unfold method;rw [Sem.run_bind, info_181];simp only [Result.andThen_ok, hf];rw [Sem.run_bind, follow_181];simp only [Result.andThen_ok];rw [Sem.run_bind];simp [recv_183, Sem.run_pure, load_183 h h0 h1 h2]
theorem method_187 {w : World} {b : Nat} {c : Array Value} {S : TypeId} {v0 v1 v2 : Value} (h : w.heap[b]? = some (.cells c S (0, 0))) (h0 : c[0]? = some v0) (h1 : c[1]? = some v1) (h2 : c[2]? = some v2) :
 (method 565 187 (.pointer (some ⟨b, 0, none⟩)) "affidavit/node.sized").run prog w = .ok (351, .agg #[v0, v1, v2]) w := by
 have hf : Tryz.t187.methods.find? (·.name == "affidavit/node.sized") = some ⟨ "affidavit/node.sized", 388, #[⟨189, 0, true⟩], some (351, false)⟩ := by kernel_rfl
 unfold method;rw [Sem.run_bind, info_187];simp only [Result.andThen_ok, hf];rw [Sem.run_bind, follow_187];simp only [Result.andThen_ok];rw [Sem.run_bind];simp [recv_183, Sem.run_pure, load_183 h h0 h1 h2]
theorem sized_list_eq (l : List Tr) : (Tr.list l).sized = sumSz 0 (l.map Tr.sized) := by
 rw [Tr.sized];congr 1;exact List.attach_map_val
theorem sized_object_eq (k : List (List UInt8)) (l : List Tr) : (Tr.object k l).sized = sumSz (keysLen k) (l.map Tr.sized) := by
 rw [Tr.sized];congr 1;exact List.attach_map_val
def partSz (bytes : Nat) (l : List Sz) : Sz := l.foldl (fun (a z : Sz) => (⟨a.nodes + z.nodes, a.bytes + z.bytes, max a.depth z.depth⟩ : Sz)) ⟨1, bytes, 0⟩
theorem partSz_snoc (bytes : Nat) (l : List Sz) (z : Sz) : partSz bytes (l ++ [z]) = ⟨(partSz bytes l).nodes + z.nodes, (partSz bytes l).bytes + z.bytes, max (partSz bytes l).depth z.depth⟩ := by
 unfold partSz;rw [List.foldl_append];rfl
theorem sumSz_part (bytes : Nat) (l : List Sz) : sumSz bytes l = ⟨(partSz bytes l).nodes, (partSz bytes l).bytes, (partSz bytes l).depth + 1⟩ := rfl
theorem partSz_take {bytes : Nat} {l : List Sz} {i : Nat} {z : Sz} (h : l[i]? = some z) : partSz bytes (l.take (i + 1)) = ⟨(partSz bytes (l.take i)).nodes + z.nodes, (partSz bytes (l.take i)).bytes + z.bytes, max (partSz bytes (l.take i)).depth z.depth⟩ := by
 rw [← partSz_snoc, List.take_add_one, h];rfl
theorem foldSz_bound : ∀ (l : List Sz) (a : Sz), (∀ z ∈ l, z.within = true) → a.depth ≤ 512 →
 (l.foldl (fun (a z : Sz) => (⟨a.nodes + z.nodes, a.bytes + z.bytes, max a.depth z.depth⟩ : Sz)) a).nodes ≤ a.nodes + l.length * 65536 ∧
 (l.foldl (fun (a z : Sz) => (⟨a.nodes + z.nodes, a.bytes + z.bytes, max a.depth z.depth⟩ : Sz)) a).bytes ≤ a.bytes + l.length * 2097152 ∧
 (l.foldl (fun (a z : Sz) => (⟨a.nodes + z.nodes, a.bytes + z.bytes, max a.depth z.depth⟩ : Sz)) a).depth ≤ 512
 | [], a, _, hd => ⟨by simp, by simp, hd⟩
 | z :: l, a, h, hd => by
  have hz := h z (by simp);simp [Sz.within] at hz;have := foldSz_bound l ⟨a.nodes + z.nodes, a.bytes + z.bytes, max a.depth z.depth⟩ (fun y hy => h y (List.mem_cons_of_mem _ hy)) (by simp only []; omega);simp only [List.foldl_cons, List.length_cons] at this ⊢;omega
theorem partSz_bound {bytes : Nat} {l : List Sz} (h : ∀ z ∈ l, z.within = true) : (partSz bytes l).nodes ≤ 1 + l.length * 65536 ∧ (partSz bytes l).bytes ≤ bytes + l.length * 2097152 ∧ (partSz bytes l).depth ≤ 512 :=
 foldSz_bound l ⟨1, bytes, 0⟩ h (by simp)
def SumAt (w : World) (bytes : Nat) (zs : List Sz) (i : Nat) (wr : World) : Prop :=
 wr.heap[w.heap.size]? = some (.cells #[.int .i64 0, .int .i64 0, .int .i64 0] 183 (0, 0)) ∧ wr.heap[w.heap.size + 1]? = some (.cells #[.int .i64 (partSz bytes (zs.take i)).nodes, .int .i64 (partSz bytes (zs.take i)).bytes, .int .i64 (partSz bytes (zs.take i)).depth] 183 (0, 0)) ∧ Below w.heap.size w wr
theorem SumAt.next {w w4 : World} {bytes i : Nat} {zs : List Sz} {a z : Sz} {V0 V1 V2 : Int} (hs : w4.heap[w.heap.size + 1]? = some (.cells #[.int .i64 a.nodes, .int .i64 a.bytes, .int .i64 a.depth] 183 (0, 0))) (hr : w4.heap[w.heap.size]? = some (.cells #[.int .i64 0, .int .i64 0, .int .i64 0] 183 (0, 0)))
 (hb : Below w.heap.size w w4) (hn : partSz bytes (zs.take (i + 1)) = ⟨a.nodes + z.nodes, a.bytes + z.bytes, max a.depth z.depth⟩) (h0 : V0 = ((a.nodes + z.nodes : Nat) : Int)) (h1 : V1 = ((a.bytes + z.bytes : Nat) : Int)) (h2 : V2 = ((max a.depth z.depth : Nat) : Int)) (o : Obj) :
 SumAt w bytes zs (i + 1) ((((w4.setCell ⟨w.heap.size + 1, 0, none⟩ (.int .i64 V0)).setCell ⟨w.heap.size + 1, 1, none⟩ (.int .i64 V1)).setCell ⟨w.heap.size + 1, 2, none⟩ (.int .i64 V2)).alloc o) := by
 subst h0; subst h1; subst h2;have hsz := lt_of_block hs
 have hk : Keeps (fun k => k = w.heap.size + 1) w4 ((((w4.setCell ⟨w.heap.size + 1, 0, none⟩ (.int .i64 ((a.nodes + z.nodes : Nat) : Int))).setCell ⟨w.heap.size + 1, 1, none⟩ (.int .i64 ((a.bytes + z.bytes : Nat) : Int))).setCell ⟨w.heap.size + 1, 2, none⟩ (.int .i64 ((max a.depth z.depth : Nat) : Int))).alloc o) :=
  ((((Keeps.refl (fun k => k = w.heap.size + 1) w4).setCell (p := ⟨w.heap.size + 1, 0, none⟩) (.inl rfl) _).setCell (p := ⟨w.heap.size + 1, 1, none⟩) (.inl rfl) _).setCell (p := ⟨w.heap.size + 1, 2, none⟩) (.inl rfl) _).alloc _
 refine ⟨hk.blk hr (by omega), ?_, hb.trans (hk.toBelow hb.size (fun k e => by omega))⟩;rw [hn];exact (Below.heap_alloc _ _ _ (by simpa [World.setCell] using hsz)).trans (set_at (set_at (set_at hs _) _) _)
theorem summed_any (F : Nat → Prop) (w : World) (V : Value) (vals : List Value) (items : List Tr) (bytes : Nat) (hw : Win 97 id w V vals) (ht : Trees F w vals items) (hin : ∀ t ∈ items, t.sized.within = true) (hlen : items.length ≤ 65536) (hby : bytes ≤ 1073741824) :
 Calls prog 221 #[V, .int .i64 bytes] w fun e w' => e = .returned (szV (sumSz bytes (items.map Tr.sized))) ∧ Below w.heap.size w w' := by
 obtain ⟨zs, hzs⟩ : ∃ zs, items.map Tr.sized = zs := ⟨_, rfl⟩;have hzl : zs.length = vals.length := by rw [← hzs, List.length_map, ht.1]
 have hzw : ∀ z ∈ zs, z.within = true := fun z hz => by
  rw [← hzs] at hz;obtain ⟨t, h1, rfl⟩ := List.mem_map.1 hz;exact hin t h1
 have hvl : vals.length ≤ 65536 := by rw [ht.1]; exact hlen
 have hbnd : ∀ i, (partSz bytes (zs.take i)).nodes ≤ 4294967297 ∧ (partSz bytes (zs.take i)).bytes ≤ 138512695296 ∧ (partSz bytes (zs.take i)).depth ≤ 512 := fun i => by
  have := partSz_bound (bytes := bytes) (l := zs.take i) (fun z hz => hzw z (List.mem_of_mem_take hz));have hl : (zs.take i).length ≤ 65536 := by rw [List.length_take]; omega
  omega
 rw [hzs, sumSz_part];have HZS := hZ hzs;have HT := hZ ht;have HWN := hZ hw;have HBND := hZ hbnd;have HZL := hZ hzl;have HZW := hZ hzw
 have hinit : SumAt w bytes zs 0 ((w.alloc (.cells #[.int .i64 0, .int .i64 0, .int .i64 0] 183)).alloc (.cells #[.int .i64 1, .int .i64 bytes, .int .i64 0] 183)) := by
  refine ⟨(Below.heap_alloc _ _ _ (by simp)).trans (heap_alloc_new w _), ?_, ((Below.refl _ _).alloc (Nat.le_refl _) _).alloc (by simp) _⟩;have := heap_alloc_new (w.alloc (.cells #[.int .i64 0, .int .i64 0, .int .i64 0] 183)) (.cells #[.int .i64 1, .int .i64 bytes, .int .i64 0] 183);rw [World.size_alloc] at this;exact this
 have HI := hZ hinit;obtain ⟨va, vc, hV⟩ := hw.shape;subst hV;clear hzs hzl hzw hbnd ht hw hin hlen hinit;rcases Nat.eq_zero_or_pos vals.length with h0 | h0
 ·rw [h0];have HV0 := hZ h0;clear h0;go_enter func221, ntmps221;go_wp2_with fail
  go_loopw [13] (fun v wr => v = .int .i64 0 ∧ Hid (SumAt w bytes zs 0 wr)) (fun _ _ => 0)
  case atStart => exact ⟨rfl, HI⟩
  case round =>
   obtain ⟨rfl, HS⟩ := hrel;obtain ⟨hr0, hs0, hbl0⟩ := HS.out;obtain ⟨a, ha⟩ : ∃ a, partSz bytes (zs.take 0) = a := ⟨_, rfl⟩;rw [ha] at hs0;have hab : a = ⟨1, bytes, 0⟩ := ha.symm;have hz0 : zs = [] := List.eq_nil_of_length_eq_zero (by rw [HZL.out, HV0.out]);have HA2 := hZ (show partSz bytes zs = a by rw [← ha, hz0]; rfl);have q0 : wr.cell? ⟨w.heap.size + 1, 0, none⟩ = some (.int .i64 a.nodes) := by rw [cell_at hs0]; rfl
   have q1 : wr.cell? ⟨w.heap.size + 1, 1, none⟩ = some (.int .i64 a.bytes) := by rw [cell_at hs0]; rfl
   have q2 : wr.cell? ⟨w.heap.size + 1, 2, none⟩ = some (.int .i64 a.depth) := by rw [cell_at hs0]; rfl
   have qf : ∀ o, wr.frozen? ⟨w.heap.size + 1, o, none⟩ = false := free_at hs0;have r0 : wr.cell? ⟨w.heap.size, 0, none⟩ = some (.int .i64 0) := by rw [cell_at hr0]; rfl
   have r1 : wr.cell? ⟨w.heap.size, 1, none⟩ = some (.int .i64 0) := by rw [cell_at hr0]; rfl
   have r2 : wr.cell? ⟨w.heap.size, 2, none⟩ = some (.int .i64 0) := by rw [cell_at hr0]; rfl
   have rf : ∀ o, wr.frozen? ⟨w.heap.size, o, none⟩ = false := free_at hr0;have hab3 : a.depth ≤ 512 := by rw [hab]; simp
   have HR0 := hZ hr0;have HBL := hZ hbl0;clear hr0 hs0 hbl0 ha hab hz0 HI;go_wp2_with fail;rw [HA2.out];have hk1 : Keeps (fun k => k = w.heap.size + 1) wr (wr.setCell ⟨w.heap.size + 1, 2, none⟩ (.int .i64 ((a.depth : Int) + 1))) := (Keeps.refl (fun k => k = w.heap.size + 1) wr).setCell (p := ⟨w.heap.size + 1, 2, none⟩) (.inl rfl) _;have hr1 := hk1.blk HR0.out (by omega);have hfin := set_at (set_at (set_at hr1 (o := 0) (.int .i64 a.nodes)) (o := 1) (.int .i64 a.bytes)) (o := 2) (.int .i64 ((a.depth : Int) + 1));simp only [List.setIfInBounds_toArray, List.set_cons_zero, List.set_cons_succ] at hfin;have hbl := ((((HBL.out.setCell (p := ⟨w.heap.size + 1, 2, none⟩) (by simp) (.int .i64 ((a.depth : Int) + 1))).setCell (p := ⟨w.heap.size, 0, none⟩) (Nat.le_refl _) (.int .i64 a.nodes)).setCell (p := ⟨w.heap.size, 1, none⟩) (Nat.le_refl _) (.int .i64 a.bytes)).setCell (p := ⟨w.heap.size, 2, none⟩) (Nat.le_refl _) (.int .i64 ((a.depth : Int) + 1)));obtain ⟨Wf, hWf⟩ : ∃ Wf, ((((wr.setCell ⟨w.heap.size + 1, 2, none⟩ (.int .i64 ((a.depth : Int) + 1))).setCell ⟨w.heap.size, 0, none⟩ (.int .i64 a.nodes)).setCell ⟨w.heap.size, 1, none⟩ (.int .i64 a.bytes)).setCell ⟨w.heap.size, 2, none⟩ (.int .i64 ((a.depth : Int) + 1))) = Wf := ⟨_, rfl⟩;rw [hWf] at hfin hbl ⊢;have y0 : Wf.cell? ⟨w.heap.size, 0, none⟩ = some (.int .i64 a.nodes) := by rw [cell_at hfin]; rfl
   have y1 : Wf.cell? ⟨w.heap.size, 1, none⟩ = some (.int .i64 a.bytes) := by rw [cell_at hfin]; rfl
   have y2 : Wf.cell? ⟨w.heap.size, 2, none⟩ = some (.int .i64 ((a.depth : Int) + 1)) := by rw [cell_at hfin]; rfl
   exact bodyPost_ret (v := .agg #[.int .i64 a.nodes, .int .i64 a.bytes, .int .i64 ((a.depth : Int) + 1)]) (by simp [results, results221, go_sem, y0, y1, y2]) rfl ⟨rfl, hbl⟩
 ·obtain ⟨g, off, cur, rfl, hgb, hcell⟩ : ∃ g off cur, va = some ⟨g, off, none⟩ ∧ w.heap[g]? = some (.cells cur 97 (0, 0)) ∧ ∀ i x, vals[i]? = some x → cur[off + i]? = some x := by
   rcases HWN.out with ⟨hv, hn⟩ | ⟨g, off, cap, cur, hv, hg, hc, ho, hm, hi⟩
   ·rw [hn] at h0; simp at h0
   ·cases hv; exact ⟨g, off, cur, rfl, hg, hi⟩
  have hgl := lt_of_block hgb;have HGB := hZ hgb;have HCL := hZ hcell;clear hgb hcell h0;go_enter func221, ntmps221;go_wp2_with fail
  go_loopw [13] (fun v wr => ∃ i : Nat, v = .int .i64 i ∧ i ≤ vals.length ∧ Hid (SumAt w bytes zs i wr)) (fun v _ => vals.length - (intOf v).toNat)
  case atStart => exact ⟨0, rfl, Nat.zero_le _, HI⟩
  case round =>
   obtain ⟨i, rfl, hin, HS⟩ := hrel;clear HI;obtain ⟨hr0, hs0, hbl0⟩ := HS.out;obtain ⟨a, ha⟩ : ∃ a, partSz bytes (zs.take i) = a := ⟨_, rfl⟩;have hab := HBND.out i;rw [ha] at hs0 hab;obtain ⟨hab1, hab2, hab3⟩ := hab;have q0 : wr.cell? ⟨w.heap.size + 1, 0, none⟩ = some (.int .i64 a.nodes) := by rw [cell_at hs0]; rfl
   have q1 : wr.cell? ⟨w.heap.size + 1, 1, none⟩ = some (.int .i64 a.bytes) := by rw [cell_at hs0]; rfl
   have q2 : wr.cell? ⟨w.heap.size + 1, 2, none⟩ = some (.int .i64 a.depth) := by rw [cell_at hs0]; rfl
   have qf : ∀ o, wr.frozen? ⟨w.heap.size + 1, o, none⟩ = false := free_at hs0;have r0 : wr.cell? ⟨w.heap.size, 0, none⟩ = some (.int .i64 0) := by rw [cell_at hr0]; rfl
   have r1 : wr.cell? ⟨w.heap.size, 1, none⟩ = some (.int .i64 0) := by rw [cell_at hr0]; rfl
   have r2 : wr.cell? ⟨w.heap.size, 2, none⟩ = some (.int .i64 0) := by rw [cell_at hr0]; rfl
   have rf : ∀ o, wr.frozen? ⟨w.heap.size, o, none⟩ = false := free_at hr0;have hszr := lt_of_block hs0;have HR0 := hZ hr0;have HS0 := hZ hs0;have HA := hZ ha;have HBL := hZ hbl0
   by_cases hlt : i < vals.length
   ·have hlt2 : (i : Int) < (vals.length : Int) := by omega
    obtain ⟨vi, hvi⟩ : ∃ vi, vals[i]? = some vi := ⟨_, List.getElem?_eq_getElem hlt⟩;obtain ⟨ti, hti⟩ : ∃ ti, items[i]? = some ti := ⟨_, List.getElem?_eq_getElem (by have := HT.out.1; omega)⟩;obtain ⟨zi, hzi⟩ : ∃ zi, ti.sized = zi := ⟨_, rfl⟩;have hzz : zs[i]? = some zi := by rw [← HZS.out, List.getElem?_map, hti, ← hzi]; rfl
    have htree := HT.out.2 i vi ti hvi hti
    have hcv : wr.cell? ⟨g, off + i, none⟩ = some vi := by
     rw [cell_at ((hbl0.block g hgl).trans HGB.out)];exact HCL.out i vi hvi
    have hzb := HZW.out zi (List.mem_of_getElem? hzz);have hzb2 : zi.nodes ≤ 65536 ∧ zi.bytes ≤ 2097152 ∧ zi.depth ≤ 512 := by simp [Sz.within] at hzb; omega
    obtain ⟨hzb3, hzb4, hzb5⟩ := hzb2;have HNXT := hZ (show partSz bytes (zs.take (i + 1)) = ⟨a.nodes + zi.nodes, a.bytes + zi.bytes, max a.depth zi.depth⟩ by rw [partSz_take hzz, ha]);clear hvi hti hzz hzb ha hr0 hs0;cases htree with
    | null =>
     have hm : ∀ w : World, (method 565 177 (.agg #[]) "affidavit/node.sized").run prog w = .ok (343, .agg #[]) w := fun _ => by kernel_rfl
     have HSZ := hZ (fun w0 => sized_null w0);have hz1 : zi.nodes = 1 ∧ zi.bytes = 0 ∧ zi.depth = 1 := by rw [← hzi]; simp [Tr.sized]
     clear hzi hbl0;go_wp2_with fail;refine (HSZ.out _).mono ?_;rintro e w4 ⟨rfl, hb4⟩;have hs4 := keep HS0.out hb4;have hr4 := keep HR0.out hb4;have d0 : w4.cell? ⟨w.heap.size + 1, 0, none⟩ = some (.int .i64 a.nodes) := by rw [cell_at hs4]; rfl
     have d1 : w4.cell? ⟨w.heap.size + 1, 1, none⟩ = some (.int .i64 a.bytes) := by rw [cell_at hs4]; rfl
     have d2 : w4.cell? ⟨w.heap.size + 1, 2, none⟩ = some (.int .i64 a.depth) := by rw [cell_at hs4]; rfl
     have df : ∀ o, w4.frozen? ⟨w.heap.size + 1, o, none⟩ = false := free_at hs4;have hsz4 := lt_of_block hs4;have hne4 : ¬ w.heap.size + 1 = w4.heap.size := by omega
     have hne5 : ¬ w4.heap.size = w.heap.size + 1 := by omega
     have HS4 := hZ hs4;have HR4 := hZ hr4;have HB4 := hZ (HBL.out.trans (hb4.mono (Nat.le_of_lt (by omega))));clear hs4 hr4 hb4 q0 q1 q2 qf r0 r1 r2 rf hcv;go_wp2_with fail;refine ⟨⟨i + 1, by congr 1, by omega, hZ (SumAt.next HS4.out HR4.out HB4.out HNXT.out (by omega) (by omega) (by omega) _)⟩, ?_⟩
     show vals.length - ((i : Int) + 1).toNat < vals.length - ((i : Int)).toNat
     omega
    | flag b =>
     have hm : ∀ w : World, (method 565 178 (.bool b) "affidavit/node.sized").run prog w = .ok (345, .bool b) w := fun _ => by kernel_rfl
     have HSZ := hZ (fun w0 => sized_flag w0 b);have hz1 : zi.nodes = 1 ∧ zi.bytes = 0 ∧ zi.depth = 1 := by rw [← hzi]; simp [Tr.sized]
     clear hzi hbl0;go_wp2_with fail;refine (HSZ.out _).mono ?_;rintro e w4 ⟨rfl, hb4⟩;have hs4 := keep HS0.out hb4;have hr4 := keep HR0.out hb4;have d0 : w4.cell? ⟨w.heap.size + 1, 0, none⟩ = some (.int .i64 a.nodes) := by rw [cell_at hs4]; rfl
     have d1 : w4.cell? ⟨w.heap.size + 1, 1, none⟩ = some (.int .i64 a.bytes) := by rw [cell_at hs4]; rfl
     have d2 : w4.cell? ⟨w.heap.size + 1, 2, none⟩ = some (.int .i64 a.depth) := by rw [cell_at hs4]; rfl
     have df : ∀ o, w4.frozen? ⟨w.heap.size + 1, o, none⟩ = false := free_at hs4;have hsz4 := lt_of_block hs4;have hne4 : ¬ w.heap.size + 1 = w4.heap.size := by omega
     have hne5 : ¬ w4.heap.size = w.heap.size + 1 := by omega
     have HS4 := hZ hs4;have HR4 := hZ hr4;have HB4 := hZ (HBL.out.trans (hb4.mono (Nat.le_of_lt (by omega))));clear hs4 hr4 hb4 q0 q1 q2 qf r0 r1 r2 rf hcv;go_wp2_with fail;refine ⟨⟨i + 1, by congr 1, by omega, hZ (SumAt.next HS4.out HR4.out HB4.out HNXT.out (by omega) (by omega) (by omega) _)⟩, ?_⟩
     show vals.length - ((i : Int) + 1).toNat < vals.length - ((i : Int)).toNat
     omega
    | num x =>
     have hm : ∀ w : World, (method 565 179 (.float .f64 x) "affidavit/node.sized").run prog w = .ok (347, .float .f64 x) w := fun _ => by kernel_rfl
     have HSZ := hZ (fun w0 => sized_num w0 x);have hz1 : zi.nodes = 1 ∧ zi.bytes = 0 ∧ zi.depth = 1 := by rw [← hzi]; simp [Tr.sized]
     clear hzi hbl0;go_wp2_with fail;refine (HSZ.out _).mono ?_;rintro e w4 ⟨rfl, hb4⟩;have hs4 := keep HS0.out hb4;have hr4 := keep HR0.out hb4;have d0 : w4.cell? ⟨w.heap.size + 1, 0, none⟩ = some (.int .i64 a.nodes) := by rw [cell_at hs4]; rfl
     have d1 : w4.cell? ⟨w.heap.size + 1, 1, none⟩ = some (.int .i64 a.bytes) := by rw [cell_at hs4]; rfl
     have d2 : w4.cell? ⟨w.heap.size + 1, 2, none⟩ = some (.int .i64 a.depth) := by rw [cell_at hs4]; rfl
     have df : ∀ o, w4.frozen? ⟨w.heap.size + 1, o, none⟩ = false := free_at hs4;have hsz4 := lt_of_block hs4;have hne4 : ¬ w.heap.size + 1 = w4.heap.size := by omega
     have hne5 : ¬ w4.heap.size = w.heap.size + 1 := by omega
     have HS4 := hZ hs4;have HR4 := hZ hr4;have HB4 := hZ (HBL.out.trans (hb4.mono (Nat.le_of_lt (by omega))));clear hs4 hr4 hb4 q0 q1 q2 qf r0 r1 r2 rf hcv;go_wp2_with fail;refine ⟨⟨i + 1, by congr 1, by omega, hZ (SumAt.next HS4.out HR4.out HB4.out HNXT.out (by omega) (by omega) (by omega) _)⟩, ?_⟩
     show vals.length - ((i : Int) + 1).toNat < vals.length - ((i : Int)).toNat
     omega
    | text s =>
     obtain ⟨sv, hsv⟩ : ∃ sv : ByteArray, (⟨s.toArray⟩ : ByteArray) = sv := ⟨_, rfl⟩;rw [hsv] at hcv;have hss : sv.size = s.length := by rw [← hsv]; show s.toArray.size = _; simp
     have hm : ∀ w : World, (method 565 180 (.string sv) "affidavit/node.sized").run prog w = .ok (349, .string sv) w := fun _ => by kernel_rfl
     have HSZ := hZ (fun w0 => sized_text w0 sv);rw [hss] at HSZ;have hz1 : zi.nodes = 1 ∧ zi.bytes = s.length ∧ zi.depth = 1 := by rw [← hzi]; simp [Tr.sized]
     clear hsv hss;clear hzi hbl0;go_wp2_with fail;refine (HSZ.out _).mono ?_;rintro e w4 ⟨rfl, hb4⟩;have hs4 := keep HS0.out hb4;have hr4 := keep HR0.out hb4;have d0 : w4.cell? ⟨w.heap.size + 1, 0, none⟩ = some (.int .i64 a.nodes) := by rw [cell_at hs4]; rfl
     have d1 : w4.cell? ⟨w.heap.size + 1, 1, none⟩ = some (.int .i64 a.bytes) := by rw [cell_at hs4]; rfl
     have d2 : w4.cell? ⟨w.heap.size + 1, 2, none⟩ = some (.int .i64 a.depth) := by rw [cell_at hs4]; rfl
     have df : ∀ o, w4.frozen? ⟨w.heap.size + 1, o, none⟩ = false := free_at hs4;have hsz4 := lt_of_block hs4;have hne4 : ¬ w.heap.size + 1 = w4.heap.size := by omega
     have hne5 : ¬ w4.heap.size = w.heap.size + 1 := by omega
     have HS4 := hZ hs4;have HR4 := hZ hr4;have HB4 := hZ (HBL.out.trans (hb4.mono (Nat.le_of_lt (by omega))));clear hs4 hr4 hb4 q0 q1 q2 qf r0 r1 r2 rf hcv;go_wp2_with fail;refine ⟨⟨i + 1, by congr 1, by omega, hZ (SumAt.next HS4.out HR4.out HB4.out HNXT.out (by omega) (by omega) (by omega) _)⟩, ?_⟩
     show vals.length - ((i : Int) + 1).toNat < vals.length - ((i : Int)).toNat
     omega
    | list b2 itemsV vals2 l2 hb2 hblk hw2 hlen2 ht2 =>
     have hblk2 := (hbl0.block b2 (lt_of_block hblk)).trans hblk;have hm := method_181 hblk2 rfl rfl rfl;rw [hzi] at hm;have HSZ := hZ (fun w0 => sized_size w0 zi.nodes zi.bytes zi.depth);have hz1 : zi.nodes = zi.nodes ∧ zi.bytes = zi.bytes ∧ zi.depth = zi.depth := ⟨rfl, rfl, rfl⟩;clear hblk hblk2 hw2 ht2;clear hzi hbl0;go_wp2_with fail;refine (HSZ.out _).mono ?_;rintro e w4 ⟨rfl, hb4⟩;have hs4 := keep HS0.out hb4;have hr4 := keep HR0.out hb4;have d0 : w4.cell? ⟨w.heap.size + 1, 0, none⟩ = some (.int .i64 a.nodes) := by rw [cell_at hs4]; rfl
     have d1 : w4.cell? ⟨w.heap.size + 1, 1, none⟩ = some (.int .i64 a.bytes) := by rw [cell_at hs4]; rfl
     have d2 : w4.cell? ⟨w.heap.size + 1, 2, none⟩ = some (.int .i64 a.depth) := by rw [cell_at hs4]; rfl
     have df : ∀ o, w4.frozen? ⟨w.heap.size + 1, o, none⟩ = false := free_at hs4;have hsz4 := lt_of_block hs4;have hne4 : ¬ w.heap.size + 1 = w4.heap.size := by omega
     have hne5 : ¬ w4.heap.size = w.heap.size + 1 := by omega
     have HS4 := hZ hs4;have HR4 := hZ hr4;have HB4 := hZ (HBL.out.trans (hb4.mono (Nat.le_of_lt (by omega))));clear hs4 hr4 hb4 q0 q1 q2 qf r0 r1 r2 rf hcv;go_wp2_with fail;refine ⟨⟨i + 1, by congr 1, by omega, hZ (SumAt.next HS4.out HR4.out HB4.out HNXT.out (by omega) (by omega) (by omega) _)⟩, ?_⟩
     show vals.length - ((i : Int) + 1).toNat < vals.length - ((i : Int)).toNat
     omega
    | object b2 keysV itemsV vals2 keys l2 hb2 hblk hk2 hw2 hlen2 ht2 =>
     have hblk2 := (hbl0.block b2 (lt_of_block hblk)).trans hblk;have hm := method_187 hblk2 rfl rfl rfl;rw [hzi] at hm;have HSZ := hZ (fun w0 => sized_size w0 zi.nodes zi.bytes zi.depth);have hz1 : zi.nodes = zi.nodes ∧ zi.bytes = zi.bytes ∧ zi.depth = zi.depth := ⟨rfl, rfl, rfl⟩;clear hblk hblk2 hk2 hw2 ht2;clear hzi hbl0;go_wp2_with fail;refine (HSZ.out _).mono ?_;rintro e w4 ⟨rfl, hb4⟩;have hs4 := keep HS0.out hb4;have hr4 := keep HR0.out hb4;have d0 : w4.cell? ⟨w.heap.size + 1, 0, none⟩ = some (.int .i64 a.nodes) := by rw [cell_at hs4]; rfl
     have d1 : w4.cell? ⟨w.heap.size + 1, 1, none⟩ = some (.int .i64 a.bytes) := by rw [cell_at hs4]; rfl
     have d2 : w4.cell? ⟨w.heap.size + 1, 2, none⟩ = some (.int .i64 a.depth) := by rw [cell_at hs4]; rfl
     have df : ∀ o, w4.frozen? ⟨w.heap.size + 1, o, none⟩ = false := free_at hs4;have hsz4 := lt_of_block hs4;have hne4 : ¬ w.heap.size + 1 = w4.heap.size := by omega
     have hne5 : ¬ w4.heap.size = w.heap.size + 1 := by omega
     have HS4 := hZ hs4;have HR4 := hZ hr4;have HB4 := hZ (HBL.out.trans (hb4.mono (Nat.le_of_lt (by omega))));clear hs4 hr4 hb4 q0 q1 q2 qf r0 r1 r2 rf hcv;go_wp2_with fail;refine ⟨⟨i + 1, by congr 1, by omega, hZ (SumAt.next HS4.out HR4.out HB4.out HNXT.out (by omega) (by omega) (by omega) _)⟩, ?_⟩
     show vals.length - ((i : Int) + 1).toNat < vals.length - ((i : Int)).toNat
     omega
   ·have heq : i = vals.length := by omega
    subst heq;clear ha hr0 hs0 hbl0;go_wp2_with fail;have ha := HA.out;rw [List.take_of_length_le (Nat.le_of_eq HZL.out)] at ha;rw [ha];have hk1 : Keeps (fun k => k = w.heap.size + 1) wr (wr.setCell ⟨w.heap.size + 1, 2, none⟩ (.int .i64 ((a.depth : Int) + 1))) := (Keeps.refl (fun k => k = w.heap.size + 1) wr).setCell (p := ⟨w.heap.size + 1, 2, none⟩) (.inl rfl) _;have hr1 := hk1.blk HR0.out (by omega);have hfin := set_at (set_at (set_at hr1 (o := 0) (.int .i64 a.nodes)) (o := 1) (.int .i64 a.bytes)) (o := 2) (.int .i64 ((a.depth : Int) + 1));simp only [List.setIfInBounds_toArray, List.set_cons_zero, List.set_cons_succ] at hfin;have hbl := ((((HBL.out.setCell (p := ⟨w.heap.size + 1, 2, none⟩) (by simp) (.int .i64 ((a.depth : Int) + 1))).setCell (p := ⟨w.heap.size, 0, none⟩) (Nat.le_refl _) (.int .i64 a.nodes)).setCell (p := ⟨w.heap.size, 1, none⟩) (Nat.le_refl _) (.int .i64 a.bytes)).setCell (p := ⟨w.heap.size, 2, none⟩) (Nat.le_refl _) (.int .i64 ((a.depth : Int) + 1)));obtain ⟨Wf, hWf⟩ : ∃ Wf, ((((wr.setCell ⟨w.heap.size + 1, 2, none⟩ (.int .i64 ((a.depth : Int) + 1))).setCell ⟨w.heap.size, 0, none⟩ (.int .i64 a.nodes)).setCell ⟨w.heap.size, 1, none⟩ (.int .i64 a.bytes)).setCell ⟨w.heap.size, 2, none⟩ (.int .i64 ((a.depth : Int) + 1))) = Wf := ⟨_, rfl⟩;rw [hWf] at hfin hbl ⊢;have y0 : Wf.cell? ⟨w.heap.size, 0, none⟩ = some (.int .i64 a.nodes) := by rw [cell_at hfin]; rfl
    have y1 : Wf.cell? ⟨w.heap.size, 1, none⟩ = some (.int .i64 a.bytes) := by rw [cell_at hfin]; rfl
    have y2 : Wf.cell? ⟨w.heap.size, 2, none⟩ = some (.int .i64 ((a.depth : Int) + 1)) := by rw [cell_at hfin]; rfl
    exact bodyPost_ret (v := .agg #[.int .i64 a.nodes, .int .i64 a.bytes, .int .i64 ((a.depth : Int) + 1)]) (by simp [results, results221, go_sem, y0, y1, y2]) rfl ⟨rfl, hbl⟩
end Go.Proofs.YtakkmiomhackiaaGreatDoor
