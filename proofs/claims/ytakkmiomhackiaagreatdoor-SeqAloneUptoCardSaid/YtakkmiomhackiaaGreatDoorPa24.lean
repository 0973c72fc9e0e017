/-
  The program, one part of its walk: Nd6, Ob1, Ob2, Ob3. Conditions: none.
-/
import Derived.Test.YtakkmiomhackiaaGreatDoorPa16
import Derived.Test.YtakkmiomhackiaaGreatDoorPa23
import Derived.Test.YtakkmiomhackiaaGreatDoorPa00
set_option linter.all false
set_option maxRecDepth 100000
set_option maxHeartbeats 16000000
open Go.Proofs.Tryz
namespace Go.Proofs.YtakkmiomhackiaaGreatDoor
open Go.RowKit
theorem used_null (w : World) : Calls prog 213 #[.agg #[.int .i64 1, .bool false, .int .u64 0, .string ⟨#[]⟩, .int .i64 0, .slice none 0 0]] w fun e w' => e = .returned (.bool true) ∧ Below w.heap.size w w' := by
 go_enter func213, ntmps213;go_wp2;go_ret;exact ⟨rfl, (Below.refl _ _).alloc (Nat.le_refl _) _⟩
theorem put_null (w : World) (b : Nat) (V : Value) (vals : List Value) (h : w.heap[b]? = some (.cells #[V] 195 (0, 0))) (hw : Win 97 id w V vals) (hl : vals.length ≤ 1048576) :
 Calls prog 214 #[.pointer (some ⟨b, 0, none⟩), .iface 177 (.agg #[])] w fun e w' => e = .returned (.tuple #[]) ∧ PutRet w b V vals 177 (.agg #[]) w' := by
 have hm : ∀ w : World, (method 565 177 (.agg #[]) "affidavit/node.sized").run prog w = .ok (343, .agg #[]) w := fun _ => by kernel_rfl
 have HS := hZ (sized_null w);have HZ := hZ (fun w => size_fits w 1 0 1 (by decide));have HW := hZ hw;have H := hZ h;have HNE := hZ (hw.ne h (by decide));have hlt := lt_of_block h;obtain ⟨ta, tc, htv⟩ := hw.shape;clear h hw;subst htv;go_enter func214, ntmps214;go_wp2_with fail;refine (HS.out).mono ?_;rintro e w1 ⟨rfl, hb1⟩;have HB1 := hZ hb1;clear hb1;go_wp2_with fail;refine (HZ.out _).mono ?_;rintro e w2 ⟨rfl, hb2⟩;have hb := chain HB1.out hb2;have h2 := keep H.out hb;have hc0 := cell_of_one h2;have hf0 := free_of_one h2;have HH2 := hZ h2;have HB := hZ hb;have hlt2 := lt_of_block h2;have hr2 : Win 97 id (w2.alloc (.cells #[.iface 177 (.agg #[])] 97)) (.slice ta vals.length tc) vals := (HW.out.keeps (Keeps.of_below (fun _ => False) hb) (fun _ _ => id)).keeps (F := fun _ => False) ((Keeps.refl _ w2).alloc _) (fun _ _ => id);have HR := hZ hr2;clear hb2 hb h2 hr2
 go_wp2_with (at_builtin; refine append_win elemItem rfl _ _ rfl rfl HR.out ⟨w2.heap.size, 0, none⟩ 1 (.iface 177 (.agg #[])) rfl ?_ rfl ?_ ?_ ?_)
 ·exact cell_new rfl
 ·omega
 ·unfold maxLen; omega
 intro g off cap w' hrow hgb0 hgr;have hb' := (hgr.block b (by simp; omega) (fun e => HNE.out e.symm)).trans ((Below.heap_alloc w2 _ _ hlt2).trans HH2.out);have HNG := hZ (hrow.ne hb' (by decide));have HGB := hZ (show (Value.slice ta vals.length tc).ownBlock = some g ∨ w.heap.size ≤ g from hgb0.elim .inl (fun h => .inr (Nat.le_trans HB.out.size (Nat.le_trans (by simp) h.1))));have HK := hZ (((Keeps.of_below (fun k => k = b ∨ (Value.slice ta vals.length tc).ownBlock = some k) HB.out).alloc (.cells #[.iface 177 (.agg #[])] 97)).grown hgr (fun k e => .inl (.inr e)));have HROW := hZ hrow;have hc1 := cell_of_one hb';have hf1 := free_of_one hb';have HB3 := hZ hb';clear hb' hrow hgb0 hgr hc0 hf0;go_wp2_with fail
 go_end0
 have hks : Keeps (fun k => k = b) w' (w'.setCell ⟨b, 0, none⟩ (.slice (some ⟨g, off, none⟩) (vals.length + 1) cap)) := (Keeps.refl (fun k => k = b) w').setCell (p := ⟨b, 0, none⟩) (.inl rfl) _;exact ⟨rfl, g, off, cap, set_at HB3.out _, HROW.out.keeps hks (fun k e hk => HNG.out (e.trans (congrArg some hk))), HGB.out, HK.out.setCell (p := ⟨b, 0, none⟩) (.inl (.inl rfl)) _⟩
theorem do_null (w : World) (b : Nat) (V : Value) (vals : List Value) (h : w.heap[b]? = some (.cells #[V] 195 (0, 0))) (hw : Win 97 id w V vals) (hl : vals.length ≤ 1048576) :
 Calls prog 196 #[.pointer (some ⟨b, 0, none⟩), .agg #[.int .i64 1, .bool false, .int .u64 0, .string ⟨#[]⟩, .int .i64 0, .slice none 0 0]] w fun e w' => e = .returned .nilIface ∧ PutRet w b V vals 177 (.agg #[]) w' := by
 have hmf : ∀ (fn : Fn) (first cap : Array Value) (w : World), (Instr.makeFunc fn first cap).run prog w = .ok (.func fn first cap) w := fun _ _ _ _ => rfl
 have HU := hZ (fun w => used_null w);have hb0 := lt_of_block h;have HP := hZ (fun w' (hb : Below w.heap.size w w') => put_null w' b V vals (keep h hb) (hw.keeps (Keeps.of_below (fun _ => False) hb) (fun _ _ => id)) hl);have HVL := hZ (fun k (hk : V.ownBlock = some k) => hw.lt hk);clear h hw
 go_enter_defers func196, ntmps196
 go_wp2_with fail;refine (HU.out _).mono ?_;rintro e w1 ⟨rfl, hb1⟩;obtain ⟨g1, g2, hbw, hsz⟩ := after2 hb1;obtain ⟨q0, q1, q2, q3, q4, q5, qf⟩ := cells6 g1;have G2 := hZ g2;have HBW := hZ hbw;clear hb1 g1 g2 hbw;go_wp2_with fail;refine (refuse_no _ 2).mono ?_;rintro e w2 ⟨rfl, rfl⟩;go_wp2_with fail;refine (HP.out _ HBW.out).mono ?_;rintro e w5 ⟨rfl, hput⟩;obtain ⟨r0, rf, hput2, rc⟩ := hput.close HBW.out (Nat.le_succ _) G2.out HVL.out hb0 .nilIface;have HPUT := hZ hput2;clear hput hput2;go_wp2_with fail;refine leaves_cons (f := 211) (args := #[.pointer (some ⟨w.heap.size + 1, 0, none⟩)]) (by simp) (by simp [go_sem]) ?_;refine (doCatch_idle ⟨w.heap.size + 1, 0, none⟩ _).mono ?_;rintro e u' w'' ⟨rfl, rfl, rfl⟩;have hend := HPUT.out;simp [Leaves, settle, results, results196, go_sem, rc];exact hend
theorem step_null (w : World) (b : Nat) (V : Value) (vals : List Value) (h : w.heap[b]? = some (.cells #[V] 195 (0, 0))) (hw : Win 97 id w V vals) (hl : vals.length ≤ 1048576) (hlt : vals.length < 65536) :
 Calls prog 175 #[.pointer (some ⟨b, 0, none⟩), .agg #[.int .i64 1, .bool false, .int .u64 0, .string ⟨#[]⟩, .int .i64 0, .slice none 0 0]] w fun e w' => e = .returned .nilIface ∧ PutRet w b V vals 177 (.agg #[]) w' := by
 have hal : Below w.heap.size w (w.alloc (.cells #[.int .i64 1, .bool false, .int .u64 0, .string ⟨#[]⟩, .int .i64 0, .slice none 0 0] 147)) := (Below.refl _ _).alloc (Nat.le_refl _) _;have HD := hZ (fun w1 (hb : Below w.heap.size w w1) => do_null w1 b V vals (keep h hb) (hw.keeps (Keeps.of_below (fun _ => False) hb) (fun _ _ => id)) hl);have hc := cell_of_one h;have hb0 := lt_of_block h;obtain ⟨ta, tc, htv⟩ := hw.shape;have hge : decide (65536 ≤ vals.length) = false := decide_eq_false (by omega);have hge2 : ¬ 65536 ≤ vals.length := by omega
 have hge3 : ¬ (65536 : Int) ≤ (vals.length : Int) := by omega
 obtain ⟨q0, q1, q2, q3, q4, q5, qf⟩ := cells6 (heap_alloc_new w (.cells #[.int .i64 1, .bool false, .int .u64 0, .string ⟨#[]⟩, .int .i64 0, .slice none 0 0] 147));have HAL := hZ hal;clear h hw hlt hal;subst htv;go_enter func175, ntmps175;go_wp2_with fail
 go_region_with (go_at_call 196; refine (HD.out _ HAL.out.drew).mono ?_; rintro e w2 ⟨rfl, hput⟩)
 all_goals
  obtain ⟨g, off, cap, h1, h2, h3, h4⟩ := hput;have H1 := hZ h1;have H2 := hZ h2;have H3 := hZ h3;have H4 := hZ h4;clear h1 h2 h3 h4;go_wp2_with fail;go_ret;exact ⟨rfl, g, off, cap, H1.out, H2.out, H3.out.elim .inl (fun h => .inr (Nat.le_trans (by simp) h)), (Keeps.of_below _ HAL.out.drew).same H4.out⟩
theorem step_null_full (w : World) (b : Nat) (V : Value) (vals : List Value) (h : w.heap[b]? = some (.cells #[V] 195 (0, 0))) (hw : Win 97 id w V vals) (hlt : 65536 ≤ vals.length) :
 Calls prog 175 #[.pointer (some ⟨b, 0, none⟩), .agg #[.int .i64 1, .bool false, .int .u64 0, .string ⟨#[]⟩, .int .i64 0, .slice none 0 0]] w fun e w' => (∃ v, e = .returned v) ∧ Below w.heap.size w w' := by
 have hal : Below w.heap.size w (w.alloc (.cells #[.int .i64 1, .bool false, .int .u64 0, .string ⟨#[]⟩, .int .i64 0, .slice none 0 0] 147)) := (Below.refl _ _).alloc (Nat.le_refl _) _;have hc := cell_of_one h;have hb0 := lt_of_block h;obtain ⟨ta, tc, htv⟩ := hw.shape;have hge : decide (65536 ≤ vals.length) = true := decide_eq_true hlt;have hge3 : (65536 : Int) ≤ (vals.length : Int) := by omega
 obtain ⟨q0, q1, q2, q3, q4, q5, qf⟩ := cells6 (heap_alloc_new w (.cells #[.int .i64 1, .bool false, .int .u64 0, .string ⟨#[]⟩, .int .i64 0, .slice none 0 0] 147));have HAL := hZ hal;clear h hw hal;subst htv;go_enter func175, ntmps175;go_wp2_with fail;go_ret;exact ⟨⟨_, rfl⟩, HAL.out⟩
theorem maker_null (F : Nat → Prop) (w : World) (mb : Nat) (items : List Tr) (h : MakerAt F w mb items) (hl : items.length ≤ 1048576) :
 Calls prog 152 #[.pointer (some ⟨mb, 0, none⟩)] w fun e w' => (∃ v, e = .returned v) ∧ Keeps F w w' ∧ MakerAt (Since F w w') w' mb (putScalar items .null) := by
 have h0 := h;obtain ⟨hF, hlt, V, vals, hb, hw, ht⟩ := h;have hvl := ht.1
 by_cases hfull : 65536 ≤ items.length
 ·have hpn : putScalar items .null = items := by unfold putScalar; rw [if_pos hfull]
  rw [hpn];have HS := hZ (step_null_full w mb V vals hb hw.1 (by omega));have H0 := hZ h0;have HLT := hZ hlt;clear h0 hb hw ht hvl hfull hpn hF hlt;go_enter func152, ntmps152;go_wp2_with fail;refine (HS.out).mono ?_;rintro e w1 ⟨⟨v, rfl⟩, hbl⟩;have HB := hZ hbl;clear hbl;go_wp2_with fail;go_ret;exact ⟨⟨_, rfl⟩, Keeps.of_below F HB.out, (H0.out.apart (Keeps.of_below (fun _ => False) HB.out) (fun _ _ => id)).mono (fun k hk => .inl hk) (since_lt HLT.out HB.out.size)⟩
 ·have hpn : putScalar items .null = items ++ [.null] := by unfold putScalar putItem; rw [if_neg hfull]; simp [Tr.sized, Sz.within]
  rw [hpn];have HS := hZ (step_null w mb V vals hb hw.1 (by omega) (by omega));have HM := hZ (fun w' (h : PutRet w mb V vals 177 (.agg #[]) w') => h.maker (t := .null) hF hlt hw ht (fun _ _ => .null));clear h0 hb hw ht hvl hfull hpn hF hlt;go_enter func152, ntmps152;go_wp2_with fail;refine (HS.out).mono ?_;rintro e w1 ⟨rfl, hput⟩;have HB := hZ (HM.out _ hput);clear hput;go_wp2_with fail;go_ret;exact ⟨⟨_, rfl⟩, HB.out.1, HB.out.2⟩
theorem used_flag (w : World) (c : Bool) : Calls prog 213 #[.agg #[.int .i64 2, .bool c, .int .u64 0, .string ⟨#[]⟩, .int .i64 0, .slice none 0 0]] w fun e w' => e = .returned (.bool true) ∧ Below w.heap.size w w' := by
 cases c
 all_goals
  go_enter func213, ntmps213;go_wp2;go_ret;exact ⟨rfl, (Below.refl _ _).alloc (Nat.le_refl _) _⟩
theorem put_flag (w : World) (b : Nat) (V : Value) (vals : List Value) (c : Bool) (h : w.heap[b]? = some (.cells #[V] 195 (0, 0))) (hw : Win 97 id w V vals) (hl : vals.length ≤ 1048576) :
 Calls prog 214 #[.pointer (some ⟨b, 0, none⟩), .iface 178 (.bool c)] w fun e w' => e = .returned (.tuple #[]) ∧ PutRet w b V vals 178 (.bool c) w' := by
 have hm : ∀ w : World, (method 565 178 (.bool c) "affidavit/node.sized").run prog w = .ok (345, .bool c) w := fun _ => by kernel_rfl
 have HS := hZ (sized_flag w c);have HZ := hZ (fun w => size_fits w 1 0 1 (by decide));have HW := hZ hw;have H := hZ h;have HNE := hZ (hw.ne h (by decide));have hlt := lt_of_block h;obtain ⟨ta, tc, htv⟩ := hw.shape;clear h hw;subst htv;go_enter func214, ntmps214;go_wp2_with fail;refine (HS.out).mono ?_;rintro e w1 ⟨rfl, hb1⟩;have HB1 := hZ hb1;clear hb1;go_wp2_with fail;refine (HZ.out _).mono ?_;rintro e w2 ⟨rfl, hb2⟩;have hb := chain HB1.out hb2;have h2 := keep H.out hb;have hc0 := cell_of_one h2;have hf0 := free_of_one h2;have HH2 := hZ h2;have HB := hZ hb;have hlt2 := lt_of_block h2;have hr2 : Win 97 id (w2.alloc (.cells #[.iface 178 (.bool c)] 97)) (.slice ta vals.length tc) vals := (HW.out.keeps (Keeps.of_below (fun _ => False) hb) (fun _ _ => id)).keeps (F := fun _ => False) ((Keeps.refl _ w2).alloc _) (fun _ _ => id);have HR := hZ hr2;clear hb2 hb h2 hr2
 go_wp2_with (at_builtin; refine append_win elemItem rfl _ _ rfl rfl HR.out ⟨w2.heap.size, 0, none⟩ 1 (.iface 178 (.bool c)) rfl ?_ rfl ?_ ?_ ?_)
 ·exact cell_new rfl
 ·omega
 ·unfold maxLen; omega
 intro g off cap w' hrow hgb0 hgr;have hb' := (hgr.block b (by simp; omega) (fun e => HNE.out e.symm)).trans ((Below.heap_alloc w2 _ _ hlt2).trans HH2.out);have HNG := hZ (hrow.ne hb' (by decide));have HGB := hZ (show (Value.slice ta vals.length tc).ownBlock = some g ∨ w.heap.size ≤ g from hgb0.elim .inl (fun h => .inr (Nat.le_trans HB.out.size (Nat.le_trans (by simp) h.1))));have HK := hZ (((Keeps.of_below (fun k => k = b ∨ (Value.slice ta vals.length tc).ownBlock = some k) HB.out).alloc (.cells #[.iface 178 (.bool c)] 97)).grown hgr (fun k e => .inl (.inr e)));have HROW := hZ hrow;have hc1 := cell_of_one hb';have hf1 := free_of_one hb';have HB3 := hZ hb';clear hb' hrow hgb0 hgr hc0 hf0;go_wp2_with fail
 go_end0
 have hks : Keeps (fun k => k = b) w' (w'.setCell ⟨b, 0, none⟩ (.slice (some ⟨g, off, none⟩) (vals.length + 1) cap)) := (Keeps.refl (fun k => k = b) w').setCell (p := ⟨b, 0, none⟩) (.inl rfl) _;exact ⟨rfl, g, off, cap, set_at HB3.out _, HROW.out.keeps hks (fun k e hk => HNG.out (e.trans (congrArg some hk))), HGB.out, HK.out.setCell (p := ⟨b, 0, none⟩) (.inl (.inl rfl)) _⟩
theorem do_flag (w : World) (b : Nat) (V : Value) (vals : List Value) (c : Bool) (h : w.heap[b]? = some (.cells #[V] 195 (0, 0))) (hw : Win 97 id w V vals) (hl : vals.length ≤ 1048576) :
 Calls prog 196 #[.pointer (some ⟨b, 0, none⟩), .agg #[.int .i64 2, .bool c, .int .u64 0, .string ⟨#[]⟩, .int .i64 0, .slice none 0 0]] w fun e w' => e = .returned .nilIface ∧ PutRet w b V vals 178 (.bool c) w' := by
 have hmf : ∀ (fn : Fn) (first cap : Array Value) (w : World), (Instr.makeFunc fn first cap).run prog w = .ok (.func fn first cap) w := fun _ _ _ _ => rfl
 have HU := hZ (fun w => used_flag w c);have hb0 := lt_of_block h;have HP := hZ (fun w' (hb : Below w.heap.size w w') => put_flag w' b V vals c (keep h hb) (hw.keeps (Keeps.of_below (fun _ => False) hb) (fun _ _ => id)) hl);have HVL := hZ (fun k (hk : V.ownBlock = some k) => hw.lt hk);clear h hw
 go_enter_defers func196, ntmps196
 go_wp2_with fail;refine (HU.out _).mono ?_;rintro e w1 ⟨rfl, hb1⟩;obtain ⟨g1, g2, hbw, hsz⟩ := after2 hb1;obtain ⟨q0, q1, q2, q3, q4, q5, qf⟩ := cells6 g1;have G2 := hZ g2;have HBW := hZ hbw;clear hb1 g1 g2 hbw;go_wp2_with fail;refine (refuse_no _ 2).mono ?_;rintro e w2 ⟨rfl, rfl⟩;go_wp2_with fail;refine (HP.out _ HBW.out).mono ?_;rintro e w5 ⟨rfl, hput⟩;obtain ⟨r0, rf, hput2, rc⟩ := hput.close HBW.out (Nat.le_succ _) G2.out HVL.out hb0 .nilIface;have HPUT := hZ hput2;clear hput hput2;go_wp2_with fail;refine leaves_cons (f := 211) (args := #[.pointer (some ⟨w.heap.size + 1, 0, none⟩)]) (by simp) (by simp [go_sem]) ?_;refine (doCatch_idle ⟨w.heap.size + 1, 0, none⟩ _).mono ?_;rintro e u' w'' ⟨rfl, rfl, rfl⟩;have hend := HPUT.out;simp [Leaves, settle, results, results196, go_sem, rc];exact hend
theorem step_flag (w : World) (b : Nat) (V : Value) (vals : List Value) (c : Bool) (h : w.heap[b]? = some (.cells #[V] 195 (0, 0))) (hw : Win 97 id w V vals) (hl : vals.length ≤ 1048576) (hlt : vals.length < 65536) :
 Calls prog 175 #[.pointer (some ⟨b, 0, none⟩), .agg #[.int .i64 2, .bool c, .int .u64 0, .string ⟨#[]⟩, .int .i64 0, .slice none 0 0]] w fun e w' => e = .returned .nilIface ∧ PutRet w b V vals 178 (.bool c) w' := by
 have hal : Below w.heap.size w (w.alloc (.cells #[.int .i64 2, .bool c, .int .u64 0, .string ⟨#[]⟩, .int .i64 0, .slice none 0 0] 147)) := (Below.refl _ _).alloc (Nat.le_refl _) _;have HD := hZ (fun w1 (hb : Below w.heap.size w w1) => do_flag w1 b V vals c (keep h hb) (hw.keeps (Keeps.of_below (fun _ => False) hb) (fun _ _ => id)) hl);have hc := cell_of_one h;have hb0 := lt_of_block h;obtain ⟨ta, tc, htv⟩ := hw.shape;have hge : decide (65536 ≤ vals.length) = false := decide_eq_false (by omega);have hge2 : ¬ 65536 ≤ vals.length := by omega
 have hge3 : ¬ (65536 : Int) ≤ (vals.length : Int) := by omega
 obtain ⟨q0, q1, q2, q3, q4, q5, qf⟩ := cells6 (heap_alloc_new w (.cells #[.int .i64 2, .bool c, .int .u64 0, .string ⟨#[]⟩, .int .i64 0, .slice none 0 0] 147));have HAL := hZ hal;clear h hw hlt hal;subst htv;go_enter func175, ntmps175;go_wp2_with fail
 go_region_with (go_at_call 196; refine (HD.out _ HAL.out.drew).mono ?_; rintro e w2 ⟨rfl, hput⟩)
 all_goals
  obtain ⟨g, off, cap, h1, h2, h3, h4⟩ := hput;have H1 := hZ h1;have H2 := hZ h2;have H3 := hZ h3;have H4 := hZ h4;clear h1 h2 h3 h4;go_wp2_with fail;go_ret;exact ⟨rfl, g, off, cap, H1.out, H2.out, H3.out.elim .inl (fun h => .inr (Nat.le_trans (by simp) h)), (Keeps.of_below _ HAL.out.drew).same H4.out⟩
theorem step_flag_full (w : World) (b : Nat) (V : Value) (vals : List Value) (c : Bool) (h : w.heap[b]? = some (.cells #[V] 195 (0, 0))) (hw : Win 97 id w V vals) (hlt : 65536 ≤ vals.length) :
 Calls prog 175 #[.pointer (some ⟨b, 0, none⟩), .agg #[.int .i64 2, .bool c, .int .u64 0, .string ⟨#[]⟩, .int .i64 0, .slice none 0 0]] w fun e w' => (∃ v, e = .returned v) ∧ Below w.heap.size w w' := by
 have hal : Below w.heap.size w (w.alloc (.cells #[.int .i64 2, .bool c, .int .u64 0, .string ⟨#[]⟩, .int .i64 0, .slice none 0 0] 147)) := (Below.refl _ _).alloc (Nat.le_refl _) _;have hc := cell_of_one h;have hb0 := lt_of_block h;obtain ⟨ta, tc, htv⟩ := hw.shape;have hge : decide (65536 ≤ vals.length) = true := decide_eq_true hlt;have hge3 : (65536 : Int) ≤ (vals.length : Int) := by omega
 obtain ⟨q0, q1, q2, q3, q4, q5, qf⟩ := cells6 (heap_alloc_new w (.cells #[.int .i64 2, .bool c, .int .u64 0, .string ⟨#[]⟩, .int .i64 0, .slice none 0 0] 147));have HAL := hZ hal;clear h hw hal;subst htv;go_enter func175, ntmps175;go_wp2_with fail;go_ret;exact ⟨⟨_, rfl⟩, HAL.out⟩
theorem maker_flag (F : Nat → Prop) (w : World) (mb : Nat) (items : List Tr) (c : Bool) (h : MakerAt F w mb items) (hl : items.length ≤ 1048576) :
 Calls prog 153 #[.pointer (some ⟨mb, 0, none⟩), .bool c] w fun e w' => (∃ v, e = .returned v) ∧ Keeps F w w' ∧ MakerAt (Since F w w') w' mb (putScalar items (.flag c)) := by
 have h0 := h;obtain ⟨hF, hlt, V, vals, hb, hw, ht⟩ := h;have hvl := ht.1
 by_cases hfull : 65536 ≤ items.length
 ·have hpn : putScalar items (.flag c) = items := by unfold putScalar; rw [if_pos hfull]
  rw [hpn];have HS := hZ (step_flag_full w mb V vals c hb hw.1 (by omega));have H0 := hZ h0;have HLT := hZ hlt;clear h0 hb hw ht hvl hfull hpn hF hlt;go_enter func153, ntmps153;go_wp2_with fail;refine (HS.out).mono ?_;rintro e w1 ⟨⟨v, rfl⟩, hbl⟩;have HB := hZ hbl;clear hbl;go_wp2_with fail;go_ret;exact ⟨⟨_, rfl⟩, Keeps.of_below F HB.out, (H0.out.apart (Keeps.of_below (fun _ => False) HB.out) (fun _ _ => id)).mono (fun k hk => .inl hk) (since_lt HLT.out HB.out.size)⟩
 ·have hpn : putScalar items (.flag c) = items ++ [.flag c] := by unfold putScalar putItem; rw [if_neg hfull]; simp [Tr.sized, Sz.within]
  rw [hpn];have HS := hZ (step_flag w mb V vals c hb hw.1 (by omega) (by omega));have HM := hZ (fun w' (h : PutRet w mb V vals 178 (.bool c) w') => h.maker (t := .flag c) hF hlt hw ht (fun _ _ => .flag _));clear h0 hb hw ht hvl hfull hpn hF hlt;go_enter func153, ntmps153;go_wp2_with fail;refine (HS.out).mono ?_;rintro e w1 ⟨rfl, hput⟩;have HB := hZ (HM.out _ hput);clear hput;go_wp2_with fail;go_ret;exact ⟨⟨_, rfl⟩, HB.out.1, HB.out.2⟩
theorem sortR_size (d : Array RTxt) : (sortR d).size = d.size :=
 (Sort.pdq_sorts (ltOf cmpR) cmpR_swo d 0 d.size (Lib.bitLen d.size) true true (Nat.zero_le _) (Nat.le_refl _) (Or.inl rfl)).1.1
theorem sortR_perm (d : Array RTxt) : (sortR d).toList.Perm d.toList := by
 have h := (Sort.pdq_sorts (ltOf cmpR) cmpR_swo d 0 d.size (Lib.bitLen d.size) true true (Nat.zero_le _) (Nat.le_refl _) (Or.inl rfl)).1;have h2 := h.2.2;have e1 : d.extract 0 d.size = d := Array.extract_size;have e2 : (sortR d).extract 0 d.size = sortR d := by rw [← sortR_size d]; exact Array.extract_size
 rw [e1] at h2;have h3 : ((sortR d).extract 0 d.size).toList.Perm d.toList := h2;rw [e2] at h3;exact h3
theorem sort_row (w : World) (g off cap : Nat) (ks : List RTxt) (hw : Win 9 encS w (.slice (some ⟨g, off, none⟩) ks.length cap) (ks.map (·.1))) (hl : ks.length ≤ 1048576) :
 Calls prog 239 #[.slice (some ⟨g, off, none⟩) ks.length cap, .func (.func 240) #[] #[]] w fun e w' => e = .returned (.tuple #[]) ∧ Win 9 encS w' (.slice (some ⟨g, off, none⟩) ks.length cap) ((sortR ks.toArray).toList.map (·.1)) ∧ Keeps (fun k => k = g) w w' := by
 rcases hw with ⟨hv, _⟩ | ⟨g', off', cap', cur, hv, hg, hc, ho, hm, hi⟩
 ·cases hv
 ·simp only [Value.slice.injEq, Option.some.injEq, Addr.mk.injEq] at hv;obtain ⟨⟨rfl, rfl, _⟩, _, rfl⟩ := hv;rw [List.length_map] at hc
  have hH : Sort.Holds encR w g off ks.toArray := by
   intro j hj;have hj' : j < ks.length := by simpa using hj
   have hx := hi j (ks[j]).1 (by rw [List.getElem?_map, List.getElem?_eq_getElem hj']; rfl);refine ⟨?_, free_at hg _⟩;rw [cell_at hg, hx];simp [encR, encS, hj']
  have hs := sort_any g off cap ks.toArray w hH (lt_of_block hg) (by simp; omega);rw [List.size_toArray] at hs;refine hs.mono ?_;rintro e w' ⟨rfl, m, os, rfl⟩;have hsz : (sortR ks.toArray).size = ks.length := by rw [sortR_size]; simp
  have hlt := lt_of_block hg
  have hblk : (sortWorld encR w g off m (sortR ks.toArray) os).heap[g]? = some (.cells (Sort.putCells encR off (sortR ks.toArray) cur) 9 (0, 0)) := by
   unfold sortWorld Sort.grow Sort.putRow Sort.mapBlock Sort.ahead
   show (w.heap.modify g _ ++ os)[g]? = _
   rw [Array.getElem?_append_left (by simpa using hlt), Array.getElem?_modify, if_pos rfl, hg];rfl
  refine ⟨rfl, .inr ⟨g, off, cap, _, ?_, hblk, ?_, ?_, ?_, ?_⟩, ?_⟩
  ·simp [hsz]
  ·simp [hsz]; omega
  ·simpa [Sort.putCells] using ho
  ·exact hm
  ·intro i x hx;rw [List.getElem?_map] at hx;cases hy : (sortR ks.toArray).toList[i]? with
   | none => rw [hy] at hx; cases hx
   | some y =>
    rw [hy] at hx;cases hx;have hil : i < ks.length := by have := (List.getElem?_eq_some_iff.1 hy).1; simpa [hsz] using this
    have hiy : (sortR ks.toArray)[i]! = y := by
     have hh : (sortR ks.toArray)[i]? = some y := by simpa using hy
     rw [getElem!_def, hh]
    have hcur : off + i < cur.size := by omega
    unfold Sort.putCells;rw [Array.getElem?_mapIdx, Array.getElem?_eq_getElem hcur, Option.map_some, if_pos ⟨by omega, by rw [hsz]; omega⟩, show off + i - off = i by omega, hiy];rfl
  ·refine ⟨rfl, rfl, rfl, ?_, fun k hk hn => ?_⟩
   ·unfold sortWorld Sort.grow Sort.putRow Sort.mapBlock Sort.ahead;simp
   ·unfold sortWorld Sort.grow Sort.putRow Sort.mapBlock Sort.ahead
    show (w.heap.modify g _ ++ os)[k]? = _
    rw [Array.getElem?_append_left (by simpa using hk), Array.getElem?_modify, if_neg (fun e => hn e.symm)]
def RightKeys (keys : List (List UInt8)) : Prop := ∀ k ∈ keys, rightOf k = true ∧ k.length ≤ 2097152
instance (keys : List (List UInt8)) : Decidable (RightKeys keys) := by unfold RightKeys; infer_instance
def liftT (keys : List (List UInt8)) (h : RightKeys keys) : List RTxt := keys.attach.map fun k => ⟨k.1, h k.1 k.2⟩
theorem liftT_val (keys : List (List UInt8)) (h : RightKeys keys) : (liftT keys h).map (·.1) = keys := by
 unfold liftT;rw [List.map_map];exact (List.attach_map_val (f := id) (l := keys)).trans (List.map_id _)
theorem liftT_length (keys : List (List UInt8)) (h : RightKeys keys) : (liftT keys h).length = keys.length := by
 unfold liftT;rw [List.length_map, List.length_attach]
def sortT (keys : List (List UInt8)) : List (List UInt8) := if h : RightKeys keys then (sortR (liftT keys h).toArray).toList.map (·.1) else keys
theorem sortT_right {keys : List (List UInt8)} (h : RightKeys keys) : sortT keys = (sortR (liftT keys h).toArray).toList.map (·.1) := by unfold sortT; rw [dif_pos h]
theorem sortT_perm (keys : List (List UInt8)) : (sortT keys).Perm keys := by
 by_cases h : RightKeys keys
 ·rw [sortT_right h];have := (sortR_perm (liftT keys h).toArray).map (·.1);rw [show ((liftT keys h).toArray.toList).map (·.1) = keys from liftT_val keys h] at this;exact this
 ·unfold sortT;rw [dif_neg h]
def besides (keys : List (List UInt8)) (l : List Tr) : List Tr := (sortT keys).map fun k => l.getD (keys.idxOf k) .null
def po (items : List Tr) (keys : List (List UInt8)) : List Tr :=
 if items.length < keys.length then items else putGroup items keys.length (.object (sortT keys) (besides keys (items.drop (items.length - keys.length))))
theorem idx_at {keys : List (List UInt8)} (hnd : keys.Nodup) {i : Nat} {k : List UInt8} (h : keys[i]? = some k) : keys.idxOf k = i := by
 obtain ⟨hi, rfl⟩ := List.getElem?_eq_some_iff.1 h;exact hnd.idxOf_getElem i hi
theorem besides_perm {keys : List (List UInt8)} {l : List Tr} (hnd : keys.Nodup) (hl : l.length = keys.length) : (besides keys l).Perm l := by
 have h1 := (sortT_perm keys).map (fun k => l.getD (keys.idxOf k) Tr.null);refine h1.trans (List.Perm.of_eq ?_);apply List.ext_getElem
 ·simp [hl]
 ·intro i h1 h2;rw [List.getElem_map];rw [idx_at hnd (List.getElem?_eq_getElem (by omega))];rw [List.getD_eq_getElem?_getD, List.getElem?_eq_getElem h2];rfl
theorem partSz_perm {bytes : Nat} {l l' : List Sz} (h : l.Perm l') : partSz bytes l = partSz bytes l' := by
 unfold partSz;refine h.foldl_eq' (fun x _ y _ z => ?_) _;simp only [Sz.mk.injEq];omega
theorem keysLen_perm {l l' : List (List UInt8)} (h : l.Perm l') : keysLen l = keysLen l' := by
 unfold keysLen;refine h.foldl_eq' (fun x _ y _ z => ?_) _;omega
theorem object_sized {keys : List (List UInt8)} {l : List Tr} (hnd : keys.Nodup) (hl : l.length = keys.length) : (Tr.object (sortT keys) (besides keys l)).sized = sumSz (keysLen keys) (l.map Tr.sized) := by
 rw [sized_object_eq, sumSz_part, sumSz_part, keysLen_perm (sortT_perm keys), partSz_perm ((besides_perm hnd hl).map Tr.sized)]
theorem keysLen_snoc (l : List (List UInt8)) (k : List UInt8) : keysLen (l ++ [k]) = keysLen l + k.length := by
 unfold keysLen;rw [List.foldl_append];rfl
theorem keysLen_take {l : List (List UInt8)} {i : Nat} {k : List UInt8} (h : l[i]? = some k) : keysLen (l.take (i + 1)) = keysLen (l.take i) + k.length := by
 rw [List.take_add_one, h];exact keysLen_snoc _ _
theorem elemKeyN : ElemN 32 9 1 16 := ⟨underlying32, by decide, by
 have h : (prog.info? 9).map (fun i => (i.zero, i.size, i.bytes)) = some (some (.string ⟨#[]⟩), 1, 16) := by kernel_rfl
 obtain ⟨i, h1, h2, h3, h4⟩ := info_parts h;exact ⟨i, _, h1, h2, h3, h4, rfl⟩⟩
def StrsRet (w : World) (keys : List (List UInt8)) (e : Ending) (w' : World) : Prop :=
 ∃ v, e = .returned v ∧ Win 9 encS w' v keys ∧ (∀ k, v.ownBlock = some k → w.heap.size ≤ k ∧ k < w'.heap.size) ∧ Below w.heap.size w w'
theorem cloneKeys_nil (w : World) : Calls prog 164 #[.slice none 0 0] w fun e w' => StrsRet w [] e w' := by
 have q22 : ∀ (w : World) (a : Option Addr) (n c n' c' : Nat), (binOp .eql 32 (.slice a n c) (.slice none n' c')).run prog w = .ok (.bool a.isNone) w := fun w a n c n' c' => Lib.run_eql_slice_nil w _ _ a n c n' c' underlying32
 go_enter func164, ntmps164;go_wp2_with fail;exact bodyPost_ret (v := .slice none 0 0) (by simp [results, results164, go_sem]) rfl ⟨_, rfl, .nil _ _ _, fun k h => (by cases h), Below.refl _ _⟩
theorem cloneKeys_some (w : World) (g off cap : Nat) (keys : List (List UInt8)) (hl : keys.length ≤ 1048576) (h : ∀ i x, (keys.map encS)[i]? = some x → w.cell? ⟨g, off + i, none⟩ = some x) :
 Calls prog 164 #[.slice (some ⟨g, off, none⟩) keys.length cap] w fun e w' => StrsRet w keys e w' := by
 have hb0 : Below w.heap.size w (w.alloc (.cells #[] 9)) := (Below.refl _ _).alloc (Nat.le_refl _) _;have hnew := heap_alloc_new w (.cells #[] 9);have hw0 : WinN 1 9 (w.alloc (.cells #[] 9)) (.slice (some ⟨w.heap.size, 0, none⟩) 0 0) 0 [] := ⟨by simp, .inr ⟨w.heap.size, 0, 0, #[], rfl, hnew, Nat.le_refl _, by simp, Nat.zero_le _, fun j u hj => by simp at hj⟩⟩;have HB := hZ hb0;have HW := hZ hw0;have HL := hZ hl;have HONE := hZ (fun v (hv : v ∈ keys.map encS) => show v.oneCell' = true by obtain ⟨k, _, rfl⟩ := List.mem_map.1 hv; rfl)
 have hnews : ∀ j u, (keys.map encS)[j]? = some u → (w.alloc (.cells #[] 9)).cell? ((⟨g, off, none⟩ : Addr).add j) = some u := by
  intro j u hj;have hp : (⟨g, off, none⟩ : Addr).add j = ⟨g, off + j, none⟩ := by unfold Addr.add; split <;> simp_all
  rw [hp];have hx := h j u hj;exact (World.cell?_of_block (Below.heap_alloc _ _ _ (World.block_lt_of_cell? w _ hx))).trans hx
 have HN := hZ hnews;clear hb0 hnew hw0 hl h hnews;have q22 : ∀ (w : World) (a : Option Addr) (n c n' c' : Nat), (binOp .eql 32 (.slice a n c) (.slice none n' c')).run prog w = .ok (.bool a.isNone) w := fun w a n c n' c' => Lib.run_eql_slice_nil w _ _ a n c n' c' underlying32
 by_cases h0 : keys = []
 ·subst h0;go_enter func164, ntmps164
  go_wp2_with (at_builtin; refine append_winN0 elemKeyN rfl _ _ rfl rfl HW.out (some ⟨g, off, none⟩) cap rfl ?_)
  go_wp2_with fail;exact bodyPost_ret (v := .slice (some ⟨w.heap.size, 0, none⟩) 0 0) (by simp [results, results164, go_sem]) rfl ⟨_, rfl, WinN.toWin (by simpa using HW.out), fun k h => (by cases h; exact ⟨Nat.le_refl _, by simp⟩), HB.out⟩
 ·obtain ⟨n, hn⟩ : ∃ n, keys.length = n + 1 := ⟨keys.length - 1, by have := List.length_pos_iff.2 h0; omega⟩;rw [hn];have HLN := hZ hn;clear h0 hn;go_enter func164, ntmps164
  go_wp2_with (at_builtin; refine append_winN elemKeyN rfl _ _ rfl rfl HW.out ⟨g, off, none⟩ (n + 1) cap (keys.map encS) rfl ?_ HN.out ?_ ?_ ?_ ?_ ?_)
  ·rw [List.length_map, HLN.out]; omega
  ·exact HONE.out
  ·omega
  ·have := HL.out; rw [HLN.out] at this; omega
  ·have := HL.out; rw [HLN.out] at this; unfold maxLen; omega
  intro g2 off2 c w' hw hg hk;have HW2 := hZ hw;have HG := hZ hg;have HK := hZ hk;clear hw hg hk;go_wp2_with fail;refine bodyPost_ret (v := .slice (some ⟨g2, off2, none⟩) (n + 1) c) (by simp [results, results164, go_sem]) rfl ?_;refine ⟨_, rfl, ?_, ?_, ?_⟩
  ·exact WinN.toWin (n := n + 1) (by simpa using HW2.out)
  ·intro k hk;cases hk;rcases HG.out with h | h
   ·cases h;exact ⟨Nat.le_refl _, Nat.lt_of_lt_of_le (by simp) HK.out.size⟩
   ·exact ⟨Nat.le_trans (by simp) h.1, h.2⟩
  ·exact ((Keeps.of_below (fun _ => False) HB.out).trans HK.out (fun k h => .inr (by cases h; exact Nat.le_refl _))).toBelow (Nat.le_refl _) (fun _ h => h.elim)
theorem cloneKeys_any (w : World) (V : Value) (keys : List (List UInt8)) (hl : keys.length ≤ 1048576) (hw : Win 9 encS w V keys) : Calls prog 164 #[V] w fun e w' => StrsRet w keys e w' := by
 rcases hw with ⟨rfl, rfl⟩ | ⟨g, off, cap, cur, rfl, hg, hc, ho, hm, hi⟩
 ·exact cloneKeys_nil w
 ·refine cloneKeys_some w g off cap keys hl (fun i x hx => ?_);rw [List.getElem?_map] at hx;cases hy : keys[i]? with
  | none => rw [hy] at hx; cases hx
  | some y =>
   rw [hy] at hx;cases hx;rw [cell_at hg];exact hi i y hy
theorem insert_nil (w : World) : Calls prog 280 #[.slice none 0 0, .int .i64 0, .int .i64 0, .func (.func 240) #[] #[]] w fun e w' => e = .returned (.tuple #[]) ∧ w' = w := by
 go_enter func280, ntmps280;go_wp2_with fail
 go_loop [8] (fun v => v = .int .i64 1) (fun v => 0)
 case atStart => rfl
 case round =>
  subst hrel;go_wp2_with fail
  go_end0
  exact ⟨rfl, rfl⟩
theorem pdq_nil (w : World) (l : Nat) : Calls prog 259 #[.slice none 0 0, .int .i64 0, .int .i64 0, .int .i64 l, .func (.func 240) #[] #[]] w fun e w' => e = .returned (.tuple #[]) ∧ w' = w := by
 go_enter func259, ntmps259;go_wp2_with fail
 go_loop [1, 2] (fun a b => a = .int .i64 0 ∧ b = .int .i64 0) (fun _ _ => 0)
 case atStart => exact ⟨rfl, rfl⟩
 case round =>
  obtain ⟨rfl, rfl⟩ := hrel;go_wp2_with fail;refine (insert_nil w).mono ?_;rintro e w1 ⟨rfl, rfl⟩;go_wp2_with fail;exact bodyPost_ret (v := .tuple #[]) (by simp [results, results259, go_sem]) rfl ⟨rfl, rfl⟩
theorem sort_nil (w : World) : Calls prog 239 #[.slice none 0 0, .func (.func 240) #[] #[]] w fun e w' => e = .returned (.tuple #[]) ∧ w' = w := by
 have HB := hZ (Tryz.bits_Len 0 w (by decide) (by decide));go_enter func239, ntmps239;go_wp2_with fail;refine (HB.out).mono ?_;rintro e w1 ⟨rfl, rfl⟩;go_wp2_with fail;refine (pdq_nil _ _).mono ?_;rintro e w2 ⟨rfl, rfl⟩;go_wp2_with fail
 go_end0
 exact ⟨rfl, rfl⟩
end Go.Proofs.YtakkmiomhackiaaGreatDoor
