/-
  The program, one part of its walk: Nd2, Nd3. Conditions: none.
-/
import Derived.Test.YtakkmiomhackiaaGreatDoorPc16
import Derived.Test.YtakkmiomhackiaaGreatDoorPc13
import Derived.Deep.RegionLaw
import Derived.Deep.AppendLies
set_option linter.all false
set_option maxRecDepth 100000
set_option maxHeartbeats 16000000
namespace Go.Proofs.YtakkmiomhackiaaGreatDoor
open Go.RowKit
theorem elemItemN : ElemN 184 97 1 16 := ⟨Tryz.underlying184, by decide, by
 have h : (Tryz.prog.info? 97).map (fun i => (i.zero, i.size, i.bytes)) = some (some .nilIface, 1, 16) := by kernel_rfl
 obtain ⟨i, h1, h2, h3, h4⟩ := info_parts h;exact ⟨i, _, h1, h2, h3, h4, rfl⟩⟩
def ItemsRet (w : World) (vals : List Value) (e : Ending) (w' : World) : Prop :=
 ∃ v, e = .returned v ∧ Win 97 id w' v vals ∧ (∀ k, v.ownBlock = some k → w.heap.size ≤ k ∧ k < w'.heap.size) ∧ Below w.heap.size w w'
theorem cloneItems_nil (w : World) : Calls Tryz.prog 238 #[.slice none 0 0] w fun e w' => ItemsRet w [] e w' := by
 have q22 : ∀ (w : World) (a : Option Addr) (n c n' c' : Nat), (binOp .eql 184 (.slice a n c) (.slice none n' c')).run Tryz.prog w = .ok (.bool a.isNone) w := fun w a n c n' c' => Lib.run_eql_slice_nil w _ _ a n c n' c' Tryz.underlying184
 go_enter Tryz.func238, Tryz.ntmps238;go_wp2_with fail;exact bodyPost_ret (v := .slice none 0 0) (by simp [results, Tryz.results238, go_sem]) rfl ⟨_, rfl, .nil _ _ _, fun k h => (by cases h), Below.refl _ _⟩
theorem cloneItems_some (w : World) (g off cap : Nat) (vals : List Value) (hl : vals.length ≤ 1048576) (hone : ∀ v ∈ vals, v.oneCell' = true) (h : ∀ i x, vals[i]? = some x → w.cell? ⟨g, off + i, none⟩ = some x) :
 Calls Tryz.prog 238 #[.slice (some ⟨g, off, none⟩) vals.length cap] w fun e w' => ItemsRet w vals e w' := by
 have hb0 : Below w.heap.size w (w.alloc (.cells #[] 97)) := (Below.refl _ _).alloc (Nat.le_refl _) _;have hnew := heap_alloc_new w (.cells #[] 97);have hw0 : WinN 1 97 (w.alloc (.cells #[] 97)) (.slice (some ⟨w.heap.size, 0, none⟩) 0 0) 0 [] := ⟨by simp, .inr ⟨w.heap.size, 0, 0, #[], rfl, hnew, Nat.le_refl _, by simp, Nat.zero_le _, fun j u hj => by simp at hj⟩⟩;have HB := Lib.hid hb0;have HW := Lib.hid hw0;have HL := Lib.hid hl;have HONE := Lib.hid hone
 have hnews : ∀ j u, vals[j]? = some u → (w.alloc (.cells #[] 97)).cell? ((⟨g, off, none⟩ : Addr).add j) = some u := by
  intro j u hj;have hp : (⟨g, off, none⟩ : Addr).add j = ⟨g, off + j, none⟩ := by unfold Addr.add; split <;> simp_all
  rw [hp];have hx := h j u hj;exact (World.cell?_of_block (Below.heap_alloc _ _ _ (World.block_lt_of_cell? w _ hx))).trans hx
 have HN := Lib.hid hnews;clear hb0 hnew hw0 hl h hnews hone;have q22 : ∀ (w : World) (a : Option Addr) (n c n' c' : Nat), (binOp .eql 184 (.slice a n c) (.slice none n' c')).run Tryz.prog w = .ok (.bool a.isNone) w := fun w a n c n' c' => Lib.run_eql_slice_nil w _ _ a n c n' c' Tryz.underlying184
 by_cases h0 : vals = []
 ·subst h0;go_enter Tryz.func238, Tryz.ntmps238
  go_wp2_with (at_builtin; refine append_winN0 elemItemN rfl _ _ rfl rfl HW.out (some ⟨g, off, none⟩) cap rfl ?_)
  go_wp2_with fail;exact bodyPost_ret (v := .slice (some ⟨w.heap.size, 0, none⟩) 0 0) (by simp [results, Tryz.results238, go_sem]) rfl ⟨_, rfl, WinN.toWin (by simpa using HW.out), fun k h => (by cases h; exact ⟨Nat.le_refl _, by simp⟩), HB.out⟩
 ·obtain ⟨n, hn⟩ : ∃ n, vals.length = n + 1 := ⟨vals.length - 1, by have := List.length_pos_iff.2 h0; omega⟩;rw [hn];have HLN := Lib.hid hn;clear h0 hn;go_enter Tryz.func238, Tryz.ntmps238
  go_wp2_with (at_builtin; refine append_winN elemItemN rfl _ _ rfl rfl HW.out ⟨g, off, none⟩ (n + 1) cap vals rfl ?_ HN.out ?_ ?_ ?_ ?_ ?_)
  ·rw [HLN.out]; omega
  ·exact HONE.out
  ·omega
  ·have := HL.out; rw [HLN.out] at this; omega
  ·have := HL.out; rw [HLN.out] at this; unfold maxLen; omega
  intro g2 off2 c w' hw hg hk;have HW2 := Lib.hid hw;have HG := Lib.hid hg;have HK := Lib.hid hk;clear hw hg hk;go_wp2_with fail;refine bodyPost_ret (v := .slice (some ⟨g2, off2, none⟩) (n + 1) c) (by simp [results, Tryz.results238, go_sem]) rfl ?_;refine ⟨_, rfl, ?_, ?_, ?_⟩
  ·exact WinN.toWin (n := n + 1) (by simpa using HW2.out)
  ·intro k hk;cases hk;rcases HG.out with h | h
   ·cases h;exact ⟨Nat.le_refl _, Nat.lt_of_lt_of_le (by simp) HK.out.size⟩
   ·exact ⟨Nat.le_trans (by simp) h.1, h.2⟩
  ·exact ((Keeps.of_below (fun _ => False) HB.out).trans HK.out (fun k h => .inr (by cases h; exact Nat.le_refl _))).toBelow (Nat.le_refl _) (fun _ h => h.elim)
theorem take_few (w : World) (b n : Nat) (V : Value) (vals : List Value) (h : w.heap[b]? = some (.cells #[V] 195 (0, 0))) (hw : Win 97 id w V vals) (hn : vals.length < n) :
 Calls Tryz.prog 219 #[.pointer (some ⟨b, 0, none⟩), .int .i64 n] w fun e w' => e = .panicked [{ v := .iface 29 (.int .i64 102), recovered := false }] ∧ w' = w := by
 have hc := cell_of_one h;obtain ⟨ta, tc, htv⟩ := hw.shape;have hgt : (vals.length : Int) < (n : Int) := by omega
 clear h hw hn;subst htv;go_enter Tryz.func219, Tryz.ntmps219;go_wp2_with fail;exact ⟨rfl, rfl, rfl⟩
theorem take_ok (w : World) (b n : Nat) (V : Value) (vals : List Value) (h : w.heap[b]? = some (.cells #[V] 195 (0, 0))) (hw : Win 97 id w V vals) (hl : vals.length ≤ 1048576) (hone : ∀ v ∈ vals, v.oneCell' = true) (hn : n ≤ vals.length) :
 Calls Tryz.prog 219 #[.pointer (some ⟨b, 0, none⟩), .int .i64 n] w fun e w' => ItemsRet w (vals.drop (vals.length - n)) e w' := by
 have hc := cell_of_one h;have hgt : ¬ (vals.length : Int) < (n : Int) := by omega
 have hgt2 : (n : Int) ≤ (vals.length : Int) := by omega
 rcases hw with ⟨rfl, rfl⟩ | ⟨g, off, cap, cur, rfl, hg, hcp, ho, hm, hi⟩
 ·have hn0 : n = 0 := by simpa using hn
  subst hn0;have HC := Lib.hid (cloneItems_nil w);clear h hone hl hn hgt hgt2;go_enter Tryz.func219, Tryz.ntmps219;go_wp2_with fail;refine (HC.out).mono ?_;rintro e w1 ⟨v, rfl, h1, h2, h3⟩;have H1 := Lib.hid (And.intro h1 (And.intro h2 h3));obtain ⟨a2, c2, rfl⟩ := h1.shape;clear h1 h2 h3;go_wp2_with fail;go_ret;exact ⟨_, rfl, H1.out.1, H1.out.2⟩
 ·obtain ⟨k, hk⟩ : ∃ k, vals.length - n = k := ⟨_, rfl⟩;have hkl : k ≤ vals.length := by omega
  rw [hk];have hkw : IntKind.i64.wrap ((vals.length : Int) - (n : Int)) = (k : Int) := by rw [IntKind.wrap_i64]; omega
  have hk0 : (0 : Int) ≤ (k : Int) := by omega
  have hk1 : (k : Int) ≤ (vals.length : Int) := by omega
  have hcm : cap ≤ 9223372036854775807 := by unfold maxLen at hm; omega
  have hd : (vals.drop k).length = vals.length - k := List.length_drop
  have hcell : ∀ i x, (vals.drop k)[i]? = some x → w.cell? ⟨g, off + k + i, none⟩ = some x := fun i x hx => by
   rw [List.getElem?_drop] at hx;rw [cell_at hg, show off + k + i = off + (k + i) by omega];exact hi (k + i) x hx
  have hone2 : ∀ v ∈ vals.drop k, v.oneCell' = true := fun v hv => hone v (List.mem_of_mem_drop hv)
  have HK := Lib.hid (And.intro hk hd)
  by_cases hcc : cap = k
  ·have hd0 : vals.drop k = [] := List.eq_nil_of_length_eq_zero (by omega);rw [hd0];have HC := Lib.hid (cloneItems_some w g off 0 [] (by simp) (fun v hv => by simp at hv) (fun i x hx => by simp at hx));have hlk : vals.length = k := by omega
   subst hcc;clear h hone hl hn hi hg ho hm hcell hone2 hd0 hd hk;rw [hlk] at hc hgt hgt2 hkw hk1;clear hlk;go_enter Tryz.func219, Tryz.ntmps219;go_wp2_with fail;refine (HC.out).mono ?_;rintro e w1 ⟨v, rfl, h1, h2, h3⟩;have H1 := Lib.hid (And.intro h1 (And.intro h2 h3));obtain ⟨a2, c2, rfl⟩ := h1.shape;clear h1 h2 h3;go_wp2_with fail;go_ret;exact ⟨_, rfl, H1.out.1, H1.out.2⟩
  ·have HC := Lib.hid (cloneItems_some w g (off + k) (cap - k) (vals.drop k) (by rw [hd]; omega) hone2 hcell);rw [hd] at HC;clear h hone hl hn hi hg ho hm hcell hone2 hk hd;go_enter Tryz.func219, Tryz.ntmps219;go_wp2_with fail;refine (HC.out).mono ?_;rintro e w1 ⟨v, rfl, h1, h2, h3⟩;have H1 := Lib.hid (And.intro h1 (And.intro h2 h3));obtain ⟨a2, c2, rfl⟩ := h1.shape;clear h1 h2 h3;go_wp2_with fail;go_ret;have hw1 := H1.out.1;have hw2 := H1.out.2;rw [HK.out.2] at hw1 hw2;exact ⟨_, rfl, hw1, hw2⟩
def GroupRet (w : World) (b : Nat) (V : Value) (vals : List Value) (k : Nat) (T : TypeId) (v : Value) (w' : World) : Prop :=
 ∃ g off cap, w'.heap[b]? = some (.cells #[.slice (some ⟨g, off, none⟩) (k + 1) cap] 195 (0, 0)) ∧ Win 97 id w' (.slice (some ⟨g, off, none⟩) (k + 1) cap) (vals.take k ++ [.iface T v]) ∧ (V.ownBlock = some g ∨ w.heap.size ≤ g) ∧ Keeps (fun k => k = b ∨ V.ownBlock = some k) w w'
theorem Win.take {α : Type} {e : Nat} {enc : α → Value} {w : World} {g off n cap : Nat} {l : List α} (h : Win e enc w (.slice (some ⟨g, off, none⟩) n cap) l) {k : Nat} (hk : k ≤ l.length) : Win e enc w (.slice (some ⟨g, off, none⟩) k cap) (l.take k) := by
 have hl : (l.take k).length = k := by rw [List.length_take]; omega
 rcases h with ⟨hv, _⟩ | ⟨g', off', cap', cur, hv, hg, hc, ho, hm, hi⟩
 ·cases hv
 ·cases hv;refine .inr ⟨g, off, cap, cur, by rw [hl], hg, by omega, ho, hm, fun i x hx => ?_⟩;rw [List.getElem?_take] at hx;split at hx
  ·exact hi i x hx
  ·cases hx
theorem size_over (w : World) (n by' d : Nat) (h : (⟨n, by', d⟩ : Sz).within = false) (hn : n ≤ 4611686018427387904) (hb : by' ≤ 4611686018427387904) (hd : d ≤ 4611686018427387904) : Calls Tryz.prog 235 #[.agg #[.int .i64 n, .int .i64 by', .int .i64 d]] w fun e w' => e = .returned (.bool false) ∧ Below w.heap.size w w' := by
 by_cases h1 : n ≤ 65536
 ·have e1 : (n : Int) ≤ 65536 := by omega
  by_cases h2 : by' ≤ 2097152
  ·have e2 : (by' : Int) ≤ 2097152 := by omega
   have e3 : ¬ (d : Int) ≤ 512 := by
    intro h3;simp [Sz.within] at h;omega
   clear h;go_enter Tryz.func235, Tryz.ntmps235;go_wp2;go_ret;exact ⟨rfl, (Below.refl _ _).alloc (Nat.le_refl _) _⟩
  ·have e2 : ¬ (by' : Int) ≤ 2097152 := by omega
   clear h;go_enter Tryz.func235, Tryz.ntmps235;go_wp2;go_ret;exact ⟨rfl, (Below.refl _ _).alloc (Nat.le_refl _) _⟩
 ·have e1 : ¬ (n : Int) ≤ 65536 := by omega
  clear h;go_enter Tryz.func235, Tryz.ntmps235;go_wp2;go_ret;exact ⟨rfl, (Below.refl _ _).alloc (Nat.le_refl _) _⟩
theorem own_slice (ta : Option Addr) (n c n' c' : Nat) : (Value.slice ta n c).ownBlock = (Value.slice ta n' c').ownBlock := by cases ta <;> rfl
theorem group_over_list (w : World) (b n p zn zb zd : Nat) (c : Array Value) (S : TypeId) (hp : w.heap[p]? = some (.cells c S (0, 0))) (h0 : c[0]? = some (.int .i64 zn)) (h1 : c[1]? = some (.int .i64 zb)) (h2 : c[2]? = some (.int .i64 zd))
 (hz : (⟨zn, zb, zd⟩ : Sz).within = false) (hn : zn ≤ 4611686018427387904) (hb : zb ≤ 4611686018427387904) (hd : zd ≤ 4611686018427387904) :
 Calls Tryz.prog 220 #[.pointer (some ⟨b, 0, none⟩), .int .i64 n, .iface 181 (.pointer (some ⟨p, 0, none⟩))] w fun e w' => e = .panicked [{ v := .iface 29 (.int .i64 3), recovered := false }] ∧ Below w.heap.size w w' := by
 have hm := method_181 hp h0 h1 h2;have HS := Lib.hid (fun w0 => sized_size w0 zn zb zd);have HO := Lib.hid (fun w0 => size_over w0 zn zb zd hz hn hb hd);clear hp h0 h1 h2 hz;go_enter Tryz.func220, Tryz.ntmps220;go_wp2_with fail;refine (HS.out _).mono ?_;rintro e w1 ⟨rfl, hb1⟩;have HB1 := Lib.hid hb1;clear hb1;go_wp2_with fail;refine (HO.out _).mono ?_;rintro e w2 ⟨rfl, hb2⟩;have HB2 := Lib.hid (chain HB1.out hb2);clear hb2;go_wp2_with fail;refine (refuse_yes _ 3).mono ?_;rintro e w3 ⟨rfl, rfl⟩;go_wp2_with fail;exact ⟨rfl, rfl, HB2.out⟩
theorem group_fits_list (w : World) (b n p zn zb zd : Nat) (c : Array Value) (S : TypeId) (V : Value) (vals : List Value) (hp : w.heap[p]? = some (.cells c S (0, 0))) (h0 : c[0]? = some (.int .i64 zn)) (h1 : c[1]? = some (.int .i64 zb)) (h2 : c[2]? = some (.int .i64 zd))
 (hz : (⟨zn, zb, zd⟩ : Sz).within = true) (h : w.heap[b]? = some (.cells #[V] 195 (0, 0))) (hw : Win 97 id w V vals) (hl : vals.length ≤ 1048576) (hn : n ≤ vals.length) :
 Calls Tryz.prog 220 #[.pointer (some ⟨b, 0, none⟩), .int .i64 n, .iface 181 (.pointer (some ⟨p, 0, none⟩))] w fun e w' => e = .returned (.tuple #[]) ∧ GroupRet w b V vals (vals.length - n) 181 (.pointer (some ⟨p, 0, none⟩)) w' := by
 have hm := method_181 hp h0 h1 h2;have HS := Lib.hid (fun w0 => sized_size w0 zn zb zd);have HO := Lib.hid (fun w0 => size_fits w0 zn zb zd hz);obtain ⟨k, hk⟩ : ∃ k, vals.length - n = k := ⟨_, rfl⟩;rw [hk];have hkw : IntKind.i64.wrap ((vals.length : Int) - (n : Int)) = (k : Int) := by rw [IntKind.wrap_i64]; omega
 have hk0 : (0 : Int) ≤ (k : Int) := by omega
 have hk1 : (k : Int) ≤ (vals.length : Int) := by omega
 have hkl : k ≤ vals.length := by omega
 have HNE := Lib.hid (hw.ne h (by decide));have H := Lib.hid h;have hlt := lt_of_block h;have HLEN := Lib.hid (And.intro hl hkl)
 obtain ⟨ta, tc, htv, hcp, hwk⟩ : ∃ ta tc, V = .slice ta vals.length tc ∧ vals.length ≤ tc ∧ Win 97 id w (.slice ta k tc) (vals.take k) := by
  rcases hw with ⟨rfl, rfl⟩ | ⟨g, off, cap, cur, rfl, hg, hc, ho, hm, hi⟩
  ·have : k = 0 := by simp at hkl; exact hkl
   subst this;exact ⟨none, 0, rfl, Nat.le_refl _, .nil _ _ _⟩
  ·exact ⟨_, cap, rfl, hc, Win.take (n := vals.length) (.inr ⟨g, off, cap, cur, rfl, hg, hc, ho, hm, hi⟩) hkl⟩
 have hkc : (k : Int) ≤ (tc : Int) := by omega
 have HWK := Lib.hid hwk;clear hp h0 h1 h2 hz h hw hl hwk;subst htv;go_enter Tryz.func220, Tryz.ntmps220;go_wp2_with fail;refine (HS.out _).mono ?_;rintro e w1 ⟨rfl, hb1⟩;have HB1 := Lib.hid hb1;clear hb1;go_wp2_with fail;refine (HO.out _).mono ?_;rintro e w2 ⟨rfl, hb2⟩;have hb := chain HB1.out hb2;have h2 := keep H.out hb;have hc0 := cell_of_one h2;have hf0 := free_of_one h2;have HH2 := Lib.hid h2;have HB := Lib.hid hb;have hlt2 := lt_of_block h2;clear hb2 hb h2;go_wp2_with fail;refine (refuse_no _ 3).mono ?_;rintro e w3 ⟨rfl, rfl⟩;have hkx : Keeps (fun _ => False) w3 (w3.drew.alloc (.cells #[.iface 181 (.pointer (some ⟨p, 0, none⟩))] 97)) := ((Keeps.refl _ w3).drew).alloc _;have hwx := ((HWK.out.keeps (Keeps.of_below (fun _ => False) HB.out) (fun _ _ => id)).keeps hkx (fun _ _ => id)).toN;rw [List.map_id, show (vals.take k).length = k by rw [List.length_take]; omega] at hwx
 have hnew : ∀ j u, ([.iface 181 (.pointer (some ⟨p, 0, none⟩))] : List Value)[j]? = some u → (w3.drew.alloc (.cells #[.iface 181 (.pointer (some ⟨p, 0, none⟩))] 97)).cell? ((⟨w3.heap.size, 0, none⟩ : Addr).add j) = some u := by
  intro j u hj;have hp : (⟨w3.heap.size, 0, none⟩ : Addr).add j = ⟨w3.heap.size, j, none⟩ := by unfold Addr.add; split <;> simp_all
  rw [hp]
  show (w3.drew.alloc _).cell? ⟨w3.drew.heap.size, j, none⟩ = _
  rw [cell_at (heap_alloc_new w3.drew _)]
  simpa using hj
 have hon : ∀ u ∈ ([.iface 181 (.pointer (some ⟨p, 0, none⟩))] : List Value), u.oneCell' = true := fun u hu => by simp at hu; subst hu; rfl
 have hbm : (k + 1) * 16 ≤ 140737488355328 := by have := HLEN.out; omega
 have hmm : k + 1 ≤ maxLen := by have := HLEN.out; unfold maxLen; omega
 have HWX := Lib.hid hwx;have HNEW := Lib.hid hnew;have HON := Lib.hid hon;have HBM := Lib.hid hbm;have HMM := Lib.hid hmm;have HKX := Lib.hid hkx;have HHX := Lib.hid (hkx.blk HH2.out id);have HNE2 := Lib.hid (show (Value.slice ta k tc).ownBlock ≠ some b by rw [own_slice ta k tc vals.length tc]; exact HNE.out);clear hwx hnew hon hbm hmm hkx;go_wp2_with fail
 go_region_law (refine step_append_winN elemItemN rfl _ _ rfl rfl HWX.out ⟨w3.heap.size, 0, none⟩ 1 1 [.iface 181 (.pointer (some ⟨p, 0, none⟩))] rfl rfl HNEW.out HON.out (by decide) HBM.out HMM.out ?_; intro g' off' cap' w' hwin hgb hkk; have hkk : Keeps (fun q => (Value.slice ta k tc).ownBlock = some q) (w3.drew.alloc (.cells #[.iface 181 (.pointer (some ⟨p, 0, none⟩))] 97)) w' := hkk; have hgb : (Value.slice ta k tc).ownBlock = some g' ∨ (w3.drew.alloc (.cells #[.iface 181 (.pointer (some ⟨p, 0, none⟩))] 97)).heap.size ≤ g' ∧ g' < w'.heap.size := hgb; have hb' := hkk.blk HHX.out HNE2.out; have hc1 := cell_of_one hb'; have hf1 := free_of_one hb')
 all_goals
  have HB4 := Lib.hid hb';have HWIN := Lib.hid hwin;rw [own_slice ta k tc vals.length tc] at hgb hkk;have HGB := Lib.hid hgb;have HKK := Lib.hid hkk;have HNG := Lib.hid (hwin.ne hb' (by decide));clear hb' hwin hgb hkk hc0 hf0;go_wp2_with fail
  go_end0
  have hks : Keeps (fun k => k = b) w' (w'.setCell ⟨b, 0, none⟩ (.slice (some ⟨g', off', none⟩) (k + 1) cap')) := (Keeps.refl (fun k => k = b) w').setCell (p := ⟨b, 0, none⟩) (.inl rfl) _;have hwl : (vals.take k ++ [Value.iface 181 (.pointer (some ⟨p, 0, none⟩))]).length = k + 1 := by rw [List.length_append, List.length_take]; have := HLEN.out; simp; omega
  refine ⟨rfl, g', off', cap', set_at HB4.out _, ?_, ?_, ?_⟩
  ·refine WinN.toWin (n := k + 1) ?_;rw [List.map_id];exact HWIN.out.keeps hks (fun k e hk => HNG.out (e.trans (congrArg some hk)))
  ·exact HGB.out.imp id (fun h => Nat.le_trans HB.out.size (Nat.le_trans (by simp) h.1))
  ·exact ((((Keeps.of_below (fun k => k = b ∨ (Value.slice ta vals.length tc).ownBlock = some k) HB.out).drew.alloc _).same (HKK.out.mono (fun k e => .inr e)))).same (hks.mono (fun k e => .inl e))
theorem group_over_object (w : World) (b n p zn zb zd : Nat) (c : Array Value) (S : TypeId) (hp : w.heap[p]? = some (.cells c S (0, 0))) (h0 : c[0]? = some (.int .i64 zn)) (h1 : c[1]? = some (.int .i64 zb)) (h2 : c[2]? = some (.int .i64 zd))
 (hz : (⟨zn, zb, zd⟩ : Sz).within = false) (hn : zn ≤ 4611686018427387904) (hb : zb ≤ 4611686018427387904) (hd : zd ≤ 4611686018427387904) :
 Calls Tryz.prog 220 #[.pointer (some ⟨b, 0, none⟩), .int .i64 n, .iface 187 (.pointer (some ⟨p, 0, none⟩))] w fun e w' => e = .panicked [{ v := .iface 29 (.int .i64 3), recovered := false }] ∧ Below w.heap.size w w' := by
 have hm := method_187 hp h0 h1 h2;have HS := Lib.hid (fun w0 => sized_size w0 zn zb zd);have HO := Lib.hid (fun w0 => size_over w0 zn zb zd hz hn hb hd);clear hp h0 h1 h2 hz;go_enter Tryz.func220, Tryz.ntmps220;go_wp2_with fail;refine (HS.out _).mono ?_;rintro e w1 ⟨rfl, hb1⟩;have HB1 := Lib.hid hb1;clear hb1;go_wp2_with fail;refine (HO.out _).mono ?_;rintro e w2 ⟨rfl, hb2⟩;have HB2 := Lib.hid (chain HB1.out hb2);clear hb2;go_wp2_with fail;refine (refuse_yes _ 3).mono ?_;rintro e w3 ⟨rfl, rfl⟩;go_wp2_with fail;exact ⟨rfl, rfl, HB2.out⟩
theorem group_fits_object (w : World) (b n p zn zb zd : Nat) (c : Array Value) (S : TypeId) (V : Value) (vals : List Value) (hp : w.heap[p]? = some (.cells c S (0, 0))) (h0 : c[0]? = some (.int .i64 zn)) (h1 : c[1]? = some (.int .i64 zb)) (h2 : c[2]? = some (.int .i64 zd))
 (hz : (⟨zn, zb, zd⟩ : Sz).within = true) (h : w.heap[b]? = some (.cells #[V] 195 (0, 0))) (hw : Win 97 id w V vals) (hl : vals.length ≤ 1048576) (hn : n ≤ vals.length) :
 Calls Tryz.prog 220 #[.pointer (some ⟨b, 0, none⟩), .int .i64 n, .iface 187 (.pointer (some ⟨p, 0, none⟩))] w fun e w' => e = .returned (.tuple #[]) ∧ GroupRet w b V vals (vals.length - n) 187 (.pointer (some ⟨p, 0, none⟩)) w' := by
 have hm := method_187 hp h0 h1 h2;have HS := Lib.hid (fun w0 => sized_size w0 zn zb zd);have HO := Lib.hid (fun w0 => size_fits w0 zn zb zd hz);obtain ⟨k, hk⟩ : ∃ k, vals.length - n = k := ⟨_, rfl⟩;rw [hk];have hkw : IntKind.i64.wrap ((vals.length : Int) - (n : Int)) = (k : Int) := by rw [IntKind.wrap_i64]; omega
 have hk0 : (0 : Int) ≤ (k : Int) := by omega
 have hk1 : (k : Int) ≤ (vals.length : Int) := by omega
 have hkl : k ≤ vals.length := by omega
 have HNE := Lib.hid (hw.ne h (by decide));have H := Lib.hid h;have hlt := lt_of_block h;have HLEN := Lib.hid (And.intro hl hkl)
 obtain ⟨ta, tc, htv, hcp, hwk⟩ : ∃ ta tc, V = .slice ta vals.length tc ∧ vals.length ≤ tc ∧ Win 97 id w (.slice ta k tc) (vals.take k) := by
  rcases hw with ⟨rfl, rfl⟩ | ⟨g, off, cap, cur, rfl, hg, hc, ho, hm, hi⟩
  ·have : k = 0 := by simp at hkl; exact hkl
   subst this;exact ⟨none, 0, rfl, Nat.le_refl _, .nil _ _ _⟩
  ·exact ⟨_, cap, rfl, hc, Win.take (n := vals.length) (.inr ⟨g, off, cap, cur, rfl, hg, hc, ho, hm, hi⟩) hkl⟩
 have hkc : (k : Int) ≤ (tc : Int) := by omega
 have HWK := Lib.hid hwk;clear hp h0 h1 h2 hz h hw hl hwk;subst htv;go_enter Tryz.func220, Tryz.ntmps220;go_wp2_with fail;refine (HS.out _).mono ?_;rintro e w1 ⟨rfl, hb1⟩;have HB1 := Lib.hid hb1;clear hb1;go_wp2_with fail;refine (HO.out _).mono ?_;rintro e w2 ⟨rfl, hb2⟩;have hb := chain HB1.out hb2;have h2 := keep H.out hb;have hc0 := cell_of_one h2;have hf0 := free_of_one h2;have HH2 := Lib.hid h2;have HB := Lib.hid hb;have hlt2 := lt_of_block h2;clear hb2 hb h2;go_wp2_with fail;refine (refuse_no _ 3).mono ?_;rintro e w3 ⟨rfl, rfl⟩;have hkx : Keeps (fun _ => False) w3 (w3.drew.alloc (.cells #[.iface 187 (.pointer (some ⟨p, 0, none⟩))] 97)) := ((Keeps.refl _ w3).drew).alloc _;have hwx := ((HWK.out.keeps (Keeps.of_below (fun _ => False) HB.out) (fun _ _ => id)).keeps hkx (fun _ _ => id)).toN;rw [List.map_id, show (vals.take k).length = k by rw [List.length_take]; omega] at hwx
 have hnew : ∀ j u, ([.iface 187 (.pointer (some ⟨p, 0, none⟩))] : List Value)[j]? = some u → (w3.drew.alloc (.cells #[.iface 187 (.pointer (some ⟨p, 0, none⟩))] 97)).cell? ((⟨w3.heap.size, 0, none⟩ : Addr).add j) = some u := by
  intro j u hj;have hp : (⟨w3.heap.size, 0, none⟩ : Addr).add j = ⟨w3.heap.size, j, none⟩ := by unfold Addr.add; split <;> simp_all
  rw [hp]
  show (w3.drew.alloc _).cell? ⟨w3.drew.heap.size, j, none⟩ = _
  rw [cell_at (heap_alloc_new w3.drew _)]
  simpa using hj
 have hon : ∀ u ∈ ([.iface 187 (.pointer (some ⟨p, 0, none⟩))] : List Value), u.oneCell' = true := fun u hu => by simp at hu; subst hu; rfl
 have hbm : (k + 1) * 16 ≤ 140737488355328 := by have := HLEN.out; omega
 have hmm : k + 1 ≤ maxLen := by have := HLEN.out; unfold maxLen; omega
 have HWX := Lib.hid hwx;have HNEW := Lib.hid hnew;have HON := Lib.hid hon;have HBM := Lib.hid hbm;have HMM := Lib.hid hmm;have HKX := Lib.hid hkx;have HHX := Lib.hid (hkx.blk HH2.out id);have HNE2 := Lib.hid (show (Value.slice ta k tc).ownBlock ≠ some b by rw [own_slice ta k tc vals.length tc]; exact HNE.out);clear hwx hnew hon hbm hmm hkx;go_wp2_with fail
 go_region_law (refine step_append_winN elemItemN rfl _ _ rfl rfl HWX.out ⟨w3.heap.size, 0, none⟩ 1 1 [.iface 187 (.pointer (some ⟨p, 0, none⟩))] rfl rfl HNEW.out HON.out (by decide) HBM.out HMM.out ?_; intro g' off' cap' w' hwin hgb hkk; have hkk : Keeps (fun q => (Value.slice ta k tc).ownBlock = some q) (w3.drew.alloc (.cells #[.iface 187 (.pointer (some ⟨p, 0, none⟩))] 97)) w' := hkk; have hgb : (Value.slice ta k tc).ownBlock = some g' ∨ (w3.drew.alloc (.cells #[.iface 187 (.pointer (some ⟨p, 0, none⟩))] 97)).heap.size ≤ g' ∧ g' < w'.heap.size := hgb; have hb' := hkk.blk HHX.out HNE2.out; have hc1 := cell_of_one hb'; have hf1 := free_of_one hb')
 all_goals
  have HB4 := Lib.hid hb';have HWIN := Lib.hid hwin;rw [own_slice ta k tc vals.length tc] at hgb hkk;have HGB := Lib.hid hgb;have HKK := Lib.hid hkk;have HNG := Lib.hid (hwin.ne hb' (by decide));clear hb' hwin hgb hkk hc0 hf0;go_wp2_with fail
  go_end0
  have hks : Keeps (fun k => k = b) w' (w'.setCell ⟨b, 0, none⟩ (.slice (some ⟨g', off', none⟩) (k + 1) cap')) := (Keeps.refl (fun k => k = b) w').setCell (p := ⟨b, 0, none⟩) (.inl rfl) _;have hwl : (vals.take k ++ [Value.iface 187 (.pointer (some ⟨p, 0, none⟩))]).length = k + 1 := by rw [List.length_append, List.length_take]; have := HLEN.out; simp; omega
  refine ⟨rfl, g', off', cap', set_at HB4.out _, ?_, ?_, ?_⟩
  ·refine WinN.toWin (n := k + 1) ?_;rw [List.map_id];exact HWIN.out.keeps hks (fun k e hk => HNG.out (e.trans (congrArg some hk)))
  ·exact HGB.out.imp id (fun h => Nat.le_trans HB.out.size (Nat.le_trans (by simp) h.1))
  ·exact ((((Keeps.of_below (fun k => k = b ∨ (Value.slice ta vals.length tc).ownBlock = some k) HB.out).drew.alloc _).same (HKK.out.mono (fun k e => .inr e)))).same (hks.mono (fun k e => .inl e))
end Go.Proofs.YtakkmiomhackiaaGreatDoor
