/-
  The program, one part of its walk: Nd2, Nd3, Nd4, Nd5. Conditions: none.
-/
import Derived.Test.YtakkmiomhackiaaGreatDoorPa15
import Derived.Test.YtakkmiomhackiaaGreatDoorPa10
import Derived.Deep.RegionLaw
import Derived.Deep.AppendLies
import Derived.Test.YtakkmiomhackiaaGreatDoorPa00
set_option linter.all false
set_option maxRecDepth 100000
set_option maxHeartbeats 16000000
open Go.Proofs.Tryz
namespace Go.Proofs.YtakkmiomhackiaaGreatDoor
open Go.RowKit
theorem elemItemN : ElemN 184 97 1 16 := ⟨underlying184, by decide, by
 have h : (prog.info? 97).map (fun i => (i.zero, i.size, i.bytes)) = some (some .nilIface, 1, 16) := by kernel_rfl
 obtain ⟨i, h1, h2, h3, h4⟩ := info_parts h;exact ⟨i, _, h1, h2, h3, h4, rfl⟩⟩
def ItemsRet (w : World) (vals : List Value) (e : Ending) (w' : World) : Prop :=
 ∃ v, e = .returned v ∧ Win 97 id w' v vals ∧ (∀ k, v.ownBlock = some k → w.heap.size ≤ k ∧ k < w'.heap.size) ∧ Below w.heap.size w w'
theorem cloneItems_nil (w : World) : Calls prog 238 #[.slice none 0 0] w fun e w' => ItemsRet w [] e w' := by
 have q22 : ∀ (w : World) (a : Option Addr) (n c n' c' : Nat), (binOp .eql 184 (.slice a n c) (.slice none n' c')).run prog w = .ok (.bool a.isNone) w := fun w a n c n' c' => Lib.run_eql_slice_nil w _ _ a n c n' c' underlying184
 go_enter func238, ntmps238;go_wp2_with fail;exact bodyPost_ret (v := .slice none 0 0) (by simp [results, results238, go_sem]) rfl ⟨_, rfl, .nil _ _ _, fun k h => (by cases h), Below.refl _ _⟩
theorem cloneItems_some (w : World) (g off cap : Nat) (vals : List Value) (hl : vals.length ≤ 1048576) (hone : ∀ v ∈ vals, v.oneCell' = true) (h : ∀ i x, vals[i]? = some x → w.cell? ⟨g, off + i, none⟩ = some x) :
 Calls prog 238 #[.slice (some ⟨g, off, none⟩) vals.length cap] w fun e w' => ItemsRet w vals e w' := by
 have hb0 : Below w.heap.size w (w.alloc (.cells #[] 97)) := (Below.refl _ _).alloc (Nat.le_refl _) _;have hnew := heap_alloc_new w (.cells #[] 97);have hw0 : WinN 1 97 (w.alloc (.cells #[] 97)) (.slice (some ⟨w.heap.size, 0, none⟩) 0 0) 0 [] := ⟨by simp, .inr ⟨w.heap.size, 0, 0, #[], rfl, hnew, Nat.le_refl _, by simp, Nat.zero_le _, fun j u hj => by simp at hj⟩⟩;have HB := hZ hb0;have HW := hZ hw0;have HL := hZ hl;have HONE := hZ hone
 have hnews : ∀ j u, vals[j]? = some u → (w.alloc (.cells #[] 97)).cell? ((⟨g, off, none⟩ : Addr).add j) = some u := by
  intro j u hj;have hp : (⟨g, off, none⟩ : Addr).add j = ⟨g, off + j, none⟩ := by unfold Addr.add; split <;> simp_all
  rw [hp];have hx := h j u hj;exact (World.cell?_of_block (Below.heap_alloc _ _ _ (World.block_lt_of_cell? w _ hx))).trans hx
 have HN := hZ hnews;clear hb0 hnew hw0 hl h hnews hone;have q22 : ∀ (w : World) (a : Option Addr) (n c n' c' : Nat), (binOp .eql 184 (.slice a n c) (.slice none n' c')).run prog w = .ok (.bool a.isNone) w := fun w a n c n' c' => Lib.run_eql_slice_nil w _ _ a n c n' c' underlying184
 by_cases h0 : vals = []
 ·subst h0;go_enter func238, ntmps238
  go_wp2_with (at_builtin; refine append_winN0 elemItemN rfl _ _ rfl rfl HW.out (some ⟨g, off, none⟩) cap rfl ?_)
  go_wp2_with fail;exact bodyPost_ret (v := .slice (some ⟨w.heap.size, 0, none⟩) 0 0) (by simp [results, results238, go_sem]) rfl ⟨_, rfl, WinN.toWin (by simpa using HW.out), fun k h => (by cases h; exact ⟨Nat.le_refl _, by simp⟩), HB.out⟩
 ·obtain ⟨n, hn⟩ : ∃ n, vals.length = n + 1 := ⟨vals.length - 1, by have := List.length_pos_iff.2 h0; omega⟩;rw [hn];have HLN := hZ hn;clear h0 hn;go_enter func238, ntmps238
  go_wp2_with (at_builtin; refine append_winN elemItemN rfl _ _ rfl rfl HW.out ⟨g, off, none⟩ (n + 1) cap vals rfl ?_ HN.out ?_ ?_ ?_ ?_ ?_)
  ·rw [HLN.out]; omega
  ·exact HONE.out
  ·omega
  ·have := HL.out; rw [HLN.out] at this; omega
  ·have := HL.out; rw [HLN.out] at this; unfold maxLen; omega
  intro g2 off2 c w' hw hg hk;have HW2 := hZ hw;have HG := hZ hg;have HK := hZ hk;clear hw hg hk;go_wp2_with fail;refine bodyPost_ret (v := .slice (some ⟨g2, off2, none⟩) (n + 1) c) (by simp [results, results238, go_sem]) rfl ?_;refine ⟨_, rfl, ?_, ?_, ?_⟩
  ·exact WinN.toWin (n := n + 1) (by simpa using HW2.out)
  ·intro k hk;cases hk;rcases HG.out with h | h
   ·cases h;exact ⟨Nat.le_refl _, Nat.lt_of_lt_of_le (by simp) HK.out.size⟩
   ·exact ⟨Nat.le_trans (by simp) h.1, h.2⟩
  ·exact ((Keeps.of_below (fun _ => False) HB.out).trans HK.out (fun k h => .inr (by cases h; exact Nat.le_refl _))).toBelow (Nat.le_refl _) (fun _ h => h.elim)
theorem take_few (w : World) (b n : Nat) (V : Value) (vals : List Value) (h : w.heap[b]? = some (.cells #[V] 195 (0, 0))) (hw : Win 97 id w V vals) (hn : vals.length < n) :
 Calls prog 219 #[.pointer (some ⟨b, 0, none⟩), .int .i64 n] w fun e w' => e = .panicked [{ v := .iface 29 (.int .i64 102), recovered := false }] ∧ w' = w := by
 have hc := cell_of_one h;obtain ⟨ta, tc, htv⟩ := hw.shape;have hgt : (vals.length : Int) < (n : Int) := by omega
 clear h hw hn;subst htv;go_enter func219, ntmps219;go_wp2_with fail;exact ⟨rfl, rfl, rfl⟩
theorem take_ok (w : World) (b n : Nat) (V : Value) (vals : List Value) (h : w.heap[b]? = some (.cells #[V] 195 (0, 0))) (hw : Win 97 id w V vals) (hl : vals.length ≤ 1048576) (hone : ∀ v ∈ vals, v.oneCell' = true) (hn : n ≤ vals.length) :
 Calls prog 219 #[.pointer (some ⟨b, 0, none⟩), .int .i64 n] w fun e w' => ItemsRet w (vals.drop (vals.length - n)) e w' := by
 have hc := cell_of_one h;have hgt : ¬ (vals.length : Int) < (n : Int) := by omega
 have hgt2 : (n : Int) ≤ (vals.length : Int) := by omega
 rcases hw with ⟨rfl, rfl⟩ | ⟨g, off, cap, cur, rfl, hg, hcp, ho, hm, hi⟩
 ·have hn0 : n = 0 := by simpa using hn
  subst hn0;have HC := hZ (cloneItems_nil w);clear h hone hl hn hgt hgt2;go_enter func219, ntmps219;go_wp2_with fail;refine (HC.out).mono ?_;rintro e w1 ⟨v, rfl, h1, h2, h3⟩;have H1 := hZ (And.intro h1 (And.intro h2 h3));obtain ⟨a2, c2, rfl⟩ := h1.shape;clear h1 h2 h3;go_wp2_with fail;go_ret;exact ⟨_, rfl, H1.out.1, H1.out.2⟩
 ·obtain ⟨k, hk⟩ : ∃ k, vals.length - n = k := ⟨_, rfl⟩;have hkl : k ≤ vals.length := by omega
  rw [hk];have hkw : IntKind.i64.wrap ((vals.length : Int) - (n : Int)) = (k : Int) := by rw [IntKind.wrap_i64]; omega
  have hk0 : (0 : Int) ≤ (k : Int) := by omega
  have hk1 : (k : Int) ≤ (vals.length : Int) := by omega
  have hcm : cap ≤ 9223372036854775807 := by unfold maxLen at hm; omega
  have hd : (vals.drop k).length = vals.length - k := List.length_drop
  have hcell : ∀ i x, (vals.drop k)[i]? = some x → w.cell? ⟨g, off + k + i, none⟩ = some x := fun i x hx => by
   rw [List.getElem?_drop] at hx;rw [cell_at hg, show off + k + i = off + (k + i) by omega];exact hi (k + i) x hx
  have hone2 : ∀ v ∈ vals.drop k, v.oneCell' = true := fun v hv => hone v (List.mem_of_mem_drop hv)
  have HK := hZ (And.intro hk hd)
  by_cases hcc : cap = k
  ·have hd0 : vals.drop k = [] := List.eq_nil_of_length_eq_zero (by omega);rw [hd0];have HC := hZ (cloneItems_some w g off 0 [] (by simp) (fun v hv => by simp at hv) (fun i x hx => by simp at hx));have hlk : vals.length = k := by omega
   subst hcc;clear h hone hl hn hi hg ho hm hcell hone2 hd0 hd hk;rw [hlk] at hc hgt hgt2 hkw hk1;clear hlk;go_enter func219, ntmps219;go_wp2_with fail;refine (HC.out).mono ?_;rintro e w1 ⟨v, rfl, h1, h2, h3⟩;have H1 := hZ (And.intro h1 (And.intro h2 h3));obtain ⟨a2, c2, rfl⟩ := h1.shape;clear h1 h2 h3;go_wp2_with fail;go_ret;exact ⟨_, rfl, H1.out.1, H1.out.2⟩
  ·have HC := hZ (cloneItems_some w g (off + k) (cap - k) (vals.drop k) (by rw [hd]; omega) hone2 hcell);rw [hd] at HC;clear h hone hl hn hi hg ho hm hcell hone2 hk hd;go_enter func219, ntmps219;go_wp2_with fail;refine (HC.out).mono ?_;rintro e w1 ⟨v, rfl, h1, h2, h3⟩;have H1 := hZ (And.intro h1 (And.intro h2 h3));obtain ⟨a2, c2, rfl⟩ := h1.shape;clear h1 h2 h3;go_wp2_with fail;go_ret;have hw1 := H1.out.1;have hw2 := H1.out.2;rw [HK.out.2] at hw1 hw2;exact ⟨_, rfl, hw1, hw2⟩
def GroupRet (w : World) (b : Nat) (V : Value) (vals : List Value) (k : Nat) (T : TypeId) (v : Value) (w' : World) : Prop :=
 ∃ g off cap, w'.heap[b]? = some (.cells #[.slice (some ⟨g, off, none⟩) (k + 1) cap] 195 (0, 0)) ∧ Win 97 id w' (.slice (some ⟨g, off, none⟩) (k + 1) cap) (vals.take k ++ [.iface T v]) ∧ (V.ownBlock = some g ∨ w.heap.size ≤ g) ∧ Keeps (fun k => k = b ∨ V.ownBlock = some k) w w'
theorem Win.take {α : Type} {e : Nat} {enc : α → Value} {w : World} {g off n cap : Nat} {l : List α} (h : Win e enc w (.slice (some ⟨g, off, none⟩) n cap) l) {k : Nat} (hk : k ≤ l.length) : Win e enc w (.slice (some ⟨g, off, none⟩) k cap) (l.take k) := by
 have hl : (l.take k).length = k := by rw [List.length_take]; omega
 rcases h with ⟨hv, _⟩ | ⟨g', off', cap', cur, hv, hg, hc, ho, hm, hi⟩
 ·cases hv
 ·cases hv;refine .inr ⟨g, off, cap, cur, by rw [hl], hg, by omega, ho, hm, fun i x hx => ?_⟩;rw [List.getElem?_take] at hx;split at hx
  ·exact hi i x hx
  ·cases hx
theorem size_over (w : World) (n by' d : Nat) (h : (⟨n, by', d⟩ : Sz).within = false) (hn : n ≤ 4611686018427387904) (hb : by' ≤ 4611686018427387904) (hd : d ≤ 4611686018427387904) : Calls prog 235 #[.agg #[.int .i64 n, .int .i64 by', .int .i64 d]] w fun e w' => e = .returned (.bool false) ∧ Below w.heap.size w w' := by
 by_cases h1 : n ≤ 65536
 ·have e1 : (n : Int) ≤ 65536 := by omega
  by_cases h2 : by' ≤ 2097152
  ·have e2 : (by' : Int) ≤ 2097152 := by omega
   have e3 : ¬ (d : Int) ≤ 512 := by
    intro h3;simp [Sz.within] at h;omega
   clear h;go_enter func235, ntmps235;go_wp2;go_ret;exact ⟨rfl, (Below.refl _ _).alloc (Nat.le_refl _) _⟩
  ·have e2 : ¬ (by' : Int) ≤ 2097152 := by omega
   clear h;go_enter func235, ntmps235;go_wp2;go_ret;exact ⟨rfl, (Below.refl _ _).alloc (Nat.le_refl _) _⟩
 ·have e1 : ¬ (n : Int) ≤ 65536 := by omega
  clear h;go_enter func235, ntmps235;go_wp2;go_ret;exact ⟨rfl, (Below.refl _ _).alloc (Nat.le_refl _) _⟩
theorem own_slice (ta : Option Addr) (n c n' c' : Nat) : (Value.slice ta n c).ownBlock = (Value.slice ta n' c').ownBlock := by cases ta <;> rfl
theorem group_over_list (w : World) (b n p zn zb zd : Nat) (c : Array Value) (S : TypeId) (hp : w.heap[p]? = some (.cells c S (0, 0))) (h0 : c[0]? = some (.int .i64 zn)) (h1 : c[1]? = some (.int .i64 zb)) (h2 : c[2]? = some (.int .i64 zd))
 (hz : (⟨zn, zb, zd⟩ : Sz).within = false) (hn : zn ≤ 4611686018427387904) (hb : zb ≤ 4611686018427387904) (hd : zd ≤ 4611686018427387904) :
 Calls prog 220 #[.pointer (some ⟨b, 0, none⟩), .int .i64 n, .iface 181 (.pointer (some ⟨p, 0, none⟩))] w fun e w' => e = .panicked [{ v := .iface 29 (.int .i64 3), recovered := false }] ∧ Below w.heap.size w w' := by
 have hm := method_181 hp h0 h1 h2;have HS := hZ (fun w0 => sized_size w0 zn zb zd);have HO := hZ (fun w0 => size_over w0 zn zb zd hz hn hb hd);clear hp h0 h1 h2 hz;go_enter func220, ntmps220;go_wp2_with fail;refine (HS.out _).mono ?_;rintro e w1 ⟨rfl, hb1⟩;have HB1 := hZ hb1;clear hb1;go_wp2_with fail;refine (HO.out _).mono ?_;rintro e w2 ⟨rfl, hb2⟩;have HB2 := hZ (chain HB1.out hb2);clear hb2;go_wp2_with fail;refine (refuse_yes _ 3).mono ?_;rintro e w3 ⟨rfl, rfl⟩;go_wp2_with fail;exact ⟨rfl, rfl, HB2.out⟩
theorem group_fits_list (w : World) (b n p zn zb zd : Nat) (c : Array Value) (S : TypeId) (V : Value) (vals : List Value) (hp : w.heap[p]? = some (.cells c S (0, 0))) (h0 : c[0]? = some (.int .i64 zn)) (h1 : c[1]? = some (.int .i64 zb)) (h2 : c[2]? = some (.int .i64 zd))
 (hz : (⟨zn, zb, zd⟩ : Sz).within = true) (h : w.heap[b]? = some (.cells #[V] 195 (0, 0))) (hw : Win 97 id w V vals) (hl : vals.length ≤ 1048576) (hn : n ≤ vals.length) :
 Calls prog 220 #[.pointer (some ⟨b, 0, none⟩), .int .i64 n, .iface 181 (.pointer (some ⟨p, 0, none⟩))] w fun e w' => e = .returned (.tuple #[]) ∧ GroupRet w b V vals (vals.length - n) 181 (.pointer (some ⟨p, 0, none⟩)) w' := by
 have hm := method_181 hp h0 h1 h2;have HS := hZ (fun w0 => sized_size w0 zn zb zd);have HO := hZ (fun w0 => size_fits w0 zn zb zd hz);obtain ⟨k, hk⟩ : ∃ k, vals.length - n = k := ⟨_, rfl⟩;rw [hk];have hkw : IntKind.i64.wrap ((vals.length : Int) - (n : Int)) = (k : Int) := by rw [IntKind.wrap_i64]; omega
 have hk0 : (0 : Int) ≤ (k : Int) := by omega
 have hk1 : (k : Int) ≤ (vals.length : Int) := by omega
 have hkl : k ≤ vals.length := by omega
 have HNE := hZ (hw.ne h (by decide));have H := hZ h;have hlt := lt_of_block h;have HLEN := hZ (And.intro hl hkl)
 obtain ⟨ta, tc, htv, hcp, hwk⟩ : ∃ ta tc, V = .slice ta vals.length tc ∧ vals.length ≤ tc ∧ Win 97 id w (.slice ta k tc) (vals.take k) := by
  rcases hw with ⟨rfl, rfl⟩ | ⟨g, off, cap, cur, rfl, hg, hc, ho, hm, hi⟩
  ·have : k = 0 := by simp at hkl; exact hkl
   subst this;exact ⟨none, 0, rfl, Nat.le_refl _, .nil _ _ _⟩
  ·exact ⟨_, cap, rfl, hc, Win.take (n := vals.length) (.inr ⟨g, off, cap, cur, rfl, hg, hc, ho, hm, hi⟩) hkl⟩
 have hkc : (k : Int) ≤ (tc : Int) := by omega
 have HWK := hZ hwk;clear hp h0 h1 h2 hz h hw hl hwk;subst htv;go_enter func220, ntmps220;go_wp2_with fail;refine (HS.out _).mono ?_;rintro e w1 ⟨rfl, hb1⟩;have HB1 := hZ hb1;clear hb1;go_wp2_with fail;refine (HO.out _).mono ?_;rintro e w2 ⟨rfl, hb2⟩;have hb := chain HB1.out hb2;have h2 := keep H.out hb;have hc0 := cell_of_one h2;have hf0 := free_of_one h2;have HH2 := hZ h2;have HB := hZ hb;have hlt2 := lt_of_block h2;clear hb2 hb h2;go_wp2_with fail;refine (refuse_no _ 3).mono ?_;rintro e w3 ⟨rfl, rfl⟩;have hkx : Keeps (fun _ => False) w3 (w3.drew.alloc (.cells #[.iface 181 (.pointer (some ⟨p, 0, none⟩))] 97)) := ((Keeps.refl _ w3).drew).alloc _;have hwx := ((HWK.out.keeps (Keeps.of_below (fun _ => False) HB.out) (fun _ _ => id)).keeps hkx (fun _ _ => id)).toN;rw [List.map_id, show (vals.take k).length = k by rw [List.length_take]; omega] at hwx
 have hnew : ∀ j u, ([.iface 181 (.pointer (some ⟨p, 0, none⟩))] : List Value)[j]? = some u → (w3.drew.alloc (.cells #[.iface 181 (.pointer (some ⟨p, 0, none⟩))] 97)).cell? ((⟨w3.heap.size, 0, none⟩ : Addr).add j) = some u := by
  intro j u hj;have hp : (⟨w3.heap.size, 0, none⟩ : Addr).add j = ⟨w3.heap.size, j, none⟩ := by unfold Addr.add; split <;> simp_all
  rw [hp]
  show (w3.drew.alloc _).cell? ⟨w3.drew.heap.size, j, none⟩ = _
  rw [cell_at (heap_alloc_new w3.drew _)]
  simpa using hj
 have hon : ∀ u ∈ ([.iface 181 (.pointer (some ⟨p, 0, none⟩))] : List Value), u.oneCell' = true := fun u hu => by simp at hu; subst hu; rfl
 have hbm : (k + 1) * 16 ≤ 140737488355328 := by have := HLEN.out; omega
 have hmm : k + 1 ≤ maxLen := by have := HLEN.out; unfold maxLen; omega
 have HWX := hZ hwx;have HNEW := hZ hnew;have HON := hZ hon;have HBM := hZ hbm;have HMM := hZ hmm;have HKX := hZ hkx;have HHX := hZ (hkx.blk HH2.out id);have HNE2 := hZ (show (Value.slice ta k tc).ownBlock ≠ some b by rw [own_slice ta k tc vals.length tc]; exact HNE.out);clear hwx hnew hon hbm hmm hkx;go_wp2_with fail
 go_region_law (refine step_append_winN elemItemN rfl _ _ rfl rfl HWX.out ⟨w3.heap.size, 0, none⟩ 1 1 [.iface 181 (.pointer (some ⟨p, 0, none⟩))] rfl rfl HNEW.out HON.out (by decide) HBM.out HMM.out ?_; intro g' off' cap' w' hwin hgb hkk; have hkk : Keeps (fun q => (Value.slice ta k tc).ownBlock = some q) (w3.drew.alloc (.cells #[.iface 181 (.pointer (some ⟨p, 0, none⟩))] 97)) w' := hkk; have hgb : (Value.slice ta k tc).ownBlock = some g' ∨ (w3.drew.alloc (.cells #[.iface 181 (.pointer (some ⟨p, 0, none⟩))] 97)).heap.size ≤ g' ∧ g' < w'.heap.size := hgb; have hb' := hkk.blk HHX.out HNE2.out; have hc1 := cell_of_one hb'; have hf1 := free_of_one hb')
 all_goals
  have HB4 := hZ hb';have HWIN := hZ hwin;rw [own_slice ta k tc vals.length tc] at hgb hkk;have HGB := hZ hgb;have HKK := hZ hkk;have HNG := hZ (hwin.ne hb' (by decide));clear hb' hwin hgb hkk hc0 hf0;go_wp2_with fail
  go_end0
  have hks : Keeps (fun k => k = b) w' (w'.setCell ⟨b, 0, none⟩ (.slice (some ⟨g', off', none⟩) (k + 1) cap')) := (Keeps.refl (fun k => k = b) w').setCell (p := ⟨b, 0, none⟩) (.inl rfl) _;have hwl : (vals.take k ++ [Value.iface 181 (.pointer (some ⟨p, 0, none⟩))]).length = k + 1 := by rw [List.length_append, List.length_take]; have := HLEN.out; simp; omega
  refine ⟨rfl, g', off', cap', set_at HB4.out _, ?_, ?_, ?_⟩
  ·refine WinN.toWin (n := k + 1) ?_;rw [List.map_id];exact HWIN.out.keeps hks (fun k e hk => HNG.out (e.trans (congrArg some hk)))
  ·exact HGB.out.imp id (fun h => Nat.le_trans HB.out.size (Nat.le_trans (by simp) h.1))
  ·exact ((((Keeps.of_below (fun k => k = b ∨ (Value.slice ta vals.length tc).ownBlock = some k) HB.out).drew.alloc _).same (HKK.out.mono (fun k e => .inr e)))).same (hks.mono (fun k e => .inl e))
theorem group_over_object (w : World) (b n p zn zb zd : Nat) (c : Array Value) (S : TypeId) (hp : w.heap[p]? = some (.cells c S (0, 0))) (h0 : c[0]? = some (.int .i64 zn)) (h1 : c[1]? = some (.int .i64 zb)) (h2 : c[2]? = some (.int .i64 zd))
 (hz : (⟨zn, zb, zd⟩ : Sz).within = false) (hn : zn ≤ 4611686018427387904) (hb : zb ≤ 4611686018427387904) (hd : zd ≤ 4611686018427387904) :
 Calls prog 220 #[.pointer (some ⟨b, 0, none⟩), .int .i64 n, .iface 187 (.pointer (some ⟨p, 0, none⟩))] w fun e w' => e = .panicked [{ v := .iface 29 (.int .i64 3), recovered := false }] ∧ Below w.heap.size w w' := by
 have hm := method_187 hp h0 h1 h2;have HS := hZ (fun w0 => sized_size w0 zn zb zd);have HO := hZ (fun w0 => size_over w0 zn zb zd hz hn hb hd);clear hp h0 h1 h2 hz;go_enter func220, ntmps220;go_wp2_with fail;refine (HS.out _).mono ?_;rintro e w1 ⟨rfl, hb1⟩;have HB1 := hZ hb1;clear hb1;go_wp2_with fail;refine (HO.out _).mono ?_;rintro e w2 ⟨rfl, hb2⟩;have HB2 := hZ (chain HB1.out hb2);clear hb2;go_wp2_with fail;refine (refuse_yes _ 3).mono ?_;rintro e w3 ⟨rfl, rfl⟩;go_wp2_with fail;exact ⟨rfl, rfl, HB2.out⟩
theorem group_fits_object (w : World) (b n p zn zb zd : Nat) (c : Array Value) (S : TypeId) (V : Value) (vals : List Value) (hp : w.heap[p]? = some (.cells c S (0, 0))) (h0 : c[0]? = some (.int .i64 zn)) (h1 : c[1]? = some (.int .i64 zb)) (h2 : c[2]? = some (.int .i64 zd))
 (hz : (⟨zn, zb, zd⟩ : Sz).within = true) (h : w.heap[b]? = some (.cells #[V] 195 (0, 0))) (hw : Win 97 id w V vals) (hl : vals.length ≤ 1048576) (hn : n ≤ vals.length) :
 Calls prog 220 #[.pointer (some ⟨b, 0, none⟩), .int .i64 n, .iface 187 (.pointer (some ⟨p, 0, none⟩))] w fun e w' => e = .returned (.tuple #[]) ∧ GroupRet w b V vals (vals.length - n) 187 (.pointer (some ⟨p, 0, none⟩)) w' := by
 have hm := method_187 hp h0 h1 h2;have HS := hZ (fun w0 => sized_size w0 zn zb zd);have HO := hZ (fun w0 => size_fits w0 zn zb zd hz);obtain ⟨k, hk⟩ : ∃ k, vals.length - n = k := ⟨_, rfl⟩;rw [hk];have hkw : IntKind.i64.wrap ((vals.length : Int) - (n : Int)) = (k : Int) := by rw [IntKind.wrap_i64]; omega
 have hk0 : (0 : Int) ≤ (k : Int) := by omega
 have hk1 : (k : Int) ≤ (vals.length : Int) := by omega
 have hkl : k ≤ vals.length := by omega
 have HNE := hZ (hw.ne h (by decide));have H := hZ h;have hlt := lt_of_block h;have HLEN := hZ (And.intro hl hkl)
 obtain ⟨ta, tc, htv, hcp, hwk⟩ : ∃ ta tc, V = .slice ta vals.length tc ∧ vals.length ≤ tc ∧ Win 97 id w (.slice ta k tc) (vals.take k) := by
  rcases hw with ⟨rfl, rfl⟩ | ⟨g, off, cap, cur, rfl, hg, hc, ho, hm, hi⟩
  ·have : k = 0 := by simp at hkl; exact hkl
   subst this;exact ⟨none, 0, rfl, Nat.le_refl _, .nil _ _ _⟩
  ·exact ⟨_, cap, rfl, hc, Win.take (n := vals.length) (.inr ⟨g, off, cap, cur, rfl, hg, hc, ho, hm, hi⟩) hkl⟩
 have hkc : (k : Int) ≤ (tc : Int) := by omega
 have HWK := hZ hwk;clear hp h0 h1 h2 hz h hw hl hwk;subst htv;go_enter func220, ntmps220;go_wp2_with fail;refine (HS.out _).mono ?_;rintro e w1 ⟨rfl, hb1⟩;have HB1 := hZ hb1;clear hb1;go_wp2_with fail;refine (HO.out _).mono ?_;rintro e w2 ⟨rfl, hb2⟩;have hb := chain HB1.out hb2;have h2 := keep H.out hb;have hc0 := cell_of_one h2;have hf0 := free_of_one h2;have HH2 := hZ h2;have HB := hZ hb;have hlt2 := lt_of_block h2;clear hb2 hb h2;go_wp2_with fail;refine (refuse_no _ 3).mono ?_;rintro e w3 ⟨rfl, rfl⟩;have hkx : Keeps (fun _ => False) w3 (w3.drew.alloc (.cells #[.iface 187 (.pointer (some ⟨p, 0, none⟩))] 97)) := ((Keeps.refl _ w3).drew).alloc _;have hwx := ((HWK.out.keeps (Keeps.of_below (fun _ => False) HB.out) (fun _ _ => id)).keeps hkx (fun _ _ => id)).toN;rw [List.map_id, show (vals.take k).length = k by rw [List.length_take]; omega] at hwx
 have hnew : ∀ j u, ([.iface 187 (.pointer (some ⟨p, 0, none⟩))] : List Value)[j]? = some u → (w3.drew.alloc (.cells #[.iface 187 (.pointer (some ⟨p, 0, none⟩))] 97)).cell? ((⟨w3.heap.size, 0, none⟩ : Addr).add j) = some u := by
  intro j u hj;have hp : (⟨w3.heap.size, 0, none⟩ : Addr).add j = ⟨w3.heap.size, j, none⟩ := by unfold Addr.add; split <;> simp_all
  rw [hp]
  show (w3.drew.alloc _).cell? ⟨w3.drew.heap.size, j, none⟩ = _
  rw [cell_at (heap_alloc_new w3.drew _)]
  simpa using hj
 have hon : ∀ u ∈ ([.iface 187 (.pointer (some ⟨p, 0, none⟩))] : List Value), u.oneCell' = true := fun u hu => by simp at hu; subst hu; rfl
 have hbm : (k + 1) * 16 ≤ 140737488355328 := by have := HLEN.out; omega
 have hmm : k + 1 ≤ maxLen := by have := HLEN.out; unfold maxLen; omega
 have HWX := hZ hwx;have HNEW := hZ hnew;have HON := hZ hon;have HBM := hZ hbm;have HMM := hZ hmm;have HKX := hZ hkx;have HHX := hZ (hkx.blk HH2.out id);have HNE2 := hZ (show (Value.slice ta k tc).ownBlock ≠ some b by rw [own_slice ta k tc vals.length tc]; exact HNE.out);clear hwx hnew hon hbm hmm hkx;go_wp2_with fail
 go_region_law (refine step_append_winN elemItemN rfl _ _ rfl rfl HWX.out ⟨w3.heap.size, 0, none⟩ 1 1 [.iface 187 (.pointer (some ⟨p, 0, none⟩))] rfl rfl HNEW.out HON.out (by decide) HBM.out HMM.out ?_; intro g' off' cap' w' hwin hgb hkk; have hkk : Keeps (fun q => (Value.slice ta k tc).ownBlock = some q) (w3.drew.alloc (.cells #[.iface 187 (.pointer (some ⟨p, 0, none⟩))] 97)) w' := hkk; have hgb : (Value.slice ta k tc).ownBlock = some g' ∨ (w3.drew.alloc (.cells #[.iface 187 (.pointer (some ⟨p, 0, none⟩))] 97)).heap.size ≤ g' ∧ g' < w'.heap.size := hgb; have hb' := hkk.blk HHX.out HNE2.out; have hc1 := cell_of_one hb'; have hf1 := free_of_one hb')
 all_goals
  have HB4 := hZ hb';have HWIN := hZ hwin;rw [own_slice ta k tc vals.length tc] at hgb hkk;have HGB := hZ hgb;have HKK := hZ hkk;have HNG := hZ (hwin.ne hb' (by decide));clear hb' hwin hgb hkk hc0 hf0;go_wp2_with fail
  go_end0
  have hks : Keeps (fun k => k = b) w' (w'.setCell ⟨b, 0, none⟩ (.slice (some ⟨g', off', none⟩) (k + 1) cap')) := (Keeps.refl (fun k => k = b) w').setCell (p := ⟨b, 0, none⟩) (.inl rfl) _;have hwl : (vals.take k ++ [Value.iface 187 (.pointer (some ⟨p, 0, none⟩))]).length = k + 1 := by rw [List.length_append, List.length_take]; have := HLEN.out; simp; omega
  refine ⟨rfl, g', off', cap', set_at HB4.out _, ?_, ?_, ?_⟩
  ·refine WinN.toWin (n := k + 1) ?_;rw [List.map_id];exact HWIN.out.keeps hks (fun k e hk => HNG.out (e.trans (congrArg some hk)))
  ·exact HGB.out.imp id (fun h => Nat.le_trans HB.out.size (Nat.le_trans (by simp) h.1))
  ·exact ((((Keeps.of_below (fun k => k = b ∨ (Value.slice ta vals.length tc).ownBlock = some k) HB.out).drew.alloc _).same (HKK.out.mono (fun k e => .inr e)))).same (hks.mono (fun k e => .inl e))
theorem used_list (w : World) (n : Nat) : Calls prog 213 #[.agg #[.int .i64 5, .bool false, .int .u64 0, .string ⟨#[]⟩, .int .i64 n, .slice none 0 0]] w fun e w' => e = .returned (.bool true) ∧ Below w.heap.size w w' := by
 have hb : (((n : Nat) : Int) == 0) = true ∨ (((n : Nat) : Int) == 0) = false := by cases h : (((n : Nat) : Int) == 0) <;> simp
 have h0 : (0 : Int) ≤ (n : Int) := by omega
 rcases hb with hb | hb
 all_goals
  go_enter func213, ntmps213;go_wp2;go_ret;exact ⟨rfl, (Below.refl _ _).alloc (Nat.le_refl _) _⟩
theorem doCatch_errno (p : Addr) (x : Value) (no : Nat) (older : List PanicEntry) (w : World) (hc : w.cell? p = some x) (hz : w.frozen? p = false) :
 CallsD prog 211 #[.pointer (some p)] (.panicking ({ v := .iface 29 (.int .i64 no), recovered := false } :: older)) w fun e u' w' =>
  e = .returned (.tuple #[]) ∧ u' = .panicking ({ v := .iface 29 (.int .i64 no), recovered := true } :: older) ∧ w' = w.setCell p (.iface 29 (.int .i64 no)) := by
 have hta : ∀ w : World, (Instr.typeAssert (.iface 29 (.int .i64 no)) 20 29 false).run prog w = .ok (.int .i64 no) w := fun _ => by kernel_rfl
 refine callsD_of_wpS func211 rfl fun c₀ cs hu => ?_
 apply wpS_seq;apply wpS_region;simp [wpOpsS, go_sem, recoverD, hu, ntmps211, Exit.thenS, Array.replicate];apply wpS_seq;apply wpS_region;simp [wpOpsS, go_sem, recoverD, hu, Exit.thenS];refine wpS_cond (t := true) (by simp [Act.eval]) ?_;simp only [if_true];apply wpS_region;simp [wpOpsS, go_sem, hc, hz, hta, bodyPostS, results, results211]
def GroupR (w : World) (b : Nat) (V : Value) (vals : List Value) (k : Nat) (T : TypeId) (v : Value) (R : Nat) (w' : World) : Prop :=
 ∃ g off cap, w'.heap[b]? = some (.cells #[.slice (some ⟨g, off, none⟩) (k + 1) cap] 195 (0, 0)) ∧ Win 97 id w' (.slice (some ⟨g, off, none⟩) (k + 1) cap) (vals.take k ++ [.iface T v]) ∧ (V.ownBlock = some g ∨ w.heap.size ≤ g) ∧ Keeps (fun q => q = b ∨ V.ownBlock = some q ∨ q = R) w w'
theorem GroupRet.close {w w1 w2 : World} {b : Nat} {V : Value} {vals : List Value} {k : Nat} {T : TypeId} {v : Value} {R : Nat} {u0 : Value} (hR : w.heap.size ≤ R) (hr1 : w1.heap[R]? = some (.cells #[u0] 26 (0, 0))) (hwV : ∀ k, V.ownBlock = some k → k < w.heap.size) (hbl : b < w.heap.size) (h : GroupRet w1 b V vals k T v w2) (u : Value) :
 w2.cell? ⟨R, 0, none⟩ = some u0 ∧ w2.frozen? ⟨R, 0, none⟩ = false ∧ GroupR w1 b V vals k T v R (w2.setCell ⟨R, 0, none⟩ u) ∧ (w2.setCell ⟨R, 0, none⟩ u).cell? ⟨R, 0, none⟩ = some u := by
 obtain ⟨g, off, cap, h1, h2, h3, h4⟩ := h
 have hne : ¬ (R = b ∨ V.ownBlock = some R) := by
  rintro (e | e)
  ·omega
  ·have := hwV R e; omega
 have hr2 := h4.blk hr1 hne;have hk : Keeps (fun k => k = R) w2 (w2.setCell ⟨R, 0, none⟩ u) := (Keeps.refl (fun k => k = R) w2).setCell (p := ⟨R, 0, none⟩) (.inl rfl) _;refine ⟨cell_of_one hr2, free_of_one hr2, ⟨g, off, cap, (set_else u (by omega)).trans h1, ?_, h3, (h4.mono fun k e => e.imp id .inl).same (hk.mono fun k e => .inr (.inr e))⟩, ?_⟩
 ·exact h2.keeps hk (fun k e hk => h2.ne hr2 (by decide) (e.trans (congrArg some hk)))
 ·rw [cell_at (set_at hr2 u)]; rfl
def ListDone (w : World) (b : Nat) (V : Value) (vals : List Value) (k : Nat) (z : Sz) (w' : World) : Prop :=
 ∃ (w4 : World) (R p : Nat) (itemsV : Value), Below w.heap.size w w4 ∧ w.heap.size ≤ R ∧ w4.heap[R]? = some (.cells #[.nilIface] 26 (0, 0)) ∧ w.heap.size ≤ p ∧ w4.heap[p]? = some (.cells #[.int .i64 z.nodes, .int .i64 z.bytes, .int .i64 z.depth, itemsV] 186 (0, 0)) ∧
  Win 97 id w4 itemsV (vals.drop k) ∧ (∀ q, itemsV.ownBlock = some q → w.heap.size ≤ q) ∧ GroupR w4 b V vals k 181 (.pointer (some ⟨p, 0, none⟩)) R w'
theorem ListDone.lift {w w1 w' : World} {b : Nat} {V : Value} {vals : List Value} {k : Nat} {z : Sz} (hb : Below w.heap.size w w1) (h : ListDone w1 b V vals k z w') : ListDone w b V vals k z w' := by
 obtain ⟨w4, R, p, itemsV, h1, h2, h3, h4, h5, h6, h7, h8⟩ := h;exact ⟨w4, R, p, itemsV, hb.trans (h1.mono hb.size), Nat.le_trans hb.size h2, h3, Nat.le_trans hb.size h4, h5, h6, fun q e => Nat.le_trans hb.size (h7 q e), h8⟩
theorem sumSz_bound {bytes : Nat} {l : List Sz} (h : ∀ z ∈ l, z.within = true) (hl : l.length ≤ 65536) (hb : bytes ≤ 1073741824) : (sumSz bytes l).nodes ≤ 4611686018427387904 ∧ (sumSz bytes l).bytes ≤ 4611686018427387904 ∧ (sumSz bytes l).depth ≤ 4611686018427387904 := by
 have := partSz_bound (bytes := bytes) h;rw [sumSz_part];exact ⟨by show (partSz bytes l).nodes ≤ _; omega, by show (partSz bytes l).bytes ≤ _; omega, by show (partSz bytes l).depth + 1 ≤ _; omega⟩
theorem do_list_few (w : World) (b n : Nat) (V : Value) (vals : List Value) (h : w.heap[b]? = some (.cells #[V] 195 (0, 0))) (hw : Win 97 id w V vals) (hn : vals.length < n) :
 Calls prog 196 #[.pointer (some ⟨b, 0, none⟩), .agg #[.int .i64 5, .bool false, .int .u64 0, .string ⟨#[]⟩, .int .i64 n, .slice none 0 0]] w fun e w' => (∃ v, e = .returned v) ∧ Below w.heap.size w w' := by
 have hmf : ∀ (fn : Fn) (first cap : Array Value) (w : World), (Instr.makeFunc fn first cap).run prog w = .ok (.func fn first cap) w := fun _ _ _ _ => rfl
 have HU := hZ (fun w => used_list w n);have HT := hZ (fun w' (hb : Below w.heap.size w w') => take_few w' b n V vals (keep h hb) (hw.keeps (Keeps.of_below (fun _ => False) hb) (fun _ _ => id)) hn);clear h hw hn
 go_enter_defers func196, ntmps196
 go_wp2_with fail;refine (HU.out _).mono ?_;rintro e w1 ⟨rfl, hb1⟩;obtain ⟨g1, g2, hbw, hsz⟩ := after2 hb1;obtain ⟨q0, q1, q2, q3, q4, q5, qf⟩ := cells6 g1;have G2 := hZ g2;have HBW := hZ hbw;clear hb1 g1 g2 hbw;go_wp2_with fail;refine (refuse_no _ 2).mono ?_;rintro e w2 ⟨rfl, rfl⟩;go_wp2_with fail;refine (HT.out _ HBW.out).mono ?_;rintro e w3 ⟨rfl, rfl⟩;have GE := G2;have HBE := HBW;go_wp2_with fail;refine leaves_cons (f := 211) (args := #[.pointer (some ⟨w.heap.size + 1, 0, none⟩)]) (by simp) (by simp [go_sem]) ?_;refine (doCatch_errno ⟨w.heap.size + 1, 0, none⟩ .nilIface 102 [] _ (cell_of_one GE.out) (free_of_one GE.out)).mono ?_;rintro e u' w'' ⟨rfl, rfl, rfl⟩;have hcs : (w3.setCell ⟨w.heap.size + 1, 0, none⟩ (.iface 29 (.int .i64 102))).cell? ⟨w.heap.size + 1, 0, none⟩ = some (.iface 29 (.int .i64 102)) := by rw [cell_at (set_at GE.out _)]; rfl
 have hend : Below w.heap.size w (w3.setCell ⟨w.heap.size + 1, 0, none⟩ (.iface 29 (.int .i64 102))) := HBE.out.setCell (p := ⟨w.heap.size + 1, 0, none⟩) (Nat.le_succ _) _;simp [Leaves, settle, results, results196, go_sem, hcs];exact hend
theorem Trees.oneCell {F : Nat → Prop} {w : World} {vals : List Value} {items : List Tr} (h : Trees F w vals items) : ∀ v ∈ vals, v.oneCell' = true := by
 intro v hv;obtain ⟨i, hi, rfl⟩ := List.mem_iff_getElem.1 hv;have hi2 : i < items.length := by have := h.1; omega
 obtain ⟨T, x, e⟩ := (h.2 i _ _ (List.getElem?_eq_getElem hi) (List.getElem?_eq_getElem hi2)).iface;rw [e]; rfl
theorem Trees.drop {F : Nat → Prop} {w : World} {vals : List Value} {items : List Tr} (h : Trees F w vals items) (k : Nat) : Trees F w (vals.drop k) (items.drop k) := by
 refine ⟨by simp [h.1], fun i v t hv ht => ?_⟩;rw [List.getElem?_drop] at hv ht;exact h.2 _ v t hv ht
theorem Trees.take {F : Nat → Prop} {w : World} {vals : List Value} {items : List Tr} (h : Trees F w vals items) (k : Nat) : Trees F w (vals.take k) (items.take k) := by
 refine ⟨by simp [h.1], fun i v t hv ht => ?_⟩;rw [List.getElem?_take] at hv ht;split at hv
 ·rename_i hk;rw [if_pos hk] at ht;exact h.2 _ v t hv ht
 ·cases hv
theorem do_list_over (w : World) (F : Nat → Prop) (b n : Nat) (V : Value) (vals : List Value) (items : List Tr) (h : w.heap[b]? = some (.cells #[V] 195 (0, 0))) (hw : Win 97 id w V vals) (ht : Trees F w vals items) (hin : ∀ t ∈ items, t.sized.within = true) (hl : items.length ≤ 65536) (hn : n ≤ vals.length) (hz : (sumSz 0 ((items.drop (vals.length - n)).map Tr.sized)).within = false) :
 Calls prog 196 #[.pointer (some ⟨b, 0, none⟩), .agg #[.int .i64 5, .bool false, .int .u64 0, .string ⟨#[]⟩, .int .i64 n, .slice none 0 0]] w fun e w' => (∃ v, e = .returned v) ∧ Below w.heap.size w w' := by
 have hmf : ∀ (fn : Fn) (first cap : Array Value) (w : World), (Instr.makeFunc fn first cap).run prog w = .ok (.func fn first cap) w := fun _ _ _ _ => rfl
 have HU := hZ (fun w => used_list w n);have HN := hZ hn;have hvl := ht.1;have HT := hZ (fun w' (hb : Below w.heap.size w w') => take_ok w' b n V vals (keep h hb) (hw.keeps (Keeps.of_below (fun _ => False) hb) (fun _ _ => id)) (by omega) ht.oneCell hn);have HS := hZ (fun w' (hb : Below w.heap.size w w') itemsV (hi : Win 97 id w' itemsV (vals.drop (vals.length - n))) => summed_any F w' itemsV (vals.drop (vals.length - n)) (items.drop (vals.length - n)) 0 hi ((ht.keeps (Keeps.of_below (fun _ => False) hb) (fun _ _ => id)).drop _) (fun t m => hin t (List.mem_of_mem_drop m)) (by rw [List.length_drop]; omega) (by decide));have HZB := hZ (sumSz_bound (bytes := 0) (l := (items.drop (vals.length - n)).map Tr.sized) (by intro z hz; obtain ⟨t, ht, rfl⟩ := List.mem_map.1 hz; exact hin t (List.mem_of_mem_drop ht)) (by rw [List.length_map, List.length_drop]; omega) (by decide));have HZW := hZ hz;clear h hw hn ht hin hl hz
 go_enter_defers func196, ntmps196
 go_wp2_with fail;refine (HU.out _).mono ?_;rintro e w1 ⟨rfl, hb1⟩;obtain ⟨g1, g2, hbw, hsz⟩ := after2 hb1;obtain ⟨q0, q1, q2, q3, q4, q5, qf⟩ := cells6 g1;have G1 := hZ g1;have G2 := hZ g2;have HBW := hZ hbw;clear hb1 g1 g2 hbw;go_wp2_with fail;refine (refuse_no _ 2).mono ?_;rintro e w2 ⟨rfl, rfl⟩;go_wp2_with fail;refine (HT.out _ HBW.out).mono ?_;rintro e w3 ⟨itemsV, rfl, hi1, hi2, hi3⟩;have hb3 := chain HBW.out hi3;obtain ⟨ta, tc, hti⟩ := hi1.shape;obtain ⟨p0, p1, p2, p3, p4, p5, pf⟩ := cells6 (keep G1.out hi3);have G3 := hZ (keep G2.out hi3);have HB3 := hZ hb3;have hdl : (vals.drop (vals.length - n)).length = n := by rw [List.length_drop]; have := HN.out; omega
 rw [hdl] at hti;have HIT := hZ (And.intro hi1 (fun q (e : itemsV.ownBlock = some q) => (⟨Nat.le_trans HBW.out.size (hi2 q e).1, (hi2 q e).2⟩ : w.heap.size ≤ q ∧ q < w3.heap.size)));have HS2 := hZ (HS.out _ HB3.out itemsV hi1);clear hi1 hi2 hi3 hb3 hdl q0 q1 q2 q3 q4 q5 qf;subst hti;go_wp2_with fail;refine (HS2.out).mono ?_;rintro e w4 ⟨rfl, hb4⟩;have hzd : ∀ z : Sz, szV z = .agg #[.int .i64 z.nodes, .int .i64 z.bytes, .int .i64 z.depth] := fun _ => rfl
 obtain ⟨z, hz⟩ : ∃ z : Sz, sumSz 0 ((items.drop (vals.length - n)).map Tr.sized) = z := ⟨_, rfl⟩;have HZ := hZ hz;rw [hz, hzd];have HB4 := hZ (chain HB3.out hb4);have G4 := hZ (keep G3.out hb4);have HI4 := hZ (HIT.out.1.keeps (Keeps.of_below (fun _ => False) hb4) (fun _ _ => id));clear hb4 hz hzd;go_wp2_with fail;have hx := heap_alloc_new w4 (.cells #[.int .i64 z.nodes, .int .i64 z.bytes, .int .i64 z.depth, .slice ta n tc] 186);have hbx := HB4.out.alloc HB4.out.size (.cells #[.int .i64 z.nodes, .int .i64 z.bytes, .int .i64 z.depth, .slice ta n tc] 186);refine (group_over_list _ b n w4.heap.size z.nodes z.bytes z.depth _ _ hx rfl rfl rfl (by have := HZW.out; rw [HZ.out] at this; exact this) (by have := HZB.out; rw [HZ.out] at this; exact this.1) (by have := HZB.out; rw [HZ.out] at this; exact this.2.1) (by have := HZB.out; rw [HZ.out] at this; exact this.2.2)).mono ?_;rintro e w5 ⟨rfl, hb5⟩;have GE := hZ (keep (keep G4.out ((Below.refl _ _).alloc (Nat.le_refl _) _)) hb5);have HBE := hZ (chain hbx hb5);clear hx hbx hb5;go_wp2_with fail;refine leaves_cons (f := 211) (args := #[.pointer (some ⟨w.heap.size + 1, 0, none⟩)]) (by simp) (by simp [go_sem]) ?_;refine (doCatch_errno ⟨w.heap.size + 1, 0, none⟩ .nilIface 3 [] _ (cell_of_one GE.out) (free_of_one GE.out)).mono ?_;rintro e u' w'' ⟨rfl, rfl, rfl⟩;have hcs : (w5.setCell ⟨w.heap.size + 1, 0, none⟩ (.iface 29 (.int .i64 3))).cell? ⟨w.heap.size + 1, 0, none⟩ = some (.iface 29 (.int .i64 3)) := by rw [cell_at (set_at GE.out _)]; rfl
 have hend : Below w.heap.size w (w5.setCell ⟨w.heap.size + 1, 0, none⟩ (.iface 29 (.int .i64 3))) := HBE.out.setCell (p := ⟨w.heap.size + 1, 0, none⟩) (Nat.le_succ _) _;simp [Leaves, settle, results, results196, go_sem, hcs];exact hend
theorem do_list_ok (w : World) (F : Nat → Prop) (b n : Nat) (V : Value) (vals : List Value) (items : List Tr) (h : w.heap[b]? = some (.cells #[V] 195 (0, 0))) (hw : Win 97 id w V vals) (ht : Trees F w vals items) (hin : ∀ t ∈ items, t.sized.within = true) (hl : items.length ≤ 65536) (hn : n ≤ vals.length) (hz : (sumSz 0 ((items.drop (vals.length - n)).map Tr.sized)).within = true) :
 Calls prog 196 #[.pointer (some ⟨b, 0, none⟩), .agg #[.int .i64 5, .bool false, .int .u64 0, .string ⟨#[]⟩, .int .i64 n, .slice none 0 0]] w fun e w' => e = .returned .nilIface ∧ ListDone w b V vals (vals.length - n) (sumSz 0 ((items.drop (vals.length - n)).map Tr.sized)) w' := by
 have hmf : ∀ (fn : Fn) (first cap : Array Value) (w : World), (Instr.makeFunc fn first cap).run prog w = .ok (.func fn first cap) w := fun _ _ _ _ => rfl
 have HU := hZ (fun w => used_list w n);have HN := hZ hn;have hvl := ht.1;have HT := hZ (fun w' (hb : Below w.heap.size w w') => take_ok w' b n V vals (keep h hb) (hw.keeps (Keeps.of_below (fun _ => False) hb) (fun _ _ => id)) (by omega) ht.oneCell hn);have HS := hZ (fun w' (hb : Below w.heap.size w w') itemsV (hi : Win 97 id w' itemsV (vals.drop (vals.length - n))) => summed_any F w' itemsV (vals.drop (vals.length - n)) (items.drop (vals.length - n)) 0 hi ((ht.keeps (Keeps.of_below (fun _ => False) hb) (fun _ _ => id)).drop _) (fun t m => hin t (List.mem_of_mem_drop m)) (by rw [List.length_drop]; omega) (by decide));have HZW := hZ hz;have HV := hZ (fun k (e : V.ownBlock = some k) => hw.lt e);have hb0 := lt_of_block h;have HG := hZ (fun w' p z c S (hb : Below w.heap.size w w') hp h0 h1 h2 hz => group_fits_list w' b n p (Sz.nodes z) (Sz.bytes z) (Sz.depth z) c S V vals hp h0 h1 h2 hz (keep h hb) (hw.keeps (Keeps.of_below (fun _ => False) hb) (fun _ _ => id)) (by omega) hn);clear h hw hn ht hin hl hz
 go_enter_defers func196, ntmps196
 go_wp2_with fail;refine (HU.out _).mono ?_;rintro e w1 ⟨rfl, hb1⟩;obtain ⟨g1, g2, hbw, hsz⟩ := after2 hb1;obtain ⟨q0, q1, q2, q3, q4, q5, qf⟩ := cells6 g1;have G1 := hZ g1;have G2 := hZ g2;have HBW := hZ hbw;clear hb1 g1 g2 hbw;go_wp2_with fail;refine (refuse_no _ 2).mono ?_;rintro e w2 ⟨rfl, rfl⟩;go_wp2_with fail;refine (HT.out _ HBW.out).mono ?_;rintro e w3 ⟨itemsV, rfl, hi1, hi2, hi3⟩;have hb3 := chain HBW.out hi3;obtain ⟨ta, tc, hti⟩ := hi1.shape;obtain ⟨p0, p1, p2, p3, p4, p5, pf⟩ := cells6 (keep G1.out hi3);have G3 := hZ (keep G2.out hi3);have HB3 := hZ hb3;have hdl : (vals.drop (vals.length - n)).length = n := by rw [List.length_drop]; have := HN.out; omega
 rw [hdl] at hti;have HIT := hZ (And.intro hi1 (fun q (e : itemsV.ownBlock = some q) => (⟨Nat.le_trans HBW.out.size (hi2 q e).1, (hi2 q e).2⟩ : w.heap.size ≤ q ∧ q < w3.heap.size)));have HS2 := hZ (HS.out _ HB3.out itemsV hi1);clear hi1 hi2 hi3 hb3 hdl q0 q1 q2 q3 q4 q5 qf;subst hti;go_wp2_with fail;refine (HS2.out).mono ?_;rintro e w4 ⟨rfl, hb4⟩;have hzd : ∀ z : Sz, szV z = .agg #[.int .i64 z.nodes, .int .i64 z.bytes, .int .i64 z.depth] := fun _ => rfl
 obtain ⟨z, hz⟩ : ∃ z : Sz, sumSz 0 ((items.drop (vals.length - n)).map Tr.sized) = z := ⟨_, rfl⟩;have HZ := hZ hz;rw [hz, hzd];have HB4 := hZ (chain HB3.out hb4);have G4 := hZ (keep G3.out hb4);have HI4 := hZ (HIT.out.1.keeps (Keeps.of_below (fun _ => False) hb4) (fun _ _ => id));clear hb4 hz hzd;go_wp2_with fail;have hx := heap_alloc_new w4 (.cells #[.int .i64 z.nodes, .int .i64 z.bytes, .int .i64 z.depth, .slice ta n tc] 186);have hbx := HB4.out.alloc HB4.out.size (.cells #[.int .i64 z.nodes, .int .i64 z.bytes, .int .i64 z.depth, .slice ta n tc] 186);refine (HG.out _ w4.heap.size z _ _ hbx hx rfl rfl rfl (by have := HZW.out; rw [HZ.out] at this; exact this)).mono ?_;rintro e w5 ⟨rfl, hgr⟩;have ha := (Below.refl w4.heap.size w4).alloc (Nat.le_refl _) (.cells #[.int .i64 z.nodes, .int .i64 z.bytes, .int .i64 z.depth, .slice ta n tc] 186);obtain ⟨r0, rf, hput2, rc⟩ := hgr.close (Nat.le_succ _) (keep G4.out ha) HV.out hb0 .nilIface
 have hdone : ListDone w b V vals (vals.length - n) (sumSz 0 ((items.drop (vals.length - n)).map Tr.sized)) (w5.setCell ⟨w.heap.size + 1, 0, none⟩ .nilIface) := by
  rw [HZ.out];exact ⟨_, _, _, _, hbx, Nat.le_succ _, keep G4.out ha, HB4.out.size, hx, HI4.out.keeps (Keeps.of_below (fun _ => False) ha) (fun _ _ => id), fun q e => (HIT.out.2 q e).1, hput2⟩
 have HPUT := hZ hdone;clear hgr hput2 hx hbx ha hdone;go_wp2_with fail;refine leaves_cons (f := 211) (args := #[.pointer (some ⟨w.heap.size + 1, 0, none⟩)]) (by simp) (by simp [go_sem]) ?_;refine (doCatch_idle ⟨w.heap.size + 1, 0, none⟩ _).mono ?_;rintro e u' w'' ⟨rfl, rfl, rfl⟩;have hend := HPUT.out;rw [List.map_drop] at hend;simp [Leaves, settle, results, results196, go_sem, rc];exact hend
theorem ListDone.maker {F : Nat → Prop} {w w' : World} {mb : Nat} {V : Value} {vals : List Value} {items : List Tr} {k : Nat} {z : Sz} (hF : F mb) (hlt : ∀ k, F k → k < w.heap.size) (hw : WinIn F 97 id w V vals) (ht : Trees (fun k => F k ∧ k ≠ mb ∧ V.ownBlock ≠ some k) w vals items)
 (hz : z = (Tr.list (items.drop k)).sized) (h : ListDone w mb V vals k z w') : Keeps F w w' ∧ MakerAt (Since F w w') w' mb (items.take k ++ [.list (items.drop k)]) := by
 obtain ⟨w4, R, p, itemsV, hb, hR, hr, hp, hpb, hi, hio, g, off, cap, h1, h2, h3, h4⟩ := h;have hVlt : ∀ q, V.ownBlock = some q → q < w.heap.size := fun q e => hlt q (hw.2 q e)
 have hk : Keeps F w w' := (Keeps.of_below F hb).trans h4 (fun q e => by
  rcases e with e | e | e
  ·exact .inl (e ▸ hF)
  ·exact .inl (hw.2 q e)
  ·exact .inr (e ▸ hR))
 have hmb := hlt mb hF
 have hpn : ¬ (p = mb ∨ V.ownBlock = some p ∨ p = R) := by
  rintro (e | e | e)
  ·omega
  ·have := hVlt p e; omega
  ·rw [e, hr] at hpb;cases hpb
 have hpb' := h4.blk hpb hpn
 have hgp : g ≠ p := fun e => by
  obtain ⟨c, hc⟩ := h2.typed rfl;rw [e, hpb'] at hc;cases hc
 have hgl : ∀ q, q < w4.heap.size → V.ownBlock ≠ some q → g ≠ q := fun q hq hn e => by
  rcases h3 with h3 | h3
  ·exact hn (e ▸ h3)
  ·omega
 refine ⟨hk, .inl hF, since_lt hlt hk.size, _, _, h1, ⟨h2, ?_⟩, ?_⟩
 ·intro q e;cases e;exact h3.elim (fun e => .inl (hw.2 _ e)) (fun hle => .inr ⟨Nat.le_trans hb.size hle, h2.lt rfl⟩)
 ·have hold : ∀ q, (F q ∧ q ≠ mb ∧ V.ownBlock ≠ some q) → Since F w w' q ∧ q ≠ mb ∧ (Value.slice (some ⟨g, off, none⟩) (k + 1) cap).ownBlock ≠ some q := fun q h => ⟨.inl h.1, h.2.1, fun e => by
   cases e;exact hgl g (Nat.lt_of_lt_of_le (hlt g h.1) hb.size) h.2.2 rfl⟩
  have htk := (ht.keeps (Keeps.of_below (fun _ => False) hb) (fun _ _ => id)).keeps h4 (fun q h => by
   rintro (e | e | e)
   ·exact h.2.1 e
   ·exact h.2.2 e
   ·have := hlt q h.1; omega)
  refine Trees.snoc ((htk.take k).mono hold) ?_;subst hz;refine .list p itemsV (vals.drop k) (items.drop k) ⟨.inr ⟨hp, lt_of_block hpb'⟩, by omega, fun e => hgp (by cases e; rfl)⟩ hpb' ⟨hi.keeps h4 ?_, ?_⟩ ((ht.drop k).1) ?_
  ·intro q e;rintro (e2 | e2 | e2)
   ·have := hio q e; omega
   ·have := hVlt q e2; have := hio q e; omega
   ·exact hi.ne hr (by decide) (e.trans (congrArg some e2))
  ·intro q e;have hq4 := hi.lt e;have hq := hio q e;exact ⟨.inr ⟨hq, Nat.lt_of_lt_of_le hq4 h4.size⟩, by omega, fun e2 => hgl q hq4 (fun e3 => by have := hVlt q e3; omega) (by cases e2; rfl)⟩
  ·intro i v t hv hti;exact ((htk.drop k).mono hold).2 i v t hv hti
theorem list_step (w : World) (b n : Nat) (V : Value) (h : w.heap[b]? = some (.cells #[V] 195 (0, 0))) (P : World → World → Prop) (HD : Hid (∀ w1, Below w.heap.size w w1 → Calls prog 196 #[.pointer (some ⟨b, 0, none⟩), .agg #[.int .i64 5, .bool false, .int .u64 0, .string ⟨#[]⟩, .int .i64 n, .slice none 0 0]] w1 fun e w' => (∃ v, e = .returned v) ∧ P w1 w')) :
 Calls prog 175 #[.pointer (some ⟨b, 0, none⟩), .agg #[.int .i64 5, .bool false, .int .u64 0, .string ⟨#[]⟩, .int .i64 n, .slice none 0 0]] w fun e w' => (∃ v, e = .returned v) ∧ ∃ w1, Below w.heap.size w w1 ∧ P w1 w' := by
 have hal : Below w.heap.size w (w.alloc (.cells #[.int .i64 5, .bool false, .int .u64 0, .string ⟨#[]⟩, .int .i64 n, .slice none 0 0] 147)) := (Below.refl _ _).alloc (Nat.le_refl _) _;obtain ⟨q0, q1, q2, q3, q4, q5, qf⟩ := cells6 (heap_alloc_new w (.cells #[.int .i64 5, .bool false, .int .u64 0, .string ⟨#[]⟩, .int .i64 n, .slice none 0 0] 147));have hc := cell_of_one h;have hb0 := lt_of_block h;have HAL := hZ hal;clear hal h;go_enter func175, ntmps175;go_wp2_with fail
 go_region_with (go_at_call 196; refine (HD.out _ HAL.out.drew).mono ?_; rintro e w2 ⟨⟨v, rfl⟩, hp⟩)
 all_goals
  have HP := hZ hp;clear hp;go_wp2_with fail;go_ret;exact ⟨⟨_, rfl⟩, _, HAL.out.drew, HP.out⟩
theorem list_call (w : World) (b n : Nat) (V : Value) (h : w.heap[b]? = some (.cells #[V] 195 (0, 0))) (P : World → World → Prop) (HD : Hid (∀ w1, Below w.heap.size w w1 → Calls prog 196 #[.pointer (some ⟨b, 0, none⟩), .agg #[.int .i64 5, .bool false, .int .u64 0, .string ⟨#[]⟩, .int .i64 n, .slice none 0 0]] w1 fun e w' => (∃ v, e = .returned v) ∧ P w1 w')) :
 Calls prog 173 #[.pointer (some ⟨b, 0, none⟩), .int .i64 n] w fun e w' => (∃ v, e = .returned v) ∧ ∃ w1, Below w.heap.size w w1 ∧ P w1 w' := by
 have HS := hZ (list_step w b n V h P HD);clear HD h;go_enter func173, ntmps173;go_wp2_with fail;refine (HS.out).mono ?_;rintro e w2 ⟨⟨v, rfl⟩, hp⟩;have HP := hZ hp;clear hp;go_wp2_with fail;go_ret;exact ⟨⟨_, rfl⟩, HP.out⟩
theorem maker_list (F : Nat → Prop) (w : World) (mb : Nat) (items : List Tr) (n : Nat) (h : MakerAt F w mb items) (hin : ∀ t ∈ items, t.sized.within = true) (hl : items.length ≤ 65536) :
 Calls prog 173 #[.pointer (some ⟨mb, 0, none⟩), .int .i64 n] w fun e w' => (∃ v, e = .returned v) ∧ Keeps F w w' ∧ MakerAt (Since F w w') w' mb (putList items n) := by
 have h0 := h;obtain ⟨hF, hlt, V, vals, hb, hw, ht⟩ := h;have hvl := ht.1;have hsame : ∀ w', Below w.heap.size w w' → Keeps F w w' ∧ MakerAt (Since F w w') w' mb items := fun w' hbl => ⟨Keeps.of_below F hbl, (h0.apart (Keeps.of_below (fun _ => False) hbl) (fun _ _ => id)).mono (fun k hk => .inl hk) (since_lt hlt hbl.size)⟩
 have hwk : ∀ w1, Below w.heap.size w w1 → Win 97 id w1 V vals := fun w1 hb1 => hw.1.keeps (Keeps.of_below (fun _ => False) hb1) (fun _ _ => id)
 by_cases hfew : items.length < n
 ·have hpn : putList items n = items := by unfold putList; rw [if_pos hfew]
  rw [hpn];refine (list_call w mb n V hb (fun w1 w' => Below w1.heap.size w1 w') (hZ fun w1 hb1 => do_list_few w1 mb n V vals (keep hb hb1) (hwk w1 hb1) (by omega))).mono ?_;rintro e w' ⟨hv, w1, hb1, hb2⟩;exact ⟨hv, hsame _ (chain hb1 hb2)⟩
 ·have hsz : (Tr.list (items.drop (vals.length - n))).sized = sumSz 0 ((items.drop (vals.length - n)).map Tr.sized) := sized_list_eq _
  by_cases hin2 : (Tr.list (items.drop (vals.length - n))).sized.within = true
  ·have hpn : putList items n = items.take (vals.length - n) ++ [.list (items.drop (vals.length - n))] := by
    unfold putList putGroup;rw [if_neg hfew, ← hvl, if_pos hin2]
   rw [hpn];refine (list_call w mb n V hb (fun w1 w' => ListDone w1 mb V vals (vals.length - n) (sumSz 0 ((items.drop (vals.length - n)).map Tr.sized)) w') (hZ fun w1 hb1 => (do_list_ok w1 _ mb n V vals items (keep hb hb1) (hwk w1 hb1) (ht.keeps (Keeps.of_below (fun _ => False) hb1) (fun _ _ => id)) hin hl (by omega) (by rw [← hsz]; exact hin2)).mono (fun e w' h => ⟨⟨_, h.1⟩, h.2⟩))).mono ?_;rintro e w' ⟨hv, w1, hb1, hd⟩;exact ⟨hv, (hd.lift hb1).maker hF hlt hw ht hsz.symm⟩
  ·have hpn : putList items n = items := by
    unfold putList putGroup;rw [if_neg hfew, ← hvl, if_neg hin2]
   rw [hpn];refine (list_call w mb n V hb (fun w1 w' => Below w1.heap.size w1 w') (hZ fun w1 hb1 => do_list_over w1 _ mb n V vals items (keep hb hb1) (hwk w1 hb1) (ht.keeps (Keeps.of_below (fun _ => False) hb1) (fun _ _ => id)) hin hl (by omega) (by rw [← hsz]; simpa using hin2))).mono ?_;rintro e w' ⟨hv, w1, hb1, hb2⟩;exact ⟨hv, hsame _ (chain hb1 hb2)⟩
end Go.Proofs.YtakkmiomhackiaaGreatDoor
