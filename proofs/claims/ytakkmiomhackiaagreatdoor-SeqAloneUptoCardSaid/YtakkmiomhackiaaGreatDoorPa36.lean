/-
  The program, one part of its walk: Sp, Sm4, Sm5, Sl0, Cc4. Conditions: none.
-/
import Derived.Test.YtakkmiomhackiaaGreatDoorPa35
import Derived.Test.YtakkmiomhackiaaGreatDoorPa32
import Derived.Test.YtakkmiomhackiaaGreatDoorPa20
import Derived.Test.YtakkmiomhackiaaGreatDoorPa23
import Derived.Test.YtakkmiomhackiaaGreatDoorPa00
set_option linter.all false
set_option maxRecDepth 100000
set_option maxHeartbeats 16000000
open Go.Proofs.Tryz
namespace Go.Proofs.YtakkmiomhackiaaGreatDoor
open Go.RowKit
theorem spot_nil (w : World) : Calls prog 30 #[.nilIface] w fun e w' => e = .returned (.tuple #[.int .i64 0, .int .i64 0]) ∧ w' = w := by
 go_enter func30, ntmps30;go_wp2_with fail;exact bodyPost_ret (v := .tuple #[.int .i64 0, .int .i64 0]) (by simp [results, results30, go_sem]) rfl ⟨rfl, rfl⟩
theorem spot_at (w : World) (no at_ : Nat) (h1 : 1 ≤ no) (h2 : no ≤ 1073741824) (h3 : at_ ≤ 1073741824) : Calls prog 30 #[spotV no at_] w fun e w' => e = .returned (.tuple #[.int .i64 no, .int .i64 at_]) ∧ Keeps (fun _ => False) w w' := by
 unfold spotV;have hm : ∀ w, (Instr.typeAssert (.iface 151 (.agg #[.int .i64 no, .int .i64 at_])) 26 151 true).run prog w = .ok (.tuple #[.agg #[.int .i64 no, .int .i64 at_], .bool true]) w := fun _ => by kernel_rfl
 have hnew := heap_alloc_new w (.cells #[.int .i64 no, .int .i64 at_] 151);have x0 : (w.alloc (.cells #[.int .i64 no, .int .i64 at_] 151)).cell? ⟨w.heap.size, 0, none⟩ = some (.int .i64 no) := cell_at hnew;have x1 : (w.alloc (.cells #[.int .i64 no, .int .i64 at_] 151)).cell? ⟨w.heap.size, 1, none⟩ = some (.int .i64 at_) := cell_at hnew;clear hnew;have hk := (Keeps.refl (fun _ => False) w).alloc (.cells #[.int .i64 no, .int .i64 at_] 151);have h4 : ¬ (no : Int) = 0 := by omega
 go_enter func30, ntmps30;go_wp2_with fail;go_region;go_wp2_with fail;exact bodyPost_ret (v := .tuple #[.int .i64 no, .int .i64 at_]) (by simp [results, results30, go_sem]) rfl ⟨rfl, hk.drew⟩
theorem root_any (w : World) (T : Nat) (v : Value) (h : w.heap[T]? = some (.cells #[v] 176 (0, 0))) (hv : ∃ U x, v = .iface U x) : Calls prog 49 #[.pointer (some ⟨T, 0, none⟩)] w fun e w' => e = .returned (.agg #[v]) ∧ Below w.heap.size w w' := by
 obtain ⟨U, x, rfl⟩ := hv;have hk : Below w.heap.size w (w.alloc (.cells #[.nilIface] 99)) := (Below.refl _ _).alloc (Nat.le_refl _) _;have hc : (w.alloc (.cells #[.nilIface] 99)).cell? ⟨T, 0, none⟩ = some (.iface U x) := cell_of_one (keep h hk);have hcs : (w.alloc (.cells #[.iface U x] 99)).cell? ⟨w.heap.size, 0, none⟩ = some (.iface U x) := cell_of_one (heap_alloc_new w _);have HE := hZ ((Below.refl w.heap.size w).alloc (Nat.le_refl _) (.cells #[.iface U x] 99));clear h hk;go_enter func49, ntmps49;go_wp2_with fail;exact bodyPost_ret (v := .agg #[.iface U x]) (by simp [results, results49, go_sem, hcs]) rfl ⟨rfl, HE.out⟩
theorem treeSame_any (w : World) (T T2 : Nat) (v v2 : Value) (t : Tr) (F G : Nat → Prop) (hf : FinT t) (h : w.heap[T]? = some (.cells #[v] 176 (0, 0))) (h2 : w.heap[T2]? = some (.cells #[v2] 176 (0, 0))) (ht : TreeAt F w v t) (ht2 : TreeAt G w v2 t) :
 Calls prog 69 #[.pointer (some ⟨T, 0, none⟩), .pointer (some ⟨T2, 0, none⟩)] w fun e w' => e = .returned (.bool true) ∧ Below w.heap.size w w' := by
 have HR := hZ (fun (wx : World) (hb : Below w.heap.size w wx) => root_any wx T v (keep h hb) ht.iface);have HR2 := hZ (fun (wx : World) (hb : Below w.heap.size w wx) => root_any wx T2 v2 (keep h2 hb) ht2.iface);have HS := hZ (fun (wx : World) (hb : Below w.heap.size w wx) => same_any hf F G wx v v2 (ht.keeps (Keeps.of_below (fun _ => False) hb) (fun _ _ => id)) (ht2.keeps (Keeps.of_below (fun _ => False) hb) (fun _ _ => id)));obtain ⟨U, x, rfl⟩ := ht.iface;obtain ⟨U2, x2, rfl⟩ := ht2.iface;clear h h2 ht ht2 hf;go_enter func69, ntmps69;go_wp2_with fail;refine (HR.out _ (Below.refl _ _)).mono ?_;rintro e w1 ⟨rfl, hb1⟩;have HB1 := hZ hb1;clear hb1;go_wp2_with fail;refine (HR2.out _ HB1.out).mono ?_;rintro e w2 ⟨rfl, hb2⟩;have HB2 := hZ (chain HB1.out hb2);clear hb2;go_wp2_with fail;refine (HS.out _ HB2.out).mono ?_;rintro e w3 ⟨rfl, hb3⟩;have HB3 := hZ (chain HB2.out hb3);clear hb3;go_wp2_with fail;go_ret;exact ⟨rfl, HB3.out⟩
def RecOk : Except (Nat × Nat) Tr → Prop
 | .error (no, at_) => 1 ≤ no ∧ no ≤ 1073741824 ∧ at_ ≤ 1073741824
 | .ok t => FinT t
theorem same_error (w : World) (no at_ m : Nat) (h1 : 1 ≤ no) (h2 : no ≤ 1073741824) (h3 : at_ ≤ 1073741824) (h4 : m ≤ 1073741824) (h5 : at_ + m ≤ 1073741824) :
 Calls prog 43 #[.agg #[.pointer none, spotV no at_], .agg #[.pointer none, spotV no (at_ + m)], .int .i64 m] w fun e w' => e = .returned (.bool true) ∧ Below w.heap.size w w' := by
 have HS1 := hZ (fun w => spot_at w no at_ h1 h2 h3);have HS2 := hZ (fun w => spot_at w no (at_ + m) h1 h2 h5);obtain ⟨T, u, hu⟩ : ∃ T u, spotV no at_ = .iface T u := ⟨_, _, rfl⟩;obtain ⟨T2, u2, hu2⟩ : ∃ T u, spotV no (at_ + m) = .iface T u := ⟨_, _, rfl⟩;rw [hu] at HS1 ⊢;rw [hu2] at HS2 ⊢;have hb := ((Below.refl w.heap.size w).alloc (Nat.le_refl _) (.cells #[.pointer none, .iface T u] 85)).alloc (by simp) (.cells #[.pointer none, .iface T2 u2] 85);have hx : ((w.alloc (.cells #[.pointer none, .iface T u] 85)).alloc (.cells #[.pointer none, .iface T2 u2] 85)).heap[w.heap.size]? = some (.cells #[.pointer none, .iface T u] 85 (0, 0)) := (Below.heap_alloc _ _ _ (by simp)).trans (heap_alloc_new w _)
 have hy : ((w.alloc (.cells #[.pointer none, .iface T u] 85)).alloc (.cells #[.pointer none, .iface T2 u2] 85)).heap[w.heap.size + 1]? = some (.cells #[.pointer none, .iface T2 u2] 85 (0, 0)) := by
  have := heap_alloc_new (w.alloc (.cells #[.pointer none, .iface T u] 85)) (.cells #[.pointer none, .iface T2 u2] 85)
  rwa [World.size_alloc] at this
 obtain ⟨W, hW⟩ : ∃ W, (w.alloc (.cells #[.pointer none, .iface T u] 85)).alloc (.cells #[.pointer none, .iface T2 u2] 85) = W := ⟨_, rfl⟩;rw [hW] at hb hx hy;have HB := hZ hb;have HX := hZ hx;have HY := hZ hy;have x1 : W.cell? ⟨w.heap.size, 1, none⟩ = some (.iface T u) := cell_at hx;have e1 : ((no : Int) == 0) = false := by simp; omega
 have e2 : ¬ (no : Int) < 0 := by omega
 have e3 : IntKind.i64.wrap ((at_ : Int) + (m : Int)) = (at_ : Int) + (m : Int) := by rw [IntKind.wrap_i64]; omega
 clear hb hx hy hu hu2;go_enter func43, ntmps43;go_wp2_with fail;refine (HS1.out _).mono ?_;rintro e w1 ⟨rfl, hk1⟩;have hx1 := hk1.blk HX.out id;have hy1 := hk1.blk HY.out id;have HX1 := hZ hx1;have HY1 := hZ hy1;have HB1 := hZ ((Keeps.of_below (fun _ => False) HB.out).same hk1);have y1 : w1.cell? ⟨w.heap.size + 1, 1, none⟩ = some (.iface T2 u2) := cell_at hy1;clear hk1 hx1 hy1 x1 hW;go_wp2_with fail;refine (HS2.out _).mono ?_;rintro e w2 ⟨rfl, hk2⟩;have hx2 := hk2.blk HX1.out id;have hy2 := hk2.blk HY1.out id;have HB2 := hZ (HB1.out.same hk2);have z0 : w2.cell? ⟨w.heap.size, 0, none⟩ = some (.pointer none) := cell_at hx2;have z1 : w2.cell? ⟨w.heap.size + 1, 0, none⟩ = some (.pointer none) := cell_at hy2;clear hk2 hx2 hy2 y1;go_wp2_with fail;go_ret;exact ⟨rfl, HB2.out.toBelow (Nat.le_refl _) (fun _ h => h.elim)⟩
theorem same_ok (w : World) (T T2 m : Nat) (v v2 : Value) (t : Tr) (F G : Nat → Prop) (hf : FinT t) (h : w.heap[T]? = some (.cells #[v] 176 (0, 0))) (h2 : w.heap[T2]? = some (.cells #[v2] 176 (0, 0))) (ht : TreeAt F w v t) (ht2 : TreeAt G w v2 t) :
 Calls prog 43 #[.agg #[.pointer (some ⟨T, 0, none⟩), .nilIface], .agg #[.pointer (some ⟨T2, 0, none⟩), .nilIface], .int .i64 m] w fun e w' => e = .returned (.bool true) ∧ Below w.heap.size w w' := by
 have HTS := hZ (fun (wx : World) (hb : Below w.heap.size w wx) => treeSame_any wx T T2 v v2 t F G hf (keep h hb) (keep h2 hb) (ht.keeps (Keeps.of_below (fun _ => False) hb) (fun _ _ => id)) (ht2.keeps (Keeps.of_below (fun _ => False) hb) (fun _ _ => id)));have hb := ((Below.refl w.heap.size w).alloc (Nat.le_refl _) (.cells #[.pointer (some ⟨T, 0, none⟩), .nilIface] 85)).alloc (by simp) (.cells #[.pointer (some ⟨T2, 0, none⟩), .nilIface] 85);have hx : ((w.alloc (.cells #[.pointer (some ⟨T, 0, none⟩), .nilIface] 85)).alloc (.cells #[.pointer (some ⟨T2, 0, none⟩), .nilIface] 85)).heap[w.heap.size]? = some (.cells #[.pointer (some ⟨T, 0, none⟩), .nilIface] 85 (0, 0)) := (Below.heap_alloc _ _ _ (by simp)).trans (heap_alloc_new w _)
 have hy : ((w.alloc (.cells #[.pointer (some ⟨T, 0, none⟩), .nilIface] 85)).alloc (.cells #[.pointer (some ⟨T2, 0, none⟩), .nilIface] 85)).heap[w.heap.size + 1]? = some (.cells #[.pointer (some ⟨T2, 0, none⟩), .nilIface] 85 (0, 0)) := by
  have := heap_alloc_new (w.alloc (.cells #[.pointer (some ⟨T, 0, none⟩), .nilIface] 85)) (.cells #[.pointer (some ⟨T2, 0, none⟩), .nilIface] 85)
  rwa [World.size_alloc] at this
 obtain ⟨W, hW⟩ : ∃ W, (w.alloc (.cells #[.pointer (some ⟨T, 0, none⟩), .nilIface] 85)).alloc (.cells #[.pointer (some ⟨T2, 0, none⟩), .nilIface] 85) = W := ⟨_, rfl⟩;rw [hW] at hb hx hy;have HB := hZ hb;have HT2 := hZ (HTS.out W hb);have x0 : W.cell? ⟨w.heap.size, 0, none⟩ = some (.pointer (some ⟨T, 0, none⟩)) := cell_at hx;have x1 : W.cell? ⟨w.heap.size, 1, none⟩ = some .nilIface := cell_at hx;have y0 : W.cell? ⟨w.heap.size + 1, 0, none⟩ = some (.pointer (some ⟨T2, 0, none⟩)) := cell_at hy;have y1 : W.cell? ⟨w.heap.size + 1, 1, none⟩ = some .nilIface := cell_at hy;clear hb hx hy h h2 ht ht2 hf HTS;go_enter func43, ntmps43;go_wp2_with fail;refine (spot_nil _).mono ?_;rintro e w1 ⟨rfl, rfl⟩;go_wp2_with fail;refine (spot_nil _).mono ?_;rintro e w2 ⟨rfl, rfl⟩;go_wp2_with fail;refine (HT2.out).mono ?_;rintro e w3 ⟨rfl, hb3⟩;have HB3 := hZ (chain HB.out hb3);clear hb3;go_wp2_with fail;go_ret;exact ⟨rfl, HB3.out⟩
theorem same_rec (w : World) (a b a2 b2 : Value) (rec : Except (Nat × Nat) Tr) (m : Nat) (hr : RecOk rec) (hm : m ≤ 1073741824) (hm2 : ∀ no at_, rec = .error (no, at_) → at_ + m ≤ 1073741824) (h : RecAt w a b rec) (h2 : RecAt w a2 b2 (shiftOf m rec)) :
 Calls prog 43 #[.agg #[a, b], .agg #[a2, b2], .int .i64 m] w fun e w' => e = .returned (.bool true) ∧ Below w.heap.size w w' := by
 cases rec with
 | error er =>
  obtain ⟨no, at_⟩ := er;obtain ⟨rfl, rfl⟩ := h;obtain ⟨rfl, rfl⟩ := h2;exact same_error w no at_ m hr.1 hr.2.1 hr.2.2 hm (hm2 no at_ rfl)
 | ok t =>
  obtain ⟨rfl, T, v, rfl, hb, ht⟩ := h;obtain ⟨rfl, T2, v2, rfl, hb2, ht2⟩ := h2;exact same_ok w T T2 m v v2 t _ _ hr hb hb2 ht ht2
theorem tree_ok {d : Nat} {l : List UInt8} {t : Tr} (h : readOut po l d = .ok [t]) : readTree l d = .ok t := by
 unfold readOut at h;unfold readTree;cases hr : Ps.read po l d with
 | error e => rw [hr] at h; cases h
 | ok y =>
  rw [hr] at h;have hy : y.items = [t] := by injection h
  show Except.ok (y.items.headD .null) = _
  rw [hy]; rfl
theorem tree_error {d : Nat} {l : List UInt8} {e : Nat × Nat} (h : readOut po l d = .error e) : readTree l d = .error e := by
 unfold readOut at h;unfold readTree;cases hr : Ps.read po l d with
 | ok y => rw [hr] at h; cases h
 | error e2 =>
  rw [hr] at h;injection h with h
  subst h;rfl
theorem recs_works : (((Rd.new 4).feed [30, 49, 10, 30, 91, 10, 30, 34, 97, 34, 10]).done).recs = [.ok (.num 4607182418800017408), .error (95, 6), .ok (.text [97])] := by
 have e1 := Rd.feed_sign (Rd.new 4) [] [49, 10, 30, 91, 10, 30, 34, 97, 34, 10] (fun c hc => by cases hc);have hx1 : (((Rd.new 4).part []).whole).sign = ⟨4, 1, true, [], 1, 0, []⟩ := by rw [Rd.part_nil]; simp [Rd.whole, Rd.new, Rd.sign]
 have e2 := Rd.feed_sign ⟨4, 1, true, [], 1, 0, []⟩ [49, 10] [91, 10, 30, 34, 97, 34, 10] (fun c hc => by simp at hc; rcases hc with rfl | rfl <;> decide)
 have hx2 : ((Rd.part ⟨4, 1, true, [], 1, 0, []⟩ [49, 10]).whole).sign = ⟨4, 4, true, [], 4, 0, [.ok (.num 4607182418800017408)]⟩ := by
  simp [Rd.whole, Rd.sign, Rd.part, Rd.recOf, wrongOf, tree_ok (read_one po 4 (by omega)), shiftOf]
 have e3 := Rd.feed_sign ⟨4, 4, true, [], 4, 0, [.ok (.num 4607182418800017408)]⟩ [91, 10] [34, 97, 34, 10] (fun c hc => by simp at hc; rcases hc with rfl | rfl <;> decide)
 have hx3 : ((Rd.part ⟨4, 4, true, [], 4, 0, [.ok (.num 4607182418800017408)]⟩ [91, 10]).whole).sign = ⟨4, 7, true, [], 7, 0, [.ok (.num 4607182418800017408), .error (95, 6)]⟩ := by
  simp [Rd.whole, Rd.sign, Rd.part, Rd.recOf, wrongOf, tree_error (read_open po 4 (by omega)), shiftOf]
 rw [List.nil_append, hx1] at e1;rw [hx2] at e2;rw [hx3] at e3;have e4 := Rd.feed_plain (b := [34, 97, 34, 10]) ⟨4, 7, true, [], 7, 0, [.ok (.num 4607182418800017408), .error (95, 6)]⟩ (fun c hc => by simp at hc; rcases hc with rfl | rfl | rfl | rfl <;> decide);rw [List.cons_append, List.cons_append, List.nil_append] at e2 e3;rw [e1, e2, e3, e4];simp [Rd.done, Rd.whole, Rd.part, Rd.recOf, wrongOf, tree_ok (read_text po 4 (by omega)), shiftOf]
def Sl (v : Value) : Prop := v = .slice none 0 0 ∨ ∃ g off n c, v = .slice (some ⟨g, off, none⟩) n c
theorem winN_bs {w : World} {v : Value} {l : List UInt8} (h : WinN 1 5 w v l.length (l.map encB)) : Bs w v l ∧ Sl v := by
 obtain ⟨h0, h⟩ := h;rcases h with ⟨rfl, h⟩ | ⟨g, off, cap, cur, rfl, hg, hc, ho, hm, hi⟩
 ·exact ⟨⟨none, 0, by rw [h], by omega, by unfold maxLen; omega, .inl (List.eq_nil_of_length_eq_zero h)⟩, .inl rfl⟩
 ·exact ⟨⟨_, cap, rfl, hc, hm, .inr ⟨g, off, rfl, fun i x hx => by rw [cell_at hg]; exact hi i _ (by rw [List.getElem?_map, hx]; rfl)⟩⟩, .inr ⟨_, _, _, _, rfl⟩⟩
theorem Bs.below {w w' : World} {v : Value} {l : List UInt8} (h : Bs w v l) (hb : Below w.heap.size w w') : Bs w' v l := by
 obtain ⟨a, cap, e, h1, h2, h3⟩ := h;exact ⟨a, cap, e, h1, h2, h3.imp id fun ⟨g, off, e, h⟩ => ⟨g, off, e, fun i x hx => (hb.cell (World.block_lt_of_cell? w _ (h i x hx))).trans (h i x hx)⟩⟩
def RepRet (w : World) (l : List UInt8) (e : Ending) (w' : World) : Prop := ∃ v', e = .returned v' ∧ Bs w' v' (cleanOf l) ∧ Sl v' ∧ Below w.heap.size w w'
theorem replace_any (w : World) (v : Value) (l : List UInt8) (h : Bs w v l) (hv : Sl v) (hl : l.length ≤ 1073741824) (b2 o2 d : Nat) (hc : w.cell? ⟨b2, o2, none⟩ = some (.int .u8 30)) :
 Calls prog 70 #[v, .slice (some ⟨b2, o2, none⟩) 1 d, .slice none 0 0, .int .i64 (-1)] w fun e w' => RepRet w l e w' := by
 by_cases h0 : l.count 30 = 0
 ·refine (replace_none w v l h hv hl b2 o2 d hc h0).mono fun e w' ⟨v', e1, h1, h2⟩ => ?_
  obtain ⟨h3, h4⟩ := winN_bs h1;exact ⟨v', e1, h3, h4, h2⟩
 ·have hn : l ≠ [] := by rintro rfl; exact h0 rfl
  obtain ⟨g, off, cap, rfl, h1, h2, h3⟩ := h.cells hn;refine (replace_some w l g off cap h1 h2 h3 hl b2 o2 d hc (by omega)).mono fun e w' ⟨v', e1, ⟨N, e2⟩, h1, h2⟩ => ⟨v', e1, h1, .inr ⟨_, _, _, _, e2⟩, h2⟩
theorem replaceAll_any (w : World) (v : Value) (l : List UInt8) (h : Bs w v l) (hv : Sl v) (hl : l.length ≤ 1073741824) (b2 o2 d : Nat) (hc : w.cell? ⟨b2, o2, none⟩ = some (.int .u8 30)) :
 Calls prog 45 #[v, .slice (some ⟨b2, o2, none⟩) 1 d, .slice none 0 0] w fun e w' => RepRet w l e w' := by
 have H := hZ (replace_any w v l h hv hl b2 o2 d hc);obtain ⟨a, cap, rfl, _⟩ := h;clear hv hc hl;go_enter func45, ntmps45;go_wp2_with fail;refine (H.out).mono ?_;rintro e w1 ⟨v', rfl, hret⟩;obtain ⟨a', cap', rfl, _⟩ := id hret.1;have HR := hZ hret;clear hret;go_wp2_with fail;exact bodyPost_ret (v := .slice a' (cleanOf l).length cap') (by simp [results, results45, go_sem]) rfl ⟨_, rfl, HR.out⟩
theorem clean_any (w : World) (v : Value) (l : List UInt8) (h : Bs w v l) (hv : Sl v) (hl : l.length ≤ 1073741824) : Calls prog 44 #[v] w fun e w' => RepRet w l e w' := by
 have hb1 := (Below.refl w.heap.size w).alloc (Nat.le_refl _) (.cells #[.int .u8 30] 5);have hnew := heap_alloc_new w (.cells #[.int .u8 30] 5);have H := hZ (replaceAll_any (w.alloc (.cells #[.int .u8 30] 5)) v l (h.below hb1) hv hl w.heap.size 0 1 (cell_at hnew));obtain ⟨a, cap, rfl, _⟩ := h;have HB := hZ hb1;clear hv hl hb1 hnew;go_enter func44, ntmps44;go_wp2_with fail;refine (H.out).mono ?_;rintro e w1 ⟨v', rfl, hret⟩;obtain ⟨a', cap', rfl, _⟩ := id hret.1;have HR := hZ hret;clear hret;go_wp2_with fail;exact bodyPost_ret (v := .slice a' (cleanOf l).length cap') (by simp [results, results44, go_sem]) rfl ⟨_, rfl, HR.out.1, HR.out.2.1, HB.out.trans (HR.out.2.2.mono (by simp))⟩
end Go.Proofs.YtakkmiomhackiaaGreatDoor
