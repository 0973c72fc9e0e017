/-
  The program, one part of its walk: Sq7, Sq8, Al1. Conditions: none.
-/
import Derived.Test.YtakkmiomhackiaaGreatDoorPc42
set_option linter.all false
set_option maxRecDepth 100000
set_option maxHeartbeats 16000000
namespace Go.Proofs.YtakkmiomhackiaaGreatDoor
open Go.RowKit
theorem waiting_any (F : Nat → Prop) (w : World) (r : Nat) (x : Rd) (d : Bool) (h : RdAt F w r x d) : Calls Tryz.prog 39 #[.pointer (some ⟨r, 0, none⟩)] w fun e w' => e = .returned (.int .i64 x.recs.length) ∧ w' = w := by
 obtain ⟨hF, hlt, openV, recV, cs, hbk, hw, hwF, hr, hrF, hrecs⟩ := h;obtain ⟨a, c, rfl⟩ := hr.shape;obtain ⟨c0, c1, c2, c3, c4, c5, c6, c7, cf⟩ := cells8 hbk;clear hbk hw hr hrecs;go_enter Tryz.func39, Tryz.ntmps39;go_wp2_with fail;go_ret;exact ⟨rfl, rfl⟩
def Rd.done (x : Rd) : Rd := { x.whole with open_ := [], size := 0 }
theorem seqEnd_any (F : Nat → Prop) (w : World) (r : Nat) (x : Rd) (h : RdAt F w r x false) (hok : RdOk x) (hp : x.place ≤ 1073741824) :
 Calls Tryz.prog 28 #[.pointer (some ⟨r, 0, none⟩)] w fun e w' => e = .returned .nilIface ∧ Keeps F w w' ∧ RdAt (Since F w w') w' r (x.done) true := by
 have HWH := Lib.hid (whole_at F w r x h hok hp);have HLT := Lib.hid h.2.1;have HFR := Lib.hid h.1
 have c3 : w.cell? ⟨r, 3, none⟩ = some (.bool false) := by
  obtain ⟨_, _, openV, recV, cs, hbk, _⟩ := h;rw [cell_at hbk]; rfl
 have hd : x.done = { x.whole with open_ := [], size := 0 } := rfl;rw [hd];obtain ⟨Y, hY⟩ : ∃ Y, x.whole = Y := ⟨_, rfl⟩;rw [hY] at HWH ⊢;clear h hok hp hd hY;go_enter Tryz.func28, Tryz.ntmps28;go_wp2_with fail;refine (HWH.out).mono ?_;rintro e w1 ⟨rfl, hk1, hr1⟩;obtain ⟨hF1, hlt1, openV, recV, cs, hbk, hw, hwF, hr, hrF, hrecs⟩ := hr1;obtain ⟨d0, d1, d2, d3, d4, d5, d6, d7, df⟩ := cells8 hbk;have HB := Lib.hid hbk;have HR := Lib.hid (And.intro hr (And.intro hrF hrecs));have HK := Lib.hid hk1;clear hk1 hF1 hlt1 hbk hw hwF hr hrF hrecs c3;go_wp2_with fail;go_ret;have hks : Keeps (fun k => k = r) w1 (((w1.setCell ⟨r, 3, none⟩ (.bool true)).setCell ⟨r, 4, none⟩ (.slice none 0 0)).setCell ⟨r, 6, none⟩ (.int .i64 0)) := (((Keeps.refl (fun k => k = r) w1).setCell (p := ⟨r, 3, none⟩) (.inl rfl) _).setCell (p := ⟨r, 4, none⟩) (.inl rfl) _).setCell (p := ⟨r, 6, none⟩) (.inl rfl) _;have hkw := HK.out.same (hks.mono fun k e => e ▸ HFR.out);obtain ⟨hr, hrF, hrecs⟩ := HR.out;exact ⟨rfl, hkw, .inl HFR.out, since_lt HLT.out hkw.size, .slice none 0 0, recV, cs, set_at (set_at (set_at HB.out _) _) _, .nil _ _ _, fun k h => (by cases h), hr.keeps hks (fun k e hk => hr.ne HB.out (by decide) (e.trans (congrArg some hk))), fun k h => (hrF k h).mono_r hks.size, hrecs.keeps hks (no_reader HB.out)⟩
theorem RdAt.drew {F : Nat → Prop} {w : World} {r : Nat} {x : Rd} {d : Bool} (h : RdAt F w r x d) : RdAt F w.drew r x d := by
 obtain ⟨hF, hlt, openV, recV, cs, hbk, hw, hwF, hr, hrF, hrecs⟩ := h;exact ⟨hF, hlt, openV, recV, cs, hbk, hw, hwF, hr, hrF, hrecs.keeps ((Keeps.refl (fun _ => False) w).drew) (fun _ _ _ _ _ h => h)⟩
theorem RecAt.drew {w : World} {a b : Value} {rec : Except (Nat × Nat) Tr} (h : RecAt w a b rec) : RecAt w.drew a b rec := h.keeps ((Keeps.refl (fun _ => False) w).drew) (fun _ _ _ _ _ h => h)
def NextRet (F : Nat → Prop) (w : World) (r : Nat) (x : Rd) (rec : Except (Nat × Nat) Tr) (rest : List (Except (Nat × Nat) Tr)) (d : Bool) (e : Ending) (w' : World) : Prop :=
 ∃ a b, e = .returned (.tuple #[a, b, .bool true]) ∧ RecAt w' a b rec ∧ Keeps F w w' ∧ RdAt (Since F w w') w' r { x with recs := rest } d
theorem seqNext_some (F : Nat → Prop) (w : World) (r : Nat) (x : Rd) (rec : Except (Nat × Nat) Tr) (rest : List (Except (Nat × Nat) Tr)) (d : Bool) (h : RdAt F w r x d) (hr0 : x.recs = rec :: rest) (hl : x.recs.length ≤ 1073741824) :
 Calls Tryz.prog 29 #[.pointer (some ⟨r, 0, none⟩)] w fun e w' => NextRet F w r x rec rest d e w' := by
 have HWT := Lib.hid (waiting_any F w r x d h);obtain ⟨hF, hlt, openV, recV, cs, hbk, hw, hwF, hr, hrF, hrecs⟩ := h;obtain ⟨n, hn⟩ : ∃ n, rest.length = n := ⟨_, rfl⟩;have hlen : x.recs.length = n + 1 := by rw [hr0, List.length_cons, hn]
 rw [hlen] at HWT hr hl;obtain ⟨a, b, ha, hb, hra⟩ := hrecs 0 rec (by rw [hr0]; rfl);have hr2 := hr;rcases hr2.2 with ⟨_, h0⟩ | ⟨g, off, cap, cur, rfl, hg, hcp, ho, hm, hi⟩
 ·omega
 obtain ⟨c0, c1, c2, c3, c4, c5, c6, c7, cf⟩ := cells8 hbk;have ca : w.cell? ⟨g, off, none⟩ = some a := by have := hr.cell ha; simpa using this
 have cb : w.cell? ⟨g, off + 1, none⟩ = some b := by have := hr.cell hb; simpa using this
 obtain ⟨q, hq, hbb⟩ : ∃ q, a = .pointer q ∧ (b = .nilIface ∨ ∃ T v, b = .iface T v) := by
  cases rec with
  | error er => obtain ⟨h1, h2⟩ := hra; exact ⟨_, h1, .inr ⟨_, _, h2⟩⟩
  | ok t => obtain ⟨h1, T, v, h2, _⟩ := hra; exact ⟨_, h2, .inl h1⟩
 subst hq;have H := Lib.hid hbk;have hlt1 := lt_of_block hbk;have HOPEN := Lib.hid (And.intro hw hwF);have HREC := Lib.hid (And.intro hr (And.intro hrF hrecs));have HRA := Lib.hid hra;have HLT := Lib.hid hlt;have HF := Lib.hid hF;have HR0 := Lib.hid hr0;have HN := Lib.hid hn;have hcap : (n : Int) + 1 ≤ (cap : Int) := by omega
 have hcm : cap ≤ 9223372036854775807 := by unfold maxLen at hm; omega
 have hn1 : (1 : Int) ≤ (n : Int) + 1 := by omega
 have hn2 : (0 : Int) ≤ (n : Int) + 1 := by omega
 have HWN := Lib.hid (show WinN 2 162 w (if n = 0 then .slice (some ⟨g, off, none⟩) 0 0 else .slice (some ⟨g, off + 2, none⟩) n n) n (cs.drop 2) from by
  have hlen2 := hr.1;refine ⟨by rw [List.length_drop, hlen2]; omega, ?_⟩
  by_cases h0 : n = 0
  ·rw [if_pos h0, h0]
   exact .inr ⟨g, off, 0, cur, rfl, hg, Nat.le_refl _, by omega, Nat.zero_le _, fun j u hj => by
    have := (List.getElem?_eq_some_iff.1 hj).1;rw [List.length_drop, hlen2] at this; omega⟩
  ·rw [if_neg h0]
   exact .inr ⟨g, off + 2, n, cur, rfl, hg, Nat.le_refl _, by omega, by omega, fun j u hj => by
    rw [List.getElem?_drop] at hj;have := hi (2 + j) u hj;rw [show off + 2 + j = off + (2 + j) by omega]; exact this⟩)
 have hrg : g ≠ r := fun e => by subst e; rw [hbk] at hg; simp at hg
 have HRG := Lib.hid hrg;have HGG := Lib.hid hg;clear hbk hw hwF hr hr2 hrF hrecs hra ha hb hg hcp ho hm hi hlt hF hr0 hn hlen hrg
 have FIN : ∀ (b : Value) (nv : Value), (∃ u, nv = u ∧ nv = (if n = 0 then Value.slice (some ⟨g, off, none⟩) 0 0 else .slice (some ⟨g, off + 2, none⟩) n n)) → RecAt w (.pointer q) b rec → Keeps (fun k => k = r) w ((w.setCell ⟨r, 7, none⟩ nv).alloc (.cells #[.pointer q, b] 162)) ∧ RecAt ((w.setCell ⟨r, 7, none⟩ nv).alloc (.cells #[.pointer q, b] 162)) (.pointer q) b rec ∧ RdAt (Since F w ((w.setCell ⟨r, 7, none⟩ nv).alloc (.cells #[.pointer q, b] 162))) ((w.setCell ⟨r, 7, none⟩ nv).alloc (.cells #[.pointer q, b] 162)) r { x with recs := rest } d := by
  rintro b nv ⟨_, _, hnv⟩ hra;have hk : Keeps (fun k => k = r) w ((w.setCell ⟨r, 7, none⟩ nv).alloc (.cells #[.pointer q, b] 162)) := ((Keeps.refl (fun k => k = r) w).setCell (p := ⟨r, 7, none⟩) (.inl rfl) _).alloc _;have hnr := no_reader H.out;obtain ⟨hw, hwF⟩ := HOPEN.out;obtain ⟨hr, hrF, hrecs⟩ := HREC.out;refine ⟨hk, hra.keeps hk hnr, .inl HF.out, since_lt HLT.out hk.size, openV, nv, cs.drop 2, ?_, hw.keeps hk (fun k e hk => hw.ne H.out (by decide) (e.trans (congrArg some hk))), fun k h => .inl (hwF k h), ?_, ?_, ?_⟩
  ·exact (Below.heap_alloc _ _ _ (by simpa [World.setCell] using hlt1)).trans (set_at H.out _)
  ·have := HWN.out.keeps hk (fun k e hk => by
    subst hk
    by_cases h0 : n = 0
    ·rw [if_pos h0] at e; cases e; exact HRG.out rfl
    ·rw [if_neg h0] at e; cases e; exact HRG.out rfl)
   rw [hnv]
   show WinN 2 162 _ _ rest.length _
   rw [HN.out]; rw [hnv] at this; exact this
  ·intro k hk';rw [hnv] at hk'
   have : k = g := by
    by_cases h0 : n = 0
    ·rw [if_pos h0] at hk'; cases hk'; rfl
    ·rw [if_neg h0] at hk'; cases hk'; rfl
   subst this;exact .inl (hrF k rfl)
  ·intro i rc hi;obtain ⟨a', b', h1, h2, h3⟩ := hrecs (i + 1) rc (by rw [HR0.out]; simpa using hi);exact ⟨a', b', by rw [List.getElem?_drop, show 2 + 2 * i = 2 * (i + 1) by omega]; exact h1, by rw [List.getElem?_drop, show 2 + (2 * i + 1) = 2 * (i + 1) + 1 by omega]; exact h2, h3.keeps hk hnr⟩
 have HFIN := Lib.hid FIN;clear FIN;rcases hbb with rfl | ⟨T, v, rfl⟩
 ·rcases Nat.eq_zero_or_pos n with h0 | h0
  ·skip;subst h0;have hnew := heap_alloc_new w (.cells #[.pointer q, .nilIface] 162);have hold := (Below.heap_alloc w (.cells #[.pointer q, .nilIface] 162) _ hlt1).trans H.out;obtain ⟨d0, d1, d2, d3, d4, d5, d6, d7, df⟩ := cells8 hold;have x0 : (w.alloc (.cells #[.pointer q, .nilIface] 162)).cell? ⟨w.heap.size, 0, none⟩ = some (.pointer q) := cell_at hnew;have x1 : (w.alloc (.cells #[.pointer q, .nilIface] 162)).cell? ⟨w.heap.size, 1, none⟩ = some (.nilIface) := cell_at hnew;clear hnew hold;go_enter Tryz.func29, Tryz.ntmps29;go_wp2_with fail;refine (HWT.out).mono ?_;rintro e w1 ⟨rfl, rfl⟩;go_wp2_with fail;go_region;have hne : ¬ r = w1.heap.size := by omega
   go_wp2_with fail;go_region;go_wp2_with fail;obtain ⟨f1, f2, f3⟩ := HFIN.out (.nilIface) (.slice (some ⟨g, off, none⟩) 0 0) ⟨_, rfl, by simp⟩ HRA.out;exact bodyPost_ret (v := .tuple #[.pointer q, .nilIface, .bool true]) (by simp [results, Tryz.results29, go_sem]) rfl ⟨_, _, rfl, f2.drew.drew, (f1.mono (fun k e => e ▸ HF.out)).drew.drew, f3.drew.drew⟩
  ·skip;have hnz : ¬ n = 0 := by omega
   have HNZ := Lib.hid hnz;clear hnz;have hnew := heap_alloc_new w (.cells #[.pointer q, .nilIface] 162);have hold := (Below.heap_alloc w (.cells #[.pointer q, .nilIface] 162) _ hlt1).trans H.out;obtain ⟨d0, d1, d2, d3, d4, d5, d6, d7, df⟩ := cells8 hold;have x0 : (w.alloc (.cells #[.pointer q, .nilIface] 162)).cell? ⟨w.heap.size, 0, none⟩ = some (.pointer q) := cell_at hnew;have x1 : (w.alloc (.cells #[.pointer q, .nilIface] 162)).cell? ⟨w.heap.size, 1, none⟩ = some (.nilIface) := cell_at hnew;clear hnew hold;go_enter Tryz.func29, Tryz.ntmps29;go_wp2_with fail;refine (HWT.out).mono ?_;rintro e w1 ⟨rfl, rfl⟩;go_wp2_with fail;go_region;have hne : ¬ r = w1.heap.size := by omega
   go_wp2_with fail;go_region;go_wp2_with fail;obtain ⟨f1, f2, f3⟩ := HFIN.out (.nilIface) (.slice (some ⟨g, off + 2, none⟩) n n) ⟨_, rfl, (if_neg HNZ.out).symm⟩ HRA.out;exact bodyPost_ret (v := .tuple #[.pointer q, .nilIface, .bool true]) (by simp [results, Tryz.results29, go_sem]) rfl ⟨_, _, rfl, f2.drew.drew, (f1.mono (fun k e => e ▸ HF.out)).drew.drew, f3.drew.drew⟩
 ·rcases Nat.eq_zero_or_pos n with h0 | h0
  ·skip;subst h0;have hnew := heap_alloc_new w (.cells #[.pointer q, .iface T v] 162);have hold := (Below.heap_alloc w (.cells #[.pointer q, .iface T v] 162) _ hlt1).trans H.out;obtain ⟨d0, d1, d2, d3, d4, d5, d6, d7, df⟩ := cells8 hold;have x0 : (w.alloc (.cells #[.pointer q, .iface T v] 162)).cell? ⟨w.heap.size, 0, none⟩ = some (.pointer q) := cell_at hnew;have x1 : (w.alloc (.cells #[.pointer q, .iface T v] 162)).cell? ⟨w.heap.size, 1, none⟩ = some (.iface T v) := cell_at hnew;clear hnew hold;go_enter Tryz.func29, Tryz.ntmps29;go_wp2_with fail;refine (HWT.out).mono ?_;rintro e w1 ⟨rfl, rfl⟩;go_wp2_with fail;go_region;have hne : ¬ r = w1.heap.size := by omega
   go_wp2_with fail;go_region;go_wp2_with fail;obtain ⟨f1, f2, f3⟩ := HFIN.out (.iface T v) (.slice (some ⟨g, off, none⟩) 0 0) ⟨_, rfl, by simp⟩ HRA.out;exact bodyPost_ret (v := .tuple #[.pointer q, .iface T v, .bool true]) (by simp [results, Tryz.results29, go_sem]) rfl ⟨_, _, rfl, f2.drew.drew, (f1.mono (fun k e => e ▸ HF.out)).drew.drew, f3.drew.drew⟩
  ·skip;have hnz : ¬ n = 0 := by omega
   have HNZ := Lib.hid hnz;clear hnz;have hnew := heap_alloc_new w (.cells #[.pointer q, .iface T v] 162);have hold := (Below.heap_alloc w (.cells #[.pointer q, .iface T v] 162) _ hlt1).trans H.out;obtain ⟨d0, d1, d2, d3, d4, d5, d6, d7, df⟩ := cells8 hold;have x0 : (w.alloc (.cells #[.pointer q, .iface T v] 162)).cell? ⟨w.heap.size, 0, none⟩ = some (.pointer q) := cell_at hnew;have x1 : (w.alloc (.cells #[.pointer q, .iface T v] 162)).cell? ⟨w.heap.size, 1, none⟩ = some (.iface T v) := cell_at hnew;clear hnew hold;go_enter Tryz.func29, Tryz.ntmps29;go_wp2_with fail;refine (HWT.out).mono ?_;rintro e w1 ⟨rfl, rfl⟩;go_wp2_with fail;go_region;have hne : ¬ r = w1.heap.size := by omega
   go_wp2_with fail;go_region;go_wp2_with fail;obtain ⟨f1, f2, f3⟩ := HFIN.out (.iface T v) (.slice (some ⟨g, off + 2, none⟩) n n) ⟨_, rfl, (if_neg HNZ.out).symm⟩ HRA.out;exact bodyPost_ret (v := .tuple #[.pointer q, .iface T v, .bool true]) (by simp [results, Tryz.results29, go_sem]) rfl ⟨_, _, rfl, f2.drew.drew, (f1.mono (fun k e => e ▸ HF.out)).drew.drew, f3.drew.drew⟩
theorem seqNext_none (F : Nat → Prop) (w : World) (r : Nat) (x : Rd) (d : Bool) (h : RdAt F w r x d) (hr0 : x.recs = []) :
 Calls Tryz.prog 29 #[.pointer (some ⟨r, 0, none⟩)] w fun e w' => e = .returned (.tuple #[.pointer none, .nilIface, .bool false]) ∧ w' = w := by
 have HWT := Lib.hid (waiting_any F w r x d h);rw [hr0] at HWT;clear h hr0;go_enter Tryz.func29, Tryz.ntmps29;go_wp2_with fail;refine (HWT.out).mono ?_;rintro e w1 ⟨rfl, rfl⟩;go_wp2_with fail;exact bodyPost_ret (v := .tuple #[.pointer none, .nilIface, .bool false]) (by simp [results, Tryz.results29, go_sem]) rfl ⟨rfl, rfl⟩
def CloneRet (w : World) (l : List UInt8) (e : Ending) (w' : World) : Prop :=
 ∃ v, e = .returned v ∧ WinN 1 5 w' v l.length (l.map encB) ∧ (∀ k, v.ownBlock = some k → w.heap.size ≤ k ∧ k < w'.heap.size) ∧ Below w.heap.size w w'
theorem clone_nil (w : World) : Calls Tryz.prog 31 #[.slice none 0 0] w fun e w' => CloneRet w [] e w' := by
 have q22 : ∀ (w : World) (a : Option Addr) (n c n' c' : Nat), (binOp .eql 22 (.slice a n c) (.slice none n' c')).run Tryz.prog w = .ok (.bool a.isNone) w := fun w a n c n' c' => Lib.run_eql_slice_nil w _ _ a n c n' c' Tryz.underlying22
 go_enter Tryz.func31, Tryz.ntmps31;go_wp2_with fail;exact bodyPost_ret (v := .slice none 0 0) (by simp [results, Tryz.results31, go_sem]) rfl ⟨_, rfl, .nil _ _ _, fun k h => (by cases h), Below.refl _ _⟩
theorem clone_some (w : World) (a : Addr) (cap : Nat) (l : List UInt8) (hl : l.length ≤ 1073741824) (h : ∀ i x, l[i]? = some x → w.cell? (a.add i) = some (.int .u8 ((x.toNat : Nat) : Int))) :
 Calls Tryz.prog 31 #[.slice (some a) l.length cap] w fun e w' => CloneRet w l e w' := by
 have hb0 : Below w.heap.size w (w.alloc (.cells #[] 5)) := (Below.refl _ _).alloc (Nat.le_refl _) _;have hnew := heap_alloc_new w (.cells #[] 5);have hw0 : WinN 1 5 (w.alloc (.cells #[] 5)) (.slice (some ⟨w.heap.size, 0, none⟩) 0 0) 0 [] := ⟨by simp, .inr ⟨w.heap.size, 0, 0, #[], rfl, hnew, Nat.le_refl _, by simp, Nat.zero_le _, fun j u hj => by simp at hj⟩⟩;have HB := Lib.hid hb0;have HW := Lib.hid hw0;have HL := Lib.hid hl
 have hnews : ∀ j u, (l.map encB)[j]? = some u → (w.alloc (.cells #[] 5)).cell? (a.add j) = some u := by
  intro j u hj;rw [List.getElem?_map] at hj;cases hlj : l[j]? with
  | none => rw [hlj] at hj; cases hj
  | some x =>
   rw [hlj] at hj;simp at hj;subst hj;have hx := h j x hlj;exact (World.cell?_of_block (Below.heap_alloc _ _ _ (World.block_lt_of_cell? w _ hx))).trans hx
 have HN := Lib.hid hnews;clear hb0 hnew hw0 hl h hnews;have q22 : ∀ (w : World) (a : Option Addr) (n c n' c' : Nat), (binOp .eql 22 (.slice a n c) (.slice none n' c')).run Tryz.prog w = .ok (.bool a.isNone) w := fun w a n c n' c' => Lib.run_eql_slice_nil w _ _ a n c n' c' Tryz.underlying22
 by_cases h0 : l = []
 ·subst h0;go_enter Tryz.func31, Tryz.ntmps31
  go_wp2_with (at_builtin; refine append_winN0 elemByteN rfl _ _ rfl rfl HW.out (some a) cap rfl ?_)
  go_wp2_with fail;exact bodyPost_ret (v := .slice (some ⟨w.heap.size, 0, none⟩) 0 0) (by simp [results, Tryz.results31, go_sem]) rfl ⟨_, rfl, HW.out, fun k h => (by cases h; exact ⟨Nat.le_refl _, by simp⟩), HB.out⟩
 ·obtain ⟨n, hn⟩ : ∃ n, l.length = n + 1 := ⟨l.length - 1, by have := List.length_pos_iff.2 h0; omega⟩;rw [hn];have HLN := Lib.hid hn;clear h0 hn;go_enter Tryz.func31, Tryz.ntmps31
  go_wp2_with (at_builtin; refine append_winN elemByteN rfl _ _ rfl rfl HW.out a (n + 1) cap (l.map encB) rfl ?_ HN.out ?_ ?_ ?_ ?_ ?_)
  ·rw [List.length_map, HLN.out]; omega
  ·intro u hu;rw [List.mem_map] at hu;obtain ⟨x, _, rfl⟩ := hu;rfl
  ·omega
  ·have := HL.out; rw [HLN.out] at this; omega
  ·have := HL.out; rw [HLN.out] at this; unfold maxLen; omega
  intro g off c w' hw hg hk;have HW2 := Lib.hid hw;have HG := Lib.hid hg;have HK := Lib.hid hk;clear hw hg hk;go_wp2_with fail;refine bodyPost_ret (v := .slice (some ⟨g, off, none⟩) (n + 1) c) (by simp [results, Tryz.results31, go_sem]) rfl ?_;refine ⟨_, rfl, ?_, ?_, ?_⟩
  ·have := HW2.out;rw [HLN.out]
   simpa using this
  ·intro k hk;cases hk;rcases HG.out with h | h
   ·cases h;exact ⟨Nat.le_refl _, Nat.lt_of_lt_of_le (by simp) HK.out.size⟩
   ·exact ⟨Nat.le_trans (by simp) h.1, h.2⟩
  ·exact ((Keeps.of_below (fun _ => False) HB.out).trans HK.out (fun k h => .inr (by cases h; exact Nat.le_refl _))).toBelow (Nat.le_refl _) (fun _ h => h.elim)
def HasBytes (w : World) (v : Value) (l : List UInt8) : Prop := BytesOf (fun _ => False) w v l
theorem clone_any (w : World) (v : Value) (l : List UInt8) (h : HasBytes w v l) (hl : l.length ≤ 1073741824) : Calls Tryz.prog 31 #[v] w fun e w' => CloneRet w l e w' := by
 obtain ⟨⟨a, cap, rfl, h1, h2, h3⟩, h4⟩ := h;rcases h4 with h4 | ⟨g, off, n, c, h4⟩
 ·injection h4 with e1 e2 e3
  have h0 : l = [] := List.eq_nil_of_length_eq_zero e2;subst h0; subst e1; subst e3;exact clone_nil w
 ·injection h4 with e1 e2 e3
  subst e1;refine clone_some w _ cap l hl fun i x hx => ?_
  rcases h3 with h3 | ⟨g', off', f1, f2, f3⟩
  ·subst h3; simp at hx
  ·injection f1 with f1
   injection f1 with f1 f4 _
   subst f1; subst f4;have : (⟨g, off, none⟩ : Addr).add i = ⟨g, off + i, none⟩ := by unfold Addr.add; split <;> simp_all
   rw [this];exact f3 i x hx
def AllRet (w : World) (l : List UInt8) (d : Nat) (e : Ending) (w' : World) : Prop :=
 ∃ db rb v, e = .returned (.tuple #[.func (.func 66) #[] #[.pointer (some ⟨db, 0, none⟩), .pointer (some ⟨rb, 0, none⟩)], .nilIface]) ∧ w'.heap[db]? = some (.cells #[.int .i64 d] 3 (0, 0)) ∧ w'.heap[rb]? = some (.cells #[v] 22 (0, 0)) ∧
  WinN 1 5 w' v l.length (l.map encB) ∧ Below w.heap.size w w'
theorem all_any (w : World) (v : Value) (l : List UInt8) (d : Nat) (h1 : 1 ≤ d) (h2 : d ≤ 512) (h : HasBytes w v l) (hl : l.length ≤ 1073741824) :
 Calls Tryz.prog 32 #[v, .int .i64 d] w fun e w' => AllRet w l d e w' := by
 have hbn : Below w.heap.size w ((w.alloc (.cells #[.int .i64 d] 3)).alloc (.cells #[.int .i64 d, .int .i64 0, .bool false, .bool false, .slice none 0 0, .int .i64 0, .int .i64 0, .slice none 0 0] 159)) := ((Below.refl _ _).alloc (Nat.le_refl _) _).alloc (by simp) _;have c0 : (w.alloc (.cells #[.int .i64 d] 3)).cell? ⟨w.heap.size, 0, none⟩ = some (.int .i64 d) := cell_at (heap_alloc_new w _);have HN := Lib.hid (fun w1 => seqNew_any w1 d h1 h2);have HCL := Lib.hid (fun w1 (hb : Below w.heap.size w w1) => clone_any w1 v l (BytesOf.keeps h (Keeps.of_below (fun _ => False) hb) (fun _ _ h => h)) hl);have HD := Lib.hid (show ((w.alloc (.cells #[.int .i64 d] 3)).alloc (.cells #[.int .i64 d, .int .i64 0, .bool false, .bool false, .slice none 0 0, .int .i64 0, .int .i64 0, .slice none 0 0] 159)).heap[w.heap.size]? = some (.cells #[.int .i64 d] 3 (0, 0)) from (Below.heap_alloc _ _ _ (by simp)).trans (heap_alloc_new w _));have HBN := Lib.hid hbn;obtain ⟨⟨a, cap, hv, _⟩, _⟩ := h;subst hv;clear hbn h1 h2 hl;go_enter Tryz.func32, Tryz.ntmps32;go_wp2_with fail;refine (HN.out _).mono ?_;rintro e w1 ⟨rfl, rfl⟩;go_wp2_with fail;refine (HCL.out _ HBN.out).mono ?_;rintro e w2 ⟨v2, rfl, hw2, hg2, hb2⟩;have HW2 := Lib.hid hw2;have HB2 := Lib.hid (chain HBN.out hb2);have HD2 := Lib.hid (keep HD.out hb2);clear hw2 hg2 hb2 c0;obtain ⟨a2, c2, rfl⟩ := HW2.out.shape;go_wp2_with fail;have hk : Keeps (fun _ => False) w2 (w2.alloc (.cells #[.slice a2 l.length c2] 22)) := (Keeps.refl _ _).alloc _
 exact bodyPost_ret (v := .tuple #[.func (.func 66) #[] #[.pointer (some ⟨w.heap.size, 0, none⟩), .pointer (some ⟨w2.heap.size, 0, none⟩)], .nilIface]) (by simp [results, Tryz.results32, go_sem]) rfl
  ⟨w.heap.size, w2.heap.size, .slice a2 l.length c2, rfl, hk.blk HD2.out id, heap_alloc_new w2 _, HW2.out.keeps hk (fun _ _ => id), HB2.out.alloc HB2.out.size _⟩
end Go.Proofs.YtakkmiomhackiaaGreatDoor
