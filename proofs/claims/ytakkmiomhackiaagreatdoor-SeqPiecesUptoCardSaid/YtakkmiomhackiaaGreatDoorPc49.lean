/-
  The program, one part of its walk: Se4, Se5, Se6. Conditions: none.
-/
import Derived.Test.YtakkmiomhackiaaGreatDoorPc48
import Derived.Test.YtakkmiomhackiaaGreatDoorCards
import Derived.Test.YtakkmiomhackiaaGreatDoorTie
import Derived.WalkKit
import Derived.ProofKit
import Derived.OpenShut
import Derived.ChangeSame
import Derived.Carry
import Derived.Deep.DeepHandedRow
import Derived.Deep.DeepLaidRun
import Derived.Lib.LaidTab
set_option linter.all false
set_option maxRecDepth 100000
set_option maxHeartbeats 16000000
namespace Go.Proofs.YtakkmiomhackiaaGreatDoor
open Go.RowKit
theorem pcy_new (w1 : World) : PcY w1 (w1.heap.size + 1) (w1.heap.size + 2) w1.heap.size (Rd.new 8) false (((w1.alloc (.cells #[.int .i64 8, .int .i64 0, .bool false, .bool false, .slice none 0 0, .int .i64 0, .int .i64 0, .slice none 0 0] 159)).alloc (.cells #[.pointer (some ⟨w1.heap.size, 0, none⟩)] 60)).alloc (.cells #[.slice none 0 0] 81)) := by
 have h1 := heap_alloc_new w1 (.cells #[.int .i64 8, .int .i64 0, .bool false, .bool false, .slice none 0 0, .int .i64 0, .int .i64 0, .slice none 0 0] 159);have hb0 := (Below.refl w1.heap.size w1).alloc (Nat.le_refl _) (.cells #[.int .i64 8, .int .i64 0, .bool false, .bool false, .slice none 0 0, .int .i64 0, .int .i64 0, .slice none 0 0] 159);have hz : (w1.alloc (.cells #[.int .i64 8, .int .i64 0, .bool false, .bool false, .slice none 0 0, .int .i64 0, .int .i64 0, .slice none 0 0] 159)).heap.size = w1.heap.size + 1 := by simp
 obtain ⟨v1, hv1⟩ : ∃ v, w1.alloc (.cells #[.int .i64 8, .int .i64 0, .bool false, .bool false, .slice none 0 0, .int .i64 0, .int .i64 0, .slice none 0 0] 159) = v := ⟨_, rfl⟩;rw [hv1] at h1 hb0 hz ⊢;have h2 := (Below.heap_alloc v1 (.cells #[.pointer (some ⟨w1.heap.size, 0, none⟩)] 60) _ (by omega)).trans h1;have h3 := heap_alloc_new v1 (.cells #[.pointer (some ⟨w1.heap.size, 0, none⟩)] 60);have hb1 := hb0.alloc (by omega) (.cells #[.pointer (some ⟨w1.heap.size, 0, none⟩)] 60);have hz2 : (v1.alloc (.cells #[.pointer (some ⟨w1.heap.size, 0, none⟩)] 60)).heap.size = w1.heap.size + 2 := by simp [hz]
 rw [hz] at h3;obtain ⟨v2, hv2⟩ : ∃ v, v1.alloc (.cells #[.pointer (some ⟨w1.heap.size, 0, none⟩)] 60) = v := ⟨_, rfl⟩;rw [hv2] at h2 h3 hb1 hz2 ⊢;have h4 := (Below.heap_alloc v2 (.cells #[.slice none 0 0] 81) _ (by omega)).trans h2;have h5 := (Below.heap_alloc v2 (.cells #[.slice none 0 0] 81) _ (by omega)).trans h3;have h6 := heap_alloc_new v2 (.cells #[.slice none 0 0] 81);rw [hz2] at h6;have hb2 := hb1.alloc (by omega) (.cells #[.slice none 0 0] 81);refine ⟨hb2.size, 0, Nat.zero_le _, ⟨hb2, h5, .slice none 0 0, [], h6, .nil _ _ _, fun k h => (by cases h), fun i rc h => by simp at h⟩, (fun k => k = w1.heap.size), ⟨rfl, fun k e => by have e' : k = w1.heap.size := e; rw [e']; simp [hz2]; omega, .slice none 0 0, .slice none 0 0, [], h4, .nil _ _ _, fun k h => (by cases h), .nil _ _ _, fun k h => (by cases h), fun i rc h => by simp [Rd.new, Rd.skip] at h⟩, fun k e => by have e' : k = w1.heap.size := e; subst e'; exact ⟨Nat.le_refl _, _, _, h4, .inl rfl⟩⟩
theorem HasBytes.cuts {w w' : World} {a : Option Addr} {c : Nat} {b : List UInt8} {B : Nat} (h : HasBytes w (.slice a b.length c) b) (hb : Below w.heap.size w w') (hB : w.heap.size ≤ B) (p n : Nat) (hn : p + n ≤ b.length) :
 b.length ≤ c ∧ c ≤ 9223372036854775807 ∧ ((a = none ∧ c = 0 ∧ p = 0 ∧ n = 0 ∧ ∀ F : Nat → Prop, (∀ k, F k → B ≤ k) → BytesOf F w' (.slice none 0 0) ((b.drop p).take n)) ∨
  ∃ g off, a = some ⟨g, off, none⟩ ∧ ((c = p ∧ n = 0 ∧ ∀ F : Nat → Prop, (∀ k, F k → B ≤ k) → BytesOf F w' (.slice (some ⟨g, off, none⟩) 0 0) ((b.drop p).take n)) ∨
   (p < c ∧ ∀ F : Nat → Prop, (∀ k, F k → B ≤ k) → BytesOf F w' (.slice (some ⟨g, off + p, none⟩) n (c - p)) ((b.drop p).take n)))) := by
 have hc := fun (F : Nat → Prop) (hF : ∀ k, F k → B ≤ k) => h.cut (F := F) hb (fun k h => Nat.le_trans hB (hF k h)) p n hn
 obtain ⟨_, _, he, h1, h2, hv⟩ := hc (fun _ => False) (fun _ h => h.elim);injection he with he1 _ he2
 subst he1 he2;refine ⟨h1, h2, ?_⟩;rcases hv with ⟨rfl, rfl, _⟩ | ⟨g, off, rfl, _⟩
 ·refine .inl ⟨rfl, rfl, by omega, by omega, fun F hF => ?_⟩;obtain ⟨_, _, he, _, _, hv⟩ := hc F hF;injection he with he1 _ he2
  subst he1 he2;rcases hv with ⟨_, _, hv⟩ | ⟨g, off, e, _⟩
  ·exact hv
  ·cases e
 ·refine .inr ⟨g, off, rfl, ?_⟩
  by_cases hcp : c = p
  ·refine .inl ⟨hcp, by omega, fun F hF => ?_⟩;obtain ⟨_, _, he, _, _, hv⟩ := hc F hF;injection he with he1 _ he2
   subst he1 he2;rcases hv with ⟨e, _⟩ | ⟨g', off', e, hv⟩
   ·cases e
   ·cases e;have hn0 : n = 0 := by omega
    rw [if_pos (by omega), show c - p = 0 by omega] at hv;rw [hn0] at hv ⊢;exact hv
  ·refine .inr ⟨by omega, fun F hF => ?_⟩;obtain ⟨_, _, he, _, _, hv⟩ := hc F hF;injection he with he1 _ he2
   subst he1 he2;rcases hv with ⟨e, _⟩ | ⟨g', off', e, hv⟩
   ·cases e
   ·cases e;rw [if_neg (by omega)] at hv;exact hv
theorem pieces_any (w : World) (bV cV aV : Value) (b : List UInt8) (cuts asks : List Int) (hb : HasBytes w bV b) (hc : HasInts w cV cuts) (ha : HasInts w aV asks) (hbl : b.length ≤ 1048576) (hcl : cuts.length ≤ 1048576) (hal : asks.length ≤ 1048576)
 (hcr : ∀ x ∈ cuts, IntKind.i64.wrap x = x) (har : ∀ x ∈ asks, IntKind.i64.wrap x = x) (hok : ∀ rc ∈ (((Rd.new 8).feed b).done).recs, RecOk rc) :
 Calls Tryz.prog 8 #[bV, cV, aV] w fun e w' => e = .returned (.bool true) ∧ Below w.heap.size w w' := by
 have HALL := Lib.hid (alls_any w bV b 8 (by decide) (by decide) hb (by omega));have HNEW := Lib.hid (fun w1 => seqNew_any w1 8 (by decide) (by decide));have HB := Lib.hid hb;have HC := Lib.hid hc;have HA := Lib.hid ha;have HOK := Lib.hid hok;obtain ⟨⟨ba, bc, hbe, _⟩, _⟩ := hb;obtain ⟨ca, cc, hce, _⟩ := hc;obtain ⟨aa, ac, hae, _⟩ := ha;subst hbe hce hae;clear hok;obtain ⟨Y, hY⟩ : ∃ Y, ((Rd.new 8).feed b).done = Y := ⟨_, rfl⟩;rw [hY] at HALL HOK;have HY := Lib.hid hY;clear hY;go_enter Tryz.func8, Tryz.ntmps8;go_wp2_with fail;refine (HALL.out).mono ?_;rintro e w1 ⟨la, lc, lcs, rfl, hlw, hlr, hlb⟩;have HW := Lib.hid (And.intro hlw (And.intro hlr hlb));clear hlw hlr hlb;go_wp2_with fail;refine (HNEW.out _).mono ?_;rintro e w2 ⟨rfl, hw2⟩;go_wp2_with fail;have H0 := Lib.hid (pcy_new w1);clear hw2
 go_loopw [13, 38] (fun pv iv wr => ∃ p k : Nat, pv = .int .i64 p ∧ iv = .int .i64 k ∧ p ≤ b.length ∧ k ≤ cuts.length ∧ Hid (PcY w1 (w1.heap.size + 1) (w1.heap.size + 2) w1.heap.size ((Rd.new 8).feed (b.take p)) false wr)) (fun _ iv _ => cuts.length - (intOf iv).toNat)
 case atStart => exact ⟨0, 0, rfl, rfl, Nat.zero_le _, Nat.zero_le _, H0⟩
 case round =>
  obtain ⟨p, k, rfl, rfl, hp, hk, HI⟩ := hrel
  by_cases hkc : k < cuts.length
  ·have hcw := HC.out.below (HW.out.2.2.trans (HI.out.below.mono HW.out.2.2.size));obtain ⟨ca', cc', hce, hcs⟩ := hcw;injection hce with hce _ hce2
   subst hce hce2;obtain ⟨g, off, rfl, hcc⟩ := hcs.resolve_left (fun e => by rw [e] at hkc; simp at hkc);have hcell := hcc k _ (List.getElem?_eq_getElem hkc);obtain ⟨cut, hcut⟩ : ∃ cut, cuts[k] = cut := ⟨_, rfl⟩;rw [hcut] at hcell;clear hcc hcs hcut;obtain ⟨n, hn⟩ : ∃ n : Nat, min (max cut 0) ((b.length : Int) - (p : Int)) = (n : Int) := ⟨(min (max cut 0) ((b.length : Int) - (p : Int))).toNat, by omega⟩;have hpn : p + n ≤ b.length := by omega
   have hbw := HW.out.2.2.trans (HI.out.below.mono HW.out.2.2.size);have hcut := HB.out.cuts (B := w1.heap.size) hbw.drew HW.out.2.2.size p n hpn;have hrd : RdOk ((Rd.new 8).feed (b.take p)) := Rd.feed_ok _ ⟨by decide, by decide, rfl, Nat.le_refl _, Nat.le_refl _, Nat.le_refl _⟩;have hpl : ((Rd.new 8).feed (b.take p)).place = p := by rw [Rd.feed_place, List.length_take, Nat.min_eq_left hp]; exact Nat.zero_add _
   have hfe : ((Rd.new 8).feed (b.take p)).feed ((b.drop p).take n) = (Rd.new 8).feed (b.take (p + n)) := by rw [← Rd.feed_append, ← List.take_add]
   have HF := Lib.hid (fun v hv => HI.out.drew.feed hrd ((b.drop p).take n) v (by rw [hpl]; simp; omega) hv);rw [hfe] at HF;have hcb := HI.out.drew.box;obtain ⟨hbcl, hbcm, hv⟩ := hcut;clear hrd hpl hfe hbw;have q0 : (0 : Int) ≤ (p : Int) := by omega
   have q1 : (p : Int) ≤ (p : Int) + (n : Int) := by omega
   have q2 : (p : Int) + (n : Int) ≤ (bc : Int) := by omega
   have q3 : IntKind.i64.wrap ((p : Int) + (n : Int)) = (p : Int) + (n : Int) := by rw [IntKind.wrap_i64]; omega
   go_wp2_with fail
   (try rw [hn])
   clear hn hcell;rcases hv with ⟨rfl, rfl, rfl, rfl, hv⟩ | ⟨g2, off2, rfl, ⟨rfl, rfl, hv⟩ | ⟨hpc, hv⟩⟩
   ·have HV := Lib.hid hv;have q4 : IntKind.i64.wrap 0 = 0 := by decide
    clear hv
    go_still_tail 7, (by kernel_rfl)
    go_wp2_with fail;refine (HF.out _ HV.out).mono ?_;rintro e w2 ⟨rfl, hfed⟩;have HP2 := Lib.hid hfed;clear hfed HV HF;have haw := HA.out.below (HW.out.2.2.trans (HP2.out.below.mono HW.out.2.2.size))
    have HREC := Lib.hid (show ∀ l : List UInt8, l.length ≤ 1048576 → ((Rd.new 8).feed l).recs.length ≤ 1073741824 from fun l hl => by
     have h1 := (Rd.feed_ok l (x := Rd.new 8) ⟨by decide, by decide, rfl, Nat.le_refl _, Nat.le_refl _, Nat.le_refl _⟩).recs;rw [Rd.feed_place] at h1;have h0 : (Rd.new 8).place = 0 := rfl;omega)
    clear HI hcb hk
    by_cases hka : k < asks.length
    ·have hki : (k : Int) < (asks.length : Int) := by omega
     obtain ⟨aa', ac', hae, has⟩ := haw;injection hae with hae _ hae2
     subst hae hae2;obtain ⟨g3, off3, rfl, haa⟩ := has.resolve_left (fun e => by rw [e] at hka; simp at hka);have hacell := haa k _ (List.getElem?_eq_getElem hka);obtain ⟨ask, hask⟩ : ∃ ask, asks[k] = ask := ⟨_, rfl⟩;rw [hask] at hacell;clear haa has hask;obtain ⟨m, hm⟩ : ∃ m : Nat, min (max ask 0) 3 = (m : Int) := ⟨(min (max ask 0) 3).toNat, by omega⟩;have hm3 : m ≤ 3 := by omega
     have HD := Lib.hid (HP2.out.draw (by omega) (HREC.out _ (by simp only [List.length_take]; omega)) m (by omega));go_wp2_with fail;refine (HD.out).mono ?_;rintro e w3 ⟨rfl, hd⟩;have HP3 := Lib.hid hd;clear hd hm hacell;go_wp2_with fail
     go_roundw
     case rel => refine ⟨_, k + 1, ?_, by go_num, ?_, by omega, HP3⟩ <;> first | rfl | (simp; done) | go_num | omega
     case measure => simp [intOf]; omega
    ·have hki : ¬ (k : Int) < (asks.length : Int) := by omega
     go_wp2_with fail
     go_roundw
     case rel => refine ⟨_, k + 1, ?_, by go_num, ?_, by omega, HP2⟩ <;> first | rfl | (simp; done) | go_num | omega
     case measure => simp [intOf]; omega
   ·have HV := Lib.hid hv;have q4 : IntKind.i64.wrap (bc : Int) = (bc : Int) := by rw [IntKind.wrap_i64]; omega
    clear hv
    go_still_tail 7, (by kernel_rfl)
    go_wp2_with fail;refine (HF.out _ HV.out).mono ?_;rintro e w2 ⟨rfl, hfed⟩;have HP2 := Lib.hid hfed;clear hfed HV HF;have haw := HA.out.below (HW.out.2.2.trans (HP2.out.below.mono HW.out.2.2.size))
    have HREC := Lib.hid (show ∀ l : List UInt8, l.length ≤ 1048576 → ((Rd.new 8).feed l).recs.length ≤ 1073741824 from fun l hl => by
     have h1 := (Rd.feed_ok l (x := Rd.new 8) ⟨by decide, by decide, rfl, Nat.le_refl _, Nat.le_refl _, Nat.le_refl _⟩).recs;rw [Rd.feed_place] at h1;have h0 : (Rd.new 8).place = 0 := rfl;omega)
    clear HI hcb hk
    by_cases hka : k < asks.length
    ·have hki : (k : Int) < (asks.length : Int) := by omega
     obtain ⟨aa', ac', hae, has⟩ := haw;injection hae with hae _ hae2
     subst hae hae2;obtain ⟨g3, off3, rfl, haa⟩ := has.resolve_left (fun e => by rw [e] at hka; simp at hka);have hacell := haa k _ (List.getElem?_eq_getElem hka);obtain ⟨ask, hask⟩ : ∃ ask, asks[k] = ask := ⟨_, rfl⟩;rw [hask] at hacell;clear haa has hask;obtain ⟨m, hm⟩ : ∃ m : Nat, min (max ask 0) 3 = (m : Int) := ⟨(min (max ask 0) 3).toNat, by omega⟩;have hm3 : m ≤ 3 := by omega
     have HD := Lib.hid (HP2.out.draw (by omega) (HREC.out _ (by simp only [List.length_take]; omega)) m (by omega));go_wp2_with fail;refine (HD.out).mono ?_;rintro e w3 ⟨rfl, hd⟩;have HP3 := Lib.hid hd;clear hd hm hacell;go_wp2_with fail
     go_roundw
     case rel => refine ⟨_, k + 1, ?_, by go_num, ?_, by omega, HP3⟩ <;> first | rfl | (simp; done) | go_num | omega
     case measure => simp [intOf]; omega
    ·have hki : ¬ (k : Int) < (asks.length : Int) := by omega
     go_wp2_with fail
     go_roundw
     case rel => refine ⟨_, k + 1, ?_, by go_num, ?_, by omega, HP2⟩ <;> first | rfl | (simp; done) | go_num | omega
     case measure => simp [intOf]; omega
   ·have HV := Lib.hid hv;have q5 : ¬ bc = p := by omega
    clear hv
    go_still_tail 7, (by kernel_rfl)
    go_wp2_with fail;rw [Nat.add_sub_cancel_left];refine (HF.out _ HV.out).mono ?_;rintro e w2 ⟨rfl, hfed⟩;have HP2 := Lib.hid hfed;clear hfed HV HF;have haw := HA.out.below (HW.out.2.2.trans (HP2.out.below.mono HW.out.2.2.size))
    have HREC := Lib.hid (show ∀ l : List UInt8, l.length ≤ 1048576 → ((Rd.new 8).feed l).recs.length ≤ 1073741824 from fun l hl => by
     have h1 := (Rd.feed_ok l (x := Rd.new 8) ⟨by decide, by decide, rfl, Nat.le_refl _, Nat.le_refl _, Nat.le_refl _⟩).recs;rw [Rd.feed_place] at h1;have h0 : (Rd.new 8).place = 0 := rfl;omega)
    clear HI hcb hk
    by_cases hka : k < asks.length
    ·have hki : (k : Int) < (asks.length : Int) := by omega
     obtain ⟨aa', ac', hae, has⟩ := haw;injection hae with hae _ hae2
     subst hae hae2;obtain ⟨g3, off3, rfl, haa⟩ := has.resolve_left (fun e => by rw [e] at hka; simp at hka);have hacell := haa k _ (List.getElem?_eq_getElem hka);obtain ⟨ask, hask⟩ : ∃ ask, asks[k] = ask := ⟨_, rfl⟩;rw [hask] at hacell;clear haa has hask;obtain ⟨m, hm⟩ : ∃ m : Nat, min (max ask 0) 3 = (m : Int) := ⟨(min (max ask 0) 3).toNat, by omega⟩;have hm3 : m ≤ 3 := by omega
     have HD := Lib.hid (HP2.out.draw (by omega) (HREC.out _ (by simp only [List.length_take]; omega)) m (by omega));go_wp2_with fail;refine (HD.out).mono ?_;rintro e w3 ⟨rfl, hd⟩;have HP3 := Lib.hid hd;clear hd hm hacell;go_wp2_with fail
     go_roundw
     case rel => refine ⟨_, k + 1, ?_, by go_num, ?_, by omega, HP3⟩ <;> first | rfl | (simp; done) | go_num | omega
     case measure => simp [intOf]; omega
    ·have hki : ¬ (k : Int) < (asks.length : Int) := by omega
     go_wp2_with fail
     go_roundw
     case rel => refine ⟨_, k + 1, ?_, by go_num, ?_, by omega, HP2⟩ <;> first | rfl | (simp; done) | go_num | omega
     case measure => simp [intOf]; omega
  ·have hie : k = cuts.length := by omega
   subst hie;have hbw := HW.out.2.2.trans (HI.out.below.mono HW.out.2.2.size);have hpn : p + (b.length - p) ≤ b.length := by omega
   have hcut := HB.out.cuts (B := w1.heap.size) hbw.drew HW.out.2.2.size p (b.length - p) hpn;have hrd : RdOk ((Rd.new 8).feed (b.take p)) := Rd.feed_ok _ ⟨by decide, by decide, rfl, Nat.le_refl _, Nat.le_refl _, Nat.le_refl _⟩;have hrb : RdOk ((Rd.new 8).feed b) := Rd.feed_ok _ ⟨by decide, by decide, rfl, Nat.le_refl _, Nat.le_refl _, Nat.le_refl _⟩;have hpl : ((Rd.new 8).feed (b.take p)).place = p := by rw [Rd.feed_place, List.length_take, Nat.min_eq_left hp]; exact Nat.zero_add _
   have hpb : ((Rd.new 8).feed b).place = b.length := by rw [Rd.feed_place]; exact Nat.zero_add _
   have hfe : ((Rd.new 8).feed (b.take p)).feed ((b.drop p).take (b.length - p)) = (Rd.new 8).feed b := by
    rw [← Rd.feed_append, List.take_of_length_le (l := b.drop p) (by rw [List.length_drop]; exact Nat.le_refl _), List.take_append_drop]
   have HF := Lib.hid (fun v hv => HI.out.drew.feed hrd ((b.drop p).take (b.length - p)) v (by rw [hpl]; simp; omega) hv);rw [hfe] at HF;have HEN := Lib.hid (fun (w2 : World) (h2 : PcY w1 (w1.heap.size + 1) (w1.heap.size + 2) w1.heap.size ((Rd.new 8).feed b) false w2) => h2.ended hrb (by omega))
   have hYl : Y.recs.length ≤ 1073741824 := by
    have := Rd.done_len hrb;rw [HY.out] at this;omega
   have hYp : Y.place = b.length := by rw [← HY.out, Rd.done_place, hpb]
   rw [HY.out] at HEN;have HYL := Lib.hid (And.intro hYl hYp);have hcb := HI.out.drew.box;obtain ⟨hbcl, hbcm, hv⟩ := hcut;clear hrd hpl hfe hbw hrb hpb hYl hYp;have q0 : (0 : Int) ≤ (p : Int) := by omega
   have q1 : (p : Int) ≤ (b.length : Int) := by omega
   have q2 : (b.length : Int) ≤ (bc : Int) := by omega
   go_wp2_with fail;rcases hv with ⟨rfl, rfl, rfl, hb0, hv⟩ | ⟨g2, off2, rfl, ⟨rfl, hb0, hv⟩ | ⟨hpc, hv⟩⟩
   ·have HV := Lib.hid hv;clear hv
    go_still_tail 4, (by kernel_rfl)
    go_wp2_with fail;refine (HF.out _ HV.out).mono ?_;rintro e w2 ⟨rfl, hfed⟩;have HP2 := Lib.hid hfed;have hcb2 := hfed.box;have HE2 := Lib.hid (HEN.out _ hfed);clear hfed HV HF HI hcb hpn;go_wp2_with fail;refine (HE2.out).mono ?_;rintro e w3 ⟨rfl, hend⟩;obtain ⟨m, hm, hwt, hlast⟩ := hend.last (by omega) HYL.out.1;have hcb3 := hend.box;have HWT := Lib.hid hwt;have HLAST := Lib.hid hlast;clear hend hwt hlast hcb2;go_wp2_with fail;refine (HWT.out).mono ?_;rintro e w4 ⟨rfl, rfl⟩;go_wp2_with fail;refine (HLAST.out).mono ?_;rintro e w5 ⟨rfl, hpc5⟩;obtain ⟨⟨hb5, hrb5, gv, gcs, hgb5, hgw5, _, hgr5⟩, F5, hr5, _⟩ := hpc5;have cr5 : w5.cell? ⟨w1.heap.size + 1, 0, none⟩ = some (.pointer (some ⟨w1.heap.size, 0, none⟩)) := cell_of_one hrb5;have cg5 : w5.cell? ⟨w1.heap.size + 1 + 1, 0, none⟩ = some gv := cell_of_one hgb5;have HNX := Lib.hid (seqNext_none F5 w5 w1.heap.size _ true hr5 rfl);have HPL := Lib.hid (place_any F5 w5 w1.heap.size _ true hr5);obtain ⟨ga, gc, hgve⟩ := hgw5.shape;have hk5 := Keeps.of_below (fun _ => False) hb5;have HEQ := Lib.hid (equalRecs_any w5 Y.recs.length gc lc ga la gcs lcs Y.recs (by rw [← hgve]; exact hgw5) hgr5 (HW.out.1.keeps hk5 (fun _ _ => id)) (HW.out.2.1.keeps hk5 (fun _ _ _ _ _ => id)) rfl HYL.out.1 HOK.out);have hpy : ({ Y with recs := [] } : Rd).place = b.length := HYL.out.2;rw [hpy] at HPL;have HB5 := Lib.hid (HW.out.2.2.trans (hb5.mono HW.out.2.2.size));subst hgve;clear hb5 hrb5 hgb5 hgw5 hgr5 hr5 hk5 hpy hcb3;go_wp2_with fail;refine (HNX.out).mono ?_;rintro e w6 ⟨rfl, rfl⟩;go_wp2_with fail;refine (HPL.out).mono ?_;rintro e w7 ⟨rfl, rfl⟩;go_wp2_with fail;refine (HEQ.out).mono ?_;rintro e w8 ⟨rfl, hb8⟩;have HB8 := Lib.hid (chain HB5.out hb8);clear hb8;go_wp2_with fail;refine (works_any w8).mono ?_;rintro e w9 ⟨rfl, hb9⟩;have HB9 := Lib.hid (chain HB8.out hb9);clear hb9;go_wp2_with fail;go_ret;exact ⟨rfl, HB9.out⟩
   ·have HV := Lib.hid hv;clear hv
    go_still_tail 4, (by kernel_rfl)
    go_wp2_with fail;refine (HF.out _ HV.out).mono ?_;rintro e w2 ⟨rfl, hfed⟩;have HP2 := Lib.hid hfed;have hcb2 := hfed.box;have HE2 := Lib.hid (HEN.out _ hfed);clear hfed HV HF HI hcb hpn;go_wp2_with fail;refine (HE2.out).mono ?_;rintro e w3 ⟨rfl, hend⟩;obtain ⟨m, hm, hwt, hlast⟩ := hend.last (by omega) HYL.out.1;have hcb3 := hend.box;have HWT := Lib.hid hwt;have HLAST := Lib.hid hlast;clear hend hwt hlast hcb2;go_wp2_with fail;refine (HWT.out).mono ?_;rintro e w4 ⟨rfl, rfl⟩;go_wp2_with fail;refine (HLAST.out).mono ?_;rintro e w5 ⟨rfl, hpc5⟩;obtain ⟨⟨hb5, hrb5, gv, gcs, hgb5, hgw5, _, hgr5⟩, F5, hr5, _⟩ := hpc5;have cr5 : w5.cell? ⟨w1.heap.size + 1, 0, none⟩ = some (.pointer (some ⟨w1.heap.size, 0, none⟩)) := cell_of_one hrb5;have cg5 : w5.cell? ⟨w1.heap.size + 1 + 1, 0, none⟩ = some gv := cell_of_one hgb5;have HNX := Lib.hid (seqNext_none F5 w5 w1.heap.size _ true hr5 rfl);have HPL := Lib.hid (place_any F5 w5 w1.heap.size _ true hr5);obtain ⟨ga, gc, hgve⟩ := hgw5.shape;have hk5 := Keeps.of_below (fun _ => False) hb5;have HEQ := Lib.hid (equalRecs_any w5 Y.recs.length gc lc ga la gcs lcs Y.recs (by rw [← hgve]; exact hgw5) hgr5 (HW.out.1.keeps hk5 (fun _ _ => id)) (HW.out.2.1.keeps hk5 (fun _ _ _ _ _ => id)) rfl HYL.out.1 HOK.out);have hpy : ({ Y with recs := [] } : Rd).place = b.length := HYL.out.2;rw [hpy] at HPL;have HB5 := Lib.hid (HW.out.2.2.trans (hb5.mono HW.out.2.2.size));subst hgve;clear hb5 hrb5 hgb5 hgw5 hgr5 hr5 hk5 hpy hcb3;go_wp2_with fail;refine (HNX.out).mono ?_;rintro e w6 ⟨rfl, rfl⟩;go_wp2_with fail;refine (HPL.out).mono ?_;rintro e w7 ⟨rfl, rfl⟩;go_wp2_with fail;refine (HEQ.out).mono ?_;rintro e w8 ⟨rfl, hb8⟩;have HB8 := Lib.hid (chain HB5.out hb8);clear hb8;go_wp2_with fail;refine (works_any w8).mono ?_;rintro e w9 ⟨rfl, hb9⟩;have HB9 := Lib.hid (chain HB8.out hb9);clear hb9;go_wp2_with fail;go_ret;exact ⟨rfl, HB9.out⟩
   ·have HV := Lib.hid hv;have q5 : ¬ bc = p := by omega
    clear hv
    go_still_tail 4, (by kernel_rfl)
    go_wp2_with fail;refine (HF.out _ HV.out).mono ?_;rintro e w2 ⟨rfl, hfed⟩;have HP2 := Lib.hid hfed;have hcb2 := hfed.box;have HE2 := Lib.hid (HEN.out _ hfed);clear hfed HV HF HI hcb hpn;go_wp2_with fail;refine (HE2.out).mono ?_;rintro e w3 ⟨rfl, hend⟩;obtain ⟨m, hm, hwt, hlast⟩ := hend.last (by omega) HYL.out.1;have hcb3 := hend.box;have HWT := Lib.hid hwt;have HLAST := Lib.hid hlast;clear hend hwt hlast hcb2;go_wp2_with fail;refine (HWT.out).mono ?_;rintro e w4 ⟨rfl, rfl⟩;go_wp2_with fail;refine (HLAST.out).mono ?_;rintro e w5 ⟨rfl, hpc5⟩;obtain ⟨⟨hb5, hrb5, gv, gcs, hgb5, hgw5, _, hgr5⟩, F5, hr5, _⟩ := hpc5;have cr5 : w5.cell? ⟨w1.heap.size + 1, 0, none⟩ = some (.pointer (some ⟨w1.heap.size, 0, none⟩)) := cell_of_one hrb5;have cg5 : w5.cell? ⟨w1.heap.size + 1 + 1, 0, none⟩ = some gv := cell_of_one hgb5;have HNX := Lib.hid (seqNext_none F5 w5 w1.heap.size _ true hr5 rfl);have HPL := Lib.hid (place_any F5 w5 w1.heap.size _ true hr5);obtain ⟨ga, gc, hgve⟩ := hgw5.shape;have hk5 := Keeps.of_below (fun _ => False) hb5;have HEQ := Lib.hid (equalRecs_any w5 Y.recs.length gc lc ga la gcs lcs Y.recs (by rw [← hgve]; exact hgw5) hgr5 (HW.out.1.keeps hk5 (fun _ _ => id)) (HW.out.2.1.keeps hk5 (fun _ _ _ _ _ => id)) rfl HYL.out.1 HOK.out);have hpy : ({ Y with recs := [] } : Rd).place = b.length := HYL.out.2;rw [hpy] at HPL;have HB5 := Lib.hid (HW.out.2.2.trans (hb5.mono HW.out.2.2.size));subst hgve;clear hb5 hrb5 hgb5 hgw5 hgr5 hr5 hk5 hpy hcb3;go_wp2_with fail;refine (HNX.out).mono ?_;rintro e w6 ⟨rfl, rfl⟩;go_wp2_with fail;refine (HPL.out).mono ?_;rintro e w7 ⟨rfl, rfl⟩;go_wp2_with fail;refine (HEQ.out).mono ?_;rintro e w8 ⟨rfl, hb8⟩;have HB8 := Lib.hid (chain HB5.out hb8);clear hb8;go_wp2_with fail;refine (works_any w8).mono ?_;rintro e w9 ⟨rfl, hb9⟩;have HB9 := Lib.hid (chain HB8.out hb9);clear hb9;go_wp2_with fail;go_ret;exact ⟨rfl, HB9.out⟩
theorem outsideStep_no (x : Lx) (c : UInt8) : (outsideStep x c).no ≤ 200 := by
 unfold outsideStep numFirst
 repeat' split
 all_goals exact Nat.le_of_ble_eq_true rfl
theorem step_no (x : Lx) (c : UInt8) : (x.step c).no ≤ 200 := by
 unfold Lx.step;split
 ·exact outsideStep_no x c
 ·unfold letterStep;simp only
  repeat' split
  all_goals exact Nat.le_of_ble_eq_true rfl
 ·unfold numeralStep;split
  ·exact Nat.le_of_ble_eq_true rfl
  ·split
   ·split
    ·exact Nat.le_of_ble_eq_true rfl
    ·exact outsideStep_no _ c
   ·exact Nat.le_of_ble_eq_true rfl
 ·unfold withinStep
  repeat' split
  all_goals exact Nat.le_of_ble_eq_true rfl
 ·unfold escapeStep
  repeat' split
  all_goals exact Nat.le_of_ble_eq_true rfl
 ·unfold digitStep;split
  ·split <;> exact Nat.le_of_ble_eq_true rfl
  ·split <;> exact Nat.le_of_ble_eq_true rfl
 ·unfold slashStep;split <;> exact Nat.le_of_ble_eq_true rfl
 ·unfold letterUStep;split <;> exact Nat.le_of_ble_eq_true rfl
theorem lexTake_no (x : Lx) (c : UInt8) : (x.take c).2.2.1 ≤ 200 := by
 unfold Lx.take;split
 ·exact Nat.le_of_ble_eq_true rfl
 ·simp only;split
  ·exact Nat.le_of_ble_eq_true rfl
  ·exact step_no x c
theorem lexEnded_no (x : Lx) : (x.ended).2.2.1 ≤ 200 := by
 unfold Lx.ended
 repeat' split
 all_goals exact Nat.le_of_ble_eq_true rfl
def NoOk (o : Out) : Prop := ∀ n a, o = .error (n, a) → 1 ≤ n ∧ n ≤ 300
theorem NoOk.ok (x : Ps) : NoOk (.ok x) := fun _ _ h => by cases h
theorem NoOk.err {n a : Nat} (h : 1 ≤ n) (h2 : n ≤ 300) : NoOk (.error (n, a)) := fun _ _ e => by cases e; exact ⟨h, h2⟩
theorem NoOk.map {o : Out} (h : NoOk o) (f : Ps → Ps) : NoOk (o.map f) := by
 cases o with
 | error e => intro n a he; cases he; exact h n a rfl
 | ok y => exact .ok _
theorem value_no (x : Ps) (a : Nat) : NoOk (x.value a) := by
 unfold Ps.value
 repeat' split
 all_goals first | exact .ok _ | exact .err (by decide) (by decide)
theorem weigh_no (x : Ps) (s : List UInt8) (a : Nat) : NoOk (x.weigh s a) := by
 unfold Ps.weigh
 repeat' split
 all_goals first | exact .ok _ | exact .err (by decide) (by decide)
theorem begins_no (x : Ps) (c : UInt8) : NoOk (x.begins c) := by
 unfold Ps.begins;split
 ·exact .ok _
 ·exact value_no _ _
theorem token_no (x : Ps) (t : Tok) : NoOk (x.token po t) := by
 cases t with
 | mark a s =>
  show NoOk (x.mark po a s)
  unfold Ps.mark
  repeat' split
  all_goals first | exact (value_no _ _).map _ | exact .ok _ | exact .err (by decide) (by decide)
 | str a z s =>
  show NoOk (x.text a s)
  unfold Ps.text
  repeat' split
  all_goals first | exact (weigh_no _ _ _).map _ | exact .ok _ | exact .err (by decide) (by decide)
 | term a z n => exact .ok _
 | num a z b => exact .ok _
theorem drain_no (l : List Tok) : ∀ x : Ps, NoOk (Ps.drain po x l) := by
 induction l with
 | nil => intro x; exact .ok _
 | cons t l ih =>
  intro x;rw [drain_cons'];have ht := token_no x t;cases hv : x.token po t with
  | error e => rw [hv] at ht; exact ht
  | ok z => exact ih z
theorem lexNo_no {n : Nat} (h : n ≠ 0) (h2 : n ≤ 200) : 1 ≤ lexNo n ∧ lexNo n ≤ 300 := by
 unfold lexNo;split <;> omega
theorem take_no (x : Ps) (c : UInt8) : NoOk (x.take po c) := by
 have htake : x.take po c = takeOut c (x.lex.take c) (Ps.drain po { x with lex := (x.lex.take c).1 } (x.lex.take c).2.1) := rfl;have hn := lexTake_no x.lex c;rw [htake];obtain ⟨r, hr⟩ : ∃ r, x.lex.take c = r := ⟨_, rfl⟩;rw [hr] at hn ⊢;have hd0 := drain_no r.2.1 { x with lex := r.1 };cases hd : Ps.drain po { x with lex := r.1 } r.2.1 with
 | error e => rw [hd] at hd0; exact hd0
 | ok z =>
  intro n a h;simp only [takeOut] at h;split at h
  ·rename_i hno;cases h;exact lexNo_no hno hn
  ·split at h
   ·rename_i hb;split at hb
    ·cases h;exact begins_no _ _ _ _ hb
    ·cases hb
   ·cases h
theorem feed_no (l : List UInt8) : ∀ x : Ps, NoOk (x.feed po l) := by
 induction l with
 | nil => intro x; exact .ok _
 | cons c l ih =>
  intro x;unfold Ps.feed;rw [List.foldlM_cons];have ht := take_no x c;cases hv : x.take po c with
  | error e => rw [hv] at ht; exact ht
  | ok z => exact ih z
theorem finish_no (x : Ps) : NoOk (x.finish po) := by
 have htake : x.finish po = finOut x.lex.ended (Ps.drain po { x with lex := x.lex.ended.1 } x.lex.ended.2.1) := rfl;have hn := lexEnded_no x.lex;rw [htake];have hd0 := drain_no x.lex.ended.2.1 { x with lex := x.lex.ended.1 };cases hd : Ps.drain po { x with lex := x.lex.ended.1 } x.lex.ended.2.1 with
 | error e => rw [hd] at hd0; exact hd0
 | ok z =>
  intro n a h;simp only [finOut] at h;split at h
  ·rename_i hno;cases h;exact lexNo_no hno hn
  ·split at h
   ·cases h; omega
   ·cases h
theorem readTree_no {l : List UInt8} {d no at_ : Nat} (h : readTree l d = .error (no, at_)) : 1 ≤ no ∧ no ≤ 300 := by
 unfold readTree oneOf at h;cases hr : Ps.read po l d with
 | error e =>
  obtain ⟨n2, a2⟩ := e;rw [hr] at h;cases h;unfold Ps.read at hr;cases hf : (Ps.new d).feed po l with
  | error e2 =>
   rw [hf] at hr;cases hr;exact feed_no l _ _ _ hf
  | ok z =>
   rw [hf] at hr;exact finish_no z _ _ hr
 | ok y => rw [hr] at h; cases h
theorem readTree_fin {l : List UInt8} {d : Nat} {t : Tr} (h2 : d ≤ 512) (h : readTree l d = .ok t) : FinT t := by
 unfold readTree oneOf at h;cases hr : Ps.read po l d with
 | error e => rw [hr] at h; cases h
 | ok y =>
  rw [hr] at h;have := read_fin h2 hr;cases hy : y.items with
  | nil => simp only [hy, List.headD_nil] at h; cases h; exact .null
  | cons t2 l2 => simp only [hy, List.headD_cons] at h; cases h; exact this _ (by rw [hy]; exact List.mem_cons_self ..)
theorem recOf_ok {x : Rd} (h : RdOk x) (hp : x.place ≤ 500000000) : RecOk x.recOf := by
 unfold Rd.recOf;cases hw : wrongOf x.begun x.frm x.size x.open_ with
 | some e =>
  obtain ⟨no, a⟩ := e;have h1 := h.size;have h2 := h.frm;have h3 := h.recs;unfold wrongOf at hw;split at hw
  ·cases hw; exact ⟨by decide, by decide, by decide⟩
  ·split at hw
   ·cases hw; exact ⟨by decide, by decide, by omega⟩
   ·split at hw
    ·cases hw; exact ⟨by decide, by decide, by omega⟩
    ·cases hw
 | none =>
  cases ht : readTree x.open_ x.depth with
  | error e =>
   obtain ⟨no, a⟩ := e;have h1 := readTree_no ht;have h3 := readTree_at h.d2 ht;have h2 := h.frm
   show 1 ≤ no ∧ no ≤ 1073741824 ∧ a + x.frm ≤ 1073741824
   omega
  | ok t => exact readTree_fin h.d2 ht
theorem whole_recs_ok {x : Rd} (h : RdOk x) (hp : x.place ≤ 500000000) (hr : ∀ rc ∈ x.recs, RecOk rc) : ∀ rc ∈ (x.whole).recs, RecOk rc := by
 unfold Rd.whole;split
 ·exact hr
 ·intro rc hm;rcases List.mem_append.1 hm with hm | hm
  ·exact hr rc hm
  ·simp at hm;subst hm;exact recOf_ok h hp
theorem feed_recs_ok : ∀ (b : List UInt8) {x : Rd}, RdOk x → x.place + b.length ≤ 500000000 → (∀ rc ∈ x.recs, RecOk rc) → ∀ rc ∈ (x.feed b).recs, RecOk rc
 | [], x, _, _, hr => hr
 | c :: b, x, h, hp, hr => by
  show ∀ rc ∈ ((x.byte c).feed b).recs, RecOk rc
  have hpl : (x.byte c).place = x.place + 1 := Rd.feed_place [c] x;have hok : RdOk (x.byte c) := Rd.feed_ok [c] h;refine feed_recs_ok b hok (by rw [hpl]; simp at hp; omega) ?_;unfold Rd.byte;split
  ·exact whole_recs_ok h (by omega) hr
  ·exact hr
theorem new_ok {d : Nat} (h1 : 1 ≤ d) (h2 : d ≤ 512) : RdOk (Rd.new d) := ⟨h1, h2, rfl, Nat.le_refl _, Nat.le_refl _, Nat.le_refl _⟩
theorem done_recs_ok {d : Nat} (h1 : 1 ≤ d) (h2 : d ≤ 512) (b : List UInt8) (hb : b.length ≤ 500000000) : ∀ rc ∈ (((Rd.new d).feed b).done).recs, RecOk rc := by
 have h0 : (Rd.new d).place = 0 := rfl;have hok := Rd.feed_ok b (new_ok h1 h2);have hpl := Rd.feed_place b (Rd.new d);exact whole_recs_ok hok (by omega) (feed_recs_ok b (new_ok h1 h2) (by omega) (fun rc h => by cases h))
section
open Go.ChangeShapes Go.WideShapes Go.ChangeAt Go.RowKit
namespace Rowed
theorem cells5 : Tryz.prog.cellsOf 5 = 1 := by kernel_rfl
theorem cells3 : Tryz.prog.cellsOf 3 = 1 := by kernel_rfl
theorem laidOut : laidOutB Tryz.prog = true := by kernel_rfl
theorem slice_plain {W : World} {base : Nat} {t e : TypeId} {a : Option Addr} {n c : Nat} (ht : Tryz.prog.underlying t = some (.slice e)) (h : Value.okWide Tryz.prog W .any base t (.slice a n c)) : Value.slice a n c = .slice none 0 0 ∨ ∃ g off, a = some ⟨g, off, none⟩ := by
 simp only [Value.okWide, ht, Cell.okWide, Cell.ok] at h;cases a with
 | none =>
  left;split at h
  all_goals simp_all
 | some a =>
  right;obtain ⟨g, off, s⟩ := a
  have : s = none := by
   simp only at h;exact h.2.2.2.1
  subst this;exact ⟨g, off, rfl⟩
theorem bulk_lits {H : Type} (k : IntKind) (l r : List Int) : l.length + 1 ≤ Rows.uptoBulk (DataW.slice (lits (H := H) k l) (lits k r)) := by
 have h : ∀ (l : List (DataW H)), l.length ≤ Rows.uptoBulkAll l := by
  intro l
  induction l with
  | nil => simp [Rows.uptoBulkAll]
  | cons x l ih =>
   have h1 : 1 ≤ Rows.uptoBulk x := by
    cases x with
    | lit l => cases l <;> simp [Rows.uptoBulk]
    | nil => simp [Rows.uptoBulk]
    | ptr d => simp [Rows.uptoBulk]
    | slice elems spare => simp [Rows.uptoBulk]
    | agg parts => simp [Rows.uptoBulk]
    | iface t d => simp [Rows.uptoBulk]
    | map entries => simp [Rows.uptoBulk]
    | held h => simp [Rows.uptoBulk]
   simp only [Rows.uptoBulkAll, List.length_cons];omega
 have h1 := h (lits k l);simp only [Rows.uptoBulk];have h2 : (lits (H := H) k l).length = l.length := by simp [lits]
 omega
theorem byte_of_wf {x : Int} (h : (Lit.int .u8 x).wf = true) : 0 ≤ x ∧ x < 256 := by
 have h1 : IntKind.u8.min = 0 := rfl;have h2 : IntKind.u8.max = 255 := rfl;simp only [Lit.wf, Bool.and_eq_true, decide_eq_true_eq] at h;omega
theorem int_of_wf {x : Int} (h : (Lit.int .i64 x).wf = true) : IntKind.i64.wrap x = x := by
 have h1 : IntKind.i64.min = -9223372036854775808 := rfl;have h2 : IntKind.i64.max = 9223372036854775807 := rfl;simp only [Lit.wf, Bool.and_eq_true, decide_eq_true_eq] at h;rw [IntKind.wrap_i64];omega
theorem nil_shape {a : Option Addr} {n c : Nat} (h : Value.slice a n c = .slice none 0 0) : a = none ∧ n = 0 ∧ c = 0 := by
 injection h with h1 h2 h3
 exact ⟨h1, h2, h3⟩
theorem opened_bytes {H : Type} {enc : TypeId × Value → H} {W : World} {base : Nat} {a0 : Option Addr} {len cap : Nat} {d0 : DataW H} {p : List MemPlace} (hok : Value.okWide Tryz.prog W .any base 22 (.slice a0 len cap))
 (h0 : DataW.Trod enc Tryz.prog W 0 (fun _ => true) true 22 (.slice a0 len cap) d0 p) : ∃ b : List UInt8, b.length ≤ Rows.uptoBulk d0 ∧ HasBytes W (.slice a0 len cap) b := by
 have hpl := slice_plain Tryz.underlying22 hok;obtain ⟨fuel, hf⟩ := h0;rcases open_ints Tryz.underlying22 Tryz.underlying5 cells5 hf with ⟨hcs, hx⟩ | ⟨a, len', cap', zs, hcs, _, hl, hm, hz, hx, hcell, hwz⟩
 ·simp [Value.cells] at hcs;obtain ⟨rfl, rfl, rfl⟩ := hcs;exact ⟨[], Nat.zero_le _, ⟨⟨none, 0, rfl, Nat.le_refl _, Nat.zero_le _, .inl rfl⟩, .inl rfl⟩⟩
 ·simp [Value.cells] at hcs;obtain ⟨rfl, rfl, rfl⟩ := hcs;simp only [Prod.mk.injEq] at hx;obtain ⟨rfl, rfl⟩ := hx;simp only [if_true] at hz;obtain ⟨g, off, hgo⟩ := hpl.resolve_left (fun e => by cases (nil_shape e).1);cases hgo;have hlen : ((zs.take len).map fun z => UInt8.ofNat z.toNat).length = len := by simp; omega
  refine ⟨(zs.take len).map fun z => UInt8.ofNat z.toNat, ?_, ⟨⟨_, cap, by rw [hlen], by rw [hlen]; exact hl, hm, .inr ⟨g, off, rfl, id, fun i x hx => ?_⟩⟩, .inr ⟨g, off, _, _, rfl⟩⟩⟩
  ·have := bulk_lits (H := H) .u8 (zs.take len) (zs.drop len);rw [List.length_map];omega
  ·have hi : i < len := by have := (List.getElem?_eq_some_iff.1 hx).1; omega
   have hc := hcell i (by omega);rw [add_plain] at hc;rw [hc];rw [List.getElem?_map, List.getElem?_take_of_lt hi] at hx;cases hzz : zs[i]? with
   | none => rw [hzz] at hx; cases hx
   | some z =>
    rw [hzz] at hx;cases hx;have hb := byte_of_wf (hwz z (List.mem_of_getElem? hzz));have hg : zs.getD i 0 = z := by rw [List.getD_eq_getElem?_getD, hzz]; rfl
    rw [hg];have : (UInt8.ofNat z.toNat).toNat = z.toNat := by simp [UInt8.toNat_ofNat]; omega
    rw [this];congr 2;omega
theorem opened_ints {H : Type} {enc : TypeId × Value → H} {W : World} {base : Nat} {a0 : Option Addr} {len cap : Nat} {d0 : DataW H} {p : List MemPlace} (hok : Value.okWide Tryz.prog W .any base 50 (.slice a0 len cap))
 (h0 : DataW.Trod enc Tryz.prog W 0 (fun _ => true) true 50 (.slice a0 len cap) d0 p) : ∃ l : List Int, l.length ≤ Rows.uptoBulk d0 ∧ HasInts W (.slice a0 len cap) l ∧ ∀ x ∈ l, IntKind.i64.wrap x = x := by
 have hpl := slice_plain Tryz.underlying50 hok;obtain ⟨fuel, hf⟩ := h0;rcases open_ints Tryz.underlying50 Tryz.underlying3 cells3 hf with ⟨hcs, hx⟩ | ⟨a, len', cap', zs, hcs, _, hl, hm, hz, hx, hcell, hwz⟩
 ·simp [Value.cells] at hcs;obtain ⟨rfl, rfl, rfl⟩ := hcs;exact ⟨[], Nat.zero_le _, ⟨none, 0, rfl, .inl rfl⟩, fun x h => by cases h⟩
 ·simp [Value.cells] at hcs;obtain ⟨rfl, rfl, rfl⟩ := hcs;simp only [Prod.mk.injEq] at hx;obtain ⟨rfl, rfl⟩ := hx;simp only [if_true] at hz;obtain ⟨g, off, hgo⟩ := hpl.resolve_left (fun e => by cases (nil_shape e).1);cases hgo;have hlen : (zs.take len).length = len := by simp; omega
  refine ⟨zs.take len, ?_, ⟨_, cap, by rw [hlen], .inr ⟨g, off, rfl, fun i x hx => ?_⟩⟩, fun x hx => int_of_wf (hwz x (List.mem_of_mem_take hx))⟩
  ·have := bulk_lits (H := H) .i64 (zs.take len) (zs.drop len);omega
  ·have hi : i < len := by have := (List.getElem?_eq_some_iff.1 hx).1; omega
   have hc := hcell i (by omega);rw [add_plain] at hc;rw [hc];rw [List.getElem?_take_of_lt hi] at hx;have hg : zs.getD i 0 = x := by rw [List.getD_eq_getElem?_getD, hx]; rfl
   rw [hg]
theorem post_of_below {H : Type} {enc : TypeId × Value → H} {P : Program} {f : Func} {s : ChangeSpec} {apart fresh handsOn again : Bool} {W W' : World} {args : Array Value} {v : Value} {ds gs : List (DataW H)} {before pa pv : List MemPlace}
 (hW : DataW.Whole enc P f.params.toList s.vars apart W args.toList ds gs before)
 (hres : ∀ (b : Nat) (sp : Nat → Bool) (hd : Bool), DataW.TrodAll enc P W' b sp hd f.resultTypes.toList (v.resultList f.resultTypes.size) (s.fn H (ds ++ gs)).results [])
 (hargs : ∀ sp : Nat → Bool, (∀ p ∈ before, sp p.block = true) → DataW.TrodAll enc P W' 0 sp true f.params.toList args.toList (s.fn H (ds ++ gs)).args pa)
 (hvars : ∀ sp : Nat → Bool, (∀ p ∈ before, sp p.block = true) → DataW.TrodVars enc P W' sp s.vars (s.fn H (ds ++ gs)).vars pv)
 (hps : before = pa ++ pv) (hk : Below W.heap.size W W')
 (hok : ∀ (j : Nat) (t : TypeId) (r : Value), f.resultTypes[j]? = some t → (v.resultList f.resultTypes.size)[j]? = some r → Value.okWide P W' .any 0 t r) :
 s.post enc P f apart fresh handsOn again W args v W' := by
 have hlt : ∀ p ∈ before, p.block < W.heap.size := fun p hp => hW.lt p hp
 have hold : ∀ p ∈ before, (fun b => decide (b < W.heap.size)) p.block = true := fun p hp => by simpa using hW.lt p hp
 refine ⟨ds, gs, before, [], pa, pv, hW, hres _ _ _, hargs _ hold, hvars _ hold, hk.frame _, fun _ => ?_⟩;obtain ⟨_, _, _, _, _, hz, hn⟩ := hW;refine ⟨hok, _, _, ([] ++ pa) ++ pv, ⟨[] ++ pa, pv, trodAll_append (hargs _ (fun _ _ => rfl)) (hres _ _ _), hvars _ (fun _ _ => rfl), rfl, ?_, ?_⟩, ?_⟩
 ·intro b off hp;have hp' := hp;rw [show ([] ++ pa) ++ pv = before by rw [hps]; simp] at hp';have hb := hlt _ hp';have := hz b off hp';unfold World.frozen? at this ⊢;rw [hk.block b hb];exact this
 ·intro ha;have := hn ha;rw [hps] at this
  simpa using this
 ·intro p hp _;rw [hps]
  simpa using hp
end Rowed
end
end Go.Proofs.YtakkmiomhackiaaGreatDoor
