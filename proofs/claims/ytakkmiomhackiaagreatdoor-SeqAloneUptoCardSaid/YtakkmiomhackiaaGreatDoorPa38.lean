/-
  The program, one part of its walk: Al2, Wk. Conditions: none.
-/
import Derived.Test.YtakkmiomhackiaaGreatDoorPa35
import Derived.Test.YtakkmiomhackiaaGreatDoorPa03
import Derived.Shelf.Abstract
import Derived.OwnWalkIn
import Derived.TacticsInMore
import Derived.RegionIn
import Derived.LoopNIn
import Derived.LoopIn
import Derived.Test.YtakkmiomhackiaaGreatDoorPa36
import Derived.Lib.SlBytesConst
import Derived.Test.YtakkmiomhackiaaGreatDoorPa00
set_option linter.all false
set_option maxRecDepth 100000
set_option maxHeartbeats 16000000
open Go.Proofs.Tryz
namespace Go.Proofs.YtakkmiomhackiaaGreatDoor
open Go.RowKit
section
open Go.RowKit Go.Shelf
attribute [local go_sem] Oper.semAt_some
structure Rec where
 q : Option Addr
 e : Value
 it : Except (Nat × Nat) Tr
def recEnc (x : Rec) : Array Value := #[.pointer x.q, x.e]
def RecIs (recs : List (Except (Nat × Nat) Tr)) (k : Nat) (x : Rec) (w : World) : Prop := recs[k]? = some x.it ∧ RecAt w (.pointer x.q) x.e x.it
theorem RecAt.shape {w : World} {a b : Value} {rc : Except (Nat × Nat) Tr} (h : RecAt w a b rc) : ∃ q, a = .pointer q ∧ (b = .nilIface ∨ ∃ T v, b = .iface T v) := by
 cases rc with
 | error er => obtain ⟨h1, h2⟩ := h; exact ⟨_, h1, .inr ⟨_, _, h2⟩⟩
 | ok t => obtain ⟨h1, T, v, h2, _⟩ := h; exact ⟨_, h2, .inl h1⟩
theorem RdAt.slim {F : Nat → Prop} {w : World} {r : Nat} {x : Rd} {d : Bool} (h : RdAt F w r x d) : RdAt (fun k => F k ∧ RdT w k) w r x d := by
 obtain ⟨hF, hlt, openV, recV, cs, hbk, hw, hwF, hr, hrF, hrecs⟩ := h;refine ⟨⟨hF, _, _, hbk, .inl rfl⟩, fun k h => hlt k h.1, openV, recV, cs, hbk, hw, fun k hk => ⟨hwF k hk, ?_⟩, hr, fun k hk => ⟨hrF k hk, ?_⟩, hrecs⟩
 ·rcases hw.2 with ⟨rfl, _⟩ | ⟨g, off, cap, cur, rfl, hg, _⟩
  ·cases hk
  ·cases hk; exact ⟨_, _, hg, .inr (.inl rfl)⟩
 ·rcases hr.2 with ⟨rfl, _⟩ | ⟨g, off, cap, cur, rfl, hg, _⟩
  ·cases hk
  ·cases hk; exact ⟨_, _, hg, .inr (.inr rfl)⟩
theorem RdAt.stays {F : Nat → Prop} {w w' : World} {r : Nat} {x : Rd} {d : Bool} (h : RdAt F w r x d) (hk : Stays w w') : RdAt F w' r x d := by
 obtain ⟨hF, hlt, openV, recV, cs, hbk, hw, hwF, hr, hrF, hrecs⟩ := h;have hkk := hk.keeps;refine ⟨hF, fun k h => Nat.lt_of_lt_of_le (hlt k h) hk.size, openV, recV, cs, hk.block _ _ _ hbk (by decide), hw.keeps hkk ?_, hwF, hr.keeps hkk ?_, hrF, hrecs.keeps hkk (fun k c T hT hc he => he ⟨_, _, hc, by unfold TT5 at hT; unfold StT; exact .inr (.inr (.inr hT))⟩)⟩
 ·intro k hk' he;rcases hw.2 with ⟨rfl, _⟩ | ⟨g, off, cap, cur, rfl, hg, _⟩
  ·cases hk'
  ·cases hk'; exact he ⟨_, _, hg, by decide⟩
 ·intro k hk' he;rcases hr.2 with ⟨rfl, _⟩ | ⟨g, off, cap, cur, rfl, hg, _⟩
  ·cases hk'
  ·cases hk'; exact he ⟨_, _, hg, by decide⟩
def recsLeft (w : World) (r : Nat) : Nat := match w.cell? ⟨r, 7, none⟩ with
 | some (.slice _ n _) => n
 | _ => 0
theorem RdAt.left {F : Nat → Prop} {w : World} {r : Nat} {x : Rd} {d : Bool} (h : RdAt F w r x d) : recsLeft w r = x.recs.length := by
 obtain ⟨hF, hlt, openV, recV, cs, hbk, hw, hwF, hr, hrF, hrecs⟩ := h;obtain ⟨a, c, rfl⟩ := hr.shape;unfold recsLeft;rw [show w.cell? ⟨r, 7, none⟩ = some (.slice a x.recs.length c) by rw [cell_at hbk]; rfl]
theorem Rd.feed_ok : ∀ (b : List UInt8) {x : Rd}, RdOk x → RdOk (x.feed b)
 | [], x, h => h
 | c :: b, x, h => by
  show RdOk (Rd.feed (x.byte c) b)
  refine Rd.feed_ok b ?_;unfold Rd.byte;split
  ·exact Rd.whole_ok h
  ·exact Rd.part_ok h [c]
theorem Rd.feed_place : ∀ (b : List UInt8) (x : Rd), (x.feed b).place = x.place + b.length
 | [], x => rfl
 | c :: b, x => by
  show (Rd.feed (x.byte c) b).place = _
  rw [Rd.feed_place b]
  have : (x.byte c).place = x.place + 1 := by
   unfold Rd.byte;split
   ·show (x.whole).place + 1 = _
    unfold Rd.whole;split <;> rfl
   ·rfl
  rw [this, List.length_cons];omega
theorem Rd.done_len {x : Rd} (h : RdOk x) : (x.done).recs.length ≤ x.place := by
 have := h.recs;unfold Rd.done Rd.whole;simp only [];split
 ·omega
 ·simp; omega
def AllInv (B : Nat) (J : List Rec → World → Prop) (r : Nat) (recs : List (Except (Nat × Nat) Tr)) (wr : World) : Prop :=
 ∃ (F : Nat → Prop) (x : Rd) (pre : List Rec), RdAt F wr r x true ∧ (∀ k, F k → B ≤ k) ∧ pre.map (·.it) ++ x.recs = recs ∧ J pre wr
theorem all1_any (n : Nat) (db rb d : Nat) (b : List UInt8) (rowV : Value) (w : World) (hd1 : 1 ≤ d) (hd2 : d ≤ 512) (hdb : w.heap[db]? = some (.cells #[.int .i64 d] 3 (0, 0))) (hrb : w.heap[rb]? = some (.cells #[rowV] 22 (0, 0)))
 (hrow : WinN 1 5 w rowV b.length (b.map encB)) (hb : b.length ≤ 1073741824) :
 SeqW n prog 66 #[.pointer (some ⟨db, 0, none⟩), .pointer (some ⟨rb, 0, none⟩)] recEnc (RecIs (((Rd.new d).feed b).done).recs) (fun xs => xs.map (·.it) = (((Rd.new d).feed b).done).recs) w := by
 intro l J W hW hJ hYd h0;have hdb' := (hW.block db (lt_of_block hdb)).trans hdb;have hrb' := (hW.block rb (lt_of_block hrb)).trans hrb;have cdb : W.cell? ⟨db, 0, none⟩ = some (.int .i64 d) := by rw [cell_at hdb']; rfl
 have crb : W.cell? ⟨rb, 0, none⟩ = some rowV := by rw [cell_at hrb']; rfl
 have hrowW : WinN 1 5 W rowV b.length (b.map encB) := hrow.keeps (F := fun k => w.heap.size ≤ k) (Keeps.of_below _ hW) (fun k hk h => absurd (hrow.lt hk) (Nat.not_lt.2 h));refine callsIn_of_wp func66 rfl trivial ?_ rfl;simp only [ntmps66, List.size_toArray, List.length_cons, List.length_nil, Nat.reduceAdd, Nat.reduceSub, Array.replicate_succ, Array.replicate_zero, List.push_toArray, List.append_toArray, List.nil_append, List.cons_append];have HN := hZ (fun w1 => seqNew_any w1 d hd1 hd2);obtain ⟨W1, hW1⟩ : ∃ W1, W.alloc (.cells #[.int .i64 d, .int .i64 0, .bool false, .bool false, .slice none 0 0, .int .i64 0, .int .i64 0, .slice none 0 0] 159) = W1 := ⟨_, rfl⟩;have hk1 : Keeps (fun _ => False) W W1 := by rw [← hW1]; exact (Keeps.refl _ _).alloc _
 have hr1 : RdAt (fun k => k = W.heap.size) W1 W.heap.size (Rd.new d) false := by
  subst hW1;exact ⟨rfl, fun k e => by subst e; simp, .slice none 0 0, .slice none 0 0, [], heap_alloc_new W _, .nil _ _ _, fun k h => (by cases h), .nil _ _ _, fun k h => (by cases h), fun i rc h => by simp [Rd.new] at h⟩
 have hJ1 : J [] W1 := hJ [] _ _ h0 (hk1.mono fun _ h => h.elim);have crb1 : W1.cell? ⟨rb, 0, none⟩ = some rowV := hk1.cell crb id;have hok1 : RdOk (Rd.new d) := ⟨hd1, hd2, rfl, Nat.le_refl _, Nat.le_refl _, Nat.le_refl _⟩
 have hrow1 : BytesOf (fun k => k = W.heap.size) W1 rowV b := by
  have hx := hrowW.keeps (F := fun _ => False) hk1 (fun _ _ => id);rcases hx.2 with ⟨rfl, hl⟩ | ⟨g, off, cap, cur, rfl, hg, hc, ho, hm, hi⟩
  ·exact ⟨⟨none, 0, by rw [hl], by omega, Nat.zero_le _, .inl (List.eq_nil_of_length_eq_zero hl)⟩, .inl (by rfl)⟩
  ·refine ⟨⟨_, cap, rfl, hc, hm, .inr ⟨g, off, rfl, fun e => ?_, fun i x hx => ?_⟩⟩, .inr ⟨g, off, _, _, rfl⟩⟩
   ·have := hrowW.lt (k := g) rfl;omega
   ·rw [cell_at hg];exact hi i (encB x) (by rw [List.getElem?_map, hx]; rfl)
 have hfeed := seqFeed_any _ W1 W.heap.size (Rd.new d) b rowV hr1 hok1 (by show 0 + b.length ≤ _; omega) hrow1;obtain ⟨X, hX⟩ : ∃ X, (Rd.new d).feed b = X := ⟨_, rfl⟩;have hokX : RdOk X := by rw [← hX]; exact Rd.feed_ok b hok1
 have hpX : X.place ≤ 1073741824 := by rw [← hX, Rd.feed_place]; show 0 + b.length ≤ _; omega
 rw [hX] at hfeed hYd ⊢;have hYl : (X.done).recs.length ≤ 1073741824 := Nat.le_trans (Rd.done_len hokX) hpX;obtain ⟨Y, hY⟩ : ∃ Y, X.done = Y := ⟨_, rfl⟩;rw [hY] at hYl hYd ⊢;obtain ⟨shp, hshp⟩ : ∃ shp : Nat, shp = 0 := ⟨0, rfl⟩;have HF := hZ hfeed;have HEND := hZ (fun (F : Nat → Prop) w2 (h2 : RdAt F w2 W.heap.size X false) => seqEnd_any F w2 W.heap.size X h2 hokX hpX);rw [hY] at HEND;have HK1 := hZ hk1;have HR1 := hZ hr1;have HJ := hZ hJ;have HJ1 := hZ hJ1;have HYL := hZ hYl;have HYIELD := hZ hYd;have HW1 := hZ hW1;obtain ⟨⟨ra, rc, hrv, _⟩, _⟩ := hrow1;subst hrv;clear hd1 hd2 hdb hrb hrow hb hW hJ hYd h0 hdb' hrb' hrowW hk1 hr1 hJ1 hok1 hfeed hX hokX hpX hY hYl hshp;gi_wp2_with fail;refine ⟨trivial, fun h => (by cases h), ?_⟩;refine (callsIn_wide.2 (HN.out _)).mono ?_;rintro e w1 ⟨rfl, rfl⟩;rw [HW1.out];gi_wp2_with fail;refine ⟨trivial, fun h => (by cases h), ?_⟩;refine (callsIn_wide.2 (HF.out)).mono ?_;rintro e w2 ⟨rfl, hk2, hr2⟩;have hF2 : ∀ k, Since (fun k => k = W.heap.size) W1 w2 k → W.heap.size ≤ k := fun k hk => hk.elim (fun e => by omega) (fun h => Nat.le_trans HK1.out.size h.1)
 have hJ2 : J [] w2 := HJ.out [] _ _ HJ1.out (hk2.mono fun k e => ⟨by omega, by subst e; exact ⟨_, _, HR1.out.2.2.choose_spec.choose_spec.choose_spec.1, .inl rfl⟩⟩);have hr2s := hr2.slim;have HE2 := hZ (HEND.out _ w2 hr2s);have HF2 := hZ hF2;have HW2 := hZ (Nat.le_trans HK1.out.size hk2.size);have HJ2 := hZ hJ2;clear hk2 hr2 hF2 hJ2 hr2s;gi_wp2_with fail;refine ⟨trivial, fun h => (by cases h), ?_⟩;refine (callsIn_wide.2 (HE2.out)).mono ?_;rintro e w3 ⟨rfl, hk3, hr3⟩;have hJ3 : J [] w3 := HJ.out [] _ _ HJ2.out (hk3.mono fun k hk => ⟨HF2.out k hk.1, hk.2⟩);have hF3 : ∀ k, Since (fun k => Since (fun k => k = W.heap.size) W1 w2 k ∧ RdT w2 k) w2 w3 k → W.heap.size ≤ k := fun k hk => hk.elim (fun h => HF2.out k h.1) (fun h => Nat.le_trans HW2.out h.1)
 have HINV := hZ (show AllInv W.heap.size J W.heap.size Y.recs w3 from ⟨_, Y, [], hr3, hF3, rfl, hJ3⟩);clear hk3 hr3 hJ3 hF3;gi_wp2_with fail
 gi_loopw [] (fun wr => Hid (AllInv W.heap.size J W.heap.size Y.recs wr)) (fun wr => recsLeft wr W.heap.size)
 case atStart => exact HINV
 case round =>
  obtain ⟨F, x, pre, hrd, hFB, hrecs, hJp⟩ := hrel.out;clear hrel HINV
  have hxl : x.recs.length ≤ 1073741824 := by
   have := congrArg List.length hrecs;rw [List.length_append, List.length_map] at this;have := HYL.out;omega
  have HRD := hZ hrd;have HRECS := hZ hrecs;cases hxr : x.recs with
  | nil =>
   have HNX := hZ (seqNext_none F wr W.heap.size x true hrd hxr);have HXR := hZ hxr;have HJP := hZ hJp;clear hrd hrecs hxr hJp;gi_wp2_with fail;refine ⟨trivial, fun h => (by cases h), ?_⟩;refine (callsIn_wide.2 (HNX.out)).mono ?_;rintro e w4 ⟨rfl, rfl⟩;gi_wp2_with fail;refine ⟨fun _ h => (by cases h), ?_⟩;gi_wp2_with fail;refine bodyPost_ret (results_none rfl _ _ _) rfl ?_;exact ⟨⟨_, rfl⟩, pre, by have := HRECS.out; rw [HXR.out, List.append_nil] at this; exact this, HJP.out⟩
  | cons rec rest =>
   have HNX := hZ (seqNext_some _ wr W.heap.size x rec rest true hrd.slim hxr hxl);have HXR := hZ hxr
   have hrk : Y.recs[pre.length]? = some rec := by
    rw [← hrecs, hxr, List.getElem?_append_right (by simp)];simp
   have HREC := hZ hrk;have HJP := hZ hJp;have HFB := hZ hFB;clear hrd hrecs hxr hJp hrk hFB;gi_wp2_with fail;refine ⟨trivial, fun h => (by cases h), ?_⟩;refine (callsIn_wide.2 (HNX.out)).mono ?_;rintro e w4 ⟨qa, b, rfl, hra, hk4, hr4⟩;obtain ⟨q, rfl, hsh⟩ := hra.shape;have hJ4 : J pre w4 := HJ.out pre _ _ HJP.out (hk4.mono fun k hk => ⟨HFB.out k hk.1, hk.2⟩);have hlow : W.heap.size ≤ wr.heap.size := Nat.le_of_lt (HRD.out.2.1 _ HRD.out.1);have hF4 : ∀ k, Since (fun k => F k ∧ RdT wr k) wr w4 k → W.heap.size ≤ k := fun k hk => hk.elim (fun h => HFB.out k h.1) (fun h => Nat.le_trans hlow h.1)
   clear hlow;rcases hsh with rfl | ⟨T, v, rfl⟩
   ·skip;obtain ⟨fn, tmps, assign, body, hy, hR⟩ := HYIELD.out pre ⟨q, .nilIface, rec⟩ w4 hJ4 ⟨HREC.out, hra⟩;have hy' : (Instr.yield l #[.pointer q, .nilIface]).run prog w4 = .ok (.round l fn tmps assign body) w4 := hy;have HR := hZ hR;have HR4 := hZ hr4;have HF4 := hZ hF4;clear hk4 hr4 hra hJ4 hF4 hy hR;gi_wp2_with fail;refine ⟨fun h => (by cases h), ?_⟩;refine (HR.out).mono ?_;rintro e w5 ⟨rfl, hJ5, hs5⟩;have HJ5 := hZ hJ5;have HS5 := hZ hs5;clear hJ5 hs5;gi_wp2_with fail
    go_roundw
    case rel => exact hZ ⟨_, _, pre ++ [⟨q, .nilIface, rec⟩], HR4.out.stays HS5.out, HF4.out, by rw [List.map_append, List.append_assoc, ← HRECS.out, HXR.out]; rfl, HJ5.out⟩
    case measure =>
     rw [(HR4.out.stays HS5.out).left, HRD.out.left, HXR.out];simp
   ·skip;obtain ⟨fn, tmps, assign, body, hy, hR⟩ := HYIELD.out pre ⟨q, .iface T v, rec⟩ w4 hJ4 ⟨HREC.out, hra⟩;have hy' : (Instr.yield l #[.pointer q, .iface T v]).run prog w4 = .ok (.round l fn tmps assign body) w4 := hy;have HR := hZ hR;have HR4 := hZ hr4;have HF4 := hZ hF4;clear hk4 hr4 hra hJ4 hF4 hy hR;gi_wp2_with fail;refine ⟨fun h => (by cases h), ?_⟩;refine (HR.out).mono ?_;rintro e w5 ⟨rfl, hJ5, hs5⟩;have HJ5 := hZ hJ5;have HS5 := hZ hs5;clear hJ5 hs5;gi_wp2_with fail
    go_roundw
    case rel => exact hZ ⟨_, _, pre ++ [⟨q, .iface T v, rec⟩], HR4.out.stays HS5.out, HF4.out, by rw [List.map_append, List.append_assoc, ← HRECS.out, HXR.out]; rfl, HJ5.out⟩
    case measure =>
     rw [(HR4.out.stays HS5.out).left, HRD.out.left, HXR.out];simp
end
section
open Go.RowKit Go.Shelf
attribute [local go_sem] Oper.semAt_some
def worksBytes : List UInt8 := [30, 49, 10, 30, 91, 10, 30, 34, 97, 34, 10]
theorem RecIs.minds (B : Nat) (recs : List (Except (Nat × Nat) Tr)) (k : Nat) (x : Rec) : Minds2 B (RecIs recs k x) := by
 rintro A C ⟨h1, h2⟩ hk;refine ⟨h1, h2.keeps hk ?_⟩;rintro k c T' hT' hc ⟨_, (⟨c', T, h, hT⟩ | ⟨o, h, ho⟩)⟩
 ·rw [hc] at h;cases h;rcases hT with rfl | rfl | rfl <;> exact absurd hT' (by decide)
 ·rw [hc] at h;cases h;simp [Obj.isCells] at ho
def WorksAt (n₀ ib : Nat) (w : World) (pre : List Rec) (W : World) : Prop :=
 W.heap[ib]? = some (.cells #[.int .i64 pre.length] 3 (0, 0)) ∧ W.heap[n₀]? = some (.cells #[.bool false] 4 (0, 0)) ∧ Below n₀ w W
theorem WorksAt.minds {n₀ ib B : Nat} {w : World} (hi : ib < B) (hn : n₀ < B) (hw : n₀ = w.heap.size) (pre : List Rec) : Minds2 B (WorksAt n₀ ib w pre) := by
 rintro A C ⟨h1, h2, h3⟩ hk;refine ⟨hk.blk h1 (fun h => by omega), hk.blk h2 (fun h => by omega), h3.trans (hk.toBelow ?_ (fun k h => by omega))⟩;have := h3.size;omega
theorem stays_set {W : World} {b o : Nat} {c : Array Value} {T : TypeId} (h : W.heap[b]? = some (.cells c T (0, 0))) (hT : T = 3 ∨ T = 4) (v : Value) : Stays W (W.setCell ⟨b, o, none⟩ v) :=
 Stays.of_keeps (F := fun k => k = b) ((Keeps.refl (fun k => k = b) W).setCell (p := ⟨b, o, none⟩) (.inl rfl) _) (fun k e => by
  subst e;rintro ⟨c', T', h', hT'⟩;rw [h] at h';cases h';rcases hT with rfl | rfl <;> exact absurd hT' (by decide))
theorem stays_alloc (W : World) (o : Obj) : Stays W (W.alloc o) := Stays.of_keeps (F := fun _ => False) ((Keeps.refl _ W).alloc o) (fun _ h => h.elim)
theorem works_any (w : World) : Calls prog 24 #[] w fun e w' => e = .returned (.bool true) ∧ Below w.heap.size w w' := by
 have hcv := Lib.run_convert_bytes_const (P := prog) (w.alloc (.cells #[.bool false] 4)) 22 5 (worksBytes.map encB).toArray 11 11 underlying22 underlying5;have hnew := heap_alloc_new (w.alloc (.cells #[.bool false] 4)) (.cells (worksBytes.map encB).toArray 5 ((worksBytes.map encB).toArray.size, (worksBytes.map encB).toArray.size + 1));rw [World.size_alloc] at hcv hnew;obtain ⟨W1, hW1⟩ : ∃ W1, (w.alloc (.cells #[.bool false] 4)).alloc (.cells (worksBytes.map encB).toArray 5 ((worksBytes.map encB).toArray.size, (worksBytes.map encB).toArray.size + 1)) = W1 := ⟨_, rfl⟩;have hb1 : Below w.heap.size w W1 := by rw [← hW1]; exact ((Below.refl _ _).alloc (Nat.le_refl _) _).alloc (by simp) _
 have hres : W1.heap[w.heap.size]? = some (.cells #[.bool false] 4 (0, 0)) := by rw [← hW1]; exact (Below.heap_alloc _ _ _ (by simp)).trans (heap_alloc_new w _)
 have hsz1 : W1.heap.size = w.heap.size + 2 := by rw [← hW1]; simp
 rw [hW1] at hcv hnew
 have hhas : HasBytes W1 (.slice (some ⟨w.heap.size + 1, 0, none⟩) 11 11) worksBytes := by
  refine ⟨⟨_, 11, rfl, Nat.le_refl _, by decide, .inr ⟨w.heap.size + 1, 0, rfl, id, fun i x hx => ?_⟩⟩, .inr ⟨_, _, _, _, rfl⟩⟩;rw [cell_any hnew, Nat.zero_add]
  have : ((worksBytes.map encB).toArray)[i]? = some (encB x) := by
   rw [List.getElem?_toArray, List.getElem?_map, hx]; rfl
  exact this
 have HALL := hZ (all_any W1 _ worksBytes 4 (by decide) (by decide) hhas (by decide));have HB1 := hZ hb1;have HRES := hZ hres;have HSZ1 := hZ hsz1;clear hnew hW1 hb1 hres hsz1 hhas;have hcv2 : (convert 22 22 (.slice (some ⟨w.heap.size + 1, 0, none⟩) 11 11)).run prog ((w.alloc (.cells #[.bool false] 4)).alloc (.cells #[.int .u8 30, .int .u8 49, .int .u8 10, .int .u8 30, .int .u8 91, .int .u8 10, .int .u8 30, .int .u8 34, .int .u8 97, .int .u8 34, .int .u8 10] 5)) = .ok (.slice (some ⟨w.heap.size + 1, 0, none⟩) 11 11) W1 := hcv;clear hcv;refine (callsIn_wide (n := 6)).1 ?_;refine callsIn_of_wp_marks func24 rfl trivial ?_ rfl;simp only [ntmps24, List.size_toArray, List.length_cons, List.length_nil, Nat.reduceAdd, Nat.reduceSub, Array.replicate_succ, Array.replicate_zero, List.push_toArray, List.append_toArray, List.nil_append, List.cons_append];gi_wp2_with fail;refine ⟨trivial, ?_⟩;refine (callsIn_wide.2 (HALL.out)).mono ?_;rintro e w2 ⟨db, rb, v, rfl, hdb, hrb, hw2, hb2⟩;have hb : Below w.heap.size w w2 := chain HB1.out hb2;have hres2 := keep HRES.out hb2;have HB := hZ hb;have HDB := hZ hdb;have HRB := hZ hrb;have HW2 := hZ hw2;have hrc : w2.cell? ⟨w.heap.size, 0, none⟩ = some (.bool false) := cell_of_one hres2;have hrf : w2.frozen? ⟨w.heap.size, 0, none⟩ = false := free_of_one hres2;have HRES2 := hZ hres2;have hfn : ∀ w : World, (binOp .eql 70 (.func (.func 66) #[] #[.pointer (some ⟨db, 0, none⟩), .pointer (some ⟨rb, 0, none⟩)]) .nilFunc).run prog w = .ok (.bool false) w := fun _ => by kernel_rfl
 have hrecs := recs_works;have hseq := all1_any 5 db rb 4 worksBytes v w2 (by decide) (by decide) HDB.out HRB.out HW2.out (by decide);rw [show ((((Rd.new 4).feed worksBytes).done).recs) = _ from hrecs] at hseq;have HSEQ := hZ hseq;clear hb hres2 hdb hrb hw2 hb2 hcv2 hrecs hseq;gi_wp2_with fail;have hib : (w2.alloc (.cells #[.int .i64 0] 3)).heap[w2.heap.size]? = some (.cells #[.int .i64 0] 3 (0, 0)) := heap_alloc_new w2 _;have hrs : (w2.alloc (.cells #[.int .i64 0] 3)).heap[w.heap.size]? = some (.cells #[.bool false] 4 (0, 0)) := (Below.heap_alloc _ _ _ (lt_of_block HRES2.out)).trans HRES2.out
 refine range_law (gf := 66) (lb := #[.pointer (some ⟨db, 0, none⟩), .pointer (some ⟨rb, 0, none⟩)]) rfl (enters_of func66 (by kernel_rfl) rfl) HSEQ.out ((Below.refl _ _).alloc (Nat.le_refl _) _) (fun _ => rfl)
  (WorksAt w.heap.size w2.heap.size w) (WorksAt.minds (by simp) (by have := lt_of_block HRES2.out; simp; omega) rfl) ⟨hib, hrs, HB.out.alloc HB.out.size _⟩
  (fun pre x a1 W => a1 = { tmps := (.pointer (some ⟨w.heap.size, 0, none⟩) :: (.func (.func 66) #[] #[.pointer (some ⟨db, 0, none⟩), .pointer (some ⟨rb, 0, none⟩)]) :: .nilIface :: .pointer (some ⟨w2.heap.size, 0, none⟩) :: .pointer x.q :: x.e :: undef :: undef :: (.tuple #[(.func (.func 66) #[] #[.pointer (some ⟨db, 0, none⟩), .pointer (some ⟨rb, 0, none⟩)]), .nilIface]) :: (.slice (some ⟨w.heap.size + 1, 0, none⟩) 11 11) :: (.slice (some ⟨w.heap.size + 1, 0, none⟩) 11 11) :: (.tuple #[(.func (.func 66) #[] #[.pointer (some ⟨db, 0, none⟩), .pointer (some ⟨rb, 0, none⟩)]), .nilIface]) :: (.func (.func 66) #[] #[.pointer (some ⟨db, 0, none⟩), .pointer (some ⟨rb, 0, none⟩)]) :: .nilIface :: .nilIface :: .bool false :: .bool false :: (.func (.func 66) #[] #[.pointer (some ⟨db, 0, none⟩), .pointer (some ⟨rb, 0, none⟩)]) :: .bool false :: .bool false :: (.func (.func 66) #[] #[.pointer (some ⟨db, 0, none⟩), .pointer (some ⟨rb, 0, none⟩)]) :: .pointer x.q :: x.e :: undef :: undef :: undef :: undef :: undef :: undef :: undef :: undef :: undef :: undef :: undef :: undef :: undef :: undef :: undef :: undef :: undef :: undef :: undef :: undef :: undef :: undef :: undef :: undef :: undef :: undef :: undef :: undef :: undef :: undef :: undef :: undef :: ([] : List Value)).toArray, defers := [] } ∧ WorksAt w.heap.size w2.heap.size w pre W ∧ RecIs [.ok (.num 4607182418800017408), .error (95, 6), .ok (.text [97])] pre.length x W) ?minds ?assign ?body ?done
 case minds =>
  rintro pre x a1 A C ⟨h1, h2, h3⟩ hk;exact ⟨h1, WorksAt.minds (by simp) (by have := lt_of_block HRES2.out; simp; omega) rfl pre A C h2 hk, RecIs.minds _ _ _ _ A C h3 hk⟩
 case assign =>
  rintro l pre x W K hi hx hK;dsimp only [recEnc];gi_wp2_with fail;exact hK _ _ (KeepsOthers.refl _) (Stays.refl _) ⟨rfl, hi, hx⟩
 case body =>
  rintro l pre x a1 W ⟨rfl, ⟨hi, hr, hB⟩, hrk, hra⟩;have hHI := hZ hi;have hHR := hZ hr;have hHB := hZ hB;have hne : w.heap.size ≠ w2.heap.size := by have := lt_of_block HRES2.out; omega
  have HNE := hZ hne;have hst : KeepsOthers W W := KeepsOthers.refl W;obtain ⟨k, hk⟩ : ∃ k, pre.length = k := ⟨_, rfl⟩;have hlen : (pre ++ [x]).length = k + 1 := by rw [List.length_append, hk]; rfl
  have HLEN := hZ hlen;have HKL := hZ hk
  have hend : ∀ W', W' = W.setCell ⟨w2.heap.size, 0, none⟩ (.int .i64 ((k + 1 : Nat) : Int)) → KeepsOthers W W' ∧ Stays W W' ∧ WorksAt w.heap.size w2.heap.size w (pre ++ [x]) W' := by
   rintro W' rfl;refine ⟨KeepsOthers.setCell _ _ _, stays_set hi (.inl rfl) _, ?_, ?_, ?_⟩
   ·rw [hlen]; exact set_at hi _
   ·exact (set_else _ (by exact hne)).trans hr
   ·exact hB.setCell (p := ⟨w2.heap.size, 0, none⟩) (by have := lt_of_block HRES2.out; show w.heap.size ≤ w2.heap.size; omega) _
  have HEND := hZ hend;rw [hk] at hi hrk;obtain ⟨q, e, it⟩ := x;have hic : W.cell? ⟨w2.heap.size, 0, none⟩ = some (.int .i64 k) := cell_of_one hi;have hif : W.frozen? ⟨w2.heap.size, 0, none⟩ = false := free_of_one hi;clear hi hr hB hend hlen hk hne
  match k, hrk with
  | 0, hrk =>
   cases hrk;obtain ⟨he, T, v, hq, _, _⟩ := hra;cases hq;simp only [] at he;subst he;have hic : W.cell? ⟨w2.heap.size, 0, none⟩ = some (.int .i64 0) := hic;clear hrk HLEN hst;gi_wp2_with fail;exact HEND.out _ rfl
  | 1, hrk =>
   cases hrk;obtain ⟨hq, he⟩ := hra;cases hq;simp only [] at he;subst he;have hic : W.cell? ⟨w2.heap.size, 0, none⟩ = some (.int .i64 1) := hic;have hm : ∀ w, (Instr.typeAssert (.iface 151 (.agg #[.int .i64 95, .int .i64 6])) 26 151 true).run prog w = .ok (.tuple #[.agg #[.int .i64 95, .int .i64 6], .bool true]) w := fun _ => by kernel_rfl
   clear hrk HLEN hst;rw [show spotV 95 6 = .iface 151 (.agg #[.int .i64 95, .int .i64 6]) from rfl] at HEND ⊢;have hib := lt_of_block (hHI.out);have hnew := heap_alloc_new W (.cells #[.int .i64 95, .int .i64 6] 151);have x1 : (W.alloc (.cells #[.int .i64 95, .int .i64 6] 151)).cell? ⟨W.heap.size, 1, none⟩ = some (.int .i64 6) := cell_at hnew;have hic2 : (W.alloc (.cells #[.int .i64 95, .int .i64 6] 151)).cell? ⟨w2.heap.size, 0, none⟩ = some (.int .i64 1) := ((Keeps.refl (fun _ => False) W).alloc _).cell hic id;have hif2 : (W.alloc (.cells #[.int .i64 95, .int .i64 6] 151)).frozen? ⟨w2.heap.size, 0, none⟩ = false := free_of_one ((Below.heap_alloc _ _ _ hib).trans hHI.out);clear hnew hic hif;gi_wp2_with fail;obtain ⟨g1, g2, g3, g4, g5⟩ := HEND.out _ rfl;exact ⟨g1.trans (KeepsOthers.alloc _ _), g2.trans (stays_alloc _ _), (Below.heap_alloc _ _ _ (lt_of_block g3)).trans g3, (Below.heap_alloc _ _ _ (lt_of_block g4)).trans g4, g5.alloc g5.size _⟩
  | 2, hrk =>
   cases hrk;obtain ⟨he, T, v, hq, _, _⟩ := hra;cases hq;simp only [] at he;subst he;have hic : W.cell? ⟨w2.heap.size, 0, none⟩ = some (.int .i64 2) := hic;clear hrk HLEN hst;gi_wp2_with fail;exact HEND.out _ rfl
  | k + 3, hrk => simp at hrk
 case done =>
  rintro D xs W hD hS ⟨hi, hr, hB⟩ hK;have hl : xs.length = 3 := by have := congrArg List.length hS; simpa using this
  rw [hl] at hi;have hic : W.cell? ⟨w2.heap.size, 0, none⟩ = some (.int .i64 3) := cell_of_one hi;have hif : W.frozen? ⟨w2.heap.size, 0, none⟩ = false := free_of_one hi;have hrc2 : W.cell? ⟨w.heap.size, 0, none⟩ = some (.bool false) := cell_of_one hr;have hrf2 : W.frozen? ⟨w.heap.size, 0, none⟩ = false := free_of_one hr;have HB3 := hZ hB;have HR3 := hZ hr;have HK3 := hZ hK;have HD3 := hZ hD;clear hi hr hB hS hl hK hD;gi_wp2_with fail;refine ⟨by simp, .inl ⟨_, _, rfl, run_takeDeferred ((KeepsOthers.setCell _ _ _).same D _ HK3.out rfl), ?_⟩⟩;have hr4 : (W.setCell ⟨w.heap.size, 0, none⟩ (.bool true)).heap[w.heap.size]? = some (.cells #[.bool true] 4 (0, 0)) := set_at HR3.out _
  have hr5 : ((W.setCell ⟨w.heap.size, 0, none⟩ (.bool true)).putObj D (.deferred none)).heap[w.heap.size]? = some (.cells #[.bool true] 4 (0, 0)) :=
   (World.putObj_heap_other (by have h := HD3.out; rw [World.size_alloc] at h; have := lt_of_block HRES2.out; omega)).trans hr4
  have hc5 := cell_of_one hr5;refine ⟨_, (by simp [results, results24, go_sem, hc5]), rfl, ?_⟩;have hb4 := HB3.out.setCell (p := ⟨w.heap.size, 0, none⟩) (Nat.le_refl _) (.bool true);exact hb4.trans ((keeps_putObj (F := fun k => k = D) (.deferred none) rfl).toBelow hb4.size (fun k e => by subst e; have h := HD3.out; rw [World.size_alloc] at h; have := lt_of_block HRES2.out; omega))
end
end Go.Proofs.YtakkmiomhackiaaGreatDoor
