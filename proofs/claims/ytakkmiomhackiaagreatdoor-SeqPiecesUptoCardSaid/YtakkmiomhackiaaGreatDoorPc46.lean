/-
  Package seq, All's iterator: it hands out the records of its row, one by one, to every loop body that goes on.
-/
import Derived.Test.YtakkmiomhackiaaGreatDoorPc43
import Derived.Test.YtakkmiomhackiaaGreatDoorPc37
import Derived.Shelf.Abstract
import Derived.OwnWalkIn
import Derived.TacticsInMore
import Derived.RegionIn
import Derived.LoopNIn
import Derived.LoopIn
set_option linter.all false
set_option maxRecDepth 100000
set_option maxHeartbeats 16000000
namespace Go.Proofs.YtakkmiomhackiaaGreatDoor
open Go.RowKit
open Go.RowKit Go.Shelf
attribute [local go_sem] Oper.semAt_some
structure Rec where
 q : Option Addr
 e : Value
 it : Except (Nat × Nat) Tr
def recEnc (x : Rec) : Array Value := #[.pointer x.q, x.e]
def RecIs (recs : List (Except (Nat × Nat) Tr)) (k : Nat) (x : Rec) (w : World) : Prop := recs[k]? = some x.it ∧ RecAt w (.pointer x.q) x.e x.it
theorem RecAt.shape {w : World} {a b : Value} {rc : Except (Nat × Nat) Tr} (h : RecAt w a b rc) : ∃ q, a = .pointer q ∧ (b = .nilIface ∨ ∃ T v, b = .iface T v) := by
 cases rc with
 | error er => obtain ⟨h1, h2⟩ := h; exact ⟨_, h1, .inr ⟨_, _, h2⟩⟩
 | ok t => obtain ⟨h1, T, v, h2, _⟩ := h; exact ⟨_, h2, .inl h1⟩
theorem RdAt.slim {F : Nat → Prop} {w : World} {r : Nat} {x : Rd} {d : Bool} (h : RdAt F w r x d) : RdAt (fun k => F k ∧ RdT w k) w r x d := by
 obtain ⟨hF, hlt, openV, recV, cs, hbk, hw, hwF, hr, hrF, hrecs⟩ := h;refine ⟨⟨hF, _, _, hbk, .inl rfl⟩, fun k h => hlt k h.1, openV, recV, cs, hbk, hw, fun k hk => ⟨hwF k hk, ?_⟩, hr, fun k hk => ⟨hrF k hk, ?_⟩, hrecs⟩
 ·rcases hw.2 with ⟨rfl, _⟩ | ⟨g, off, cap, cur, rfl, hg, _⟩
  ·cases hk
  ·cases hk; exact ⟨_, _, hg, .inr (.inl rfl)⟩
 ·rcases hr.2 with ⟨rfl, _⟩ | ⟨g, off, cap, cur, rfl, hg, _⟩
  ·cases hk
  ·cases hk; exact ⟨_, _, hg, .inr (.inr rfl)⟩
theorem RecAt.stays {w w' : World} {a b : Value} {rc : Except (Nat × Nat) Tr} (h : RecAt w a b rc) (hk : Stays w w') : RecAt w' a b rc :=
 h.keeps hk.keeps (fun k c T hT hc he => he ⟨_, _, hc, by unfold TT5 at hT; unfold StT; exact .inr (.inr (.inr hT))⟩)
theorem RdAt.stays {F : Nat → Prop} {w w' : World} {r : Nat} {x : Rd} {d : Bool} (h : RdAt F w r x d) (hk : Stays w w') : RdAt F w' r x d := by
 obtain ⟨hF, hlt, openV, recV, cs, hbk, hw, hwF, hr, hrF, hrecs⟩ := h;have hkk := hk.keeps;refine ⟨hF, fun k h => Nat.lt_of_lt_of_le (hlt k h) hk.size, openV, recV, cs, hk.block _ _ _ hbk (by decide), hw.keeps hkk ?_, hwF, hr.keeps hkk ?_, hrF, hrecs.keeps hkk (fun k c T hT hc he => he ⟨_, _, hc, by unfold TT5 at hT; unfold StT; exact .inr (.inr (.inr hT))⟩)⟩
 ·intro k hk' he;rcases hw.2 with ⟨rfl, _⟩ | ⟨g, off, cap, cur, rfl, hg, _⟩
  ·cases hk'
  ·cases hk'; exact he ⟨_, _, hg, by decide⟩
 ·intro k hk' he;rcases hr.2 with ⟨rfl, _⟩ | ⟨g, off, cap, cur, rfl, hg, _⟩
  ·cases hk'
  ·cases hk'; exact he ⟨_, _, hg, by decide⟩
def recsLeft (w : World) (r : Nat) : Nat := match w.cell? ⟨r, 7, none⟩ with
 | some (.slice _ n _) => n
 | _ => 0
theorem RdAt.left {F : Nat → Prop} {w : World} {r : Nat} {x : Rd} {d : Bool} (h : RdAt F w r x d) : recsLeft w r = x.recs.length := by
 obtain ⟨hF, hlt, openV, recV, cs, hbk, hw, hwF, hr, hrF, hrecs⟩ := h;obtain ⟨a, c, rfl⟩ := hr.shape;unfold recsLeft;rw [show w.cell? ⟨r, 7, none⟩ = some (.slice a x.recs.length c) by rw [cell_at hbk]; rfl]
theorem Rd.feed_ok : ∀ (b : List UInt8) {x : Rd}, RdOk x → RdOk (x.feed b)
 | [], x, h => h
 | c :: b, x, h => by
  show RdOk (Rd.feed (x.byte c) b)
  refine Rd.feed_ok b ?_;unfold Rd.byte;split
  ·exact Rd.whole_ok h
  ·exact Rd.part_ok h [c]
theorem Rd.feed_place : ∀ (b : List UInt8) (x : Rd), (x.feed b).place = x.place + b.length
 | [], x => rfl
 | c :: b, x => by
  show (Rd.feed (x.byte c) b).place = _
  rw [Rd.feed_place b]
  have : (x.byte c).place = x.place + 1 := by
   unfold Rd.byte;split
   ·show (x.whole).place + 1 = _
    unfold Rd.whole;split <;> rfl
   ·rfl
  rw [this, List.length_cons];omega
theorem RdAt.minds {F : Nat → Prop} {w : World} {r : Nat} {x : Rd} {d : Bool} {B : Nat} (h : RdAt F w r x d) (hF : ∀ k, F k → B ≤ k) : ∀ k, F k ∧ RdT w k → B ≤ k ∧ RdT w k := fun k hk => ⟨hF k hk.1, hk.2⟩
theorem Rd.done_len {x : Rd} (h : RdOk x) : (x.done).recs.length ≤ x.place := by
 have := h.recs;unfold Rd.done Rd.whole;simp only [];split
 ·omega
 ·simp; omega
def AllInv (B : Nat) (J : List Rec → World → Prop) (r : Nat) (recs : List (Except (Nat × Nat) Tr)) (wr : World) : Prop :=
 ∃ (F : Nat → Prop) (x : Rd) (pre : List Rec), RdAt F wr r x true ∧ (∀ k, F k → B ≤ k) ∧ pre.map (·.it) ++ x.recs = recs ∧ J pre wr
theorem all1_any (n : Nat) (db rb d : Nat) (b : List UInt8) (rowV : Value) (w : World) (hd1 : 1 ≤ d) (hd2 : d ≤ 512) (hdb : w.heap[db]? = some (.cells #[.int .i64 d] 3 (0, 0))) (hrb : w.heap[rb]? = some (.cells #[rowV] 22 (0, 0)))
 (hrow : WinN 1 5 w rowV b.length (b.map encB)) (hb : b.length ≤ 1073741824) :
 SeqW n Tryz.prog 66 #[.pointer (some ⟨db, 0, none⟩), .pointer (some ⟨rb, 0, none⟩)] recEnc (RecIs (((Rd.new d).feed b).done).recs) (fun xs => xs.map (·.it) = (((Rd.new d).feed b).done).recs) w := by
 intro l J W hW hJ hYd h0;have hdb' := (hW.block db (lt_of_block hdb)).trans hdb;have hrb' := (hW.block rb (lt_of_block hrb)).trans hrb;have cdb : W.cell? ⟨db, 0, none⟩ = some (.int .i64 d) := by rw [cell_at hdb']; rfl
 have crb : W.cell? ⟨rb, 0, none⟩ = some rowV := by rw [cell_at hrb']; rfl
 have hrowW : WinN 1 5 W rowV b.length (b.map encB) := hrow.keeps (F := fun k => w.heap.size ≤ k) (Keeps.of_below _ hW) (fun k hk h => absurd (hrow.lt hk) (Nat.not_lt.2 h));refine callsIn_of_wp Tryz.func66 rfl trivial ?_ rfl;simp only [Tryz.ntmps66, List.size_toArray, List.length_cons, List.length_nil, Nat.reduceAdd, Nat.reduceSub, Array.replicate_succ, Array.replicate_zero, List.push_toArray, List.append_toArray, List.nil_append, List.cons_append];have HN := Lib.hid (fun w1 => seqNew_any w1 d hd1 hd2);obtain ⟨W1, hW1⟩ : ∃ W1, W.alloc (.cells #[.int .i64 d, .int .i64 0, .bool false, .bool false, .slice none 0 0, .int .i64 0, .int .i64 0, .slice none 0 0] 159) = W1 := ⟨_, rfl⟩;have hk1 : Keeps (fun _ => False) W W1 := by rw [← hW1]; exact (Keeps.refl _ _).alloc _
 have hr1 : RdAt (fun k => k = W.heap.size) W1 W.heap.size (Rd.new d) false := by
  subst hW1;exact ⟨rfl, fun k e => by subst e; simp, .slice none 0 0, .slice none 0 0, [], heap_alloc_new W _, .nil _ _ _, fun k h => (by cases h), .nil _ _ _, fun k h => (by cases h), fun i rc h => by simp [Rd.new] at h⟩
 have hJ1 : J [] W1 := hJ [] _ _ h0 (hk1.mono fun _ h => h.elim);have crb1 : W1.cell? ⟨rb, 0, none⟩ = some rowV := hk1.cell crb id;have hok1 : RdOk (Rd.new d) := ⟨hd1, hd2, rfl, Nat.le_refl _, Nat.le_refl _, Nat.le_refl _⟩
 have hrow1 : BytesOf (fun k => k = W.heap.size) W1 rowV b := by
  have hx := hrowW.keeps (F := fun _ => False) hk1 (fun _ _ => id);rcases hx.2 with ⟨rfl, hl⟩ | ⟨g, off, cap, cur, rfl, hg, hc, ho, hm, hi⟩
  ·exact ⟨⟨none, 0, by rw [hl], by omega, Nat.zero_le _, .inl (List.eq_nil_of_length_eq_zero hl)⟩, .inl (by rfl)⟩
  ·refine ⟨⟨_, cap, rfl, hc, hm, .inr ⟨g, off, rfl, fun e => ?_, fun i x hx => ?_⟩⟩, .inr ⟨g, off, _, _, rfl⟩⟩
   ·have := hrowW.lt (k := g) rfl;omega
   ·rw [cell_at hg];exact hi i (encB x) (by rw [List.getElem?_map, hx]; rfl)
 have hfeed := seqFeed_any _ W1 W.heap.size (Rd.new d) b rowV hr1 hok1 (by show 0 + b.length ≤ _; omega) hrow1;obtain ⟨X, hX⟩ : ∃ X, (Rd.new d).feed b = X := ⟨_, rfl⟩;have hokX : RdOk X := by rw [← hX]; exact Rd.feed_ok b hok1
 have hpX : X.place ≤ 1073741824 := by rw [← hX, Rd.feed_place]; show 0 + b.length ≤ _; omega
 rw [hX] at hfeed hYd ⊢;have hYl : (X.done).recs.length ≤ 1073741824 := Nat.le_trans (Rd.done_len hokX) hpX;obtain ⟨Y, hY⟩ : ∃ Y, X.done = Y := ⟨_, rfl⟩;rw [hY] at hYl hYd ⊢;obtain ⟨shp, hshp⟩ : ∃ shp : Nat, shp = 0 := ⟨0, rfl⟩;have HF := Lib.hid hfeed;have HEND := Lib.hid (fun (F : Nat → Prop) w2 (h2 : RdAt F w2 W.heap.size X false) => seqEnd_any F w2 W.heap.size X h2 hokX hpX);rw [hY] at HEND;have HK1 := Lib.hid hk1;have HR1 := Lib.hid hr1;have HJ := Lib.hid hJ;have HJ1 := Lib.hid hJ1;have HYL := Lib.hid hYl;have HYIELD := Lib.hid hYd;have HW1 := Lib.hid hW1;obtain ⟨⟨ra, rc, hrv, _⟩, _⟩ := hrow1;subst hrv;clear hd1 hd2 hdb hrb hrow hb hW hJ hYd h0 hdb' hrb' hrowW hk1 hr1 hJ1 hok1 hfeed hX hokX hpX hY hYl hshp;gi_wp2_with fail;refine ⟨trivial, fun h => (by cases h), ?_⟩;refine (callsIn_wide.2 (HN.out _)).mono ?_;rintro e w1 ⟨rfl, rfl⟩;rw [HW1.out];gi_wp2_with fail;refine ⟨trivial, fun h => (by cases h), ?_⟩;refine (callsIn_wide.2 (HF.out)).mono ?_;rintro e w2 ⟨rfl, hk2, hr2⟩;have hF2 : ∀ k, Since (fun k => k = W.heap.size) W1 w2 k → W.heap.size ≤ k := fun k hk => hk.elim (fun e => by omega) (fun h => Nat.le_trans HK1.out.size h.1)
 have hJ2 : J [] w2 := HJ.out [] _ _ HJ1.out (hk2.mono fun k e => ⟨by omega, by subst e; exact ⟨_, _, HR1.out.2.2.choose_spec.choose_spec.choose_spec.1, .inl rfl⟩⟩);have hr2s := hr2.slim;have HE2 := Lib.hid (HEND.out _ w2 hr2s);have HF2 := Lib.hid hF2;have HW2 := Lib.hid (Nat.le_trans HK1.out.size hk2.size);have HJ2 := Lib.hid hJ2;clear hk2 hr2 hF2 hJ2 hr2s;gi_wp2_with fail;refine ⟨trivial, fun h => (by cases h), ?_⟩;refine (callsIn_wide.2 (HE2.out)).mono ?_;rintro e w3 ⟨rfl, hk3, hr3⟩;have hJ3 : J [] w3 := HJ.out [] _ _ HJ2.out (hk3.mono fun k hk => ⟨HF2.out k hk.1, hk.2⟩);have hF3 : ∀ k, Since (fun k => Since (fun k => k = W.heap.size) W1 w2 k ∧ RdT w2 k) w2 w3 k → W.heap.size ≤ k := fun k hk => hk.elim (fun h => HF2.out k h.1) (fun h => Nat.le_trans HW2.out h.1)
 have HINV := Lib.hid (show AllInv W.heap.size J W.heap.size Y.recs w3 from ⟨_, Y, [], hr3, hF3, rfl, hJ3⟩);clear hk3 hr3 hJ3 hF3;gi_wp2_with fail
 gi_loopw [] (fun wr => Hid (AllInv W.heap.size J W.heap.size Y.recs wr)) (fun wr => recsLeft wr W.heap.size)
 case atStart => exact HINV
 case round =>
  obtain ⟨F, x, pre, hrd, hFB, hrecs, hJp⟩ := hrel.out;clear hrel HINV
  have hxl : x.recs.length ≤ 1073741824 := by
   have := congrArg List.length hrecs;rw [List.length_append, List.length_map] at this;have := HYL.out;omega
  have HRD := Lib.hid hrd;have HRECS := Lib.hid hrecs;cases hxr : x.recs with
  | nil =>
   have HNX := Lib.hid (seqNext_none F wr W.heap.size x true hrd hxr);have HXR := Lib.hid hxr;have HJP := Lib.hid hJp;clear hrd hrecs hxr hJp;gi_wp2_with fail;refine ⟨trivial, fun h => (by cases h), ?_⟩;refine (callsIn_wide.2 (HNX.out)).mono ?_;rintro e w4 ⟨rfl, rfl⟩;gi_wp2_with fail;refine ⟨fun _ h => (by cases h), ?_⟩;gi_wp2_with fail;refine bodyPost_ret (results_none rfl _ _ _) rfl ?_;exact ⟨⟨_, rfl⟩, pre, by have := HRECS.out; rw [HXR.out, List.append_nil] at this; exact this, HJP.out⟩
  | cons rec rest =>
   have HNX := Lib.hid (seqNext_some _ wr W.heap.size x rec rest true hrd.slim hxr hxl);have HXR := Lib.hid hxr
   have hrk : Y.recs[pre.length]? = some rec := by
    rw [← hrecs, hxr, List.getElem?_append_right (by simp)];simp
   have HREC := Lib.hid hrk;have HJP := Lib.hid hJp;have HFB := Lib.hid hFB;clear hrd hrecs hxr hJp hrk hFB;gi_wp2_with fail;refine ⟨trivial, fun h => (by cases h), ?_⟩;refine (callsIn_wide.2 (HNX.out)).mono ?_;rintro e w4 ⟨qa, b, rfl, hra, hk4, hr4⟩;obtain ⟨q, rfl, hsh⟩ := hra.shape;have hJ4 : J pre w4 := HJ.out pre _ _ HJP.out (hk4.mono fun k hk => ⟨HFB.out k hk.1, hk.2⟩);have hlow : W.heap.size ≤ wr.heap.size := Nat.le_of_lt (HRD.out.2.1 _ HRD.out.1);have hF4 : ∀ k, Since (fun k => F k ∧ RdT wr k) wr w4 k → W.heap.size ≤ k := fun k hk => hk.elim (fun h => HFB.out k h.1) (fun h => Nat.le_trans hlow h.1)
   clear hlow;rcases hsh with rfl | ⟨T, v, rfl⟩
   ·skip;obtain ⟨fn, tmps, assign, body, hy, hR⟩ := HYIELD.out pre ⟨q, .nilIface, rec⟩ w4 hJ4 ⟨HREC.out, hra⟩;have hy' : (Instr.yield l #[.pointer q, .nilIface]).run Tryz.prog w4 = .ok (.round l fn tmps assign body) w4 := hy;have HR := Lib.hid hR;have HR4 := Lib.hid hr4;have HF4 := Lib.hid hF4;clear hk4 hr4 hra hJ4 hF4 hy hR;gi_wp2_with fail;refine ⟨fun h => (by cases h), ?_⟩;refine (HR.out).mono ?_;rintro e w5 ⟨rfl, hJ5, hs5⟩;have HJ5 := Lib.hid hJ5;have HS5 := Lib.hid hs5;clear hJ5 hs5;gi_wp2_with fail
    go_roundw
    case rel => exact Lib.hid ⟨_, _, pre ++ [⟨q, .nilIface, rec⟩], HR4.out.stays HS5.out, HF4.out, by rw [List.map_append, List.append_assoc, ← HRECS.out, HXR.out]; rfl, HJ5.out⟩
    case measure =>
     rw [(HR4.out.stays HS5.out).left, HRD.out.left, HXR.out];simp
   ·skip;obtain ⟨fn, tmps, assign, body, hy, hR⟩ := HYIELD.out pre ⟨q, .iface T v, rec⟩ w4 hJ4 ⟨HREC.out, hra⟩;have hy' : (Instr.yield l #[.pointer q, .iface T v]).run Tryz.prog w4 = .ok (.round l fn tmps assign body) w4 := hy;have HR := Lib.hid hR;have HR4 := Lib.hid hr4;have HF4 := Lib.hid hF4;clear hk4 hr4 hra hJ4 hF4 hy hR;gi_wp2_with fail;refine ⟨fun h => (by cases h), ?_⟩;refine (HR.out).mono ?_;rintro e w5 ⟨rfl, hJ5, hs5⟩;have HJ5 := Lib.hid hJ5;have HS5 := Lib.hid hs5;clear hJ5 hs5;gi_wp2_with fail
    go_roundw
    case rel => exact Lib.hid ⟨_, _, pre ++ [⟨q, .iface T v, rec⟩], HR4.out.stays HS5.out, HF4.out, by rw [List.map_append, List.append_assoc, ← HRECS.out, HXR.out]; rfl, HJ5.out⟩
    case measure =>
     rw [(HR4.out.stays HS5.out).left, HRD.out.left, HXR.out];simp
end Go.Proofs.YtakkmiomhackiaaGreatDoor
